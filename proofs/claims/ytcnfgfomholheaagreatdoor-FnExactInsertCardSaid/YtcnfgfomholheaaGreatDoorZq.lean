/- Several texts of this claim in one (a claim holds at most 60 files). -/
import Derived.Test.YtcnfgfomholheaaGreatDoorZy
import Derived.Test.YtcnfgfomholheaaGreatDoorZp
section
namespace Go.Proofs.YtcnfgfomholheaaGreatDoor.Q
open Go.RowKit Go.Proofs.YtcnfgfomholheaaGreatDoor.Z Go.Proofs.YtcnfgfomholheaaGreatDoor.Pure
set_option linter.unusedVariables false
set_option linter.unusedSimpArgs false
set_option maxRecDepth 100000
set_option maxHeartbeats 4000000
def gG (t:ByteArray) (l:List SS):List SS:=l.filter fun s=>!(s.f0.toList==t.toList)
theorem KG (t:ByteArray) (l:List SS):(gG t l).length≤l.length:=List.length_filter_le _ _
theorem Ux (l:List SS) (client:ByteArray) (hl:l.length≤8388608):ay T Tryz.prog 171 [.c (.sl eS l), .c (.sc (.string client))] (.c (.ow eS (gG client l))):=by
 refine aX hT Tryz.func171 (by kernel_rfl) rfl rfl (fun A=>?_)
 conv=>whnf
 refine aA.mk _ (NC l hl) ?_
 conv=>whnf
 refine aA.wr [[.gv eS],[.rd]] (.c (.ow eS (gG client l))) ?_
 conv=>whnf
 refine ku.mk (Uy l client) ?_
 conv=>whnf
 exact aG.mk ⟨rfl,rfl⟩ ⟨rfl,rfl⟩ ⟨rfl,trivial⟩
def Ei (t:ByteArray) (s:SS):Bool:=Op.bytesLess s.f0.toList t.toList
def gI (s:SS) (l:List SS):List SS:=(gG s.f0 l).takeWhile (Ei s.f0)++s::(gG s.f0 l).dropWhile (Ei s.f0)
theorem Ia {α:Type} {p:α→Bool} {d:α}:∀{l:List α} {i:Nat},i≤l.length→(∀j,j<i→p (l.getD j d)=true)→(i=l.length∨p (l.getD i d)=false)→l.take i=l.takeWhile p∧l.drop i=l.dropWhile p
 | [],i,hi,_,_=>by simp
 | a::l,0,_,_,h=>by
   rcases h with h | h
   ·simp at h
   ·have h:p a=false:=h
    simp [List.takeWhile_cons,List.dropWhile_cons,h]
 | a::l,i+1,hi,h1,h2=>by
   have ha:p a=true:=h1 0 (Nat.succ_pos i)
   have ih:=Ia (p:=p) (d:=d) (l:=l) (i:=i) (by simpa using hi) (fun j hj=>h1 (j+1) (by omega)) (by simpa using h2)
   simp [List.takeWhile_cons,List.dropWhile_cons,ha,ih.1,ih.2]
theorem aat {s:SS} {l:List SS} {i:Nat} (hi:i≤(gG s.f0 l).length) (h1:∀j,j<i→Ei s.f0 ((gG s.f0 l).getD j zS)=true) (h2:i=(gG s.f0 l).length∨Ei s.f0 ((gG s.f0 l).getD i zS)=false):(gG s.f0 l).take i++s::(gG s.f0 l).drop i=gI s l:=by
 obtain⟨a,b⟩:=Ia hi h1 h2
 rw [a,b];rfl
theorem jd {l l':List SS} (h:l=l'):dA (T:=T) eS l eS l':=jA h
theorem jD {l l':List SN} (h:l=l'):dA (T:=T) eN l eN l':=jA h
theorem jI {l l':List ByteArray} (h:l=l'):dA (T:=T) 9 l 9 l':=jA h
theorem aau (l:List SS) (s:SS) (hl:l.length≤8388608):ay T Tryz.prog 116 [.c (.sl eS l), .ag (T.cells eS s)] (.c (.ow eS (gI s l))):=by
 have hd:=KG s.f0 l
 refine aX hT Tryz.func116 (by kernel_rfl) rfl rfl (fun A=>?_)
 conv=>whnf
 refine aA.mk _ (Ux l s.f0 hl) ?_
 conv=>whnf
 have key:∀i,i≤(gG s.f0 l).length→(∀j,j<i→Ei s.f0 ((gG s.f0 l).getD j zS)=true)→(i=(gG s.f0 l).length∨Ei s.f0 ((gG s.f0 l).getD i zS)=false)→CallWOb T Tryz.prog 185 [.c (.gv eS (gG s.f0 l)), .c (.c (.sc (.int .i64 (i:Int)))), .c (.gv eS [(⟨s.f0,s.f1,s.f2⟩:SS)])] (.c (.ow eS (gI s l))):=fun i h1 h2 h3=>by
  rw [←aat h1 h2 h3]
  exact ad9 (gG s.f0 l) s i h1 (by omega)
 generalize hD:gG s.f0 l=D at key hd⊢
 refine iC.mk {i:Nat // i≤D.length∧∀j,j<i→Ei s.f0 (D.getD j zS)=true} (fun p=>(2,[(6,i64 p.1),(5, .c (.hd 1)),(3, .c (.px 0 0))],[(1, .row 1 eS D),(0, .bx eS [.sc (.string s.f0), .sc (.int .i64 s.f1), .sc (.int .i64 s.f2)])])) (fun p=>D.length - p.1) ⟨0,Nat.zero_le _,fun j hj=>absurd hj (Nat.not_lt_zero j)⟩ (aC [(1,1),(0,0)] rfl rfl rfl ⟨⟨rfl,rfl⟩,⟨rfl,rfl⟩,⟨rfl,rfl⟩,trivial⟩ ⟨jd rfl,⟨rfl,rfl⟩,trivial⟩) ?_
 rintro⟨i,hi,hlt⟩
 conv=>whnf
 refine Split.mk (fun c=>?_) (fun c=>?_)
 ·have hk2:i<D.length:=jO c
  clear c
  conv=>whnf
  refine Need.mk (idx hk2) ?_
  conv=>whnf
  refine bK.mk ⟨by kernel_rfl,by kernel_rfl⟩ ?_
  conv=>whnf
  refine Split.mk (fun c=>?_) (fun c=>?_)
  ·conv=>whnf
   exact dD.mk ⟨⟨i+1,hk2,fun j hj=>by
    rcases Nat.lt_succ_iff_lt_or_eq.1 hj with h | rfl
    ·exact hlt j h
    ·exact c⟩,Nat.sub_lt_sub_left hk2 (Nat.lt_succ_self i),aC [(1,1),(0,0)] rfl rfl rfl ⟨⟨rfl,congrArg i64 (iD hk2 (by omega))⟩,⟨rfl,rfl⟩,⟨rfl,rfl⟩,trivial⟩ ⟨jd rfl,⟨rfl,rfl⟩,trivial⟩⟩
  ·conv=>whnf
   refine aA.wr [[.gv eS],[.rd],[.gv eS]] (.c (.ow eS (gI s l))) ?_
   conv=>whnf
   refine ku.mk (key i hi hlt (.inr c)) ?_
   conv=>whnf
   exact aG.mk ⟨rfl,rfl⟩ ⟨rfl,rfl⟩ ⟨rfl,trivial⟩
 ·have hk2:i=D.length:=Nat.le_antisymm hi (jP c)
  clear c
  conv=>whnf
  refine bK.mk ⟨by kernel_rfl,by kernel_rfl⟩ ?_
  conv=>whnf
  refine Split.mk (fun e=>kD e) (fun _=>?_)
  conv=>whnf
  refine aA.wr [[.gv eS],[.rd],[.gv eS]] (.c (.ow eS (gI s l))) ?_
  conv=>whnf
  refine ku.mk (key i hi hlt (.inl hk2)) ?_
  conv=>whnf
  exact aG.mk ⟨rfl,rfl⟩ ⟨rfl,rfl⟩ ⟨rfl,trivial⟩
end Go.Proofs.YtcnfgfomholheaaGreatDoor.Q
end
section
namespace Go.Proofs.YtcnfgfomholheaaGreatDoor.Q
open Go.RowKit Go.Proofs.YtcnfgfomholheaaGreatDoor.Z Go.Proofs.YtcnfgfomholheaaGreatDoor.Pure
set_option linter.unusedVariables false
set_option linter.unusedSimpArgs false
set_option maxRecDepth 100000
set_option maxHeartbeats 4000000
theorem isNaN1 (a:ByteArray):ay T Tryz.prog 206 [.c (.sc (.string a))] (.c (.sc (.bool false))):=by
 refine aX hT Tryz.func206 (by kernel_rfl) rfl rfl (fun A=>?_)
 conv=>whnf
 exact aG.mk ⟨rfl,rfl⟩ ⟨rfl,rfl⟩ ⟨bv (by simp),trivial⟩
theorem isNaN2 (a:ByteArray):ay T Tryz.prog 222 [.c (.sc (.string a))] (.c (.sc (.bool false))):=by
 refine aX hT Tryz.func222 (by kernel_rfl) rfl rfl (fun A=>?_)
 conv=>whnf
 exact aG.mk ⟨rfl,rfl⟩ ⟨rfl,rfl⟩ ⟨bv (by simp),trivial⟩
theorem aav (a b:ByteArray):ay T Tryz.prog 205 [.c (.sc (.string a)), .c (.sc (.string b))] (.c (.sc (.bool (Op.bytesLess a.toList b.toList)))):=by
 refine aX hT Tryz.func205 (by kernel_rfl) rfl rfl (fun A=>?_)
 conv=>whnf
 refine aA.mk _ (isNaN2 a) ?_
 conv=>whnf
 refine Split.mk (fun e=>kD e) (fun _=>?_)
 conv=>whnf
 refine Split.mk (fun e=>kD e) (fun _=>?_)
 conv=>whnf
 exact aG.mk ⟨rfl,rfl⟩ ⟨rfl,rfl⟩ ⟨rfl,trivial⟩
def jT (t s:ByteArray):Bool:=Op.bytesLess s.toList t.toList
def g9 (l:List ByteArray) (k:Nat):ByteArray:=l.getD k (T.df 9)
structure Bs (l:List ByteArray) (t:ByteArray) (i j:Nat):Prop where
 le:i≤j
 hi:j≤l.length
 lo:∀k,k<i→jT t (g9 l k)=true
 up:∀k,j≤k→k<l.length→jT t (g9 l k)=false
theorem aea {i j:Nat} (h:i+j≤140737488351232):IntKind.i64.wrap ((IntKind.u64.wrap (wrap64 ((i:Int)+(j:Int)))).fdiv (2 ^ min (Int.toNat 1) IntKind.u64.bits))=(((i+j) / 2:Nat):Int):=by
 have h1:wrap64 ((i:Int)+(j:Int))=((i+j:Nat):Int):=by simp only [wrap64];omega
 have h2:IntKind.u64.wrap (((i+j:Nat):Int))=((i+j:Nat):Int):=by
  simp only [IntKind.wrap,IntKind.bits,IntKind.signed]
  simp
  omega
 have h3:((2:Int) ^ min (Int.toNat 1) IntKind.u64.bits)=2:=by decide
 rw [h1,h2,h3]
 have h4:(((i+j:Nat):Int)).fdiv 2=(((i+j) / 2:Nat):Int):=by
  rw [Int.fdiv_eq_ediv_of_nonneg _ (by decide)]
  omega
 rw [h4]
 simp only [IntKind.wrap_i64]
 omega
def aH (t:ByteArray) (l:List ByteArray):Nat:=(l.takeWhile (jT t)).length
def gJ (t:ByteArray) (l:List ByteArray):Bool:=decide (aH t l<l.length) && ((g9 l (aH t l)).toList==t.toList)
theorem Bs.pos {l:List ByteArray} {t:ByteArray} {i:Nat} (h:Bs l t i i):aH t l=i:=by
 have h1:=h.hi
 have:=(Ia (p:=jT t) (d:=T.df 9) (l:=l) (i:=i) h1 h.lo (by
  rcases Nat.lt_or_ge i l.length with h2 | h2
  ·exact .inr (h.up i (Nat.le_refl _) h2)
  ·exact .inl (by omega))).1
 unfold aH
 rw [←this,List.length_take]
 omega
theorem bsearch (l:List ByteArray) (t:ByteArray) (hl:l.length≤8388608) (hm:∀a b,a≤b→b<l.length→jT t (g9 l b)=true→jT t (g9 l a)=true):ay T Tryz.prog 172 [.c (.sl 9 l), .c (.sc (.string t))] (.tu [(false,[.sc (.int .i64 (aH t l:Int))]),(false,[.sc (.bool (gJ t l))])]):=by
 refine aX hT Tryz.func172 (by kernel_rfl) rfl rfl (fun A=>?_)
 conv=>whnf
 refine iC.mk {p:Nat × Nat // Bs l t p.1 p.2} (fun p=>(0,[(7,i64 p.1.1),(8,i64 p.1.2),(6,i64 l.length),(0,im 9 l),(1, .c (.sc (.string t)))],[])) (fun p=>p.1.2 - p.1.1) ⟨(0,l.length),Nat.zero_le _,Nat.le_refl _,fun k hk=>absurd hk (Nat.not_lt_zero k),fun k h1 h2=>absurd h1 (Nat.not_le_of_lt h2)⟩ (aC [] rfl rfl rfl ⟨⟨rfl,rfl⟩,⟨rfl,rfl⟩,⟨rfl,rfl⟩,⟨rfl,rfl⟩,⟨rfl,rfl⟩,trivial⟩ trivial) ?_
 rintro⟨⟨i,j⟩,hb⟩
 conv=>whnf
 refine Split.mk (fun c=>?_) (fun c=>?_)
 ·have hk2:i<j:=jO c
  clear c
  have hi:=hb.hi
  have hM:=aea (i:=i) (j:=j) (by simp only at hi;omega)
  have hMt:(IntKind.i64.wrap ((IntKind.u64.wrap (wrap64 ((i:Int)+(j:Int)))).fdiv (2 ^ min (Int.toNat 1) IntKind.u64.bits))).toNat=(i+j) / 2:=by rw [hM];rfl
  have hlt:(i+j) / 2<l.length:=by simp only at hi;omega
  conv=>whnf
  refine Need.mk (by rw [hM];exact idx hlt) ?_
  conv=>whnf
  refine aA.mk _ (aav _ _) ?_
  conv=>whnf
  refine Split.mk (fun c=>?_) (fun c=>?_)
  ·have c1:jT t (g9 l ((i+j) / 2))=true:=(congrArg (fun k=>jT t (g9 l k)) hMt.symm).trans c
   conv=>whnf
   exact dD.mk ⟨⟨((i+j) / 2+1,j),by show(i+j) / 2+1≤j;omega,hi,fun k hk=>hm k ((i+j) / 2) (by omega) hlt c1,hb.up⟩,by show j - ((i+j) / 2+1)<j - i;omega,aC [] rfl rfl rfl ⟨⟨rfl,congrArg i64 (show(((i+j) / 2+1:Nat):Int)=wrap64 (IntKind.i64.wrap ((IntKind.u64.wrap (wrap64 ((i:Int)+(j:Int)))).fdiv (2 ^ min (Int.toNat 1) IntKind.u64.bits))+1) by rw [hM];exact iD hlt (by omega))⟩,⟨rfl,rfl⟩,⟨rfl,rfl⟩,⟨rfl,rfl⟩,⟨rfl,rfl⟩,trivial⟩ trivial⟩
  ·have c1:jT t (g9 l ((i+j) / 2))=false:=(congrArg (fun k=>jT t (g9 l k)) hMt.symm).trans c
   conv=>whnf
   exact dD.mk ⟨⟨(i,(i+j) / 2),by show i≤(i+j) / 2;omega,Nat.le_of_lt hlt,hb.lo,fun k h1 h2=>by
    cases hq:jT t (g9 l k) with
    | false=>rfl
    | true=>rw [hm ((i+j) / 2) k h1 h2 hq] at c1;cases c1⟩,by show(i+j) / 2 - i<j - i;omega,aC [] rfl rfl rfl ⟨⟨rfl,rfl⟩,⟨rfl,congrArg i64 hM.symm⟩,⟨rfl,rfl⟩,⟨rfl,rfl⟩,⟨rfl,rfl⟩,trivial⟩ trivial⟩
 ·have hk2:i=j:=Nat.le_antisymm hb.le (jP c)
  clear c
  subst hk2
  have hp:=hb.pos
  conv=>whnf
  refine Split.mk (fun c=>?_) (fun c=>?_)
  ·have hlt:i<l.length:=jO c
   clear c
   conv=>whnf
   refine Need.mk (idx hlt) ?_
   conv=>whnf
   refine Split.mk (fun c=>?_) (fun c=>?_)
   ·conv=>whnf
    exact aG.mk ⟨rfl,rfl⟩ ⟨rfl,rfl⟩ ⟨iv (by rw [hp]),bv (by unfold gJ;rw [hp,show((g9 l i).toList==t.toList)=true from c];simp [hlt]),trivial⟩
   ·conv=>whnf
    refine Need.mk (idx hlt) ?_
    conv=>whnf
    refine aA.mk _ (isNaN1 _) ?_
    conv=>whnf
    refine Split.mk (fun e=>kD e) (fun _=>?_)
    conv=>whnf
    exact aG.mk ⟨rfl,rfl⟩ ⟨rfl,rfl⟩ ⟨iv (by rw [hp]),bv (by unfold gJ;rw [hp,show((g9 l i).toList==t.toList)=false from c];simp),trivial⟩
  ·have hge:l.length≤i:=jP c
   clear c
   conv=>whnf
   exact aG.mk ⟨rfl,rfl⟩ ⟨rfl,rfl⟩ ⟨iv (by rw [hp]),bv (by unfold gJ;rw [hp];simp;omega),trivial⟩
end Go.Proofs.YtcnfgfomholheaaGreatDoor.Q
end
section
namespace Go.Proofs.YtcnfgfomholheaaGreatDoor.Q
open Go.RowKit Go.Proofs.YtcnfgfomholheaaGreatDoor.Z Go.Proofs.YtcnfgfomholheaaGreatDoor.Pure
set_option linter.unusedVariables false
set_option linter.unusedSimpArgs false
set_option maxRecDepth 100000
set_option maxHeartbeats 4000000
theorem nT:∀(a b:List UInt8),Op.bytesLess a b=true→Op.bytesLess b a=false
 | [],[],h=>by simp [Op.bytesLess] at h
 | [],b::y,_=>rfl
 | a::x,[],h=>by simp [Op.bytesLess] at h
 | a::x,b::y,h=>by
   simp only [Op.bytesLess,Bool.or_eq_true,Bool.and_eq_true,decide_eq_true_eq,beq_iff_eq] at h
   simp only [Op.bytesLess,Bool.or_eq_false_iff,Bool.and_eq_false_iff,decide_eq_false_iff_not,beq_eq_false_iff_ne,ne_eq]
   rcases h with h | ⟨h1,h2⟩
   ·exact⟨fun h'=>absurd (UInt8.lt_trans h h') (UInt8.lt_irrefl _), .inl (fun e=>by subst e;exact UInt8.lt_irrefl _ h)⟩
   ·subst h1
    exact⟨UInt8.lt_irrefl _, .inr (nT x y h2)⟩
theorem wM (a:List UInt8):Op.bytesLess a a=false:=by
 cases h:Op.bytesLess a a with
 | false=>rfl
 | true=>exact absurd (nT a a h) (by rw [h];decide)
theorem nU:∀(a b c:List UInt8),Op.bytesLess a b=true→Op.bytesLess b c=true→Op.bytesLess a c=true
 | [],[],_,h,_=>by simp [Op.bytesLess] at h
 | a::x,[],_,h,_=>by simp [Op.bytesLess] at h
 | _,b::y,[],_,h=>by simp [Op.bytesLess] at h
 | [],b::y,c::z,_,_=>rfl
 | a::x,b::y,c::z,h,h2=>by
   simp only [Op.bytesLess,Bool.or_eq_true,Bool.and_eq_true,decide_eq_true_eq,beq_iff_eq] at h h2⊢
   rcases h with h | ⟨rfl,h⟩
   ·rcases h2 with h2 | ⟨rfl,h2⟩
    ·exact .inl (UInt8.lt_trans h h2)
    ·exact .inl h
   ·rcases h2 with h2 | ⟨rfl,h2⟩
    ·exact .inl h2
    ·exact .inr ⟨rfl,nU x y z h h2⟩
inductive Tr:SN→Prop
 | mk (n:SN) (hl:n.f0.length=n.f1.length) (hr:n.f0.Pairwise (fun a b=>Op.bytesLess a.toList b.toList=true)) (hk:∀k∈n.f1,Tr k):Tr n
theorem Tr.len {n:SN} (h:Tr n):n.f0.length=n.f1.length:=by cases h;assumption
theorem Tr.kid {n:SN} (h:Tr n):∀k∈n.f1,Tr k:=by cases h;assumption
theorem Tr.rise {n:SN} (h:Tr n):n.f0.Pairwise (fun a b=>Op.bytesLess a.toList b.toList=true):=by cases h;assumption
theorem Tr.up {n:SN} (h:Tr n) (t:ByteArray):∀a b,a≤b→b<n.f0.length→jT t (g9 n.f0 b)=true→jT t (g9 n.f0 a)=true:=by
 cases h with
 | mk _ _ hr _=>
   intro a b hab hb h
   rcases Nat.lt_or_eq_of_le hab with h1 | rfl
   ·have h2:=List.pairwise_iff_getElem.1 hr a b (by omega) hb h1
    rw [show g9 n.f0 b=n.f0[b] from getD_in _ _ _ hb] at h
    have e:=nU _ _ _ h2 h
    rw [←getD_in n.f0 a (T.df 9) (by omega)] at e
    exact e
   ·exact h
theorem uT {t:ByteArray} {l:List ByteArray} (h:gJ t l=true):aH t l<l.length:=by
 unfold gJ at h
 simp at h
 exact h.1
abbrev qL (n:SN):RS T.Tb:= .ag [.ow 9 n.f0, .ow eN n.f1, .ow eS n.f2]
theorem Zp {α:Type} (t:α) (ts:List α):((t::ts).drop 1).take ((t::ts).length - 1)=ts:=by simp
end Go.Proofs.YtcnfgfomholheaaGreatDoor.Q
end
section
namespace Go.Proofs.YtcnfgfomholheaaGreatDoor.Q
open Go.RowKit Go.Proofs.YtcnfgfomholheaaGreatDoor.Z Go.Proofs.YtcnfgfomholheaaGreatDoor.Pure
set_option linter.unusedVariables false
set_option linter.unusedSimpArgs false
set_option maxRecDepth 100000
set_option maxHeartbeats 4000000
theorem Ib {l:List SN} {i:Nat} (h:i<l.length):cZ T eN l i∈l:=getD_mem (l:=l) (d:=T.df eN) h
inductive Dp:Nat→SN→Prop
 | mk (d:Nat) (n:SN) (h:n.f1≠[]→0<d) (hk:∀k∈n.f1,Dp (d - 1) k):Dp d n
theorem Dp.pos {d:Nat} {n:SN} (h:Dp d n) (hne:n.f1≠[]):0<d:=by cases h with | mk _ _ h _=>exact h hne
theorem Dp.kid {d:Nat} {n:SN} (h:Dp d n):∀k∈n.f1,Dp (d - 1) k:=by cases h with | mk _ _ _ h=>exact h
end Go.Proofs.YtcnfgfomholheaaGreatDoor.Q
end
section
namespace Go.Proofs.YtcnfgfomholheaaGreatDoor.Q
open Go.RowKit Go.Proofs.YtcnfgfomholheaaGreatDoor.Z Go.Proofs.YtcnfgfomholheaaGreatDoor.Pure
set_option linter.unusedVariables false
set_option linter.unusedSimpArgs false
set_option maxRecDepth 100000
set_option maxHeartbeats 4000000
end Go.Proofs.YtcnfgfomholheaaGreatDoor.Q
end
section
namespace Go.Proofs.YtcnfgfomholheaaGreatDoor.Q
open Go.RowKit Go.Proofs.YtcnfgfomholheaaGreatDoor.Z Go.Proofs.YtcnfgfomholheaaGreatDoor.Pure
set_option linter.unusedVariables false
set_option linter.unusedSimpArgs false
set_option maxRecDepth 100000
set_option maxHeartbeats 4000000
theorem Qi (n:SN) (hn:Bd n) (ih:∀k∈n.f1,ay T Tryz.prog 95 [.ag (T.cells eN k)] (qL k)):ay T Tryz.prog 95 [.ag (T.cells eN n)] (qL n):=by
 have hl0:=hn.l0
 have hl1:=hn.l1
 have hl2:=hn.l2
 refine kE hT Tryz.func95 (by kernel_rfl) rfl rfl (fun A=>?_)
 refine Vc.seq 0 hT ?_
 conv=>whnf
 refine Vc.seq 2 hT ?_
 conv=>whnf
 refine Need.mk ⟨qR,cu (a:=0) (b:=n.f0.length) (by omega) (by decide)⟩ ?_
 conv=>whnf
 refine Need.mk ⟨LJ,cu (a:=0) (b:=n.f2.length) (by omega) (by decide)⟩ ?_
 conv=>whnf
 refine bK.mk ⟨by kernel_rfl,by kernel_rfl⟩ ?_
 conv=>whnf
 refine Vc.of 10 hT ?_
 conv=>whnf
 refine iC.mk {k:Nat // k≤n.f1.length} (fun p=>(8,[(4,i64 p.1),(3, .c (.px 6 0)),(2, .c (.px 1 0)),(1, .c (.px 0 0))],[(6, .bx eN [.hd 3, .hd 7, .hd 5]),(3, .row 3 9 n.f0),(7, .row 7 eN (n.f1.take p.1)),(5, .row 5 eS n.f2),(1,QG),(0,zC n)])) (fun p=>n.f1.length - p.1) ⟨0,Nat.zero_le _⟩ ((ND 6 1 20 eN (t:=eN) (cs:=[.hd 3, .sc (.slice none 0 0), .hd 5]) rfl rfl rfl).trans (aC [(6,6),(3,3),(7,20),(5,5),(1,1),(0,0)] rfl rfl rfl ⟨⟨rfl,rfl⟩,⟨rfl,rfl⟩,⟨rfl,rfl⟩,⟨rfl,rfl⟩,trivial⟩ ⟨⟨rfl,rfl⟩,jI rfl,jD rfl,jd rfl,⟨rfl,rfl⟩,⟨rfl,rfl⟩,trivial⟩)) ?_
 rintro⟨k,hk⟩
 conv=>whnf
 refine Split.mk (fun c=>?_) (fun c=>?_)
 ·have hk2:k<n.f1.length:=jO c
  clear c
  conv=>whnf
  refine Need.mk (idx hk2) ?_
  conv=>whnf
  refine aA.mk _ (ih _ (Ib hk2)) ?_
  conv=>whnf
  refine Need.mk (cu (a:=(n.f1.take k).length) (b:=1) (by rw [List.length_take];omega) (by decide)) ?_
  conv=>whnf
  exact dD.mk ⟨⟨k+1,hk2⟩,Nat.sub_lt_sub_left hk2 (Nat.lt_succ_self k),aC [(6,6),(3,3),(7,13),(5,5),(1,1),(0,0)] rfl rfl rfl ⟨⟨rfl,congrArg i64 (iD hk2 (by omega))⟩,⟨rfl,rfl⟩,⟨rfl,rfl⟩,⟨rfl,rfl⟩,trivial⟩ ⟨⟨rfl,rfl⟩,jI rfl,jD (take_snoc hk2),jd rfl,⟨rfl,rfl⟩,⟨rfl,rfl⟩,trivial⟩⟩
 ·have hk2:k=n.f1.length:=Nat.le_antisymm hk (jP c)
  subst hk2
  conv=>whnf
  exact aG.mk ⟨rfl,rfl⟩ ⟨rfl,rfl⟩ ⟨rfl,jD (List.take_length),rfl,trivial⟩
theorem uU:∀(n:SN),Bd n→ay T Tryz.prog 95 [.ag (T.cells eN n)] (qL n):=fun n hn=>
 Qi n hn (fun k hk=>uU k (by cases hn with | mk _ _ _ _ _ _ h=>exact h k hk))
termination_by n=>SizeOf.sizeOf n
decreasing_by exact lV hk
end Go.Proofs.YtcnfgfomholheaaGreatDoor.Q
end
section
namespace Go.Proofs.YtcnfgfomholheaaGreatDoor.Q
open Go.RowKit Go.Proofs.YtcnfgfomholheaaGreatDoor.Z Go.Proofs.YtcnfgfomholheaaGreatDoor.Pure
set_option linter.unusedVariables false
set_option linter.unusedSimpArgs false
set_option maxRecDepth 100000
set_option maxHeartbeats 4000000
abbrev BR (n:SN):RS T.Tb:= .ag [.im 9 n.f0, .im eN n.f1, .im eS n.f2]
def gS (l:List SS) (i:Nat):SS:=l.getD i (T.df eS)
def gN (l:List SN) (i:Nat):SN:=l.getD i (T.df eN)
end Go.Proofs.YtcnfgfomholheaaGreatDoor.Q
end
section
namespace Go.Proofs.YtcnfgfomholheaaGreatDoor.Q
open Go.RowKit Go.Proofs.YtcnfgfomholheaaGreatDoor.Z Go.Proofs.YtcnfgfomholheaaGreatDoor.Pure
set_option linter.unusedVariables false
set_option linter.unusedSimpArgs false
set_option maxRecDepth 100000
set_option maxHeartbeats 4000000
def TS (ls:List ByteArray) (c:ByteArray) (l:List SS):List SS:=bif decide (0<ls.length) then l else gG c l
structure Pk (ls:List ByteArray) (c:ByteArray) (f:ByteArray→SN→SN) (n:SN):Prop where
 no:ls.length=0→∀x k,f x k=k
 ne:0<ls.length→∀x k,(x.toList==(g9 ls 0).toList)=false→f x k=k
 eq:0<ls.length→∀x,∀k∈n.f1,(x.toList==(g9 ls 0).toList)=true→ay T Tryz.prog 96 [.ag (T.cells eN k), .c (.sl 9 ((ls.drop 1).take (ls.length - 1))), .c (.sc (.bool false)), .c (.sc (.string c))] (BR (f x k))
end Go.Proofs.YtcnfgfomholheaaGreatDoor.Q
end
section
namespace Go.Proofs.YtcnfgfomholheaaGreatDoor.Q
open Go.RowKit Go.Proofs.YtcnfgfomholheaaGreatDoor.Z Go.Proofs.YtcnfgfomholheaaGreatDoor.Pure
set_option linter.unusedVariables false
set_option linter.unusedSimpArgs false
set_option maxRecDepth 100000
set_option maxHeartbeats 4000000
end Go.Proofs.YtcnfgfomholheaaGreatDoor.Q
end
section
namespace Go.Proofs.YtcnfgfomholheaaGreatDoor.Q
open Go.RowKit Go.Proofs.YtcnfgfomholheaaGreatDoor.Z Go.Proofs.YtcnfgfomholheaaGreatDoor.Pure
set_option linter.unusedVariables false
set_option linter.unusedSimpArgs false
set_option maxRecDepth 100000
set_option maxHeartbeats 4000000
end Go.Proofs.YtcnfgfomholheaaGreatDoor.Q
end
section
namespace Go.Proofs.YtcnfgfomholheaaGreatDoor.Q
open Go.RowKit Go.Proofs.YtcnfgfomholheaaGreatDoor.Z Go.Proofs.YtcnfgfomholheaaGreatDoor.Pure
set_option linter.unusedVariables false
set_option linter.unusedSimpArgs false
def mJ (n:SN):List (ByteArray × SN):=n.f0.zip n.f1
abbrev nV (a b:ByteArray):Prop:=Op.bytesLess a.toList b.toList=true
theorem tq {a:ByteArray} (h:nV a a):False:=by unfold nV at h;rw [wM] at h;cases h
theorem Jt {n:SN} (h:Tr n):(mJ n).map (·.1)=n.f0:=by unfold mJ;exact List.map_fst_zip (by rw [h.len];exact Nat.le_refl _)
theorem Ro {n:SN} (h:Tr n):(mJ n).map (·.2)=n.f1:=by unfold mJ;exact List.map_snd_zip (by rw [h.len];exact Nat.le_refl _)
theorem YE {n:SN} (h:Tr n):(mJ n).Pairwise (fun a b=>nV a.1 b.1):=by
 have:=h.rise
 rw [←Jt h] at this
 exact List.pairwise_map.1 this
theorem pos_at {l:List ByteArray} {t:ByteArray} {i:Nat} (hr:l.Pairwise nV) (h:l[i]? =some t):aH t l=i∧gJ t l=true:=by
 obtain⟨hi,rfl⟩:=List.getElem?_eq_some_iff.1 h
 have h1:=(Ia (p:=jT l[i]) (d:=T.df 9) (l:=l) (i:=i) (Nat.le_of_lt hi) (fun j hj=>by
  have e:l.getD j (T.df 9)=l[j]:=getD_in l j (T.df 9) (by omega)
  rw [e]
  exact List.pairwise_iff_getElem.1 hr j i (by omega) hi hj) (.inr (by
  have e:l.getD i (T.df 9)=l[i]:=getD_in l i (T.df 9) hi
  rw [e]
  exact wM _))).1
 have h2:aH l[i] l=i:=by
  unfold aH
  rw [←h1,List.length_take];omega
 refine⟨h2,?_⟩
 unfold gJ
 rw [h2,show g9 l i=l[i] from getD_in l i (T.df 9) hi]
 simp [hi]
theorem Xe {l:List ByteArray} {t:ByteArray} (h:gJ t l=true):l[aH t l]? =some t:=by
 have hp:=uT h
 unfold gJ at h
 simp only [Bool.and_eq_true,decide_eq_true_eq] at h
 have h2:=Ya h.2
 rw [show g9 l (aH t l)=l[aH t l] from getD_in l _ (T.df 9) hp] at h2
 rw [List.getElem?_eq_getElem hp,h2]
def qm:List ByteArray→SN→List SS
 | [],n=>n.f2
 | t::ts,n=>bif gJ t n.f0 then qm ts (gN n.f1 (aH t n.f0)) else []
theorem aaw {n:SN} (ht:Tr n) {t:ByteArray} (h:gJ t n.f0=true):(t,gN n.f1 (aH t n.f0))∈mJ n:=by
 have h1:=Xe h
 obtain⟨h2,h3⟩:=List.getElem?_eq_some_iff.1 h1
 have h4:aH t n.f0<n.f1.length:=by rw [←ht.len];exact h2
 refine List.mem_iff_getElem.2 ⟨aH t n.f0,by unfold mJ;rw [List.length_zip];omega,?_⟩
 unfold mJ
 rw [List.getElem_zip,h3]
 exact congrArg (Prod.mk t) (getD_in n.f1 _ (T.df eN) h4).symm
inductive Gd:SN→Prop
 | mk (n:SN) (ht:Tr n) (hf:∀k∈n.f1,k.f1≠[]∨k.f2≠[]) (hk:∀k∈n.f1,Gd k):Gd n
theorem Gd.tr {n:SN} (h:Gd n):Tr n:=by cases h;assumption
theorem Gd.full {n:SN} (h:Gd n):∀k∈n.f1,k.f1≠[]∨k.f2≠[]:=by cases h;assumption
theorem Gd.kid {n:SN} (h:Gd n):∀k∈n.f1,Gd k:=by cases h;assumption
end Go.Proofs.YtcnfgfomholheaaGreatDoor.Q
end
section
namespace Go.Proofs.YtcnfgfomholheaaGreatDoor.Q
open Go.RowKit Go.Proofs.YtcnfgfomholheaaGreatDoor.Z Go.Proofs.YtcnfgfomholheaaGreatDoor.X Go.Proofs.YtcnfgfomholheaaGreatDoor.Pure
set_option linter.unusedVariables false
set_option linter.unusedSimpArgs false
theorem KH {p:List ByteArray}:∀{ns:List ByteArray} {y:Option ByteArray} {ks:List SN},ns.length=ks.length→lH p ns y ks=true→ns.Pairwise nV∧∀x∈ns,lF y x=true
 | [],y,ks,_,_=>⟨.nil,fun x hx=>by cases hx⟩
 | x::r,y,[],h,_=>by simp at h
 | x::r,y,k::q,h,ho=>by
   obtain⟨h1,_,_,_,h5⟩:=rG.1 ho
   obtain⟨a,b⟩:=KH (by simpa using h) h5
   refine⟨List.pairwise_cons.2 ⟨fun z hz=>b z hz,a⟩,fun z hz=>?_⟩
   rcases List.mem_cons.1 hz with rfl | hz
   ·exact h1
   ·cases y with
    | none=>rfl
    | some y=>exact nU _ _ _ h1 (b z hz)
theorem Ju {p:List ByteArray}:∀{ns:List ByteArray} {y:Option ByteArray} {ks:List SN},lH p ns y ks=true→∀x k,(x,k)∈ns.zip ks→IC x k=true∧(k.f1.length≠0∨k.f2.length≠0)∧okI (p++[x]) k=true
 | [],y,ks,_,x,k,h=>by simp at h
 | x::r,y,[],_,x',k',h=>by simp at h
 | x::r,y,k::q,ho,x',k',h=>by
   obtain⟨_,h2,h3,h4,h5⟩:=rG.1 ho
   rw [List.zip_cons_cons] at h
   rcases List.mem_cons.1 h with h | h
   ·cases h;exact⟨h2,h3,h4⟩
   ·exact Ju h5 x' k' h
theorem aax {n:SN} (hl:n.f0.length=n.f1.length) {k:SN} (hk:k∈n.f1):∃x,(x,k)∈mJ n:=by
 have:k∈(mJ n).map (·.2):=by unfold mJ;rw [List.map_snd_zip (by omega)];exact hk
 obtain⟨⟨x,k'⟩,h,rfl⟩:=List.mem_map.1 this
 exact⟨x,h⟩
theorem MB:∀(n:SN) (p:List ByteArray),okI p n=true→Gd n∧Dp (7 - p.length) n:=fun n p h=>by
 obtain⟨h1,h2,h3,h4,h5⟩:=mY.1 h
 have hk:∀k∈n.f1,(Gd k∧Dp (7 - (p.length+1)) k)∧(k.f1≠[]∨k.f2≠[])∧p.length+1≤6:=fun k hk=>by
  obtain⟨x,hx⟩:=aax h1 hk
  obtain⟨_,a2,a3⟩:=Ju h5 x k hx
  have:=MB k (p++[x]) a3
  have h7:=(mY.1 a3).2.1
  rw [List.length_append] at this h7
  refine⟨this,a2.imp (fun h e=>h (by rw [e];rfl)) (fun h e=>h (by rw [e];rfl)),h7⟩
 refine⟨.mk n (.mk n h1 (KH h1 h5).1 (fun k h=>(hk k h).1.1.tr)) (fun k h=>(hk k h).2.1) (fun k h=>(hk k h).1.1), .mk _ n (fun hne=>?_) (fun k h=>?_)⟩
 ·obtain⟨k,h⟩:=List.exists_mem_of_ne_nil _ hne
  have:=(hk k h).2.2
  omega
 ·have:=(hk k h).1.2
  rw [show 7 - p.length - 1=7 - (p.length+1) by omega]
  exact this
termination_by n=>SizeOf.sizeOf n
decreasing_by exact lV hk
theorem KI {n:SN} (h:jF n=true):okI [] n=true∧n.f2=[]:=by
 unfold jF at h
 simp only [Bool.and_eq_true,decide_eq_true_eq] at h
 exact⟨h.2,List.length_eq_zero_iff.1 h.1⟩
theorem sO {n:SN} (h:jF n=true):Tr n∧Dp 7 n:=by
 have:=MB n [] (KI h).1
 exact⟨this.1.tr,this.2⟩
end Go.Proofs.YtcnfgfomholheaaGreatDoor.Q
end
section
namespace Go.Proofs.YtcnfgfomholheaaGreatDoor.Q
open Go.RowKit Go.Proofs.YtcnfgfomholheaaGreatDoor.Z Go.Proofs.YtcnfgfomholheaaGreatDoor.X Go.Proofs.YtcnfgfomholheaaGreatDoor.Pure
set_option linter.unusedVariables false
set_option linter.unusedSimpArgs false
theorem Xf {n:SN} (ht:Tr n) {i:Nat} (hi:i<n.f1.length) (K:SN):∃A B t k,mJ n=A++(t,k)::B∧n.f0[i]? =some t∧n.f1[i]? =some k∧mJ ⟨n.f0.take i++n.f0.drop (i+1),n.f1.take i++n.f1.drop (i+1),n.f2⟩=A++B∧mJ ⟨n.f0,n.f1.set i K,n.f2⟩=A++(t,K)::B:=by
 have hi0:i<n.f0.length:=by rw [ht.len];exact hi
 have hl:(n.f0.take i).length=(n.f1.take i).length:=by rw [List.length_take,List.length_take,ht.len]
 have e0:n.f0=n.f0.take i++n.f0[i]::n.f0.drop (i+1):=by rw [←List.drop_eq_getElem_cons hi0,List.take_append_drop]
 have e1:n.f1=n.f1.take i++n.f1[i]::n.f1.drop (i+1):=by rw [←List.drop_eq_getElem_cons hi,List.take_append_drop]
 refine⟨(n.f0.take i).zip (n.f1.take i),(n.f0.drop (i+1)).zip (n.f1.drop (i+1)),n.f0[i],n.f1[i],?_,List.getElem?_eq_getElem hi0,List.getElem?_eq_getElem hi,?_,?_⟩
 ·unfold mJ
  rw [←List.zip_cons_cons,←List.zip_append hl,←e0,←e1]
 ·unfold mJ
  exact List.zip_append hl
 ·unfold mJ
  rw [←List.zip_cons_cons,←List.zip_append hl,←e0]
  congr 1
  rw [List.set_eq_take_append_cons_drop,if_pos hi]
theorem Xg {A B:List (ByteArray × SN)} {t:ByteArray} {k:SN} (h:(A++(t,k)::B).Pairwise (fun a b=>nV a.1 b.1)):∀x,x∈A++B→x.1≠t:=fun x hx e=>by
 obtain⟨_,h1,h2⟩:=List.pairwise_append.1 h
 rcases List.mem_append.1 hx with hx | hx
 ·have:=h2 x hx (t,k) List.mem_cons_self
  rw [e] at this
  exact tq this
 ·have:=(List.pairwise_cons.1 h1).1 x hx
  rw [e] at this
  exact tq this
end Go.Proofs.YtcnfgfomholheaaGreatDoor.Q
end
section
namespace Go.Proofs.YtcnfgfomholheaaGreatDoor.Q
open Go.RowKit Go.Proofs.YtcnfgfomholheaaGreatDoor.Z Go.Proofs.YtcnfgfomholheaaGreatDoor.X Go.Proofs.YtcnfgfomholheaaGreatDoor.Pure
set_option linter.unusedVariables false
set_option linter.unusedSimpArgs false
theorem O7:∀(l:List SS) (k:Nat),(bF dM l k).2=k+3*l.length
 | [],k=>rfl
 | p::l,k=>by
   show(bF dM l (k+3)).2=_
   rw [O7 l (k+3),List.length_cons];omega
mutual
theorem Jv:∀(n:SN) (k:Nat),(bG n k).2≤k+3*cnt n
 | ⟨a,b,c⟩,k=>by
   rw [bG,cnt]
   show(bF dM c (qx b (k+1*a.length)).2).2≤_
   rw [O7]
   have:=O8 b (k+1*a.length)
   omega
theorem O8:∀(l:List SN) (k:Nat),(qx l k).2≤k+3*kJ l
 | [],k=>by rw [qx,kJ];exact Nat.le_refl _
 | p::l,k=>by
   rw [qx,kJ]
   show(qx l (bG p k).2).2≤_
   have h1:=Jv p k
   have h2:=O8 l (bG p k).2
   omega
end
theorem xP {n:Nat} {x:Int} (h:0≤eu n x):eu n x+n≤x:=by unfold eu at*;split at h<;>(try split)<;>omega
def sumF {α:Type} (g:α→Nat):List α→Nat
 | []=>0
 | a::l=>g a+sumF g l
theorem Rq {α:Type} {F:α→Int→Int} {g:α→Nat}:∀{l:List α} {x:Int},(∀a∈l,∀x,0≤x→0≤F a x→F a x+g a≤x)→0≤x→0≤iT F l x→iT F l x+sumF g l≤x
 | [],x,_,_,_=>by show x+((0:Nat):Int)≤x;omega
 | a::l,x,hF,h0,h=>by
   obtain⟨h1,h2⟩:=pY h
   have e:iT F (a::l) x=iT F l (F a x):=Dk h1
   have h3:=hF a List.mem_cons_self x h0 h1
   have h4:=Rq (g:=g) (l:=l) (fun b hb=>hF b (List.mem_cons_of_mem _ hb)) h1 h2
   rw [e]
   show _+((g a+sumF g l:Nat):Int)≤x
   omega
theorem DK {α:Type} {F:α→Int→Int}:∀{l:List α} {x:Int},(∀a∈l,∀x,0≤x→F a x≤x)→0≤x→0≤iT F l x→∀a∈l,∃v,0≤v∧v≤x∧0≤F a v
 | [],x,_,_,_,a,ha=>by cases ha
 | b::l,x,hF,h0,h,a,ha=>by
   obtain⟨h1,h2⟩:=pY h
   rcases List.mem_cons.1 ha with rfl | ha
   ·exact⟨x,h0,Int.le_refl _,h1⟩
   ·have h3:=hF b List.mem_cons_self x h0
    obtain⟨v,v1,v2,v3⟩:=DK (l:=l) (fun b hb=>hF b (List.mem_cons_of_mem _ hb)) h1 h2 a ha
    exact⟨v,v1,by omega,v3⟩
theorem Rt:∀l:List LN,sumF (fun a=>cnt (tN a)) l=kJ (l.map tN)
 | []=>by rw [List.map_nil,kJ];rfl
 | a::l=>by rw [List.map_cons,kJ,←Rt l];rfl
theorem Ru {l:List ByteArray} {x:Int} (h0:0≤x) (h:0≤DV l x):DV l x+l.length≤x:=by
 obtain⟨h1,h2⟩:=pY h
 have e:DV l x=_:=Dk h1
 have h3:=xP h1
 have h4:=rD (F:=fun y:ByteArray=>eu y.size) (l:=l) (fun a _ x hx=>jZ hx) h1
 rw [e];omega
theorem Rw {l:List LS} {x:Int} (h0:0≤x) (h:0≤zu l x):zu l x+l.length≤x:=by
 obtain⟨h1,h2⟩:=pY h
 have e:zu l x=_:=Dk h1
 have h3:=xP h1
 have h4:=rD (F:=fun y:LS=>eu y.f0.size) (l:=l) (fun a _ x hx=>jZ hx) h1
 rw [e];omega
theorem KJ {a:LN} {x:Int} (h0:0≤x) (h:0≤lW a x):∃x1 x2 x3:Int,DV a.f0 x=x1∧0≤x1∧x1≤x∧eu a.f1.length x1=x2∧0≤x2∧x2≤x1∧iT lW a.f1 x2=x3∧0≤x3∧x3≤x2∧0≤zu a.f2 x3∧lW a x=zu a.f2 x3:=by
 rw [MX] at h⊢
 obtain⟨h1,h2⟩:=pY h
 obtain⟨h3,h4⟩:=pY h2
 obtain⟨h5,h6⟩:=pY h3
 have e1:=Dk (K:=fun x=>thenS (thenS (eu a.f1.length x) (iT lW a.f1)) fun x=>zu a.f2 x) h1
 have e2:=Dk (K:=fun x=>zu a.f2 x) h3
 have e3:=Dk (K:=iT lW a.f1) h5
 refine⟨_,_,_,rfl,h1,MV h0,rfl,h5,jZ h1,rfl,h6,rD (fun b _ y hy=>wX b hy) h5,?_,?_⟩
 ·rw [←e3];exact h4
 ·rw [e1,e2,e3]
theorem Rx:∀(a:LN) (x:Int),0≤x→0≤lW a x→lW a x+cnt (tN a)≤x:=fun a x h0 h=>by
 obtain⟨x1,x2,x3,e1,a1,b1,e2,a2,b2,e3,a3,b3,h4,e⟩:=KJ h0 h
 have g1:=Ru h0 (by rw [e1];exact a1)
 have g2:=Rq (F:=lW) (g:=fun a=>cnt (tN a)) (l:=a.f1) (fun k hk y hy hz=>Rx k y hy hz) a2 (by rw [e3];exact a3)
 have g3:=Rw a3 h4
 rw [e1] at g1
 rw [e3,Rt] at g2
 rw [e,RV,wZ]
 show _+(((a.f0.length+(a.f2.map tS).length+kJ (a.f1.map tN):Nat)):Int)≤x
 rw [List.length_map]
 omega
termination_by a=>SizeOf.sizeOf a
decreasing_by exact wW hk
theorem Xh:∀(a:LN) (x:Int),0≤x→x≤1048576→0≤lW a x→Bd (tN a)∧Vf a:=fun a x h0 hx h=>by
 obtain⟨x1,x2,x3,e1,a1,b1,e2,a2,b2,e3,a3,b3,h4,e⟩:=KJ h0 h
 have h1:0≤DV a.f0 x:=by rw [e1];exact a1
 have g1:=Ru h0 h1
 have g3:=Rw a3 h4
 have g2:=xP (n:=a.f1.length) (x:=x1) (by rw [e2];exact a2)
 rw [e1] at g1
 rw [e2] at g2
 have z0:∀y∈a.f0,y.size≤1048576:=fun y hy=>by
  obtain⟨q1,q2⟩:=pY h1
  obtain⟨v,v1,v2,v3⟩:=DK (F:=fun y:ByteArray=>eu y.size) (fun a _ x hx=>jZ hx) q1 q2 y hy
  have:=xP v3
  have:=jZ (n:=a.f0.length) h0
  omega
 have z2:∀y∈a.f2,y.f0.size≤1048576:=fun y hy=>by
  obtain⟨q1,q2⟩:=pY h4
  obtain⟨v,v1,v2,v3⟩:=DK (F:=fun y:LS=>eu y.f0.size) (fun a _ x hx=>jZ hx) q1 q2 y hy
  have:=xP v3
  have:=jZ (n:=a.f2.length) a3
  omega
 have hk:∀k∈a.f1,Bd (tN k)∧Vf k:=fun k hk=>by
  obtain⟨v,v1,v2,v3⟩:=DK (F:=lW) (fun b _ y hy=>wX b hy) a2 (by rw [e3];exact a3) k hk
  exact Xh k v v1 (by omega) v3
 refine⟨?_, .mk a (by omega) (by omega) (by omega) (fun k h=>(hk k h).2)⟩
 rw [RV]
 refine .mk _ (by show a.f0.length≤_;omega) z0 (by show(a.f1.map tN).length≤_;rw [List.length_map];omega) (by show(a.f2.map tS).length≤_;rw [List.length_map];omega) (fun y hy=>?_) (fun y hy=>?_)
 ·obtain⟨z,hz,rfl⟩:=List.mem_map.1 hy
  exact z2 z hz
 ·obtain⟨z,hz,rfl⟩:=List.mem_map.1 hy
  exact(hk z hz).1
termination_by a=>SizeOf.sizeOf a
decreasing_by exact wW hk
end Go.Proofs.YtcnfgfomholheaaGreatDoor.Q
end
section
namespace Go.Proofs.YtcnfgfomholheaaGreatDoor.Q
open Go.RowKit Go.Proofs.YtcnfgfomholheaaGreatDoor.Z Go.Proofs.YtcnfgfomholheaaGreatDoor.X Go.Proofs.YtcnfgfomholheaaGreatDoor.Pure
set_option linter.unusedVariables false
set_option linter.unusedSimpArgs false
theorem uV {a b:ByteArray} (h:a≠b):(a.toList==b.toList)=false:=by
 cases hq:a.toList==b.toList with
 | false=>rfl
 | true=>exact(h (Ya hq)).elim
theorem Ic (a:ByteArray):(a.toList==a.toList)=true:=by simp
end Go.Proofs.YtcnfgfomholheaaGreatDoor.Q
end
section
namespace Go.Proofs.YtcnfgfomholheaaGreatDoor.Q
open Go.RowKit Go.Proofs.YtcnfgfomholheaaGreatDoor.Z Go.Proofs.YtcnfgfomholheaaGreatDoor.X Go.Proofs.YtcnfgfomholheaaGreatDoor.Pure
set_option linter.unusedVariables false
set_option linter.unusedSimpArgs false
def bY (g:List SS→List SS):List ByteArray→SN→SN
 | [],n=>⟨n.f0,n.f1,g n.f2⟩
 | t::ts,n=>bif gJ t n.f0 then ⟨n.f0,n.f1.set (aH t n.f0) (bY g ts (gN n.f1 (aH t n.f0))),n.f2⟩
   else ⟨n.f0.take (aH t n.f0)++t::n.f0.drop (aH t n.f0),n.f1.take (aH t n.f0)++bY g ts zN::n.f1.drop (aH t n.f0),n.f2⟩
theorem y9:∀(a b:List UInt8),a≠b→Op.bytesLess a b=true∨Op.bytesLess b a=true
 | [],[],h=>(h rfl).elim
 | [],b::y,_=> .inl rfl
 | a::x,[],_=> .inr rfl
 | a::x,b::y,h=>by
   simp only [Op.bytesLess,Bool.or_eq_true,Bool.and_eq_true,decide_eq_true_eq,beq_iff_eq]
   by_cases e:a=b
   ·subst e
    rcases y9 x y (fun e=>h (by rw [e])) with h1 | h1
    ·exact .inl (.inr ⟨rfl,h1⟩)
    ·exact .inr (.inr ⟨rfl,h1⟩)
   ·rcases UInt8.lt_or_lt_of_ne e with h1 | h1
    ·exact .inl (.inl h1)
    ·exact .inr (.inl h1)
theorem KL {a b:ByteArray} (h:a≠b):nV a b∨nV b a:=y9 _ _ (fun e=>h (toList_inj e))
theorem ab2 (t:ByteArray) (l:List ByteArray):l.take (aH t l)=l.takeWhile (jT t)∧l.drop (aH t l)=l.dropWhile (jT t):=by
 have h:l.takeWhile (jT t)++l.dropWhile (jT t)=l:=List.takeWhile_append_dropWhile
 exact⟨(show l.take (aH t l)=List.take (l.takeWhile (jT t)).length (l.takeWhile (jT t)++l.dropWhile (jT t)) by rw [h];rfl).trans List.take_left,(show l.drop (aH t l)=List.drop (l.takeWhile (jT t)).length (l.takeWhile (jT t)++l.dropWhile (jT t)) by rw [h];rfl).trans List.drop_left⟩
theorem Xi (t:ByteArray) (l:List ByteArray):aH t l≤l.length:=by
 have:=congrArg List.length (List.takeWhile_append_dropWhile (p:=jT t) (l:=l))
 rw [List.length_append] at this
 unfold aH
 omega
theorem Zq {t:ByteArray}:∀{l:List ByteArray},l.Pairwise nV→t∉l→∀b∈l.dropWhile (jT t),nV t b
 | [],_,_,b,hb=>by cases hb
 | a::r,h,ht,b,hb=>by
   obtain⟨h1,h2⟩:=List.pairwise_cons.1 h
   rw [List.dropWhile_cons] at hb
   split at hb
   ·exact Zq h2 (fun hm=>ht (List.mem_cons_of_mem _ hm)) b hb
   ·rename_i hc
    have h3:nV t a:=by
     rcases KL (a:=t) (b:=a) (fun e=>ht (by rw [e];exact List.mem_cons_self)) with h3 | h3
     ·exact h3
     ·exact(hc h3).elim
    rcases List.mem_cons.1 hb with rfl | hb
    ·exact h3
    ·exact nU _ _ _ h3 (h1 b hb)
theorem Zr {t:ByteArray}:∀{l:List ByteArray},∀b∈l.takeWhile (jT t),nV b t
 | [],b,hb=>by cases hb
 | a::r,b,hb=>by
   rw [List.takeWhile_cons] at hb
   split at hb
   ·rename_i hc
    rcases List.mem_cons.1 hb with rfl | hb
    ·exact hc
    ·exact Zr b hb
   ·cases hb
theorem Ry {l:List ByteArray} {t:ByteArray} (hr:l.Pairwise nV) (h:gJ t l=false):t∉l:=fun hm=>by
 obtain⟨i,hi⟩:=List.getElem?_of_mem hm
 rw [(pos_at hr hi).2] at h
 cases h
theorem YF {l:List ByteArray} {t:ByteArray} (hr:l.Pairwise nV) (h:gJ t l=false):(l.take (aH t l)++t::l.drop (aH t l)).Pairwise nV:=by
 have hn:=Ry hr h
 obtain⟨e1,e2⟩:=ab2 t l
 have hs:(l.take (aH t l)++l.drop (aH t l)).Pairwise nV:=by rw [List.take_append_drop];exact hr
 obtain⟨h1,h2,h3⟩:=List.pairwise_append.1 hs
 refine List.pairwise_append.2 ⟨h1,List.pairwise_cons.2 ⟨fun b hb=>Zq hr hn b (e2▸hb),h2⟩,fun a ha b hb=>?_⟩
 have ha':=Zr (t:=t) a (e1▸ha)
 rcases List.mem_cons.1 hb with rfl | hb
 ·exact ha'
 ·exact h3 a ha b hb
theorem Xj {n:SN} (ht:Tr n) {t:ByteArray} (hf:gJ t n.f0=false) (K:SN):∃A B,mJ n=A++B∧(∀x∈A++B,x.1≠t)∧mJ ⟨n.f0.take (aH t n.f0)++t::n.f0.drop (aH t n.f0),n.f1.take (aH t n.f0)++K::n.f1.drop (aH t n.f0),n.f2⟩=A++(t,K)::B:=by
 have hl:(n.f0.take (aH t n.f0)).length=(n.f1.take (aH t n.f0)).length:=by rw [List.length_take,List.length_take,ht.len]
 have e:mJ n=(n.f0.take (aH t n.f0)).zip (n.f1.take (aH t n.f0))++(n.f0.drop (aH t n.f0)).zip (n.f1.drop (aH t n.f0)):=by
  rw [←List.zip_append hl,List.take_append_drop,List.take_append_drop];rfl
 refine⟨_,_,e,fun x hx ex=>?_,?_⟩
 ·rw [←e] at hx
  exact Ry ht.rise hf (ex▸(List.of_mem_zip (a:=x.1) (b:=x.2) hx).1)
 ·unfold mJ
  rw [List.zip_append hl,List.zip_cons_cons]
theorem ac7:∀p,qm p zN=[]
 | []=>rfl
 | t::ts=>rfl
theorem Ie:Tr zN:= .mk _ rfl .nil (fun k hk=>by cases hk)
theorem YG (g:List SS→List SS) (t:ByteArray) (ts:List ByteArray) (n:SN) (ht:Tr n):∃A B k,((mJ n=A++(t,k)::B∧k∈n.f1)∨(mJ n=A++B∧k=zN))∧(∀x∈A++B,x.1≠t)∧mJ (bY g (t::ts) n)=A++(t,bY g ts k)::B∧(bY g (t::ts) n).f2=n.f2:=by
 cases hf:gJ t n.f0 with
 | true=>
   have hp:aH t n.f0<n.f1.length:=by rw [←ht.len];exact uT hf
   obtain⟨A,B,t',k,h1,h2,h3,h4,h5⟩:=Xf ht hp (bY g ts (gN n.f1 (aH t n.f0)))
   have e1:t'=t:=Option.some.inj (h2.symm.trans (Xe hf))
   subst e1
   have e2:gN n.f1 (aH t' n.f0)=k:=by
    obtain⟨_,e⟩:=List.getElem?_eq_some_iff.1 h3
    rw [←e]
    exact getD_in n.f1 _ (T.df eN) hp
   have hR:bY g (t'::ts) n=⟨n.f0,n.f1.set (aH t' n.f0) (bY g ts (gN n.f1 (aH t' n.f0))),n.f2⟩:=by rw [bY,hf];rfl
   rw [hR]
   exact⟨A,B,k, .inl ⟨h1,List.mem_of_getElem? h3⟩,Xg (h1▸YE ht),by rw [h5,e2],rfl⟩
 | false=>
   obtain⟨A,B,h1,h2,h3⟩:=Xj ht hf (bY g ts zN)
   have hR:bY g (t::ts) n=⟨n.f0.take (aH t n.f0)++t::n.f0.drop (aH t n.f0),n.f1.take (aH t n.f0)++bY g ts zN::n.f1.drop (aH t n.f0),n.f2⟩:=by rw [bY,hf];rfl
   rw [hR]
   exact⟨A,B,zN, .inr ⟨h1,rfl⟩,h2,h3,rfl⟩
theorem Ig (g:List SS→List SS):∀(ls:List ByteArray) (n:SN),Tr n→Tr (bY g ls n)
 | [],n,h=> .mk _ h.len h.rise h.kid
 | t::ts,n,h=>by
   cases hf:gJ t n.f0 with
   | true=>
     have hp:aH t n.f0<n.f1.length:=by rw [←h.len];exact uT hf
     have ih:=Ig g ts (gN n.f1 (aH t n.f0)) (h.kid _ (Ib hp))
     rw [bY,hf]
     exact .mk _ (by show n.f0.length=(n.f1.set _ _).length;rw [List.length_set];exact h.len) h.rise (fun x hx=>(List.mem_or_eq_of_mem_set hx).elim (h.kid x) (fun e=>e▸ih))
   | false=>
     have ih:=Ig g ts zN Ie
     have hlen:=h.len
     rw [bY,hf]
     refine .mk _ (by show(n.f0.take _++t::n.f0.drop _).length=(n.f1.take _++_::n.f1.drop _).length;simp only [List.length_append,List.length_cons,List.length_take,List.length_drop];omega) (YF h.rise hf) (fun x hx=>?_)
     rcases List.mem_append.1 hx with hx | hx
     ·exact h.kid x (List.mem_of_mem_take hx)
     ·rcases List.mem_cons.1 hx with rfl | hx
      ·exact ih
      ·exact h.kid x (List.mem_of_mem_drop hx)
theorem BU {g g':List SS→List SS}:∀(q:List ByteArray) (n:SN),Tr n→g (qm q n)=g' (qm q n)→bY g q n=bY g' q n
 | [],n,_,h=>by rw [bY,bY];exact congrArg (fun l:List SS=>(⟨n.f0,n.f1,l⟩:SN)) h
 | t::ts,n,ht,h=>by
   rw [qm] at h
   rw [bY,bY]
   cases hf:gJ t n.f0 with
   | true=>
     rw [hf] at h
     have hp:aH t n.f0<n.f1.length:=by rw [←ht.len];exact uT hf
     rw [BU ts (gN n.f1 (aH t n.f0)) (ht.kid _ (Ib hp)) h]
     rfl
   | false=>
     rw [hf] at h
     have h':g (qm ts zN)=g' (qm ts zN):=by rw [ac7 ts];exact h
     rw [BU ts zN Ie h']
     rfl
theorem Fj:∀l m:List SN,kJ (l++m)=kJ l+kJ m
 | [],m=>by rw [List.nil_append,kJ,Nat.zero_add]
 | a::l,m=>by rw [List.cons_append,kJ,kJ,Fj l m];omega
theorem Rz:∀{l:List SN} {k:SN},k∈l→cnt k≤kJ l
 | [],k,h=>by cases h
 | a::l,k,h=>by
   rw [kJ]
   rcases List.mem_cons.1 h with rfl | h
   ·omega
   ·have:=Rz h;omega
theorem Jw {g:List SS→List SS} (hg:∀l,(g l).length≤l.length+1):∀(ls:List ByteArray) (n:SN),Tr n→cnt (bY g ls n)≤cnt n+ls.length+1
 | [],n,_=>by
   rw [wZ,wZ]
   have:=hg n.f2
   show n.f0.length+(g n.f2).length+kJ n.f1≤_
   simp only [List.length_nil]
   omega
 | t::ts,n,ht=>by
   obtain⟨A,B,k,h1,h2,h3,h4⟩:=YG g t ts n ht
   have hm:=Ig g (t::ts) n ht
   rw [wZ,wZ n,h4,←Jt hm,←Ro hm,←Jt ht,←Ro ht,h3]
   rcases h1 with ⟨h1,hk⟩ | ⟨h1,rfl⟩
   ·have ih:=Jw hg ts k (ht.kid k hk)
    rw [h1]
    simp only [List.map_append,List.map_cons,List.length_append,List.length_cons,List.length_map,Fj,kJ]
    omega
   ·have ih:=Jw hg ts zN Ie
    have hz:cnt zN=0:=rfl
    rw [h1]
    simp only [List.map_append,List.map_cons,List.length_append,List.length_cons,List.length_map,Fj,kJ]
    omega
inductive Tx:SN→Prop
 | mk (n:SN) (z0:∀x∈n.f0,ByteArray.size x≤1048576) (z2:∀x∈n.f2,(x:SS).f0.size≤1048576) (hk:∀k∈n.f1,Tx k):Tx n
theorem Tx.z0 {n:SN} (h:Tx n):∀x∈n.f0,ByteArray.size x≤1048576:=by cases h;assumption
theorem Tx.z2 {n:SN} (h:Tx n):∀x∈n.f2,(x:SS).f0.size≤1048576:=by cases h;assumption
theorem Tx.kid {n:SN} (h:Tx n):∀k∈n.f1,Tx k:=by cases h;assumption
theorem O9:∀(n:SN),Bd n→Tx n:=fun n h=> .mk n h.z0 h.z2 (fun k hk=>O9 k (h.kid k hk))
termination_by n=>SizeOf.sizeOf n
decreasing_by exact lV hk
theorem KN:∀(n:SN),Tr n→Tx n→cnt n≤2097152→Bd n:=fun n ht hx hc=>by
 rw [wZ] at hc
 have hl:=ht.len
 exact .mk n (by omega) hx.z0 (by omega) (by omega) hx.z2 (fun k hk=>KN k (ht.kid k hk) (hx.kid k hk) (by have:=Rz hk;omega))
termination_by n=>SizeOf.sizeOf n
decreasing_by exact lV hk
theorem Pg {g:List SS→List SS} (hg:∀l,(∀x∈l,(x:SS).f0.size≤1048576)→∀x∈g l,(x:SS).f0.size≤1048576):∀(ls:List ByteArray) (n:SN),(∀x∈ls,ByteArray.size x≤1048576)→Tx n→Tx (bY g ls n)
 | [],n,_,h=> .mk _ h.z0 (hg _ h.z2) h.kid
 | t::ts,n,hs,h=>by
   have hs1:=hs t List.mem_cons_self
   have hs2:∀x∈ts,ByteArray.size x≤1048576:=fun x hx=>hs x (List.mem_cons_of_mem _ hx)
   rw [bY]
   cases hf:gJ t n.f0 with
   | true=>
     refine .mk _ h.z0 h.z2 (fun x hx=>?_)
     by_cases hp:aH t n.f0<n.f1.length
     ·have ih:=Pg hg ts (gN n.f1 (aH t n.f0)) hs2 (h.kid _ (Ib hp))
      exact(List.mem_or_eq_of_mem_set hx).elim (h.kid x) (fun e=>e▸ih)
     ·have hx':x∈n.f1.set (aH t n.f0) (bY g ts (gN n.f1 (aH t n.f0))):=hx
      rw [List.set_eq_of_length_le (by omega)] at hx'
      exact h.kid x hx'
   | false=>
     have ih:=Pg hg ts zN hs2 (.mk _ (fun x hx=>by cases hx) (fun x hx=>by cases hx) (fun x hx=>by cases hx))
     refine .mk _ (fun x hx=>?_) h.z2 (fun x hx=>?_)
     ·rcases List.mem_append.1 hx with hx | hx
      ·exact h.z0 x (List.mem_of_mem_take hx)
      ·rcases List.mem_cons.1 hx with rfl | hx
       ·exact hs1
       ·exact h.z0 x (List.mem_of_mem_drop hx)
     ·rcases List.mem_append.1 hx with hx | hx
      ·exact h.kid x (List.mem_of_mem_take hx)
      ·rcases List.mem_cons.1 hx with rfl | hx
       ·exact ih
       ·exact h.kid x (List.mem_of_mem_drop hx)
theorem YH (s:SS) (l:List SS):(gI s l).length≤l.length+1:=by
 unfold gI
 have h:=KG s.f0 l
 have e:=congrArg List.length (List.takeWhile_append_dropWhile (p:=Ei s.f0) (l:=gG s.f0 l))
 rw [List.length_append] at e
 rw [List.length_append,List.length_cons]
 omega
theorem YI {s:SS} {l:List SS} {x:SS} (h:x∈gI s l):x=s∨x∈l:=by
 unfold gI at h
 have sub:∀y,y∈gG s.f0 l→y∈l:=fun y hy=>List.filter_sublist.subset hy
 rcases List.mem_append.1 h with h | h
 ·exact .inr (sub x ((List.takeWhile_sublist _).subset h))
 ·rcases List.mem_cons.1 h with h | h
  ·exact .inl h
  ·exact .inr (sub x ((List.dropWhile_sublist _).subset h))
def fJ (s:SS) (p:List SS × Bool) (x:SS):List SS × Bool:=
 bif x.f0.toList==s.f0.toList then (p.1++[s],true) else bif !p.2 && Op.bytesLess s.f0.toList x.f0.toList then (p.1++[s]++[x],true) else (p.1++[x],p.2)
def nK (s:SS) (l:List SS):List SS:=bif (l.foldl (fJ s) ([],false)).2 then (l.foldl (fJ s) ([],false)).1 else (l.foldl (fJ s) ([],false)).1++[s]
abbrev Uz (l:List SS):Prop:=l.Pairwise (fun a b=>nV a.f0 b.f0)
theorem zf {s:SS}:∀{l:List SS} {acc:List SS},(∀x∈l,x.f0≠s.f0)→l.foldl (fJ s) (acc,true)=(acc++l,true)
 | [],acc,_=>by simp
 | x::r,acc,h=>by
   rw [List.foldl_cons]
   have e:fJ s (acc,true) x=(acc++[x],true):=by unfold fJ;rw [uV (h x List.mem_cons_self)];rfl
   rw [e,zf (fun y hy=>h y (List.mem_cons_of_mem _ hy)),List.append_assoc];rfl
theorem YJ {t:ByteArray} {l:List SS} (h:∀x∈l,x.f0≠t):gG t l=l:=by
 unfold gG
 refine List.filter_eq_self.2 (fun x hx=>?_)
 rw [uV (h x hx)];rfl
theorem Ph {s x:SS} {r:List SS} (h:nV x.f0 s.f0):gI s (x::r)=x::gI s r:=by
 unfold gI
 have hne:x.f0≠s.f0:=fun e=>by rw [e] at h;exact tq h
 have e:gG s.f0 (x::r)=x::gG s.f0 r:=by unfold gG;rw [List.filter_cons,uV hne];rfl
 have h':Ei s.f0 x=true:=h
 rw [e,List.takeWhile_cons,List.dropWhile_cons,h']
 rfl
theorem KO {s:SS} {l:List SS} (h:∀x∈l,nV s.f0 x.f0):gI s l=s::l:=by
 unfold gI
 rw [YJ (fun x hx e=>by have:=h x hx;rw [e] at this;exact tq this)]
 cases l with
 | nil=>rfl
 | cons y l=>
   have h':Ei s.f0 y=false:=nT _ _ (h y List.mem_cons_self)
   rw [List.takeWhile_cons,List.dropWhile_cons,h']
   rfl
theorem Xk {s x:SS} {r:List SS} (he:x.f0=s.f0) (h:∀y∈r,nV s.f0 y.f0):gI s (x::r)=s::r:=by
 rw [←KO h]
 unfold gI
 have e:gG s.f0 (x::r)=gG s.f0 r:=by unfold gG;rw [List.filter_cons,he,Ic];rfl
 rw [e]
theorem RD {s:SS}:∀{l:List SS} {acc:List SS},Uz l→(bif (l.foldl (fJ s) (acc,false)).2 then (l.foldl (fJ s) (acc,false)).1 else (l.foldl (fJ s) (acc,false)).1++[s])=acc++gI s l
 | [],acc,_=>rfl
 | x::r,acc,h=>by
   obtain⟨h1,h2⟩:=List.pairwise_cons.1 h
   rw [List.foldl_cons]
   by_cases he:x.f0=s.f0
   ·have hr:∀y∈r,nV s.f0 y.f0:=fun y hy=>he▸h1 y hy
    have e:fJ s (acc,false) x=(acc++[s],true):=by unfold fJ;rw [he,Ic];rfl
    rw [e,zf (fun y hy e=>by have:=hr y hy;rw [e] at this;exact tq this),Xk he hr]
    show acc++[s]++r=_
    rw [List.append_assoc];rfl
   ·rcases KL he with hlt | hlt
    ·have e:fJ s (acc,false) x=(acc++[x],false):=by
      unfold fJ
      rw [uV he,nT _ _ hlt];rfl
     rw [e,RD h2,Ph hlt,List.append_assoc];rfl
    ·have hr:∀y∈x::r,nV s.f0 y.f0:=fun y hy=>by
      rcases List.mem_cons.1 hy with rfl | hy
      ·exact hlt
      ·exact nU _ _ _ hlt (h1 y hy)
     have e:fJ s (acc,false) x=(acc++[s]++[x],true):=by
      unfold fJ
      rw [uV he,show Op.bytesLess s.f0.toList x.f0.toList=true from hlt];rfl
     rw [e,zf (fun y hy e=>by have:=hr y (List.mem_cons_of_mem _ hy);rw [e] at this;exact tq this),KO hr]
     show acc++[s]++[x]++r=_
     simp
theorem Xl {s:SS} {l:List SS} (h:Uz l):nK s l=gI s l:=RD (acc:=[]) h
theorem Ih:∀{l:List SS} {y:Option ByteArray},qQ y l=true→Uz l∧∀x∈l,lF y x.f0=true
 | [],y,_=>⟨.nil,fun x hx=>by cases hx⟩
 | s::r,y,h=>by
   rw [qQ,Bool.and_eq_true,Bool.and_eq_true] at h
   obtain⟨_,h1,h2⟩:=h
   obtain⟨a,b⟩:=Ih h2
   refine⟨List.pairwise_cons.2 ⟨fun z hz=>b z hz,a⟩,fun z hz=>?_⟩
   rcases List.mem_cons.1 hz with rfl | hz
   ·exact h1
   ·cases y with
    | none=>rfl
    | some y=>exact nU _ _ _ h1 (b z hz)
theorem Pj:∀(q p:List ByteArray) (n:SN),okI p n=true→pK (qm q n)=true
 | [],p,n,h=>(mY.1 h).2.2.1
 | t::ts,p,n,h=>by
   rw [qm]
   cases hf:gJ t n.f0 with
   | false=>rfl
   | true=>exact Pj ts (p++[t]) _ (Ju (mY.1 h).2.2.2.2 t _ (aaw (MB n p h).1.tr hf)).2.2
theorem Qj {n:SN} (h:jF n=true) (s:SS) (q:List ByteArray):bY (nK s) q n=bY (gI s) q n:=by
 obtain⟨ho,_⟩:=KI h
 exact BU q n (MB n [] ho).1.tr (Xl (Ih (Pj q [] n ho)).1)
def wO (f:ByteArray) (s:SS) (n:SN):SN:=bif jF n && (dF f && iY s) then bY (gI s) (nX f) n else n
end Go.Proofs.YtcnfgfomholheaaGreatDoor.Q
end
section
namespace Go.Proofs.YtcnfgfomholheaaGreatDoor.Q
open Go.RowKit Go.Proofs.YtcnfgfomholheaaGreatDoor.Z Go.Proofs.YtcnfgfomholheaaGreatDoor.X Go.Proofs.YtcnfgfomholheaaGreatDoor.Pure
set_option linter.unusedVariables false
set_option linter.unusedSimpArgs false
set_option maxRecDepth 100000
set_option maxHeartbeats 4000000
theorem Pm (n:SN) (s:SS) (hn:Bd n):ay T Tryz.prog 112 [.ag (T.cells eN n), .c (.sl 9 []), .ag (T.cells eS s)] (qL (bY (gI s) [] n)):=by
 refine aX hT Tryz.func112 (by kernel_rfl) rfl rfl (fun A=>?_)
 conv=>whnf
 refine aA.mk _ (qA n hn) ?_
 conv=>whnf
 refine Split.mk (fun _=>?_) (fun e=>jq e)
 conv=>whnf
 refine aA.mk _ (aau n.f2 s (Nat.le_trans hn.l2 (by decide))) ?_
 conv=>whnf
 exact aG.mk ⟨rfl,rfl⟩ ⟨rfl,rfl⟩ ⟨rfl,rfl,rfl,trivial⟩
theorem aay {l:List SN} {p:Nat} {x:SN} (h:p≤l.length):cZ T eN (l.take p++x::l.drop p) p=x:=by
 have e:(l.take p++x::l.drop p)[p]? =some x:=by
  rw [List.getElem?_append_right (by rw [List.length_take];omega),List.length_take,Nat.min_eq_left h,Nat.sub_self]
  rfl
 have e2:List.getD (l.take p++x::l.drop p) p (zN:SN)=x:=by rw [List.getD_eq_getElem?_getD,e];rfl
 exact e2
theorem aaz {l:List SN} {p:Nat} {x y:SN} (h:p≤l.length):(l.take p++x::l.drop p).set p y=l.take p++y::l.drop p:=by
 rw [List.set_append_right _ _ (by rw [List.length_take];omega),List.length_take,Nat.min_eq_left h,Nat.sub_self]
 rfl
theorem aaA {α:Type} {l:List α} {p:Nat} {x:α} (h:p≤l.length):(l.take p++x::l.drop p).length=l.length+1:=by
 rw [List.length_append,List.length_cons,List.length_take,List.length_drop];omega
theorem Ll (n:SN) (t:ByteArray) (ts:List ByteArray) (s:SS) (hn:Bd n) (htr:Tr n) (hts:(t::ts).length≤2097152)
  (ih:gJ t n.f0=true→ay T Tryz.prog 112 [.ag (T.cells eN (cZ T eN n.f1 (aH t n.f0))), .c (.sl 9 (((t::ts).drop 1).take ((t::ts).length - 1))), .ag (T.cells eS s)] (qL (bY (gI s) ts (gN n.f1 (aH t n.f0)))))
  (iz:gJ t n.f0=false→ay T Tryz.prog 112 [.ag (T.cells eN zN), .c (.sl 9 (((t::ts).drop 1).take ((t::ts).length - 1))), .ag (T.cells eS s)] (qL (bY (gI s) ts zN))):ay T Tryz.prog 112 [.ag (T.cells eN n), .c (.sl 9 (t::ts)), .ag (T.cells eS s)] (qL (bY (gI s) (t::ts) n)):=by
 have hl0:=hn.l0
 have hl1:=hn.l1
 have hlen:=htr.len
 have Pn:=Xi t n.f0
 refine aX hT Tryz.func112 (by kernel_rfl) rfl rfl (fun A=>?_)
 conv=>whnf
 refine aA.mk _ (qA n hn) ?_
 conv=>whnf
 refine Split.mk (fun e=>?_) (fun _=>?_)
 ·simp at e
 conv=>whnf
 refine Need.mk (idx (Nat.succ_pos _)) ?_
 conv=>whnf
 refine aA.mk _ (bsearch n.f0 t (Nat.le_trans hn.l0 (by decide)) (htr.up t)) ?_
 conv=>whnf
 refine bK.mk ⟨by kernel_rfl,by kernel_rfl⟩ ?_
 conv=>whnf
 refine Split.mk (fun e=>?_) (fun e=>?_)
 ·have hf:gJ t n.f0=false:=dJ e
  have iz:=iz hf
  generalize hK:bY (gI s) ts zN=K at iz
  conv=>whnf
  refine Need.mk (idx (Nat.succ_pos _)) ?_
  conv=>whnf
  refine aA.wr [[.gv 9],[.rd],[.gv 9]] (.c (.ow 9 (n.f0.take (aH t n.f0)++t::n.f0.drop (aH t n.f0)))) ?_
  conv=>whnf
  refine ku.mk (aeb n.f0 t (aH t n.f0) Pn (by omega)) ?_
  conv=>whnf
  refine bK.mk ⟨by kernel_rfl,by kernel_rfl⟩ ?_
  conv=>whnf
  refine aA.wr [[.gv eN],[.rd],[.gv eN]] (.c (.ow eN (n.f1.take (aH t n.f0)++zN::n.f1.drop (aH t n.f0)))) ?_
  conv=>whnf
  refine ku.mk (aec n.f1 zN (aH t n.f0) (by omega) (by omega)) ?_
  have hq1:aH t n.f0<(n.f1.take (aH t n.f0)++zN::n.f1.drop (aH t n.f0)).length:=by rw [aaA (by omega)];omega
  have iz2:ay T Tryz.prog 112 [.ag (T.cells eN (cZ T eN (n.f1.take (aH t n.f0)++zN::n.f1.drop (aH t n.f0)) (aH t n.f0))), .c (.sl 9 (((t::ts).drop 1).take ((t::ts).length - 1))), .ag (T.cells eS s)] (qL K):=by
   rw [aay (by omega)];exact iz
  conv=>whnf
  refine Need.mk (idx hq1) ?_
  conv=>whnf
  refine Need.mk ⟨by decide,Int.ofNat_le.2 (show 1≤ts.length+1 from Nat.succ_le_succ (Nat.zero_le _)),Int.le_refl _⟩ ?_
  conv=>whnf
  refine aA.mk _ iz2 ?_
  conv=>whnf
  refine Need.mk (idx hq1) ?_
  conv=>whnf
  refine bK.mk ⟨by kernel_rfl,by kernel_rfl⟩ ?_
  conv=>whnf
  exact aG.mk ⟨rfl,rfl⟩ ⟨rfl,rfl⟩ ⟨jI (by simp [bY,hf]),jD (by rw [Iw];refine(aaz (by omega)).trans ?_;simp [bY,hf,hK]),jd (by simp [bY,hf]),trivial⟩
 ·have hf:gJ t n.f0=true:=dQ e
  have ih:=ih hf
  have hp:=uT hf
  have hp1:aH t n.f0<n.f1.length:=by rw [←htr.len];exact hp
  generalize hK:bY (gI s) ts (gN n.f1 (aH t n.f0))=K at ih
  conv=>whnf
  refine Need.mk (idx hp1) ?_
  conv=>whnf
  refine Need.mk ⟨by decide,Int.ofNat_le.2 (show 1≤ts.length+1 from Nat.succ_le_succ (Nat.zero_le _)),Int.le_refl _⟩ ?_
  conv=>whnf
  refine aA.mk _ ih ?_
  conv=>whnf
  refine Need.mk (idx hp1) ?_
  conv=>whnf
  refine bK.mk ⟨by kernel_rfl,by kernel_rfl⟩ ?_
  conv=>whnf
  exact aG.mk ⟨rfl,rfl⟩ ⟨rfl,rfl⟩ ⟨jI (by simp [bY,hf]),jD (by rw [Iw];simp [bY,hf,hK];rfl),jd (by simp [bY,hf]),trivial⟩
end Go.Proofs.YtcnfgfomholheaaGreatDoor.Q
end
section
namespace Go.Proofs.YtcnfgfomholheaaGreatDoor.Q
open Go.RowKit Go.Proofs.YtcnfgfomholheaaGreatDoor.Z Go.Proofs.YtcnfgfomholheaaGreatDoor.X Go.Proofs.YtcnfgfomholheaaGreatDoor.Pure
set_option linter.unusedVariables false
set_option linter.unusedSimpArgs false
set_option maxRecDepth 100000
set_option maxHeartbeats 4000000
theorem Zt:Bd zN:= .mk _ (Nat.zero_le _) (fun x hx=>by cases hx) (Nat.zero_le _) (Nat.zero_le _) (fun x hx=>by cases hx) (fun x hx=>by cases hx)
theorem inserted:∀(ls:List ByteArray) (s:SS) (n:SN),ls.length≤2097152→Bd n→Tr n→ay T Tryz.prog 112 [.ag (T.cells eN n), .c (.sl 9 ls), .ag (T.cells eS s)] (qL (bY (gI s) ls n))
 | [],s,n,_,hn,_=>Pm n s hn
 | t::ts,s,n,hl,hn,ht=>by
   have hl2:ts.length≤2097152:=by simp at hl;omega
   refine Ll n t ts s hn ht hl (fun hf=>?_) (fun hf=>?_)
   ·have hp1:aH t n.f0<n.f1.length:=by rw [←ht.len];exact uT hf
    have hm:cZ T eN n.f1 (aH t n.f0)∈n.f1:=getD_mem (l:=n.f1) (d:=T.df eN) hp1
    exact Eq.mpr (congrArg (fun L:List ByteArray=>ay T Tryz.prog 112 [.ag (T.cells eN (cZ T eN n.f1 (aH t n.f0))), .c (.sl 9 L), .ag (T.cells eS s)] (qL (bY (gI s) ts (gN n.f1 (aH t n.f0))))) (Zp t ts)) (inserted ts s (cZ T eN n.f1 (aH t n.f0)) hl2 (hn.kid _ hm) (ht.kid _ hm))
   ·exact Eq.mpr (congrArg (fun L:List ByteArray=>ay T Tryz.prog 112 [.ag (T.cells eN zN), .c (.sl 9 L), .ag (T.cells eS s)] (qL (bY (gI s) ts zN))) (Zp t ts)) (inserted ts s zN hl2 Zt Ie)
theorem aaB {f:ByteArray} (h:f.size≤1048576):(nX f).length≤2097152:=Nat.le_trans (oG f) (by omega)
theorem UA (n:SN) (f:ByteArray) (s:SS) (hn:Bd n) (hf:f.size≤1048576) (hs:s.f0.size≤1048576):ay T Tryz.prog 30 [.ag (T.cells eN n), .c (.sc (.string f)), .ag (T.cells eS s)] (qL (wO f s n)):=by
 have hR:wO f s n=bif jF n && (dF f && iY s) then bY (gI s) (nX f) n else n:=rfl
 generalize wO f s n=R at hR⊢
 refine aX hT Tryz.func30 (by kernel_rfl) rfl rfl (fun A=>?_)
 conv=>whnf
 refine aA.mk _ (SK n hn) ?_
 conv=>whnf
 refine Split.mk (fun c1=>?_) (fun c1=>?_)
 ·have h0:jF n=false:=dJ c1
  rw [h0] at hR
  obtain rfl:n=R:=Eq.symm hR
  conv=>whnf
  refine Split.mk (fun _=>?_) (fun e=>jq e)
  conv=>whnf
  refine Split.mk (fun _=>?_) (fun e=>jq e)
  conv=>whnf
  refine aA.mk _ (qA n hn) ?_
  conv=>whnf
  exact aG.mk ⟨rfl,rfl⟩ ⟨rfl,rfl⟩ ⟨rfl,rfl,rfl,trivial⟩
 have h0:jF n=true:=dQ c1
 rw [h0,Bool.true_and] at hR
 conv=>whnf
 refine aA.mk _ (zY f (Nat.le_trans hf (by decide))) ?_
 conv=>whnf
 refine Split.mk (fun c1=>?_) (fun c1=>?_)
 ·have h1:dF f=false:=dJ c1
  rw [h1] at hR
  obtain rfl:n=R:=Eq.symm hR
  conv=>whnf
  refine Split.mk (fun _=>?_) (fun e=>jq e)
  conv=>whnf
  refine aA.mk _ (qA n hn) ?_
  conv=>whnf
  exact aG.mk ⟨rfl,rfl⟩ ⟨rfl,rfl⟩ ⟨rfl,rfl,rfl,trivial⟩
 have h1:dF f=true:=dQ c1
 rw [h1,Bool.true_and] at hR
 conv=>whnf
 refine aA.mk _ (JR s (Nat.le_trans hs (by decide))) ?_
 conv=>whnf
 refine Split.mk (fun c1=>?_) (fun c1=>?_)
 ·have h2:iY s=false:=dJ c1
  rw [h2] at hR
  obtain rfl:n=R:=Eq.symm hR
  conv=>whnf
  refine aA.mk _ (qA n hn) ?_
  conv=>whnf
  exact aG.mk ⟨rfl,rfl⟩ ⟨rfl,rfl⟩ ⟨rfl,rfl,rfl,trivial⟩
 have h2:iY s=true:=dQ c1
 rw [h2] at hR
 obtain rfl:R=bY (gI s) (nX f) n:=hR
 conv=>whnf
 refine aA.mk _ (yg f (Nat.le_trans hf (by decide))) ?_
 conv=>whnf
 refine aA.mk _ (inserted (nX f) s n (aaB hf) hn (sO h0).1) ?_
 conv=>whnf
 refine bK.mk ⟨by kernel_rfl,by kernel_rfl⟩ ?_
 conv=>whnf
 exact aG.mk ⟨rfl,rfl⟩ ⟨rfl,rfl⟩ ⟨rfl,rfl,rfl,trivial⟩
end Go.Proofs.YtcnfgfomholheaaGreatDoor.Q
end
section
namespace Go.Proofs.YtcnfgfomholheaaGreatDoor.Q
open Go.RowKit Go.Proofs.YtcnfgfomholheaaGreatDoor.Z Go.Proofs.YtcnfgfomholheaaGreatDoor.X Go.Proofs.YtcnfgfomholheaaGreatDoor.Pure
set_option linter.unusedVariables false
set_option linter.unusedSimpArgs false
set_option maxRecDepth 100000
set_option maxHeartbeats 4000000
def oJ (s:SS) (l:List SS):Bool:=(l.foldl (fJ s) ([],false)).2
def kM (s:SS) (l:List SS):List SS:=(l.foldl (fJ s) ([],false)).1
theorem Xm (s:SS) (p:List SS × Bool) (x:SS):(fJ s p x).1.length≤p.1.length+2:=by
 unfold fJ
 cases x.f0.toList==s.f0.toList with
 | true=>show(p.1++[s]).length≤_;simp
 | false=>
   cases !p.2 && Op.bytesLess s.f0.toList x.f0.toList with
   | true=>show(p.1++[s]++[x]).length≤_;simp
   | false=>show(p.1++[x]).length≤_;simp
theorem Fp (s:SS):∀(l:List SS) (p:List SS × Bool),(l.foldl (fJ s) p).1.length≤p.1.length+2*l.length
 | [],p=>Nat.le_add_right _ _
 | x::l,p=>by
   have h1:=Fp s l (fJ s p x)
   have h2:=Xm s p x
   rw [List.foldl_cons,List.length_cons]
   omega
theorem UC {s:SS} {l:List SS} {k:Nat} (h:k<l.length):(l.take (k+1)).foldl (fJ s) ([],false)=fJ s ((l.take k).foldl (fJ s) ([],false)) (gS l k):=by
 rw [List.take_succ_eq_append_getElem h,List.foldl_append,show gS l k=l[k] from getD_in l k (T.df eS) h]
 rfl
theorem Zu (a b:List UInt8):(!(Op.bytesLess a b || a==b))=Op.bytesLess b a:=by
 by_cases e:a=b
 ·subst e;rw [wM];simp
 ·have e2:(a==b)=false:=by simp [e]
  rcases y9 a b e with h | h
  ·rw [h,nT a b h];rfl
  ·rw [h,nT b a h,e2];rfl
abbrev Zv (s:SS):dw T:= .bx eS [.sc (.string s.f0), .sc (.int .i64 s.f1), .sc (.int .i64 s.f2)]
theorem Qk (n:SN) (s:SS) (hn:Bd n):ay T Tryz.prog 110 [.ag (T.cells eN n), .c (.sl 9 []), .ag (T.cells eS s)] (BR (bY (nK s) [] n)):=by
 have hl0:=hn.l0
 have hl1:=hn.l1
 have hl2:=hn.l2
 refine kE hT Tryz.func110 (by kernel_rfl) rfl rfl (fun A=>?_)
 refine Vc.of 0 hT ?_
 conv=>whnf
 refine Need.mk ⟨qR,cu (a:=0) (b:=n.f0.length) (by omega) (by decide)⟩ ?_
 conv=>whnf
 refine Need.mk (cu (a:=0) (b:=n.f1.length) (by omega) (by decide)) ?_
 conv=>whnf
 refine Need.mk ⟨LJ,cu (a:=0) (b:=n.f2.length) (by omega) (by decide)⟩ ?_
 conv=>whnf
 refine bK.mk ⟨by kernel_rfl,by kernel_rfl⟩ ?_
 conv=>whnf
 refine Split.mk (fun _=>?_) (fun e=>jq e)
 conv=>whnf
 refine iC.mk {k:Nat // k≤n.f2.length} (fun p=>(11,[(10,i64 p.1),(9,bb (oJ s (n.f2.take p.1))),(8, .c (.hd 10)),(7, .c (.px 9 0)),(6, .c (.px 2 0)),(5, .c (.px 1 0)),(3, .c (.px 0 0))],[(10, .row 10 eS (kM s (n.f2.take p.1))),(9, .bx eN [.hd 4, .hd 6, .hd 8]),(4, .row 4 9 n.f0),(6, .sh 6 eN n.f1),(8, .row 8 eS n.f2),(2,QG),(1,Zv s),(0,zC n)])) (fun p=>n.f2.length - p.1) ⟨0,Nat.zero_le _⟩ (aC [(10,10),(9,9),(4,4),(6,6),(8,8),(2,2),(1,1),(0,0)] rfl rfl rfl ⟨⟨rfl,rfl⟩,⟨rfl,rfl⟩,⟨rfl,rfl⟩,⟨rfl,rfl⟩,⟨rfl,rfl⟩,⟨rfl,rfl⟩,⟨rfl,rfl⟩,trivial⟩ ⟨jd rfl,⟨rfl,rfl⟩,jI rfl,jD rfl,jd rfl,⟨rfl,rfl⟩,⟨rfl,rfl⟩,⟨rfl,rfl⟩,trivial⟩) ?_
 rintro⟨k,hk⟩
 conv=>whnf
 refine Split.mk (fun c1=>?_) (fun c1=>?_)
 ·have hk2:k<n.f2.length:=jO c1
  clear c1
  have hstep:=UC (s:=s) hk2
  have hrl:=Fp s (n.f2.take k) ([],false)
  rw [List.length_take] at hrl
  have hr1:(kM s (n.f2.take k)).length+2≤8388608:=by
   have:(kM s (n.f2.take k)).length≤0+2*min k n.f2.length:=hrl
   omega
  have nx:∀{b:Bool} {l:List SS},fJ s (kM s (n.f2.take k),oJ s (n.f2.take k)) (gS n.f2 k)=(l,b)→oJ s (n.f2.take (k+1))=b∧kM s (n.f2.take (k+1))=l:=fun h=>by
   have h2:=hstep.trans h
   exact⟨congrArg Prod.snd h2,congrArg Prod.fst h2⟩
  conv=>whnf
  refine Need.mk (idx hk2) ?_
  conv=>whnf
  refine bK.mk ⟨by kernel_rfl,by kernel_rfl⟩ ?_
  conv=>whnf
  refine Split.mk (fun c1=>?_) (fun c1=>?_)
  ·have hs:fJ s (kM s (n.f2.take k),oJ s (n.f2.take k)) (gS n.f2 k)=(kM s (n.f2.take k)++[s],true):=by
    unfold fJ
    rw [show((gS n.f2 k).f0.toList==s.f0.toList)=true from c1];rfl
   obtain⟨e1,e2⟩:=nx hs
   conv=>whnf
   refine Need.mk (cu (a:=(kM s (n.f2.take k)).length) (b:=1) (by omega) (by decide)) ?_
   conv=>whnf
   exact dD.mk ⟨⟨k+1,hk2⟩,Nat.sub_lt_sub_left hk2 (Nat.lt_succ_self k),aC [(10,12),(9,9),(4,4),(6,6),(8,8),(2,2),(1,1),(0,0)] rfl rfl rfl ⟨⟨rfl,congrArg i64 (iD hk2 (by omega))⟩,⟨rfl,congrArg bb e1⟩,⟨rfl,rfl⟩,⟨rfl,rfl⟩,⟨rfl,rfl⟩,⟨rfl,rfl⟩,⟨rfl,rfl⟩,trivial⟩ ⟨jd e2.symm,⟨rfl,rfl⟩,jI rfl,jD rfl,jd rfl,⟨rfl,rfl⟩,⟨rfl,rfl⟩,⟨rfl,rfl⟩,trivial⟩⟩
  ·have c2:((gS n.f2 k).f0.toList==s.f0.toList)=false:=c1
   have plain:(!oJ s (n.f2.take k) && Op.bytesLess s.f0.toList (gS n.f2 k).f0.toList)=false→oJ s (n.f2.take (k+1))=oJ s (n.f2.take k)∧kM s (n.f2.take (k+1))=kM s (n.f2.take k)++[gS n.f2 k]:=fun h=>nx (by
    unfold fJ
    rw [c2]
    show(bif !oJ s (n.f2.take k) && Op.bytesLess s.f0.toList (gS n.f2 k).f0.toList then _ else _)=_
    rw [h];rfl)
   conv=>whnf
   refine Split.mk (fun c3=>?_) (fun c3=>?_)
   ·conv=>whnf
    refine Need.mk (idx hk2) ?_
    conv=>whnf
    refine bK.mk ⟨by kernel_rfl,by kernel_rfl⟩ ?_
    conv=>whnf
    refine Split.mk (fun c4=>?_) (fun c4=>?_)
    ·have hs:fJ s (kM s (n.f2.take k),oJ s (n.f2.take k)) (gS n.f2 k)=(kM s (n.f2.take k)++[s]++[gS n.f2 k],true):=by
      unfold fJ
      rw [c2]
      show(bif !oJ s (n.f2.take k) && Op.bytesLess s.f0.toList (gS n.f2 k).f0.toList then _ else _)=_
      rw [show(!oJ s (n.f2.take k))=true from c3,show Op.bytesLess s.f0.toList (gS n.f2 k).f0.toList=true from(Zu _ _).symm.trans c4];rfl
     obtain⟨e1,e2⟩:=nx hs
     conv=>whnf
     refine Need.mk (cu (a:=(kM s (n.f2.take k)).length) (b:=1) (by omega) (by decide)) ?_
     conv=>whnf
     refine Need.mk (idx hk2) ?_
     conv=>whnf
     refine Need.mk (cu (a:=(kM s (n.f2.take k)++[s]).length) (b:=1) (by rw [List.length_append];show _+1+1≤_;omega) (by decide)) ?_
     conv=>whnf
     exact dD.mk ⟨⟨k+1,hk2⟩,Nat.sub_lt_sub_left hk2 (Nat.lt_succ_self k),aC [(10,14),(9,9),(4,4),(6,6),(8,8),(2,2),(1,1),(0,0)] rfl rfl rfl ⟨⟨rfl,congrArg i64 (iD hk2 (by omega))⟩,⟨rfl,congrArg bb e1⟩,⟨rfl,rfl⟩,⟨rfl,rfl⟩,⟨rfl,rfl⟩,⟨rfl,rfl⟩,⟨rfl,rfl⟩,trivial⟩ ⟨jd e2.symm,⟨rfl,rfl⟩,jI rfl,jD rfl,jd rfl,⟨rfl,rfl⟩,⟨rfl,rfl⟩,⟨rfl,rfl⟩,trivial⟩⟩
    ·obtain⟨e1,e2⟩:=plain (by rw [show Op.bytesLess s.f0.toList (gS n.f2 k).f0.toList=false from(Zu _ _).symm.trans c4,Bool.and_false])
     conv=>whnf
     refine Need.mk (idx hk2) ?_
     conv=>whnf
     refine Need.mk (cu (a:=(kM s (n.f2.take k)).length) (b:=1) (by omega) (by decide)) ?_
     conv=>whnf
     exact dD.mk ⟨⟨k+1,hk2⟩,Nat.sub_lt_sub_left hk2 (Nat.lt_succ_self k),aC [(10,12),(9,9),(4,4),(6,6),(8,8),(2,2),(1,1),(0,0)] rfl rfl rfl ⟨⟨rfl,congrArg i64 (iD hk2 (by omega))⟩,⟨rfl,congrArg bb e1⟩,⟨rfl,rfl⟩,⟨rfl,rfl⟩,⟨rfl,rfl⟩,⟨rfl,rfl⟩,⟨rfl,rfl⟩,trivial⟩ ⟨jd e2.symm,⟨rfl,rfl⟩,jI rfl,jD rfl,jd rfl,⟨rfl,rfl⟩,⟨rfl,rfl⟩,⟨rfl,rfl⟩,trivial⟩⟩
   ·obtain⟨e1,e2⟩:=plain (by rw [show(!oJ s (n.f2.take k))=false from c3,Bool.false_and])
    conv=>whnf
    refine bK.mk ⟨by kernel_rfl,by kernel_rfl⟩ ?_
    conv=>whnf
    refine Split.mk (fun e=>kD e) (fun _=>?_)
    conv=>whnf
    refine Need.mk (idx hk2) ?_
    conv=>whnf
    refine Need.mk (cu (a:=(kM s (n.f2.take k)).length) (b:=1) (by omega) (by decide)) ?_
    conv=>whnf
    exact dD.mk ⟨⟨k+1,hk2⟩,Nat.sub_lt_sub_left hk2 (Nat.lt_succ_self k),aC [(10,12),(9,9),(4,4),(6,6),(8,8),(2,2),(1,1),(0,0)] rfl rfl rfl ⟨⟨rfl,congrArg i64 (iD hk2 (by omega))⟩,⟨rfl,congrArg bb e1⟩,⟨rfl,rfl⟩,⟨rfl,rfl⟩,⟨rfl,rfl⟩,⟨rfl,rfl⟩,⟨rfl,rfl⟩,trivial⟩ ⟨jd e2.symm,⟨rfl,rfl⟩,jI rfl,jD rfl,jd rfl,⟨rfl,rfl⟩,⟨rfl,rfl⟩,⟨rfl,rfl⟩,trivial⟩⟩
 ·have hk2:k=n.f2.length:=Nat.le_antisymm hk (jP c1)
  clear c1
  subst hk2
  rw [List.take_length]
  have hr1:(kM s n.f2).length+2≤8388608:=by
   have:(kM s n.f2).length≤0+2*n.f2.length:=Fp s n.f2 ([],false)
   omega
  conv=>whnf
  refine Split.mk (fun c3=>?_) (fun c3=>?_)
  ·have e:nK s n.f2=kM s n.f2++[s]:=by
    unfold nK
    rw [show(n.f2.foldl (fJ s) ([],false)).2=false from dJ c3];rfl
   conv=>whnf
   refine Need.mk (cu (a:=(kM s n.f2).length) (b:=1) (by omega) (by decide)) ?_
   conv=>whnf
   exact aG.mk ⟨rfl,rfl⟩ ⟨rfl,rfl⟩ ⟨jI rfl,jD rfl,jd e.symm,trivial⟩
  ·have e:nK s n.f2=kM s n.f2:=by
    unfold nK
    rw [show(n.f2.foldl (fJ s) ([],false)).2=true from dQ c3];rfl
   conv=>whnf
   exact aG.mk ⟨rfl,rfl⟩ ⟨rfl,rfl⟩ ⟨jI rfl,jD rfl,jd e.symm,trivial⟩
end Go.Proofs.YtcnfgfomholheaaGreatDoor.Q
end
section
namespace Go.Proofs.YtcnfgfomholheaaGreatDoor.Q
open Go.RowKit Go.Proofs.YtcnfgfomholheaaGreatDoor.Z Go.Proofs.YtcnfgfomholheaaGreatDoor.X Go.Proofs.YtcnfgfomholheaaGreatDoor.Pure
set_option linter.unusedVariables false
set_option linter.unusedSimpArgs false
set_option maxRecDepth 100000
set_option maxHeartbeats 4000000
theorem Xn {t:ByteArray} {l:List ByteArray} {i:Nat} (hi:i≤l.length) (h1:∀j,j<i→jT t (g9 l j)=true) (h2:i=l.length∨jT t (g9 l i)=false):aH t l=i:=by
 have:=(Ia (p:=jT t) (d:=T.df 9) hi h1 h2).1
 unfold aH
 rw [←this,List.length_take]
 omega
theorem Xo {f:FuncId} {xs:List (Arg T.Tb)} {r:RS T.Tb} (h:ay T Tryz.prog f (.ag (T.cells eN zN)::xs) r):ay T Tryz.prog f (.ag [.sc (.slice none 0 0), .sc (.slice none 0 0), .sc (.slice none 0 0)]::xs) r:=by
 refine⟨h.1,fun w vs S hj ha=>h.2 w vs S hj ?_⟩
 obtain⟨v,q,rfl,⟨us,rfl,h1⟩,h2⟩:=ha
 obtain⟨v1,q1,e1,⟨rfl,_⟩,v2,q2,rfl,⟨rfl,_⟩,v3,q3,rfl,⟨rfl,_⟩,rfl⟩:=h1
 exact⟨_,_,rfl,⟨us,rfl,by rw [e1];exact⟨_,_,rfl, .nil 9 none 0,_,_,rfl, .nil eN none 0,_,_,rfl, .nil eS none 0,rfl⟩⟩,h2⟩
theorem Po (n:SN) (t:ByteArray) (ts:List ByteArray) (s:SS) (hn:Bd n) (htr:Tr n)
  (ih:gJ t n.f0=true→ay T Tryz.prog 110 [.ag (T.cells eN (cZ T eN n.f1 (aH t n.f0))), .c (.sl 9 (((t::ts).drop 1).take ((t::ts).length - 1))), .ag (T.cells eS s)] (BR (bY (nK s) ts (gN n.f1 (aH t n.f0)))))
  (iz:gJ t n.f0=false→ay T Tryz.prog 110 [.ag (T.cells eN zN), .c (.sl 9 (((t::ts).drop 1).take ((t::ts).length - 1))), .ag (T.cells eS s)] (BR (bY (nK s) ts zN))):ay T Tryz.prog 110 [.ag (T.cells eN n), .c (.sl 9 (t::ts)), .ag (T.cells eS s)] (BR (bY (nK s) (t::ts) n)):=by
 have hl0:=hn.l0
 have hl1:=hn.l1
 have hl2:=hn.l2
 have hlen:=htr.len
 have Pn:=Xi t n.f0
 have Zw:aH t n.f0≤n.f1.length:=hlen▸Pn
 refine kE hT Tryz.func110 (by kernel_rfl) rfl rfl (fun A=>?_)
 refine Vc.seq 0 hT ?_
 conv=>whnf
 refine Vc.seq 3 hT ?_
 conv=>whnf
 refine Need.mk ⟨qR,cu (a:=0) (b:=n.f0.length) (by omega) (by decide)⟩ ?_
 conv=>whnf
 refine Need.mk (cu (a:=0) (b:=n.f1.length) (by omega) (by decide)) ?_
 conv=>whnf
 refine Need.mk ⟨LJ,cu (a:=0) (b:=n.f2.length) (by omega) (by decide)⟩ ?_
 conv=>whnf
 refine bK.mk ⟨by kernel_rfl,by kernel_rfl⟩ ?_
 conv=>whnf
 refine Vc.seq 10 hT ?_
 conv=>whnf
 refine Split.mk (fun e=>?_) (fun _=>?_)
 ·simp at e
 conv=>whnf
 refine Vc.seq 10 hT ?_
 conv=>whnf
 refine Vc.cut (α:=Unit) 10 (fun _=>True) (fun _=>[(11,i64 (aH t n.f0)),(7, .c (.px 9 0)),(6, .c (.px 2 0)),(5, .c (.px 1 0)),(3, .c (.px 0 0)),(1,im 9 (t::ts))]) (fun _=>[(9, .bx eN [.hd 4, .hd 6, .hd 8]),(4, .row 4 9 n.f0),(6, .sh 6 eN n.f1),(8, .row 8 eS n.f2),(2,QG),(1,Zv s),(0,zC n)]) hT ?_ (fun _ _=>?_)
 ·conv=>whnf
  refine iC.mk {k:Nat // k≤n.f0.length∧∀j,j<k→jT t (g9 n.f0 j)=true} (fun p=>(10,[(11,i64 p.1),(7, .c (.px 9 0)),(6, .c (.px 2 0)),(5, .c (.px 1 0)),(3, .c (.px 0 0)),(1,im 9 (t::ts))],[(9, .bx eN [.hd 4, .hd 6, .hd 8]),(4, .row 4 9 n.f0),(6, .sh 6 eN n.f1),(8, .row 8 eS n.f2),(2,QG),(1,Zv s),(0,zC n)])) (fun p=>n.f0.length - p.1) ⟨0,Nat.zero_le _,fun j hj=>absurd hj (Nat.not_lt_zero j)⟩ (aC [(9,9),(4,4),(6,6),(8,8),(2,2),(1,1),(0,0)] rfl rfl rfl ⟨⟨rfl,rfl⟩,⟨rfl,rfl⟩,⟨rfl,rfl⟩,⟨rfl,rfl⟩,⟨rfl,rfl⟩,⟨rfl,rfl⟩,trivial⟩ ⟨⟨rfl,rfl⟩,jI rfl,jD rfl,jd rfl,⟨rfl,rfl⟩,⟨rfl,rfl⟩,⟨rfl,rfl⟩,trivial⟩) ?_
  rintro⟨k,hk,hlt⟩
  conv=>whnf
  refine Split.mk (fun c1=>?_) (fun c1=>?_)
  ·have hk2:k<n.f0.length:=jO c1
   clear c1
   conv=>whnf
   refine Need.mk (idx hk2) ?_
   conv=>whnf
   refine Need.mk (idx (Nat.succ_pos _)) ?_
   conv=>whnf
   refine bK.mk ⟨by kernel_rfl,by kernel_rfl⟩ ?_
   conv=>whnf
   refine Split.mk (fun c2=>?_) (fun c2=>?_)
   ·conv=>whnf
    exact dD.mk ⟨⟨k+1,hk2,fun j hj=>by
     rcases Nat.lt_succ_iff_lt_or_eq.1 hj with h | rfl
     ·exact hlt j h
     ·exact c2⟩,Nat.sub_lt_sub_left hk2 (Nat.lt_succ_self k),aC [(9,9),(4,4),(6,6),(8,8),(2,2),(1,1),(0,0)] rfl rfl rfl ⟨⟨rfl,congrArg i64 (iD hk2 (by omega))⟩,⟨rfl,rfl⟩,⟨rfl,rfl⟩,⟨rfl,rfl⟩,⟨rfl,rfl⟩,⟨rfl,rfl⟩,trivial⟩ ⟨⟨rfl,rfl⟩,jI rfl,jD rfl,jd rfl,⟨rfl,rfl⟩,⟨rfl,rfl⟩,⟨rfl,rfl⟩,trivial⟩⟩
   ·have hp:aH t n.f0=k:=Xn hk hlt (.inr c2)
    conv=>whnf
    exact jW.mk ⟨(),trivial,aC [(9,9),(4,4),(6,6),(8,8),(2,2),(1,1),(0,0)] rfl rfl rfl ⟨⟨rfl,congrArg (fun k:Nat=>i64 k) hp⟩,⟨rfl,rfl⟩,⟨rfl,rfl⟩,⟨rfl,rfl⟩,⟨rfl,rfl⟩,⟨rfl,rfl⟩,trivial⟩ ⟨⟨rfl,rfl⟩,jI rfl,jD rfl,jd rfl,⟨rfl,rfl⟩,⟨rfl,rfl⟩,⟨rfl,rfl⟩,trivial⟩⟩
  ·have hk2:k=n.f0.length:=Nat.le_antisymm hk (jP c1)
   have hp:aH t n.f0=k:=Xn hk hlt (.inl hk2)
   conv=>whnf
   refine bK.mk ⟨by kernel_rfl,by kernel_rfl⟩ ?_
   conv=>whnf
   refine Split.mk (fun e=>kD e) (fun _=>?_)
   conv=>whnf
   exact jW.mk ⟨(),trivial,aC [(9,9),(4,4),(6,6),(8,8),(2,2),(1,1),(0,0)] rfl rfl rfl ⟨⟨rfl,congrArg (fun k:Nat=>i64 k) hp⟩,⟨rfl,rfl⟩,⟨rfl,rfl⟩,⟨rfl,rfl⟩,⟨rfl,rfl⟩,⟨rfl,rfl⟩,trivial⟩ ⟨⟨rfl,rfl⟩,jI rfl,jD rfl,jd rfl,⟨rfl,rfl⟩,⟨rfl,rfl⟩,⟨rfl,rfl⟩,trivial⟩⟩
 have yes:∀hf:gJ t n.f0=true,True:=fun _=>trivial
 refine Vc.cut (α:={b:Bool // gJ t n.f0=b}) 10 (fun x=>x.1=false) (fun _=>[(11,i64 (aH t n.f0)),(7, .c (.px 9 0)),(6, .c (.px 2 0)),(5, .c (.px 1 0)),(3, .c (.px 0 0)),(1,im 9 (t::ts))]) (fun _=>[(9, .bx eN [.hd 4, .hd 6, .hd 8]),(4, .row 4 9 n.f0),(6, .sh 6 eN n.f1),(8, .row 8 eS n.f2),(2,QG),(1,Zv s),(0,zC n)]) hT ?_ (fun x hx=>?_)
 ·conv=>whnf
  refine Split.mk (fun c1=>?_) (fun c1=>?_)
  ·have hk2:aH t n.f0<n.f0.length:=jO c1
   have hk3:aH t n.f0<n.f1.length:=by omega
   clear c1
   conv=>whnf
   refine Need.mk (idx hk2) ?_
   conv=>whnf
   refine Need.mk (idx (Nat.succ_pos _)) ?_
   conv=>whnf
   refine bK.mk ⟨by kernel_rfl,by kernel_rfl⟩ ?_
   conv=>whnf
   refine Split.mk (fun c2=>?_) (fun c2=>?_)
   ·have hf:gJ t n.f0=true:=by
     unfold gJ
     rw [decide_eq_true hk2,show((g9 n.f0 (aH t n.f0)).toList==t.toList)=true from c2];rfl
    have ih:=ih hf
    generalize hK:bY (nK s) ts (gN n.f1 (aH t n.f0))=K at ih
    conv=>whnf
    refine Need.mk (idx hk3) ?_
    conv=>whnf
    refine Need.mk ⟨by decide,Int.ofNat_le.2 (show 1≤ts.length+1 from Nat.succ_le_succ (Nat.zero_le _)),Int.le_refl _⟩ ?_
    conv=>whnf
    refine aA.mk _ ih ?_
    conv=>whnf
    refine Need.mk (idx hk3) ?_
    conv=>whnf
    refine bK.mk ⟨by kernel_rfl,by kernel_rfl⟩ ?_
    conv=>whnf
    exact aG.mk ⟨rfl,rfl⟩ ⟨rfl,rfl⟩ ⟨jI (by simp [bY,hf]),jD (by rw [Iw];simp [bY,hf,hK];rfl),jd (by simp [bY,hf]),trivial⟩
   ·have hf:gJ t n.f0=false:=by
     unfold gJ
     rw [show((g9 n.f0 (aH t n.f0)).toList==t.toList)=false from c2,Bool.and_false]
    conv=>whnf
    exact jW.mk ⟨⟨false,hf⟩,rfl,aC [(9,9),(4,4),(6,6),(8,8),(2,2),(1,1),(0,0)] rfl rfl rfl ⟨⟨rfl,rfl⟩,⟨rfl,rfl⟩,⟨rfl,rfl⟩,⟨rfl,rfl⟩,⟨rfl,rfl⟩,⟨rfl,rfl⟩,trivial⟩ ⟨⟨rfl,rfl⟩,jI rfl,jD rfl,jd rfl,⟨rfl,rfl⟩,⟨rfl,rfl⟩,⟨rfl,rfl⟩,trivial⟩⟩
  ·have hk2:n.f0.length≤aH t n.f0:=jP c1
   have hf:gJ t n.f0=false:=by
    unfold gJ
    rw [decide_eq_false (by omega)];rfl
   conv=>whnf
   refine bK.mk ⟨by kernel_rfl,by kernel_rfl⟩ ?_
   conv=>whnf
   refine Split.mk (fun e=>kD e) (fun _=>?_)
   conv=>whnf
   exact jW.mk ⟨⟨false,hf⟩,rfl,aC [(9,9),(4,4),(6,6),(8,8),(2,2),(1,1),(0,0)] rfl rfl rfl ⟨⟨rfl,rfl⟩,⟨rfl,rfl⟩,⟨rfl,rfl⟩,⟨rfl,rfl⟩,⟨rfl,rfl⟩,⟨rfl,rfl⟩,trivial⟩ ⟨⟨rfl,rfl⟩,jI rfl,jD rfl,jd rfl,⟨rfl,rfl⟩,⟨rfl,rfl⟩,⟨rfl,rfl⟩,trivial⟩⟩
 have hf:gJ t n.f0=false:=hx▸x.2
 have iz:=iz hf
 generalize hK:bY (nK s) ts zN=K at iz
 refine Vc.of 10 hT ?_
 conv=>whnf
 refine Need.mk ⟨by decide,Int.ofNat_le.2 (show 1≤ts.length+1 from Nat.succ_le_succ (Nat.zero_le _)),Int.le_refl _⟩ ?_
 conv=>whnf
 refine aA.mk _ (Xo iz) ?_
 conv=>whnf
 refine bK.mk ⟨by kernel_rfl,by kernel_rfl⟩ ?_
 conv=>whnf
 refine Need.mk ⟨Int.le_refl _,Int.natCast_nonneg _,Int.ofNat_le.2 Pn⟩ ?_
 conv=>whnf
 refine Need.mk ⟨qR,cu (a:=0) (b:=(n.f0.take (aH t n.f0)).length) (by rw [List.length_take];omega) (by decide)⟩ ?_
 conv=>whnf
 refine Need.mk (idx (Nat.succ_pos _)) ?_
 conv=>whnf
 refine Need.mk (cu (a:=(n.f0.take (aH t n.f0)).length) (b:=1) (by rw [List.length_take];omega) (by decide)) ?_
 conv=>whnf
 refine Need.mk ⟨Int.natCast_nonneg _,Int.ofNat_le.2 Pn,Int.le_refl _⟩ ?_
 conv=>whnf
 refine Need.mk ⟨qR,cu (a:=(n.f0.take (aH t n.f0)++[t]).length) (b:=((n.f0.drop (aH t n.f0)).take (n.f0.length - aH t n.f0)).length) (by rw [List.length_append,List.length_take,List.length_take,List.length_drop];show _+1+_≤_;omega) (by decide)⟩ ?_
 conv=>whnf
 refine bK.mk ⟨by kernel_rfl,by kernel_rfl⟩ ?_
 conv=>whnf
 refine Need.mk ⟨Int.le_refl _,Int.natCast_nonneg _,Int.ofNat_le.2 Zw⟩ ?_
 conv=>whnf
 refine Need.mk (cu (a:=0) (b:=(n.f1.take (aH t n.f0)).length) (by rw [List.length_take];omega) (by decide)) ?_
 conv=>whnf
 refine Need.mk (cu (a:=(n.f1.take (aH t n.f0)).length) (b:=1) (by rw [List.length_take];omega) (by decide)) ?_
 conv=>whnf
 refine Need.mk ⟨Int.natCast_nonneg _,Int.ofNat_le.2 Zw,Int.le_refl _⟩ ?_
 conv=>whnf
 have hl3:((n.f1.take (aH t n.f0)++[(⟨K.f0,K.f1,K.f2⟩:SN)]).length)+((n.f1.drop (aH t n.f0)).take (n.f1.length - aH t n.f0)).length≤8388608:=by rw [List.length_append,List.length_take,List.length_take,List.length_drop];show _+1+_≤_;omega
 refine Need.mk (cu (a:=(n.f1.take (aH t n.f0)++[(⟨K.f0,K.f1,K.f2⟩:SN)]).length) (b:=((n.f1.drop (aH t n.f0)).take (n.f1.length - aH t n.f0)).length) hl3 (by decide)) ?_
 conv=>whnf
 refine bK.mk ⟨by kernel_rfl,by kernel_rfl⟩ ?_
 conv=>whnf
 have e0:(bY (nK s) (t::ts) n).f0=n.f0.take (aH t n.f0)++t::n.f0.drop (aH t n.f0):=by simp [bY,hf]
 have e1:(bY (nK s) (t::ts) n).f1=n.f1.take (aH t n.f0)++K::n.f1.drop (aH t n.f0):=by simp [bY,hf,hK]
 have d0:(n.f0.drop (aH t n.f0)).take (n.f0.length - aH t n.f0)=n.f0.drop (aH t n.f0):=List.take_of_length_le (by rw [List.length_drop];exact Nat.le_refl _)
 have d1:(n.f1.drop (aH t n.f0)).take (n.f1.length - aH t n.f0)=n.f1.drop (aH t n.f0):=List.take_of_length_le (by rw [List.length_drop];exact Nat.le_refl _)
 refine aG.mk ⟨rfl,rfl⟩ ⟨rfl,rfl⟩ ⟨jI ?_,jD ?_,jd (by simp [bY,hf]),trivial⟩
 ·rw [e0]
  refine Eq.trans (b:=(n.f0.take (aH t n.f0)++[t])++(n.f0.drop (aH t n.f0)).take (n.f0.length - aH t n.f0)) rfl ?_
  rw [d0,List.append_assoc]
  rfl
 ·rw [e1]
  refine Eq.trans (b:=(n.f1.take (aH t n.f0)++[(⟨K.f0,K.f1,K.f2⟩:SN)])++(n.f1.drop (aH t n.f0)).take (n.f1.length - aH t n.f0)) rfl ?_
  rw [d1,List.append_assoc,Iw]
  rfl
theorem Jy:∀(ls:List ByteArray) (s:SS) (n:SN),Bd n→Tr n→ay T Tryz.prog 110 [.ag (T.cells eN n), .c (.sl 9 ls), .ag (T.cells eS s)] (BR (bY (nK s) ls n))
 | [],s,n,hn,_=>Qk n s hn
 | t::ts,s,n,hn,ht=>by
   refine Po n t ts s hn ht (fun hf=>?_) (fun hf=>?_)
   ·have hp1:aH t n.f0<n.f1.length:=by rw [←ht.len];exact uT hf
    have hm:cZ T eN n.f1 (aH t n.f0)∈n.f1:=getD_mem (l:=n.f1) (d:=T.df eN) hp1
    exact Eq.mpr (congrArg (fun L:List ByteArray=>ay T Tryz.prog 110 [.ag (T.cells eN (cZ T eN n.f1 (aH t n.f0))), .c (.sl 9 L), .ag (T.cells eS s)] (BR (bY (nK s) ts (gN n.f1 (aH t n.f0))))) (Zp t ts)) (Jy ts s (cZ T eN n.f1 (aH t n.f0)) (hn.kid _ hm) (ht.kid _ hm))
   ·exact Eq.mpr (congrArg (fun L:List ByteArray=>ay T Tryz.prog 110 [.ag (T.cells eN zN), .c (.sl 9 L), .ag (T.cells eS s)] (BR (bY (nK s) ts zN))) (Zp t ts)) (Jy ts s zN Zt Ie)
theorem RF {n:SN} {f:ByteArray} {s:SS} (hn:Bd n) (ht:Tr n) (hc:cnt n≤2097000) (hf:dF f=true) (hs:s.f0.size≤1048576):Bd (bY (gI s) (nX f) n)∧cnt (bY (gI s) (nX f) n)≤cnt n+62:=by
 have ae0:=((rV f).1 (DZ hf)).2.2
 have h1:=Jw (YH s) (nX f) n ht
 have h3:(nX f).length≤f.size+1:=oG f
 refine⟨KN _ (Ig _ _ n ht) (Pg (fun l hl x hx=>?_) (nX f) n (fun x hx=>?_) (O9 n hn)) (by omega),by omega⟩
 ·rcases YI hx with rfl | hx
  ·exact hs
  ·exact hl x hx
 ·obtain⟨i,hi,rfl⟩:=List.mem_iff_getElem.1 hx
  have:=y8 f i hi
  exact Nat.le_trans this (by omega)
theorem UD (n:SN) (f:ByteArray) (s:SS) (hn:Bd n) (hc:cnt n≤2097000) (hf:f.size≤1048576) (hs:s.f0.size≤1048576):ay T Tryz.prog 28 [.ag (T.cells eN n), .c (.sc (.string f)), .ag (T.cells eS s)] (qL (wO f s n)):=by
 have hR:wO f s n=bif jF n && (dF f && iY s) then bY (gI s) (nX f) n else n:=rfl
 generalize wO f s n=R at hR⊢
 refine aX hT Tryz.func28 (by kernel_rfl) rfl rfl (fun A=>?_)
 conv=>whnf
 refine aA.mk _ (SE n hn) ?_
 conv=>whnf
 refine Split.mk (fun c1=>?_) (fun c1=>?_)
 ·have h0:jF n=false:=dJ c1
  rw [h0] at hR
  obtain rfl:n=R:=Eq.symm hR
  conv=>whnf
  refine Split.mk (fun _=>?_) (fun e=>jq e)
  conv=>whnf
  refine Split.mk (fun _=>?_) (fun e=>jq e)
  conv=>whnf
  refine aA.mk _ (uU n hn) ?_
  conv=>whnf
  exact aG.mk ⟨rfl,rfl⟩ ⟨rfl,rfl⟩ ⟨rfl,rfl,rfl,trivial⟩
 have h0:jF n=true:=dQ c1
 rw [h0,Bool.true_and] at hR
 conv=>whnf
 refine aA.mk _ (tK f (Nat.le_trans hf (by decide))) ?_
 conv=>whnf
 refine Split.mk (fun c1=>?_) (fun c1=>?_)
 ·have h1:dF f=false:=dJ c1
  rw [h1] at hR
  obtain rfl:n=R:=Eq.symm hR
  conv=>whnf
  refine Split.mk (fun _=>?_) (fun e=>jq e)
  conv=>whnf
  refine aA.mk _ (uU n hn) ?_
  conv=>whnf
  exact aG.mk ⟨rfl,rfl⟩ ⟨rfl,rfl⟩ ⟨rfl,rfl,rfl,trivial⟩
 have h1:dF f=true:=dQ c1
 rw [h1,Bool.true_and] at hR
 conv=>whnf
 refine aA.mk _ (JU s) ?_
 conv=>whnf
 refine Split.mk (fun c1=>?_) (fun c1=>?_)
 ·have h2:iY s=false:=dJ c1
  rw [h2] at hR
  obtain rfl:n=R:=Eq.symm hR
  conv=>whnf
  refine aA.mk _ (uU n hn) ?_
  conv=>whnf
  exact aG.mk ⟨rfl,rfl⟩ ⟨rfl,rfl⟩ ⟨rfl,rfl,rfl,trivial⟩
 have h2:iY s=true:=dQ c1
 rw [h2] at hR
 obtain rfl:bY (gI s) (nX f) n=R:=Eq.symm hR
 have hB:=(RF hn (sO h0).1 hc h1 hs).1
 have hins:=Jy (nX f) s n hn (sO h0).1
 rw [Qj h0] at hins
 generalize bY (gI s) (nX f) n=R at hB hins
 conv=>whnf
 refine aA.mk _ (Sz f (Nat.le_trans hf (by decide))) ?_
 conv=>whnf
 refine aA.mk _ hins ?_
 conv=>whnf
 refine bK.mk ⟨by kernel_rfl,by kernel_rfl⟩ ?_
 conv=>whnf
 refine aA.mk _ (uU R hB) ?_
 conv=>whnf
 exact aG.mk ⟨rfl,rfl⟩ ⟨rfl,rfl⟩ ⟨rfl,rfl,rfl,trivial⟩
theorem aaC {n:SN} {f:ByteArray} {s:SS} (hn:Bd n) (hc:cnt n≤2097000) (hs:s.f0.size≤1048576):Bd (wO f s n)∧cnt (wO f s n)≤cnt n+62:=by
 unfold wO
 cases h0:jF n with
 | false=>exact⟨hn,Nat.le_add_right _ _⟩
 | true=>
   cases h1:dF f with
   | false=>exact⟨hn,Nat.le_add_right _ _⟩
   | true=>
     cases iY s with
     | false=>exact⟨hn,Nat.le_add_right _ _⟩
     | true=>exact RF hn (sO h0).1 hc h1 hs
end Go.Proofs.YtcnfgfomholheaaGreatDoor.Q
end
section
namespace Go.Proofs.YtcnfgfomholheaaGreatDoor.Q
open Go.RowKit Go.Proofs.YtcnfgfomholheaaGreatDoor.Z Go.Proofs.YtcnfgfomholheaaGreatDoor.Pure
set_option linter.unusedVariables false
set_option linter.unusedSimpArgs false
set_option maxRecDepth 100000
set_option maxHeartbeats 4000000
abbrev RG (a:LN):dw T:= .bx o8 ((T.cells o8 a).map (toCell none))
theorem ac8 {n:Nat} (h:decide ((n:Int)>1048576)=false):n≤1048576:=by simp at h;omega
end Go.Proofs.YtcnfgfomholheaaGreatDoor.Q
end
section
namespace Go.Proofs.YtcnfgfomholheaaGreatDoor.Q
open Go.RowKit Go.Proofs.YtcnfgfomholheaaGreatDoor.Z Go.Proofs.YtcnfgfomholheaaGreatDoor.X Go.Proofs.YtcnfgfomholheaaGreatDoor.Pure
set_option linter.unusedVariables false
set_option linter.unusedSimpArgs false
set_option maxRecDepth 100000
set_option maxHeartbeats 4000000
abbrev Jz (a:LS):dw T:= .bx wV ((T.cells wV a).map (toCell none))
theorem U9 (a:LN) (f:ByteArray) (u:LS) (ha:xY a) (hu:u.f0.size≤140737488351232):ay T Tryz.prog 5 [.ag (T.cells o8 a), .c (.sc (.string f)), .ag (T.cells wV u)] (.c (.sc (.bool true))):=by
 refine kE hT Tryz.func5 (by kernel_rfl) rfl rfl (fun A=>?_)
 refine Vc.seq 0 hT ?_
 conv=>whnf
 refine Vc.seq 2 hT ?_
 conv=>whnf
 refine Split.mk (fun c1=>?_) (fun c1=>?_)
 ·conv=>whnf
  exact aG.mk ⟨rfl,rfl⟩ ⟨rfl,rfl⟩ ⟨rfl,trivial⟩
 have hf:f.size≤1048576:=ac8 c1
 clear c1
 conv=>whnf
 refine Vc.seq 2 hT ?_
 conv=>whnf
 refine Vc.seq 2 hT ?_
 conv=>whnf
 refine aA.mk _ (Vm a ha _ (by decide) (by decide)) ?_
 conv=>whnf
 refine Vc.seq 3 hT ?_
 conv=>whnf
 refine Split.mk (fun c1=>?_) (fun c1=>?_)
 ·conv=>whnf
  exact aG.mk ⟨rfl,rfl⟩ ⟨rfl,rfl⟩ ⟨rfl,trivial⟩
 have hsz:0≤lW a 1048576:=Oh c1
 have hle:=wX a (x:=1048576) (by decide)
 clear c1
 conv=>whnf
 refine Vc.seq 3 hT ?_
 conv=>whnf
 refine aA.mk _ (YR u (lW a 1048576) hsz hle hu) ?_
 conv=>whnf
 refine Vc.seq 4 hT ?_
 conv=>whnf
 refine Split.mk (fun c1=>?_) (fun c1=>?_)
 ·conv=>whnf
  exact aG.mk ⟨rfl,rfl⟩ ⟨rfl,rfl⟩ ⟨rfl,trivial⟩
 have hs2:(tS u).f0.size≤1048576:=by
  have h1:0≤eu u.f0.size (lW a 1048576):=Oh c1
  have h2:=(aae h1).1
  show u.f0.size≤1048576
  omega
 clear c1
 have hcnt:=Rx a 1048576 (by decide) hsz
 obtain⟨hB,hL⟩:=Xh a 1048576 (by decide) (by decide) hsz
 have hto:=Vg a hL
 have htu:=toSub u
 generalize tN a=B at hcnt hB hto
 have hcB:cnt B≤1048576:=by omega
 clear hcnt hsz hL hle
 have him:=UA B f (tS u) hB hf hs2
 have hsp:=UD B f (tS u) hB (by omega) hf hs2
 obtain⟨hR,hcR⟩:=aaC (f:=f) hB (by omega) hs2
 generalize wO f (tS u) B=R at him hsp hR hcR
 have hkB:=Jv B 1
 have hkR:=Jv R 1
 have hmB:=Nl B 1 hB (by decide) (by omega)
 have hmR:=Nl R 1 hR (by decide) (by omega)
 have hhR:=XD R 1 hR (by decide) (by omega)
 have heR:=MS R hR R
 have heB:=MS B hB B
 conv=>whnf
 refine Vc.cut (α:=Unit) 60 (fun _=>True) (fun _=>[(8, .c (.px 2 0)),(3, .c (.px 0 0)),(5, .c (.px 1 0)),(1, .c (.sc (.string f)))]) (fun _=>[(2, .bx eN [.hd 3, .hd 4, .hd 5]),(3, .row 3 9 R.f0),(4, .row 4 eN R.f1),(5, .row 5 eS R.f2),(0,RG a),(1,Jz u)]) hT ?_ (fun _ _=>?_)
 ·conv=>whnf
  refine aA.mk _ hto ?_
  conv=>whnf
  refine aA.mk _ htu ?_
  conv=>whnf
  refine aA.mk _ hsp ?_
  conv=>whnf
  refine bK.mk ⟨by kernel_rfl,by kernel_rfl⟩ ?_
  conv=>whnf
  exact jW.mk ⟨(),trivial,aC [(2,69),(3,66),(4,67),(5,68),(0,0),(1,1)] rfl rfl rfl ⟨⟨rfl,rfl⟩,⟨rfl,rfl⟩,⟨rfl,rfl⟩,⟨rfl,rfl⟩,trivial⟩ ⟨⟨rfl,rfl⟩,jI rfl,jD rfl,jd rfl,⟨rfl,rfl⟩,⟨rfl,rfl⟩,trivial⟩⟩
 refine Vc.cut (α:=Unit) 60 (fun _=>True) (fun _=>[(9, .c (.px 6 0)),(8, .c (.px 2 0)),(3, .c (.px 0 0)),(5, .c (.px 1 0)),(1, .c (.sc (.string f)))]) (fun _=>[(6, .bx eN [.hd 7, .hd 8, .hd 9]),(7, .row 7 9 B.f0),(8, .row 8 eN B.f1),(9, .row 9 eS B.f2),(2, .bx eN [.hd 3, .hd 4, .hd 5]),(3, .row 3 9 R.f0),(4, .row 4 eN R.f1),(5, .row 5 eS R.f2),(0,RG a),(1,Jz u)]) hT ?_ (fun _ _=>?_)
 ·conv=>whnf
  refine aA.mk _ hto ?_
  conv=>whnf
  exact jW.mk ⟨(),trivial,aC [(6,63),(7,60),(8,61),(9,62),(2,2),(3,3),(4,4),(5,5),(0,0),(1,1)] rfl rfl rfl ⟨⟨rfl,rfl⟩,⟨rfl,rfl⟩,⟨rfl,rfl⟩,⟨rfl,rfl⟩,⟨rfl,rfl⟩,trivial⟩ ⟨⟨rfl,rfl⟩,jI rfl,jD rfl,jd rfl,⟨rfl,rfl⟩,jI rfl,jD rfl,jd rfl,⟨rfl,rfl⟩,⟨rfl,rfl⟩,trivial⟩⟩
 refine Vc.cut (α:=Unit) 60 (fun _=>True) (fun _=>[(10, .c (.px 10 0)),(9, .c (.px 6 0)),(8, .c (.px 2 0)),(3, .c (.px 0 0)),(5, .c (.px 1 0)),(1, .c (.sc (.string f)))]) (fun _=>[(10, .bx eN [.hd 11, .hd 12, .hd 13]),(11, .row 11 9 R.f0),(12, .row 12 eN R.f1),(13, .row 13 eS R.f2),(6, .bx eN [.hd 7, .hd 8, .hd 9]),(7, .row 7 9 B.f0),(8, .row 8 eN B.f1),(9, .row 9 eS B.f2),(2, .bx eN [.hd 3, .hd 4, .hd 5]),(3, .row 3 9 R.f0),(4, .row 4 eN R.f1),(5, .row 5 eS R.f2),(0,RG a),(1,Jz u)]) hT ?_ (fun _ _=>?_)
 ·conv=>whnf
  refine aA.mk _ htu ?_
  conv=>whnf
  refine aA.mk _ him ?_
  conv=>whnf
  refine bK.mk ⟨by kernel_rfl,by kernel_rfl⟩ ?_
  conv=>whnf
  exact jW.mk ⟨(),trivial,aC [(10,66),(11,63),(12,64),(13,65),(6,6),(7,7),(8,8),(9,9),(2,2),(3,3),(4,4),(5,5),(0,0),(1,1)] rfl rfl rfl ⟨⟨rfl,rfl⟩,⟨rfl,rfl⟩,⟨rfl,rfl⟩,⟨rfl,rfl⟩,⟨rfl,rfl⟩,⟨rfl,rfl⟩,trivial⟩ ⟨⟨rfl,rfl⟩,jI rfl,jD rfl,jd rfl,⟨rfl,rfl⟩,jI rfl,jD rfl,jd rfl,⟨rfl,rfl⟩,jI rfl,jD rfl,jd rfl,⟨rfl,rfl⟩,⟨rfl,rfl⟩,trivial⟩⟩
 refine Vc.seq 60 hT ?_
 conv=>whnf
 refine aA.mk _ heR ?_
 conv=>whnf
 refine Split.mk (fun c1=>(jY (dJ c1) rfl).elim) (fun c1=>?_)
 clear c1
 conv=>whnf
 refine Vc.seq 60 hT ?_
 conv=>whnf
 refine aA.mk _ hto ?_
 conv=>whnf
 refine aA.mk _ heB ?_
 conv=>whnf
 refine bK.mk ⟨by kernel_rfl,by kernel_rfl⟩ ?_
 conv=>whnf
 refine Split.mk (fun c1=>(jY (dJ c1) rfl).elim) (fun c1=>?_)
 clear c1
 conv=>whnf
 refine Vc.seq 100 hT ?_
 conv=>whnf
 refine Vc.cut (α:=Unit) 100 (fun _=>True) (fun _=>[(11,i64 (((bG B 1).2:Nat):Int)),(10, .c (.px 10 0)),(8, .c (.px 2 0)),(3, .c (.px 0 0)),(5, .c (.px 1 0)),(1, .c (.sc (.string f)))]) (fun _=>[(10, .bx eN [.hd 11, .hd 12, .hd 13]),(11, .row 11 9 R.f0),(12, .row 12 eN R.f1),(13, .row 13 eS R.f2),(2, .bx eN [.hd 3, .hd 4, .hd 5]),(3, .row 3 9 R.f0),(4, .row 4 eN R.f1),(5, .row 5 eS R.f2),(0,RG a),(1,Jz u)]) hT ?_ (fun _ _=>?_)
 ·conv=>whnf
  refine aA.wr [[NW.wr 9 (bG B 1).1.f0,NW.wr eN (bG B 1).1.f1,NW.wr eS (bG B 1).1.f2],[NW.rd]] (.c (.sc (.int .i64 (((bG B 1).2:Nat):Int)))) ?_
  conv=>whnf
  refine ku.mk hmB ?_
  conv=>whnf
  exact jW.mk ⟨(),trivial,aC [(10,10),(11,11),(12,12),(13,13),(2,2),(3,3),(4,4),(5,5),(0,0),(1,1)] rfl rfl rfl ⟨⟨rfl,rfl⟩,⟨rfl,rfl⟩,⟨rfl,rfl⟩,⟨rfl,rfl⟩,⟨rfl,rfl⟩,⟨rfl,rfl⟩,trivial⟩ ⟨⟨rfl,rfl⟩,jI rfl,jD rfl,jd rfl,⟨rfl,rfl⟩,jI rfl,jD rfl,jd rfl,⟨rfl,rfl⟩,⟨rfl,rfl⟩,trivial⟩⟩
 refine Vc.seq 60 hT ?_
 conv=>whnf
 refine Split.mk (fun c1=>FI c1) (fun c1=>?_)
 clear c1
 conv=>whnf
 refine aA.mk _ heR ?_
 conv=>whnf
 refine Split.mk (fun c1=>(jY (dJ c1) rfl).elim) (fun c1=>?_)
 clear c1
 conv=>whnf
 refine Vc.seq 100 hT ?_
 conv=>whnf
 refine Vc.cut (α:=Unit) 100 (fun _=>True) (fun _=>[(12,i64 (((bG R 1).2:Nat):Int)),(10, .c (.px 10 0)),(8, .c (.px 2 0)),(3, .c (.px 0 0)),(5, .c (.px 1 0)),(1, .c (.sc (.string f)))]) (fun _=>[(10, .bx eN [.hd 11, .hd 12, .hd 13]),(11, .row 11 9 ((bG R 1).1.f0)),(12, .row 12 eN ((bG R 1).1.f1)),(13, .row 13 eS ((bG R 1).1.f2)),(2, .bx eN [.hd 3, .hd 4, .hd 5]),(3, .row 3 9 R.f0),(4, .row 4 eN R.f1),(5, .row 5 eS R.f2),(0,RG a),(1,Jz u)]) hT ?_ (fun _ _=>?_)
 ·conv=>whnf
  refine aA.wr [[NW.wr 9 (bG R 1).1.f0,NW.wr eN (bG R 1).1.f1,NW.wr eS (bG R 1).1.f2],[NW.rd]] (.c (.sc (.int .i64 (((bG R 1).2:Nat):Int)))) ?_
  conv=>whnf
  refine ku.mk hmR ?_
  conv=>whnf
  exact jW.mk ⟨(),trivial,aC [(10,10),(11,11),(12,12),(13,13),(2,2),(3,3),(4,4),(5,5),(0,0),(1,1)] rfl rfl rfl ⟨⟨rfl,rfl⟩,⟨rfl,rfl⟩,⟨rfl,rfl⟩,⟨rfl,rfl⟩,⟨rfl,rfl⟩,⟨rfl,rfl⟩,trivial⟩ ⟨⟨rfl,rfl⟩,jI rfl,jD rfl,jd rfl,⟨rfl,rfl⟩,jI rfl,jD rfl,jd rfl,⟨rfl,rfl⟩,⟨rfl,rfl⟩,trivial⟩⟩
 refine Vc.seq 60 hT ?_
 conv=>whnf
 refine Vc.seq 60 hT ?_
 conv=>whnf
 refine aA.mk (.c (.sc (.int .i64 (((bG R 1).2:Nat):Int)))) hhR ?_
 conv=>whnf
 refine Vc.seq 60 hT ?_
 conv=>whnf
 refine Split.mk (fun c1=>FI c1) (fun c1=>?_)
 clear c1
 conv=>whnf
 refine Vc.seq 60 hT ?_
 conv=>whnf
 refine Split.mk (fun c1=>(Iu c1 rfl).elim) (fun c1=>?_)
 clear c1
 conv=>whnf
 refine Vc.cut (α:=Unit) 60 (fun _=>True) (fun _=>[(14, .c (.px 14 0)),(12,i64 (((bG R 1).2:Nat):Int)),(10, .c (.px 10 0)),(8, .c (.px 2 0)),(3, .c (.px 0 0)),(5, .c (.px 1 0)),(1, .c (.sc (.string f)))]) (fun _=>[(14, .bx eN [.hd 15, .hd 16, .hd 17]),(15, .row 15 9 R.f0),(16, .row 16 eN R.f1),(17, .row 17 eS R.f2),(10, .bx eN [.hd 11, .hd 12, .hd 13]),(11, .row 11 9 ((bG R 1).1.f0)),(12, .row 12 eN ((bG R 1).1.f1)),(13, .row 13 eS ((bG R 1).1.f2)),(2, .bx eN [.hd 3, .hd 4, .hd 5]),(3, .row 3 9 R.f0),(4, .row 4 eN R.f1),(5, .row 5 eS R.f2),(0,RG a),(1,Jz u)]) hT ?_ (fun _ _=>?_)
 ·conv=>whnf
  refine aA.mk _ hto ?_
  conv=>whnf
  refine aA.mk _ htu ?_
  conv=>whnf
  refine aA.mk _ him ?_
  conv=>whnf
  refine bK.mk ⟨by kernel_rfl,by kernel_rfl⟩ ?_
  conv=>whnf
  exact jW.mk ⟨(),trivial,aC [(14,69),(15,66),(16,67),(17,68),(10,10),(11,11),(12,12),(13,13),(2,2),(3,3),(4,4),(5,5),(0,0),(1,1)] rfl rfl rfl ⟨⟨rfl,rfl⟩,⟨rfl,rfl⟩,⟨rfl,rfl⟩,⟨rfl,rfl⟩,⟨rfl,rfl⟩,⟨rfl,rfl⟩,⟨rfl,rfl⟩,trivial⟩ ⟨⟨rfl,rfl⟩,jI rfl,jD rfl,jd rfl,⟨rfl,rfl⟩,jI rfl,jD rfl,jd rfl,⟨rfl,rfl⟩,jI rfl,jD rfl,jd rfl,⟨rfl,rfl⟩,⟨rfl,rfl⟩,trivial⟩⟩
 refine Vc.seq 60 hT ?_
 conv=>whnf
 refine aA.mk _ heR ?_
 conv=>whnf
 refine Split.mk (fun c1=>(jY (dJ c1) rfl).elim) (fun c1=>?_)
 clear c1
 conv=>whnf
 refine Vc.seq 60 hT ?_
 conv=>whnf
 refine Vc.seq 60 hT ?_
 conv=>whnf
 refine aA.mk (.c (.sc (.int .i64 (((bG R 1).2:Nat):Int)))) hhR ?_
 conv=>whnf
 refine Vc.seq 60 hT ?_
 conv=>whnf
 refine Split.mk (fun c1=>FI c1) (fun c1=>?_)
 clear c1
 conv=>whnf
 refine Vc.seq 60 hT ?_
 conv=>whnf
 refine Split.mk (fun c1=>(Iu c1 rfl).elim) (fun c1=>?_)
 clear c1
 conv=>whnf
 refine Vc.of 60 hT ?_
 conv=>whnf
 exact aG.mk ⟨rfl,rfl⟩ ⟨rfl,rfl⟩ ⟨rfl,trivial⟩
end Go.Proofs.YtcnfgfomholheaaGreatDoor.Q
end
