/- Several texts of this claim in one (a claim holds at most 60 files). -/
import Derived.Test.YtcnfgfomholheaaGreatDoorZy
import Derived.Test.YtcnfgfomholheaaGreatDoorZp
section
namespace Go.Proofs.YtcnfgfomholheaaGreatDoor.Q
open Go.RowKit Go.Proofs.YtcnfgfomholheaaGreatDoor.Z Go.Proofs.YtcnfgfomholheaaGreatDoor.Pure
set_option linter.unusedVariables false
set_option linter.unusedSimpArgs false
set_option maxRecDepth 100000
set_option maxHeartbeats 4000000
def ig (t:ByteArray) (l:List SS):List SS:=l.filter fun s=>!(s.f0.toList==t.toList)
theorem Ny (t:ByteArray) (l:List SS):(ig t l).length≤l.length:=List.length_filter_le _ _
theorem VI (l:List SS) (client:ByteArray) (hl:l.length≤8388608):aG T Tryz.prog 171 [.c (.sl eS l), .c (.sc (.string client))] (.c (.ow eS (ig client l))):=by
 refine aH hT Tryz.func171 (by kernel_rfl) rfl rfl (fun A=>?_)
 conv=>whnf
 refine ak.mk _ (P5 l hl) ?_
 conv=>whnf
 refine ak.wr [[.gv eS],[.rd]] (.c (.ow eS (ig client l))) ?_
 conv=>whnf
 refine jK.mk (VJ l client) ?_
 conv=>whnf
 exact aC.mk ⟨rfl,rfl⟩ ⟨rfl,rfl⟩ ⟨rfl,trivial⟩
def yD (t:ByteArray) (s:SS):Bool:=Op.bytesLess s.f0.toList t.toList
def eH (s:SS) (l:List SS):List SS:=(ig s.f0 l).takeWhile (yD s.f0)++s::(ig s.f0 l).dropWhile (yD s.f0)
theorem IZ {α:Type} {p:α→Bool} {d:α}:∀{l:List α} {i:Nat},i≤l.length→(∀j,j<i→p (l.getD j d)=true)→(i=l.length∨p (l.getD i d)=false)→l.take i=l.takeWhile p∧l.drop i=l.dropWhile p
 | [],i,hi,_,_=>by simp
 | a::l,0,_,_,h=>by
   rcases h with h | h
   ·simp at h
   ·have h:p a=false:=h
    simp [List.takeWhile_cons,List.dropWhile_cons,h]
 | a::l,i+1,hi,h1,h2=>by
   have ha:p a=true:=h1 0 (Nat.succ_pos i)
   have ih:=IZ (p:=p) (d:=d) (l:=l) (i:=i) (by simpa using hi) (fun j hj=>h1 (j+1) (by omega)) (by simpa using h2)
   simp [List.takeWhile_cons,List.dropWhile_cons,ha,ih.1,ih.2]
theorem acf {s:SS} {l:List SS} {i:Nat} (hi:i≤(ig s.f0 l).length) (h1:∀j,j<i→yD s.f0 ((ig s.f0 l).getD j zS)=true) (h2:i=(ig s.f0 l).length∨yD s.f0 ((ig s.f0 l).getD i zS)=false):(ig s.f0 l).take i++s::(ig s.f0 l).drop i=eH s l:=by
 obtain⟨a,b⟩:=IZ hi h1 h2
 rw [a,b];rfl
theorem iC {l l':List SS} (h:l=l'):bT (T:=T) eS l eS l':=eu h
theorem iT {l l':List SN} (h:l=l'):bT (T:=T) eN l eN l':=eu h
theorem CY {l l':List SE} (h:l=l'):bT (T:=T) eE l eE l':=eu h
theorem jc {l l':List ByteArray} (h:l=l'):bT (T:=T) 9 l 9 l':=eu h
theorem acg (l:List SS) (s:SS) (hl:l.length≤8388608):aG T Tryz.prog 116 [.c (.sl eS l), .ag (T.cells eS s)] (.c (.ow eS (eH s l))):=by
 have hd:=Ny s.f0 l
 refine aH hT Tryz.func116 (by kernel_rfl) rfl rfl (fun A=>?_)
 conv=>whnf
 refine ak.mk _ (VI l s.f0 hl) ?_
 conv=>whnf
 have key:∀i,i≤(ig s.f0 l).length→(∀j,j<i→yD s.f0 ((ig s.f0 l).getD j zS)=true)→(i=(ig s.f0 l).length∨yD s.f0 ((ig s.f0 l).getD i zS)=false)→CallWOb T Tryz.prog 185 [.c (.gv eS (ig s.f0 l)), .c (.c (.sc (.int .i64 (i:Int)))), .c (.gv eS [(⟨s.f0,s.f1,s.f2⟩:SS)])] (.c (.ow eS (eH s l))):=fun i h1 h2 h3=>by
  rw [←acf h1 h2 h3]
  exact afV (ig s.f0 l) s i h1 (by omega)
 generalize hD:ig s.f0 l=D at key hd⊢
 refine dF.mk {i:Nat // i≤D.length∧∀j,j<i→yD s.f0 (D.getD j zS)=true} (fun p=>(2,[(6,i64 p.1),(5, .c (.hd 1)),(3, .c (.px 0 0))],[(1, .row 1 eS D),(0, .bx eS [.sc (.string s.f0), .sc (.int .i64 s.f1), .sc (.int .i64 s.f2)])])) (fun p=>D.length - p.1) ⟨0,Nat.zero_le _,fun j hj=>absurd hj (Nat.not_lt_zero j)⟩ (aA [(1,1),(0,0)] rfl rfl rfl ⟨⟨rfl,rfl⟩,⟨rfl,rfl⟩,⟨rfl,rfl⟩,trivial⟩ ⟨iC rfl,⟨rfl,rfl⟩,trivial⟩) ?_
 rintro⟨i,hi,hlt⟩
 conv=>whnf
 refine Split.mk (fun c=>?_) (fun c=>?_)
 ·have hk2:i<D.length:=fQ c
  clear c
  conv=>whnf
  refine Need.mk (idx hk2) ?_
  conv=>whnf
  refine aT.mk ⟨by kernel_rfl,by kernel_rfl⟩ ?_
  conv=>whnf
  refine Split.mk (fun c=>?_) (fun c=>?_)
  ·conv=>whnf
   exact bF.mk ⟨⟨i+1,hk2,fun j hj=>by
    rcases Nat.lt_succ_iff_lt_or_eq.1 hj with h | rfl
    ·exact hlt j h
    ·exact c⟩,Nat.sub_lt_sub_left hk2 (Nat.lt_succ_self i),aA [(1,1),(0,0)] rfl rfl rfl ⟨⟨rfl,congrArg i64 (dO hk2 (by omega))⟩,⟨rfl,rfl⟩,⟨rfl,rfl⟩,trivial⟩ ⟨iC rfl,⟨rfl,rfl⟩,trivial⟩⟩
  ·conv=>whnf
   refine ak.wr [[.gv eS],[.rd],[.gv eS]] (.c (.ow eS (eH s l))) ?_
   conv=>whnf
   refine jK.mk (key i hi hlt (.inr c)) ?_
   conv=>whnf
   exact aC.mk ⟨rfl,rfl⟩ ⟨rfl,rfl⟩ ⟨rfl,trivial⟩
 ·have hk2:i=D.length:=Nat.le_antisymm hi (fZ c)
  clear c
  conv=>whnf
  refine aT.mk ⟨by kernel_rfl,by kernel_rfl⟩ ?_
  conv=>whnf
  refine Split.mk (fun e=>jS e) (fun _=>?_)
  conv=>whnf
  refine ak.wr [[.gv eS],[.rd],[.gv eS]] (.c (.ow eS (eH s l))) ?_
  conv=>whnf
  refine jK.mk (key i hi hlt (.inl hk2)) ?_
  conv=>whnf
  exact aC.mk ⟨rfl,rfl⟩ ⟨rfl,rfl⟩ ⟨rfl,trivial⟩
end Go.Proofs.YtcnfgfomholheaaGreatDoor.Q
end
section
namespace Go.Proofs.YtcnfgfomholheaaGreatDoor.Q
open Go.RowKit Go.Proofs.YtcnfgfomholheaaGreatDoor.Z Go.Proofs.YtcnfgfomholheaaGreatDoor.Pure
set_option linter.unusedVariables false
set_option linter.unusedSimpArgs false
set_option maxRecDepth 100000
set_option maxHeartbeats 4000000
theorem isNaN1 (a:ByteArray):aG T Tryz.prog 206 [.c (.sc (.string a))] (.c (.sc (.bool false))):=by
 refine aH hT Tryz.func206 (by kernel_rfl) rfl rfl (fun A=>?_)
 conv=>whnf
 exact aC.mk ⟨rfl,rfl⟩ ⟨rfl,rfl⟩ ⟨bv (by simp),trivial⟩
theorem isNaN2 (a:ByteArray):aG T Tryz.prog 222 [.c (.sc (.string a))] (.c (.sc (.bool false))):=by
 refine aH hT Tryz.func222 (by kernel_rfl) rfl rfl (fun A=>?_)
 conv=>whnf
 exact aC.mk ⟨rfl,rfl⟩ ⟨rfl,rfl⟩ ⟨bv (by simp),trivial⟩
theorem ach (a b:ByteArray):aG T Tryz.prog 205 [.c (.sc (.string a)), .c (.sc (.string b))] (.c (.sc (.bool (Op.bytesLess a.toList b.toList)))):=by
 refine aH hT Tryz.func205 (by kernel_rfl) rfl rfl (fun A=>?_)
 conv=>whnf
 refine ak.mk _ (isNaN2 a) ?_
 conv=>whnf
 refine Split.mk (fun e=>jS e) (fun _=>?_)
 conv=>whnf
 refine Split.mk (fun e=>jS e) (fun _=>?_)
 conv=>whnf
 exact aC.mk ⟨rfl,rfl⟩ ⟨rfl,rfl⟩ ⟨rfl,trivial⟩
def kS (t s:ByteArray):Bool:=Op.bytesLess s.toList t.toList
def g9 (l:List ByteArray) (k:Nat):ByteArray:=l.getD k (T.df 9)
structure Bs (l:List ByteArray) (t:ByteArray) (i j:Nat):Prop where
 le:i≤j
 hi:j≤l.length
 lo:∀k,k<i→kS t (g9 l k)=true
 up:∀k,j≤k→k<l.length→kS t (g9 l k)=false
theorem afW {i j:Nat} (h:i+j≤140737488351232):IntKind.i64.wrap ((IntKind.u64.wrap (wrap64 ((i:Int)+(j:Int)))).fdiv (2 ^ min (Int.toNat 1) IntKind.u64.bits))=(((i+j) / 2:Nat):Int):=by
 have h1:wrap64 ((i:Int)+(j:Int))=((i+j:Nat):Int):=by simp only [wrap64];omega
 have h2:IntKind.u64.wrap (((i+j:Nat):Int))=((i+j:Nat):Int):=by
  simp only [IntKind.wrap,IntKind.bits,IntKind.signed]
  simp
  omega
 have h3:((2:Int) ^ min (Int.toNat 1) IntKind.u64.bits)=2:=by decide
 rw [h1,h2,h3]
 have h4:(((i+j:Nat):Int)).fdiv 2=(((i+j) / 2:Nat):Int):=by
  rw [Int.fdiv_eq_ediv_of_nonneg _ (by decide)]
  omega
 rw [h4]
 simp only [IntKind.wrap_i64]
 omega
def aN (t:ByteArray) (l:List ByteArray):Nat:=(l.takeWhile (kS t)).length
def iH (t:ByteArray) (l:List ByteArray):Bool:=decide (aN t l<l.length) && ((g9 l (aN t l)).toList==t.toList)
theorem Bs.pos {l:List ByteArray} {t:ByteArray} {i:Nat} (h:Bs l t i i):aN t l=i:=by
 have h1:=h.hi
 have:=(IZ (p:=kS t) (d:=T.df 9) (l:=l) (i:=i) h1 h.lo (by
  rcases Nat.lt_or_ge i l.length with h2 | h2
  ·exact .inr (h.up i (Nat.le_refl _) h2)
  ·exact .inl (by omega))).1
 unfold aN
 rw [←this,List.length_take]
 omega
theorem bsearch (l:List ByteArray) (t:ByteArray) (hl:l.length≤8388608) (hm:∀a b,a≤b→b<l.length→kS t (g9 l b)=true→kS t (g9 l a)=true):aG T Tryz.prog 172 [.c (.sl 9 l), .c (.sc (.string t))] (.tu [(false,[.sc (.int .i64 (aN t l:Int))]),(false,[.sc (.bool (iH t l))])]):=by
 refine aH hT Tryz.func172 (by kernel_rfl) rfl rfl (fun A=>?_)
 conv=>whnf
 refine dF.mk {p:Nat × Nat // Bs l t p.1 p.2} (fun p=>(0,[(7,i64 p.1.1),(8,i64 p.1.2),(6,i64 l.length),(0,im 9 l),(1, .c (.sc (.string t)))],[])) (fun p=>p.1.2 - p.1.1) ⟨(0,l.length),Nat.zero_le _,Nat.le_refl _,fun k hk=>absurd hk (Nat.not_lt_zero k),fun k h1 h2=>absurd h1 (Nat.not_le_of_lt h2)⟩ (aA [] rfl rfl rfl ⟨⟨rfl,rfl⟩,⟨rfl,rfl⟩,⟨rfl,rfl⟩,⟨rfl,rfl⟩,⟨rfl,rfl⟩,trivial⟩ trivial) ?_
 rintro⟨⟨i,j⟩,hb⟩
 conv=>whnf
 refine Split.mk (fun c=>?_) (fun c=>?_)
 ·have hk2:i<j:=fQ c
  clear c
  have hi:=hb.hi
  have hM:=afW (i:=i) (j:=j) (by simp only at hi;omega)
  have hMt:(IntKind.i64.wrap ((IntKind.u64.wrap (wrap64 ((i:Int)+(j:Int)))).fdiv (2 ^ min (Int.toNat 1) IntKind.u64.bits))).toNat=(i+j) / 2:=by rw [hM];rfl
  have hlt:(i+j) / 2<l.length:=by simp only at hi;omega
  conv=>whnf
  refine Need.mk (by rw [hM];exact idx hlt) ?_
  conv=>whnf
  refine ak.mk _ (ach _ _) ?_
  conv=>whnf
  refine Split.mk (fun c=>?_) (fun c=>?_)
  ·have c1:kS t (g9 l ((i+j) / 2))=true:=(congrArg (fun k=>kS t (g9 l k)) hMt.symm).trans c
   conv=>whnf
   exact bF.mk ⟨⟨((i+j) / 2+1,j),by show(i+j) / 2+1≤j;omega,hi,fun k hk=>hm k ((i+j) / 2) (by omega) hlt c1,hb.up⟩,by show j - ((i+j) / 2+1)<j - i;omega,aA [] rfl rfl rfl ⟨⟨rfl,congrArg i64 (show(((i+j) / 2+1:Nat):Int)=wrap64 (IntKind.i64.wrap ((IntKind.u64.wrap (wrap64 ((i:Int)+(j:Int)))).fdiv (2 ^ min (Int.toNat 1) IntKind.u64.bits))+1) by rw [hM];exact dO hlt (by omega))⟩,⟨rfl,rfl⟩,⟨rfl,rfl⟩,⟨rfl,rfl⟩,⟨rfl,rfl⟩,trivial⟩ trivial⟩
  ·have c1:kS t (g9 l ((i+j) / 2))=false:=(congrArg (fun k=>kS t (g9 l k)) hMt.symm).trans c
   conv=>whnf
   exact bF.mk ⟨⟨(i,(i+j) / 2),by show i≤(i+j) / 2;omega,Nat.le_of_lt hlt,hb.lo,fun k h1 h2=>by
    cases hq:kS t (g9 l k) with
    | false=>rfl
    | true=>rw [hm ((i+j) / 2) k h1 h2 hq] at c1;cases c1⟩,by show(i+j) / 2 - i<j - i;omega,aA [] rfl rfl rfl ⟨⟨rfl,rfl⟩,⟨rfl,congrArg i64 hM.symm⟩,⟨rfl,rfl⟩,⟨rfl,rfl⟩,⟨rfl,rfl⟩,trivial⟩ trivial⟩
 ·have hk2:i=j:=Nat.le_antisymm hb.le (fZ c)
  clear c
  subst hk2
  have hp:=hb.pos
  conv=>whnf
  refine Split.mk (fun c=>?_) (fun c=>?_)
  ·have hlt:i<l.length:=fQ c
   clear c
   conv=>whnf
   refine Need.mk (idx hlt) ?_
   conv=>whnf
   refine Split.mk (fun c=>?_) (fun c=>?_)
   ·conv=>whnf
    exact aC.mk ⟨rfl,rfl⟩ ⟨rfl,rfl⟩ ⟨iv (by rw [hp]),bv (by unfold iH;rw [hp,show((g9 l i).toList==t.toList)=true from c];simp [hlt]),trivial⟩
   ·conv=>whnf
    refine Need.mk (idx hlt) ?_
    conv=>whnf
    refine ak.mk _ (isNaN1 _) ?_
    conv=>whnf
    refine Split.mk (fun e=>jS e) (fun _=>?_)
    conv=>whnf
    exact aC.mk ⟨rfl,rfl⟩ ⟨rfl,rfl⟩ ⟨iv (by rw [hp]),bv (by unfold iH;rw [hp,show((g9 l i).toList==t.toList)=false from c];simp),trivial⟩
  ·have hge:l.length≤i:=fZ c
   clear c
   conv=>whnf
   exact aC.mk ⟨rfl,rfl⟩ ⟨rfl,rfl⟩ ⟨iv (by rw [hp]),bv (by unfold iH;rw [hp];simp;omega),trivial⟩
end Go.Proofs.YtcnfgfomholheaaGreatDoor.Q
end
section
namespace Go.Proofs.YtcnfgfomholheaaGreatDoor.Q
open Go.RowKit Go.Proofs.YtcnfgfomholheaaGreatDoor.Z Go.Proofs.YtcnfgfomholheaaGreatDoor.Pure
set_option linter.unusedVariables false
set_option linter.unusedSimpArgs false
set_option maxRecDepth 100000
set_option maxHeartbeats 4000000
theorem pK:∀(a b:List UInt8),Op.bytesLess a b=true→Op.bytesLess b a=false
 | [],[],h=>by simp [Op.bytesLess] at h
 | [],b::y,_=>rfl
 | a::x,[],h=>by simp [Op.bytesLess] at h
 | a::x,b::y,h=>by
   simp only [Op.bytesLess,Bool.or_eq_true,Bool.and_eq_true,decide_eq_true_eq,beq_iff_eq] at h
   simp only [Op.bytesLess,Bool.or_eq_false_iff,Bool.and_eq_false_iff,decide_eq_false_iff_not,beq_eq_false_iff_ne,ne_eq]
   rcases h with h | ⟨h1,h2⟩
   ·exact⟨fun h'=>absurd (UInt8.lt_trans h h') (UInt8.lt_irrefl _), .inl (fun e=>by subst e;exact UInt8.lt_irrefl _ h)⟩
   ·subst h1
    exact⟨UInt8.lt_irrefl _, .inr (pK x y h2)⟩
theorem y9 (a:List UInt8):Op.bytesLess a a=false:=by
 cases h:Op.bytesLess a a with
 | false=>rfl
 | true=>exact absurd (pK a a h) (by rw [h];decide)
theorem nC:∀(a b c:List UInt8),Op.bytesLess a b=true→Op.bytesLess b c=true→Op.bytesLess a c=true
 | [],[],_,h,_=>by simp [Op.bytesLess] at h
 | a::x,[],_,h,_=>by simp [Op.bytesLess] at h
 | _,b::y,[],_,h=>by simp [Op.bytesLess] at h
 | [],b::y,c::z,_,_=>rfl
 | a::x,b::y,c::z,h,h2=>by
   simp only [Op.bytesLess,Bool.or_eq_true,Bool.and_eq_true,decide_eq_true_eq,beq_iff_eq] at h h2⊢
   rcases h with h | ⟨rfl,h⟩
   ·rcases h2 with h2 | ⟨rfl,h2⟩
    ·exact .inl (UInt8.lt_trans h h2)
    ·exact .inl h
   ·rcases h2 with h2 | ⟨rfl,h2⟩
    ·exact .inl h2
    ·exact .inr ⟨rfl,nC x y z h h2⟩
inductive Tr:SN→Prop
 | mk (n:SN) (hl:n.f0.length=n.f1.length) (hr:n.f0.Pairwise (fun a b=>Op.bytesLess a.toList b.toList=true)) (hk:∀k∈n.f1,Tr k):Tr n
theorem Tr.len {n:SN} (h:Tr n):n.f0.length=n.f1.length:=by cases h;assumption
theorem Tr.kid {n:SN} (h:Tr n):∀k∈n.f1,Tr k:=by cases h;assumption
theorem Tr.rise {n:SN} (h:Tr n):n.f0.Pairwise (fun a b=>Op.bytesLess a.toList b.toList=true):=by cases h;assumption
theorem Tr.up {n:SN} (h:Tr n) (t:ByteArray):∀a b,a≤b→b<n.f0.length→kS t (g9 n.f0 b)=true→kS t (g9 n.f0 a)=true:=by
 cases h with
 | mk _ _ hr _=>
   intro a b hab hb h
   rcases Nat.lt_or_eq_of_le hab with h1 | rfl
   ·have h2:=List.pairwise_iff_getElem.1 hr a b (by omega) hb h1
    rw [show g9 n.f0 b=n.f0[b] from getD_in _ _ _ hb] at h
    have e:=nC _ _ _ h2 h
    rw [←getD_in n.f0 a (T.df 9) (by omega)] at e
    exact e
   ·exact h
theorem wW {t:ByteArray} {l:List ByteArray} (h:iH t l=true):aN t l<l.length:=by
 unfold iH at h
 simp at h
 exact h.1
abbrev sW (n:SN):RS T.Tb:= .ag [.ow 9 n.f0, .ow eN n.f1, .ow eS n.f2]
theorem tl_ {α:Type} (t:α) (ts:List α):((t::ts).drop 1).take ((t::ts).length - 1)=ts:=by simp
end Go.Proofs.YtcnfgfomholheaaGreatDoor.Q
end
section
namespace Go.Proofs.YtcnfgfomholheaaGreatDoor.Q
open Go.RowKit Go.Proofs.YtcnfgfomholheaaGreatDoor.Z Go.Proofs.YtcnfgfomholheaaGreatDoor.Pure
set_option linter.unusedVariables false
set_option linter.unusedSimpArgs false
set_option maxRecDepth 100000
set_option maxHeartbeats 4000000
def oN (p:List ByteArray) (s:SS):SE:=⟨dG p,s.f0,s.f1,s.f2⟩
theorem wX (p:List ByteArray) (n:SN):iI p n=n.f2.map (oN p)++dY p n.f0 n.f1:=Ux p n
theorem vV {p:List ByteArray} {d:ByteArray} {e:SN}:∀{ns:List ByteArray} {ks:List SN} {k:Nat},k<ns.length→k<ks.length→dY p (ns.take (k+1)) (ks.take (k+1))=dY p (ns.take k) (ks.take k)++iI (p++[ns.getD k d]) (ks.getD k e)
 | [],_,_,h,_=>by simp at h
 | _::_,[],_,_,h=>by simp at h
 | x::r,y::q,0,_,_=>by
   simp only [List.take_succ_cons,List.take_zero,dY,List.append_nil,List.nil_append]
   rfl
 | x::r,y::q,k+1,h,h2=>by
   have:=vV (p:=p) (d:=d) (e:=e) (ns:=r) (ks:=q) (k:=k) (by simpa using h) (by simpa using h2)
   simp only [List.take_succ_cons] at this⊢
   rw [dY,dY,this,List.append_assoc]
   rfl
theorem qo {p:List ByteArray}:∀{ns:List ByteArray} {ks:List SN} {k:Nat},(dY p (ns.take k) (ks.take k)).length≤(dY p ns ks).length
 | [],ks,k=>by rw [List.take_nil,dY];exact Nat.zero_le _
 | _::_,[],0=>by rw [List.take_zero,dY];exact Nat.zero_le _
 | _::_,[],k+1=>by rw [List.take_nil,List.take_succ_cons,dY];exact Nat.zero_le _
 | x::r,y::q,0=>by rw [List.take_zero,dY];exact Nat.zero_le _
 | x::r,y::q,k+1=>by
   have:=qo (p:=p) (ns:=r) (ks:=q) (k:=k)
   simp only [List.take_succ_cons,dY,List.length_append]
   omega
theorem CZ {l:List SS} {p:List ByteArray} {k:Nat} {d:SS} (h:k<l.length):(l.take k).map (oN p)++[oN p (l.getD k d)]=(l.take (k+1)).map (oN p):=by
 rw [List.take_succ_eq_append_getElem h,List.map_append,getD_in (α:=SS) l k d h];rfl
theorem P6 (n:SN) (p:List ByteArray) (hn:Bd n) (hl:n.f0.length=n.f1.length) (hp:p.length≤7) (hz:∀x∈p,x.size≤1048576) (hc:(iI p n).length≤4194304)
  (ih:∀i,i<n.f1.length→aG T Tryz.prog 136 [.ag (T.cells eN (bP T eN n.f1 i)), .c (.sl 9 (p++[g9 n.f0 i]))] (.c (.ow eE (iI (p++[g9 n.f0 i]) (bP T eN n.f1 i))))):aG T Tryz.prog 136 [.ag (T.cells eN n), .c (.sl 9 p)] (.c (.ow eE (iI p n))):=by
 have hl2:=hn.l2
 rw [wX] at hc⊢
 rw [List.length_append,List.length_map] at hc
 refine aH hT Tryz.func136 (by kernel_rfl) rfl rfl (fun A=>?_)
 conv=>whnf
 refine dF.mk {k:Nat // k≤n.f2.length} (fun q=>(2,[(14,i64 q.1),(13,i64 n.f2.length),(12,im eS n.f2),(5, .c (.hd 1)),(2, .c (.px 0 0)),(1,im 9 p)],[(1, .row 1 eE ((n.f2.take q.1).map (oN p))),(0,vS n)])) (fun q=>n.f2.length - q.1) ⟨0,Nat.zero_le _⟩ (aA [(1,1),(0,0)] rfl rfl rfl ⟨⟨rfl,rfl⟩,⟨rfl,rfl⟩,⟨rfl,rfl⟩,⟨rfl,rfl⟩,⟨rfl,rfl⟩,⟨rfl,rfl⟩,trivial⟩ ⟨CY rfl,⟨rfl,rfl⟩,trivial⟩) ?_
 rintro⟨k,hk⟩
 conv=>whnf
 refine Split.mk (fun c=>?_) (fun c=>?_)
 ·have hk2:k<n.f2.length:=fQ c
  clear c
  conv=>whnf
  refine Need.mk (idx hk2) ?_
  conv=>whnf
  refine ak.mk _ (P7 p (Nat.le_trans hp (by decide)) (uJ p hp hz)) ?_
  conv=>whnf
  refine Need.mk (bJ (a:=((n.f2.take k).map (oN p)).length) (b:=1) (by rw [List.length_map,List.length_take];omega) (by decide)) ?_
  conv=>whnf
  refine aT.mk ⟨by kernel_rfl,by kernel_rfl⟩ ?_
  conv=>whnf
  exact bF.mk ⟨⟨k+1,hk2⟩,Nat.sub_lt_sub_left hk2 (Nat.lt_succ_self k),aA [(1,5),(0,0)] rfl rfl rfl ⟨⟨rfl,congrArg i64 (dO hk2 (by omega))⟩,⟨rfl,rfl⟩,⟨rfl,rfl⟩,⟨rfl,rfl⟩,⟨rfl,rfl⟩,⟨rfl,rfl⟩,trivial⟩ ⟨CY (CZ (d:=T.df eS) hk2),⟨rfl,rfl⟩,trivial⟩⟩
 ·have hk2:k=n.f2.length:=Nat.le_antisymm hk (fZ c)
  clear c
  subst hk2
  have hl1:=hn.l1
  conv=>whnf
  refine dF.mk {k:Nat // k≤n.f1.length} (fun q=>(2,[(34,i64 q.1),(33,i64 n.f1.length),(32,im eN n.f1),(5, .c (.hd 1)),(2, .c (.px 0 0)),(1,im 9 p)],[(1, .row 1 eE (n.f2.map (oN p)++dY p (n.f0.take q.1) (n.f1.take q.1))),(0,vS n)])) (fun q=>n.f1.length - q.1) ⟨0,Nat.zero_le _⟩ (aA [(1,1),(0,0)] rfl rfl rfl ⟨⟨rfl,rfl⟩,⟨rfl,rfl⟩,⟨rfl,rfl⟩,⟨rfl,rfl⟩,⟨rfl,rfl⟩,⟨rfl,rfl⟩,trivial⟩ ⟨CY (by rw [List.take_length];simp [dY];rfl),⟨rfl,rfl⟩,trivial⟩) ?_
  rintro⟨k,hk⟩
  conv=>whnf
  refine Split.mk (fun c=>?_) (fun c=>?_)
  ·have hk2:k<n.f1.length:=fQ c
   have hk3:k<n.f0.length:=by omega
   clear c
   conv=>whnf
   refine Need.mk (idx hk2) ?_
   conv=>whnf
   refine Need.mk ⟨rQ,bJ (a:=0) (b:=p.length) (by omega) (by decide)⟩ ?_
   conv=>whnf
   refine Need.mk (idx hk3) ?_
   conv=>whnf
   refine Need.mk (bJ (a:=p.length) (b:=1) (by omega) (by decide)) ?_
   conv=>whnf
   refine ak.mk _ (ih k hk2) ?_
   conv=>whnf
   have hsn:=vV (p:=p) (d:=T.df 9) (e:=T.df eN) hk3 hk2
   have hle:=qo (p:=p) (ns:=n.f0) (ks:=n.f1) (k:=k+1)
   rw [hsn,List.length_append] at hle
   refine Need.mk (bJ (a:=(n.f2.map (oN p)++dY p (n.f0.take k) (n.f1.take k)).length) (b:=(iI (p++[g9 n.f0 k]) (bP T eN n.f1 k)).length) (by rw [List.length_append,List.length_map];have hle':_+(iI (p++[g9 n.f0 k]) (bP T eN n.f1 k)).length≤_:=hle;omega) (by decide)) ?_
   conv=>whnf
   refine aT.mk ⟨by kernel_rfl,by kernel_rfl⟩ ?_
   conv=>whnf
   exact bF.mk ⟨⟨k+1,hk2⟩,Nat.sub_lt_sub_left hk2 (Nat.lt_succ_self k),aA [(1,8),(0,0)] rfl rfl rfl ⟨⟨rfl,congrArg i64 (dO hk2 (by omega))⟩,⟨rfl,rfl⟩,⟨rfl,rfl⟩,⟨rfl,rfl⟩,⟨rfl,rfl⟩,⟨rfl,rfl⟩,trivial⟩ ⟨CY (show(n.f2.map (oN p)++dY p (n.f0.take k) (n.f1.take k))++iI (p++[g9 n.f0 k]) (bP T eN n.f1 k)=n.f2.map (oN p)++dY p (n.f0.take (k+1)) (n.f1.take (k+1)) by rw [hsn,List.append_assoc];rfl),⟨rfl,rfl⟩,trivial⟩⟩
  ·have hk2:k=n.f1.length:=Nat.le_antisymm hk (fZ c)
   clear c
   conv=>whnf
   exact aC.mk ⟨rfl,rfl⟩ ⟨rfl,rfl⟩ ⟨CY (by show n.f2.map (oN p)++dY p (n.f0.take k) (n.f1.take k)=_;rw [hk2,List.take_length,←hl,List.take_length]),trivial⟩
theorem Nz {p:List ByteArray} {n:SN} {i:Nat} (h:i<n.f1.length) (hl:n.f0.length=n.f1.length):(iI (p++[g9 n.f0 i]) (bP T eN n.f1 i)).length≤(iI p n).length:=by
 have h3:i<n.f0.length:=by omega
 have hsn:=vV (p:=p) (d:=T.df 9) (e:=T.df eN) h3 h
 have hle:=qo (p:=p) (ns:=n.f0) (ks:=n.f1) (k:=i+1)
 rw [hsn,List.length_append] at hle
 rw [wX,List.length_append]
 have hle':_+(iI (p++[g9 n.f0 i]) (bP T eN n.f1 i)).length≤_:=hle
 omega
theorem P8 {l:List ByteArray} {i:Nat} (h:i<l.length):g9 l i∈l:=getD_mem (l:=l) (d:=T.df 9) h
theorem zG {l:List SN} {i:Nat} (h:i<l.length):bP T eN l i∈l:=getD_mem (l:=l) (d:=T.df eN) h
inductive Dp:Nat→SN→Prop
 | mk (d:Nat) (n:SN) (h:n.f1≠[]→0<d) (hk:∀k∈n.f1,Dp (d - 1) k):Dp d n
theorem Dp.pos {d:Nat} {n:SN} (h:Dp d n) (hne:n.f1≠[]):0<d:=by cases h with | mk _ _ h _=>exact h hne
theorem Dp.kid {d:Nat} {n:SN} (h:Dp d n):∀k∈n.f1,Dp (d - 1) k:=by cases h with | mk _ _ _ h=>exact h
theorem entriesOf:∀(n:SN) (p:List ByteArray) (d:Nat),Bd n→Tr n→Dp d n→p.length+d≤7→(∀x∈p,x.size≤1048576)→(iI p n).length≤4194304→aG T Tryz.prog 136 [.ag (T.cells eN n), .c (.sl 9 p)] (.c (.ow eE (iI p n))):=fun n p d hn ht hd hp hz hc=>
 P6 n p hn ht.len (by omega) hz hc (fun i hi=>by
  have hm:bP T eN n.f1 i∈n.f1:=zG hi
  have h9:g9 n.f0 i∈n.f0:=P8 (by rw [ht.len];exact hi)
  have hpos:=hd.pos (fun e=>by rw [e] at hi;simp at hi)
  have hx:(bP T eN n.f1 i:SN)∈n.f1:=hm
  exact entriesOf (bP T eN n.f1 i) (p++[g9 n.f0 i]) (d - 1) (hn.kid _ hm) (ht.kid _ hm) (hd.kid _ hm) (by rw [List.length_append];show p.length+1+(d - 1)≤7;omega) (fun y hy=>(List.mem_append.1 hy).elim (hz y) (fun h=>by rw [List.mem_singleton.1 h];exact hn.z0 _ h9)) (Nat.le_trans (Nz hi ht.len) hc))
termination_by n=>SizeOf.sizeOf n
decreasing_by exact kG hm
theorem Gv (n:SN) (hn:Bd n) (hg:fH n=true→Tr n∧Dp 7 n) (hc:(jl n).length≤4194304):aG T Tryz.prog 71 [.ag (T.cells eN n)] (.c (.ow eE (jl n))):=by
 refine aH hT Tryz.func71 (by kernel_rfl) rfl rfl (fun A=>?_)
 conv=>whnf
 refine ak.mk _ (Ap n hn) ?_
 conv=>whnf
 refine Split.mk (fun c=>?_) (fun c=>?_)
 ·have h0:fH n=false:=bU c
  conv=>whnf
  exact aC.mk ⟨rfl,rfl⟩ ⟨rfl,rfl⟩ ⟨⟨rfl,show jl n=[] by unfold jl;rw [h0];rfl⟩,trivial⟩
 ·have h0:fH n=true:=dn c
  have he:jl n=iI [] n:=by unfold jl;rw [if_pos h0]
  rw [he] at hc⊢
  conv=>whnf
  refine ak.mk _ (NC (entriesOf n [] 7 hn (hg h0).1 (hg h0).2 (by decide) (fun x hx=>by cases hx) hc)) ?_
  conv=>whnf
  exact aC.mk ⟨rfl,rfl⟩ ⟨rfl,rfl⟩ ⟨rfl,trivial⟩
end Go.Proofs.YtcnfgfomholheaaGreatDoor.Q
end
section
namespace Go.Proofs.YtcnfgfomholheaaGreatDoor.Q
open Go.RowKit Go.Proofs.YtcnfgfomholheaaGreatDoor.Z Go.Proofs.YtcnfgfomholheaaGreatDoor.Pure
set_option linter.unusedVariables false
set_option linter.unusedSimpArgs false
set_option maxRecDepth 100000
set_option maxHeartbeats 4000000
end Go.Proofs.YtcnfgfomholheaaGreatDoor.Q
end
section
namespace Go.Proofs.YtcnfgfomholheaaGreatDoor.Q
open Go.RowKit Go.Proofs.YtcnfgfomholheaaGreatDoor.Z Go.Proofs.YtcnfgfomholheaaGreatDoor.Pure
set_option linter.unusedVariables false
set_option linter.unusedSimpArgs false
set_option maxRecDepth 100000
set_option maxHeartbeats 4000000
theorem TB (n:SN) (hn:Bd n) (ih:∀k∈n.f1,aG T Tryz.prog 95 [.ag (T.cells eN k)] (sW k)):aG T Tryz.prog 95 [.ag (T.cells eN n)] (sW n):=by
 have hl0:=hn.l0
 have hl1:=hn.l1
 have hl2:=hn.l2
 refine kK hT Tryz.func95 (by kernel_rfl) rfl rfl (fun A=>?_)
 refine Vc.seq 0 hT ?_
 conv=>whnf
 refine Vc.seq 2 hT ?_
 conv=>whnf
 refine Need.mk ⟨rQ,bJ (a:=0) (b:=n.f0.length) (by omega) (by decide)⟩ ?_
 conv=>whnf
 refine Need.mk ⟨O8,bJ (a:=0) (b:=n.f2.length) (by omega) (by decide)⟩ ?_
 conv=>whnf
 refine aT.mk ⟨by kernel_rfl,by kernel_rfl⟩ ?_
 conv=>whnf
 refine Vc.of 10 hT ?_
 conv=>whnf
 refine dF.mk {k:Nat // k≤n.f1.length} (fun p=>(8,[(4,i64 p.1),(3, .c (.px 6 0)),(2, .c (.px 1 0)),(1, .c (.px 0 0))],[(6, .bx eN [.hd 3, .hd 7, .hd 5]),(3, .row 3 9 n.f0),(7, .row 7 eN (n.f1.take p.1)),(5, .row 5 eS n.f2),(1,Uy),(0,vS n)])) (fun p=>n.f1.length - p.1) ⟨0,Nat.zero_le _⟩ ((P9 6 1 20 eN (t:=eN) (cs:=[.hd 3, .sc (.slice none 0 0), .hd 5]) rfl rfl rfl).trans (aA [(6,6),(3,3),(7,20),(5,5),(1,1),(0,0)] rfl rfl rfl ⟨⟨rfl,rfl⟩,⟨rfl,rfl⟩,⟨rfl,rfl⟩,⟨rfl,rfl⟩,trivial⟩ ⟨⟨rfl,rfl⟩,jc rfl,iT rfl,iC rfl,⟨rfl,rfl⟩,⟨rfl,rfl⟩,trivial⟩)) ?_
 rintro⟨k,hk⟩
 conv=>whnf
 refine Split.mk (fun c=>?_) (fun c=>?_)
 ·have hk2:k<n.f1.length:=fQ c
  clear c
  conv=>whnf
  refine Need.mk (idx hk2) ?_
  conv=>whnf
  refine ak.mk _ (ih _ (zG hk2)) ?_
  conv=>whnf
  refine Need.mk (bJ (a:=(n.f1.take k).length) (b:=1) (by rw [List.length_take];omega) (by decide)) ?_
  conv=>whnf
  exact bF.mk ⟨⟨k+1,hk2⟩,Nat.sub_lt_sub_left hk2 (Nat.lt_succ_self k),aA [(6,6),(3,3),(7,13),(5,5),(1,1),(0,0)] rfl rfl rfl ⟨⟨rfl,congrArg i64 (dO hk2 (by omega))⟩,⟨rfl,rfl⟩,⟨rfl,rfl⟩,⟨rfl,rfl⟩,trivial⟩ ⟨⟨rfl,rfl⟩,jc rfl,iT (take_snoc hk2),iC rfl,⟨rfl,rfl⟩,⟨rfl,rfl⟩,trivial⟩⟩
 ·have hk2:k=n.f1.length:=Nat.le_antisymm hk (fZ c)
  subst hk2
  conv=>whnf
  exact aC.mk ⟨rfl,rfl⟩ ⟨rfl,rfl⟩ ⟨rfl,iT (List.take_length),rfl,trivial⟩
theorem sZ:∀(n:SN),Bd n→aG T Tryz.prog 95 [.ag (T.cells eN n)] (sW n):=fun n hn=>
 TB n hn (fun k hk=>sZ k (by cases hn with | mk _ _ _ _ _ _ h=>exact h k hk))
termination_by n=>SizeOf.sizeOf n
decreasing_by exact kG hk
end Go.Proofs.YtcnfgfomholheaaGreatDoor.Q
end
section
namespace Go.Proofs.YtcnfgfomholheaaGreatDoor.Q
open Go.RowKit Go.Proofs.YtcnfgfomholheaaGreatDoor.Z Go.Proofs.YtcnfgfomholheaaGreatDoor.Pure
set_option linter.unusedVariables false
set_option linter.unusedSimpArgs false
set_option maxRecDepth 100000
set_option maxHeartbeats 4000000
abbrev Dv (n:SN):RS T.Tb:= .ag [.im 9 n.f0, .im eN n.f1, .im eS n.f2]
def gS (l:List SS) (i:Nat):SS:=l.getD i (T.df eS)
def gN (l:List SN) (i:Nat):SN:=l.getD i (T.df eN)
end Go.Proofs.YtcnfgfomholheaaGreatDoor.Q
end
section
namespace Go.Proofs.YtcnfgfomholheaaGreatDoor.Q
open Go.RowKit Go.Proofs.YtcnfgfomholheaaGreatDoor.Z Go.Proofs.YtcnfgfomholheaaGreatDoor.Pure
set_option linter.unusedVariables false
set_option linter.unusedSimpArgs false
def kN (n:SN):List (ByteArray × SN):=n.f0.zip n.f1
abbrev mF (a b:ByteArray):Prop:=Op.bytesLess a.toList b.toList=true
theorem wK {a:ByteArray} (h:mF a a):False:=by unfold mF at h;rw [y9] at h;cases h
theorem KW {n:SN} (h:Tr n):(kN n).map (·.1)=n.f0:=by unfold kN;exact List.map_fst_zip (by rw [h.len];exact Nat.le_refl _)
theorem KX {n:SN} (h:Tr n):(kN n).map (·.2)=n.f1:=by unfold kN;exact List.map_snd_zip (by rw [h.len];exact Nat.le_refl _)
theorem aai {n:SN} (h:Tr n):(kN n).Pairwise (fun a b=>mF a.1 b.1):=by
 have:=h.rise
 rw [←KW h] at this
 exact List.pairwise_map.1 this
theorem Uz {n:SN} {x:ByteArray × SN} (h:x∈kN n):x.2∈n.f1:=(List.of_mem_zip (a:=x.1) (b:=x.2) h).2
theorem pos_at {l:List ByteArray} {t:ByteArray} {i:Nat} (hr:l.Pairwise mF) (h:l[i]? =some t):aN t l=i∧iH t l=true:=by
 obtain⟨hi,rfl⟩:=List.getElem?_eq_some_iff.1 h
 have h1:=(IZ (p:=kS l[i]) (d:=T.df 9) (l:=l) (i:=i) (Nat.le_of_lt hi) (fun j hj=>by
  have e:l.getD j (T.df 9)=l[j]:=getD_in l j (T.df 9) (by omega)
  rw [e]
  exact List.pairwise_iff_getElem.1 hr j i (by omega) hi hj) (.inr (by
  have e:l.getD i (T.df 9)=l[i]:=getD_in l i (T.df 9) hi
  rw [e]
  exact y9 _))).1
 have h2:aN l[i] l=i:=by
  unfold aN
  rw [←h1,List.length_take];omega
 refine⟨h2,?_⟩
 unfold iH
 rw [h2,show g9 l i=l[i] from getD_in l i (T.df 9) hi]
 simp [hi]
theorem XZ {l:List ByteArray} {t:ByteArray} (h:iH t l=true):l[aN t l]? =some t:=by
 have hp:=wW h
 unfold iH at h
 simp only [Bool.and_eq_true,decide_eq_true_eq] at h
 have h2:=aaj h.2
 rw [show g9 l (aN t l)=l[aN t l] from getD_in l _ (T.df 9) hp] at h2
 rw [List.getElem?_eq_getElem hp,h2]
def kT:List ByteArray→SN→List SS
 | [],n=>n.f2
 | t::ts,n=>bif iH t n.f0 then kT ts (gN n.f1 (aN t n.f0)) else []
theorem adv {n:SN} (ht:Tr n) {t:ByteArray} {k:SN} (h:(t,k)∈kN n):iH t n.f0=true∧gN n.f1 (aN t n.f0)=k:=by
 obtain⟨i,hi,e⟩:=List.mem_iff_getElem.1 h
 have hi':i<n.f0.length∧i<n.f1.length:=by unfold kN at hi;rw [List.length_zip] at hi;omega
 have e':(n.f0[i],n.f1[i])=(t,k):=by rw [←e];exact(List.getElem_zip (h:=hi)).symm
 cases e'
 obtain⟨h1,h2⟩:=pos_at (i:=i) ht.rise (List.getElem?_eq_getElem hi'.1)
 refine⟨h2,?_⟩
 rw [h1]
 exact getD_in n.f1 i (T.df eN) hi'.2
theorem adw {n:SN} (ht:Tr n) {t:ByteArray} {k:SN} (h:(t,k)∈kN n) (ts:List ByteArray):kT (t::ts) n=kT ts k:=by
 obtain⟨h1,h2⟩:=adv ht h
 rw [kT,h1,h2];rfl
theorem UA {n:SN} (ht:Tr n) {t:ByteArray} (h:iH t n.f0=true):(t,gN n.f1 (aN t n.f0))∈kN n:=by
 have h1:=XZ h
 obtain⟨h2,h3⟩:=List.getElem?_eq_some_iff.1 h1
 have h4:aN t n.f0<n.f1.length:=by rw [←ht.len];exact h2
 refine List.mem_iff_getElem.2 ⟨aN t n.f0,by unfold kN;rw [List.length_zip];omega,?_⟩
 unfold kN
 rw [List.getElem_zip,h3]
 exact congrArg (Prod.mk t) (getD_in n.f1 _ (T.df eN) h4).symm
inductive Gd:SN→Prop
 | mk (n:SN) (ht:Tr n) (hf:∀k∈n.f1,k.f1≠[]∨k.f2≠[]) (hk:∀k∈n.f1,Gd k):Gd n
theorem Gd.tr {n:SN} (h:Gd n):Tr n:=by cases h;assumption
theorem Gd.full {n:SN} (h:Gd n):∀k∈n.f1,k.f1≠[]∨k.f2≠[]:=by cases h;assumption
theorem Gd.kid {n:SN} (h:Gd n):∀k∈n.f1,Gd k:=by cases h;assumption
theorem UC:∀(n:SN),Gd n→(n.f1≠[]∨n.f2≠[])→∃p,kT p n≠[]:=fun n hg hne=>by
 rcases hne with h | h
 ·obtain⟨k,hk⟩:=List.exists_mem_of_ne_nil _ h
  obtain⟨p,hp⟩:=UC k (hg.kid k hk) (hg.full k hk)
  have h1:k∈(kN n).map (·.2):=by rw [KX hg.tr];exact hk
  obtain⟨⟨t,k'⟩,h2,rfl⟩:=List.mem_map.1 h1
  exact⟨t::p,by rw [adw hg.tr h2];exact hp⟩
 ·exact⟨[],h⟩
termination_by n=>SizeOf.sizeOf n
decreasing_by exact kG hk
end Go.Proofs.YtcnfgfomholheaaGreatDoor.Q
end
section
namespace Go.Proofs.YtcnfgfomholheaaGreatDoor.Q
open Go.RowKit Go.Proofs.YtcnfgfomholheaaGreatDoor.Z Go.Proofs.YtcnfgfomholheaaGreatDoor.X Go.Proofs.YtcnfgfomholheaaGreatDoor.Pure
set_option linter.unusedVariables false
set_option linter.unusedSimpArgs false
theorem ND {p:List ByteArray}:∀{ns:List ByteArray} {y:Option ByteArray} {ks:List SN},ns.length=ks.length→lN p ns y ks=true→ns.Pairwise mF∧∀x∈ns,lD y x=true
 | [],y,ks,_,_=>⟨.nil,fun x hx=>by cases hx⟩
 | x::r,y,[],h,_=>by simp at h
 | x::r,y,k::q,h,ho=>by
   obtain⟨h1,_,_,_,h5⟩:=qX.1 ho
   obtain⟨a,b⟩:=ND (by simpa using h) h5
   refine⟨List.pairwise_cons.2 ⟨fun z hz=>b z hz,a⟩,fun z hz=>?_⟩
   rcases List.mem_cons.1 hz with rfl | hz
   ·exact h1
   ·cases y with
    | none=>rfl
    | some y=>exact nC _ _ _ h1 (b z hz)
theorem Fp {p:List ByteArray}:∀{ns:List ByteArray} {y:Option ByteArray} {ks:List SN},lN p ns y ks=true→∀x k,(x,k)∈ns.zip ks→wY x k=true∧(k.f1.length≠0∨k.f2.length≠0)∧okI (p++[x]) k=true
 | [],y,ks,_,x,k,h=>by simp at h
 | x::r,y,[],_,x',k',h=>by simp at h
 | x::r,y,k::q,ho,x',k',h=>by
   obtain⟨_,h2,h3,h4,h5⟩:=qX.1 ho
   rw [List.zip_cons_cons] at h
   rcases List.mem_cons.1 h with h | h
   ·cases h;exact⟨h2,h3,h4⟩
   ·exact Fp h5 x' k' h
theorem aci {n:SN} (hl:n.f0.length=n.f1.length) {k:SN} (hk:k∈n.f1):∃x,(x,k)∈kN n:=by
 have:k∈(kN n).map (·.2):=by unfold kN;rw [List.map_snd_zip (by omega)];exact hk
 obtain⟨⟨x,k'⟩,h,rfl⟩:=List.mem_map.1 this
 exact⟨x,h⟩
theorem yE:∀(n:SN) (p:List ByteArray),okI p n=true→Gd n∧Dp (7 - p.length) n:=fun n p h=>by
 obtain⟨h1,h2,h3,h4,h5⟩:=jP.1 h
 have hk:∀k∈n.f1,(Gd k∧Dp (7 - (p.length+1)) k)∧(k.f1≠[]∨k.f2≠[])∧p.length+1≤6:=fun k hk=>by
  obtain⟨x,hx⟩:=aci h1 hk
  obtain⟨_,a2,a3⟩:=Fp h5 x k hx
  have:=yE k (p++[x]) a3
  have h7:=(jP.1 a3).2.1
  rw [List.length_append] at this h7
  refine⟨this,a2.imp (fun h e=>h (by rw [e];rfl)) (fun h e=>h (by rw [e];rfl)),h7⟩
 refine⟨.mk n (.mk n h1 (ND h1 h5).1 (fun k h=>(hk k h).1.1.tr)) (fun k h=>(hk k h).2.1) (fun k h=>(hk k h).1.1), .mk _ n (fun hne=>?_) (fun k h=>?_)⟩
 ·obtain⟨k,h⟩:=List.exists_mem_of_ne_nil _ hne
  have:=(hk k h).2.2
  omega
 ·have:=(hk k h).1.2
  rw [show 7 - p.length - 1=7 - (p.length+1) by omega]
  exact this
termination_by n=>SizeOf.sizeOf n
decreasing_by exact kG hk
theorem yF {n:SN} (h:fH n=true):okI [] n=true∧n.f2=[]:=by
 unfold fH at h
 simp only [Bool.and_eq_true,decide_eq_true_eq] at h
 exact⟨h.2,List.length_eq_zero_iff.1 h.1⟩
theorem lF {n:SN} (h:fH n=true):Tr n∧Dp 7 n:=by
 have:=yE n [] (yF h).1
 exact⟨this.1.tr,this.2⟩
theorem X0 {a b:ByteArray} (h:dl a=dl b):a=b:=by
 cases a;cases b
 congr 1
 exact Array.ext' h
theorem NG {p:List ByteArray} {e:SE}:∀{ns:List ByteArray} {ks:List SN} {x:ByteArray} {k:SN},(x,k)∈ns.zip ks→e∈iI (p++[x]) k→e∈dY p ns ks
 | [],ks,x,k,h,_=>by simp at h
 | x::r,[],_,_,h,_=>by simp at h
 | x::r,k::q,x',k',h,he=>by
   rw [dY]
   rw [List.zip_cons_cons] at h
   rcases List.mem_cons.1 h with h | h
   ·cases h;exact List.mem_append_left _ he
   ·exact List.mem_append_right _ (NG h he)
theorem Qa:∀(q:List ByteArray) (n:SN) (p:List ByteArray),Tr n→∀s∈kT q n,oN (p++q) s∈iI p n
 | [],n,p,ht,s,hs=>by
   rw [wX,List.append_nil]
   exact List.mem_append_left _ (List.mem_map.2 ⟨s,hs,rfl⟩)
 | t::ts,n,p,ht,s,hs=>by
   rw [kT] at hs
   cases hf:iH t n.f0 with
   | false=>rw [hf] at hs;cases hs
   | true=>
     rw [hf] at hs
     have h1:=UA ht hf
     have h2:=Qa ts (gN n.f1 (aN t n.f0)) (p++[t]) (ht.kid _ (Uz h1)) s hs
     rw [wX]
     refine List.mem_append_right _ (NG h1 ?_)
     rw [List.append_assoc] at h2
     exact h2
end Go.Proofs.YtcnfgfomholheaaGreatDoor.Q
end
section
namespace Go.Proofs.YtcnfgfomholheaaGreatDoor.Q
open Go.RowKit Go.Proofs.YtcnfgfomholheaaGreatDoor.Z Go.Proofs.YtcnfgfomholheaaGreatDoor.X Go.Proofs.YtcnfgfomholheaaGreatDoor.Pure
set_option linter.unusedVariables false
set_option linter.unusedSimpArgs false
theorem X4 {n:SN} (ht:Tr n) {i:Nat} (hi:i<n.f1.length) (K:SN):∃A B t k,kN n=A++(t,k)::B∧n.f0[i]? =some t∧n.f1[i]? =some k∧kN ⟨n.f0.take i++n.f0.drop (i+1),n.f1.take i++n.f1.drop (i+1),n.f2⟩=A++B∧kN ⟨n.f0,n.f1.set i K,n.f2⟩=A++(t,K)::B:=by
 have hi0:i<n.f0.length:=by rw [ht.len];exact hi
 have hl:(n.f0.take i).length=(n.f1.take i).length:=by rw [List.length_take,List.length_take,ht.len]
 have e0:n.f0=n.f0.take i++n.f0[i]::n.f0.drop (i+1):=by rw [←List.drop_eq_getElem_cons hi0,List.take_append_drop]
 have e1:n.f1=n.f1.take i++n.f1[i]::n.f1.drop (i+1):=by rw [←List.drop_eq_getElem_cons hi,List.take_append_drop]
 refine⟨(n.f0.take i).zip (n.f1.take i),(n.f0.drop (i+1)).zip (n.f1.drop (i+1)),n.f0[i],n.f1[i],?_,List.getElem?_eq_getElem hi0,List.getElem?_eq_getElem hi,?_,?_⟩
 ·unfold kN
  rw [←List.zip_cons_cons,←List.zip_append hl,←e0,←e1]
 ·unfold kN
  exact List.zip_append hl
 ·unfold kN
  rw [←List.zip_cons_cons,←List.zip_append hl,←e0]
  congr 1
  rw [List.set_eq_take_append_cons_drop,if_pos hi]
theorem X5 {A B:List (ByteArray × SN)} {t:ByteArray} {k:SN} (h:(A++(t,k)::B).Pairwise (fun a b=>mF a.1 b.1)):∀x,x∈A++B→x.1≠t:=fun x hx e=>by
 obtain⟨_,h1,h2⟩:=List.pairwise_append.1 h
 rcases List.mem_append.1 hx with hx | hx
 ·have:=h2 x hx (t,k) List.mem_cons_self
  rw [e] at this
  exact wK this
 ·have:=(List.pairwise_cons.1 h1).1 x hx
  rw [e] at this
  exact wK this
end Go.Proofs.YtcnfgfomholheaaGreatDoor.Q
end
section
namespace Go.Proofs.YtcnfgfomholheaaGreatDoor.Q
open Go.RowKit Go.Proofs.YtcnfgfomholheaaGreatDoor.Z Go.Proofs.YtcnfgfomholheaaGreatDoor.X Go.Proofs.YtcnfgfomholheaaGreatDoor.Pure
set_option linter.unusedVariables false
set_option linter.unusedSimpArgs false
theorem Qb:∀(l:List SS) (k:Nat),(bg dU l k).2=k+3*l.length
 | [],k=>rfl
 | p::l,k=>by
   show(bg dU l (k+3)).2=_
   rw [Qb l (k+3),List.length_cons];omega
mutual
theorem KY:∀(n:SN) (k:Nat),(bQ n k).2≤k+3*cnt n
 | ⟨a,b,c⟩,k=>by
   rw [bQ,cnt]
   show(bg dU c (tq b (k+1*a.length)).2).2≤_
   rw [Qb]
   have:=Qc b (k+1*a.length)
   omega
theorem Qc:∀(l:List SN) (k:Nat),(tq l k).2≤k+3*jW l
 | [],k=>by rw [tq,jW];exact Nat.le_refl _
 | p::l,k=>by
   rw [tq,jW]
   show(tq l (bQ p k).2).2≤_
   have h1:=KY p k
   have h2:=Qc l (bQ p k).2
   omega
end
theorem nX {n:Nat} {x:Int} (h:0≤dM n x):dM n x+n≤x:=by unfold dM at*;split at h<;>(try split)<;>omega
def sumF {α:Type} (g:α→Nat):List α→Nat
 | []=>0
 | a::l=>g a+sumF g l
theorem UD {α:Type} {F:α→Int→Int} {g:α→Nat}:∀{l:List α} {x:Int},(∀a∈l,∀x,0≤x→0≤F a x→F a x+g a≤x)→0≤x→0≤iF F l x→iF F l x+sumF g l≤x
 | [],x,_,_,_=>by show x+((0:Nat):Int)≤x;omega
 | a::l,x,hF,h0,h=>by
   obtain⟨h1,h2⟩:=mG h
   have e:iF F (a::l) x=iF F l (F a x):=Aq h1
   have h3:=hF a List.mem_cons_self x h0 h1
   have h4:=UD (g:=g) (l:=l) (fun b hb=>hF b (List.mem_cons_of_mem _ hb)) h1 h2
   rw [e]
   show _+((g a+sumF g l:Nat):Int)≤x
   omega
theorem wL {α:Type} {F:α→Int→Int}:∀{l:List α} {x:Int},(∀a∈l,∀x,0≤x→F a x≤x)→0≤x→0≤iF F l x→∀a∈l,∃v,0≤v∧v≤x∧0≤F a v
 | [],x,_,_,_,a,ha=>by cases ha
 | b::l,x,hF,h0,h,a,ha=>by
   obtain⟨h1,h2⟩:=mG h
   rcases List.mem_cons.1 ha with rfl | ha
   ·exact⟨x,h0,Int.le_refl _,h1⟩
   ·have h3:=hF b List.mem_cons_self x h0
    obtain⟨v,v1,v2,v3⟩:=wL (l:=l) (fun b hb=>hF b (List.mem_cons_of_mem _ hb)) h1 h2 a ha
    exact⟨v,v1,by omega,v3⟩
theorem UE:∀l:List LN,sumF (fun a=>cnt (tN a)) l=jW (l.map tN)
 | []=>by rw [List.map_nil,jW];rfl
 | a::l=>by rw [List.map_cons,jW,←UE l];rfl
theorem UF {l:List ByteArray} {x:Int} (h0:0≤x) (h:0≤Gw l x):Gw l x+l.length≤x:=by
 obtain⟨h1,h2⟩:=mG h
 have e:Gw l x=_:=Aq h1
 have h3:=nX h1
 have h4:=rU (F:=fun y:ByteArray=>dM y.size) (l:=l) (fun a _ x hx=>jo hx) h1
 rw [e];omega
theorem UG {l:List LS} {x:Int} (h0:0≤x) (h:0≤C9 l x):C9 l x+l.length≤x:=by
 obtain⟨h1,h2⟩:=mG h
 have e:C9 l x=_:=Aq h1
 have h3:=nX h1
 have h4:=rU (F:=fun y:LS=>dM y.f0.size) (l:=l) (fun a _ x hx=>jo hx) h1
 rw [e];omega
theorem NH {a:LN} {x:Int} (h0:0≤x) (h:0≤nS a x):∃x1 x2 x3:Int,Gw a.f0 x=x1∧0≤x1∧x1≤x∧dM a.f1.length x1=x2∧0≤x2∧x2≤x1∧iF nS a.f1 x2=x3∧0≤x3∧x3≤x2∧0≤C9 a.f2 x3∧nS a x=C9 a.f2 x3:=by
 rw [Qd] at h⊢
 obtain⟨h1,h2⟩:=mG h
 obtain⟨h3,h4⟩:=mG h2
 obtain⟨h5,h6⟩:=mG h3
 have e1:=Aq (K:=fun x=>thenS (thenS (dM a.f1.length x) (iF nS a.f1)) fun x=>C9 a.f2 x) h1
 have e2:=Aq (K:=fun x=>C9 a.f2 x) h3
 have e3:=Aq (K:=iF nS a.f1) h5
 refine⟨_,_,_,rfl,h1,Qe h0,rfl,h5,jo h1,rfl,h6,rU (fun b _ y hy=>wZ b hy) h5,?_,?_⟩
 ·rw [←e3];exact h4
 ·rw [e1,e2,e3]
theorem UH:∀(a:LN) (x:Int),0≤x→0≤nS a x→nS a x+cnt (tN a)≤x:=fun a x h0 h=>by
 obtain⟨x1,x2,x3,e1,a1,b1,e2,a2,b2,e3,a3,b3,h4,e⟩:=NH h0 h
 have g1:=UF h0 (by rw [e1];exact a1)
 have g2:=UD (F:=nS) (g:=fun a=>cnt (tN a)) (l:=a.f1) (fun k hk y hy hz=>UH k y hy hz) a2 (by rw [e3];exact a3)
 have g3:=UG a3 h4
 rw [e1] at g1
 rw [e3,UE] at g2
 rw [e,VK,xg]
 show _+(((a.f0.length+(a.f2.map tS).length+jW (a.f1.map tN):Nat)):Int)≤x
 rw [List.length_map]
 omega
termination_by a=>SizeOf.sizeOf a
decreasing_by exact zH hk
theorem X6:∀(a:LN) (x:Int),0≤x→x≤1048576→0≤nS a x→Bd (tN a)∧Qg a:=fun a x h0 hx h=>by
 obtain⟨x1,x2,x3,e1,a1,b1,e2,a2,b2,e3,a3,b3,h4,e⟩:=NH h0 h
 have h1:0≤Gw a.f0 x:=by rw [e1];exact a1
 have g1:=UF h0 h1
 have g3:=UG a3 h4
 have g2:=nX (n:=a.f1.length) (x:=x1) (by rw [e2];exact a2)
 rw [e1] at g1
 rw [e2] at g2
 have z0:∀y∈a.f0,y.size≤1048576:=fun y hy=>by
  obtain⟨q1,q2⟩:=mG h1
  obtain⟨v,v1,v2,v3⟩:=wL (F:=fun y:ByteArray=>dM y.size) (fun a _ x hx=>jo hx) q1 q2 y hy
  have:=nX v3
  have:=jo (n:=a.f0.length) h0
  omega
 have z2:∀y∈a.f2,y.f0.size≤1048576:=fun y hy=>by
  obtain⟨q1,q2⟩:=mG h4
  obtain⟨v,v1,v2,v3⟩:=wL (F:=fun y:LS=>dM y.f0.size) (fun a _ x hx=>jo hx) q1 q2 y hy
  have:=nX v3
  have:=jo (n:=a.f2.length) a3
  omega
 have hk:∀k∈a.f1,Bd (tN k)∧Qg k:=fun k hk=>by
  obtain⟨v,v1,v2,v3⟩:=wL (F:=nS) (fun b _ y hy=>wZ b hy) a2 (by rw [e3];exact a3) k hk
  exact X6 k v v1 (by omega) v3
 refine⟨?_, .mk a (by omega) (by omega) (by omega) (fun k h=>(hk k h).2)⟩
 rw [VK]
 refine .mk _ (by show a.f0.length≤_;omega) z0 (by show(a.f1.map tN).length≤_;rw [List.length_map];omega) (by show(a.f2.map tS).length≤_;rw [List.length_map];omega) (fun y hy=>?_) (fun y hy=>?_)
 ·obtain⟨z,hz,rfl⟩:=List.mem_map.1 hy
  exact z2 z hz
 ·obtain⟨z,hz,rfl⟩:=List.mem_map.1 hy
  exact(hk z hz).1
termination_by a=>SizeOf.sizeOf a
decreasing_by exact zH hk
end Go.Proofs.YtcnfgfomholheaaGreatDoor.Q
end
section
namespace Go.Proofs.YtcnfgfomholheaaGreatDoor.Q
open Go.RowKit Go.Proofs.YtcnfgfomholheaaGreatDoor.Z Go.Proofs.YtcnfgfomholheaaGreatDoor.Pure
set_option linter.unusedVariables false
set_option linter.unusedSimpArgs false
set_option maxRecDepth 100000
set_option maxHeartbeats 4000000
structure RT where
 v:Int
 t:SN
 k:List SK
structure RL where
 v:Int
 t:LN
 k:List LK
abbrev eG:Nat:=56
abbrev eGL:Nat:=52
abbrev cR (r:RT):List (C0 T.Tb):=[.sc (.int .i64 r.v), .sl 9 r.t.f0, .sl eN r.t.f1, .sl eS r.t.f2, .sl eK r.k]
abbrev XY (r:RL):List (C0 T.Tb):=[.sc (.int .i64 r.v), .sl 9 r.t.f0, .sl sU r.t.f1, .sl Dw r.t.f2, .sl Dx r.k]
abbrev aak (r:RT):RS T.Tb:= .ag [.sc (.int .i64 r.v), .ow 9 r.t.f0, .ow eN r.t.f1, .ow eS r.t.f2, .ow eK r.k]
abbrev bxG (r:RT):dK T:= .bx eG ((cR r).map (toCell none))
abbrev Ar (r:RL):dK T:= .bx eGL ((XY r).map (toCell none))
theorem kH {l l':List SK} (h:l=l'):bT (T:=T) eK l eK l':=eu h
theorem srW {l l':List SW} (h:l=l'):bT (T:=T) eW l eW l':=eu h
theorem mZ {l l':List Int} (h:l=l'):bT (T:=T) 3 l 3 l':=eu h
def Dy (l:List LK) (x:Int):Int:=thenS (dM l.length x) (iF qE l)
def UJ (a:RL) (x:Int):Int:=thenS (nS a.t x) (Dy a.k)
def adx (l:List LK):Prop:=l.length≤140737488351232∧∀y∈l,(y:LK).f0.size≤140737488351232∧(y:LK).f1.length≤140737488351232
def adu (a:RL):Prop:=y8 a.t∧adx a.k
theorem aal (a:LK) (x:Int) (h0:0≤x) (h:qE a x<0):qE a x= -1:=by
 unfold qE thenS at*
 split at h
 ·rename_i hc;rw [if_pos hc]
 ·rename_i hc;rw [if_neg hc];exact UK h
theorem aam {l:List LK} {x:Int} (h0:0≤x) (h:Dy l x<0):Dy l x= -1:=by
 unfold Dy at*
 by_cases hc:dM l.length x<0
 ·unfold thenS;rw [if_pos hc]
 ·rw [Aq (by omega)] at h⊢
  exact KZ aal (by omega) h
theorem ady (a:RL) (x:Int) (ht:y8 a.t) (hk:adx a.k) (h0:0≤x) (h1:x≤1048576):aG T Tryz.prog 36 [.ag (XY a), .c (.sc (.int .i64 x))] (.c (.sc (.int .i64 (UJ a x)))):=by
 have hle:=wZ a.t h0
 refine aH hT Tryz.func36 (by kernel_rfl) rfl rfl (fun A=>?_)
 conv=>whnf
 refine ak.mk _ (X7 a.t ht x h0 h1) ?_
 conv=>whnf
 refine Split.mk (fun c=>?_) (fun c=>?_)
 ·conv=>whnf
  exact aC.mk ⟨rfl,rfl⟩ ⟨rfl,rfl⟩ ⟨iv (Au c),trivial⟩
 ·obtain⟨e1,e2⟩:=Aw (K:=Dy a.k) c
  have e3:UJ a x=Dy a.k (nS a.t x):=e1
  conv=>whnf
  refine ak.mk _ (acj a.k (nS a.t x) e2 (Int.le_trans hle h1) hk.1 hk.2) ?_
  conv=>whnf
  refine Split.mk (fun c=>?_) (fun c=>?_)
  ·conv=>whnf
   exact aC.mk ⟨rfl,rfl⟩ ⟨rfl,rfl⟩ ⟨iv (e3.trans (aam e2 (La c))),trivial⟩
  ·conv=>whnf
   exact aC.mk ⟨rfl,rfl⟩ ⟨rfl,rfl⟩ ⟨iv e3,trivial⟩
def tR (a:RL):RT:=⟨a.v,tN a.t,a.k.map tK⟩
theorem adz (a:RL) (ht:Qg a.t) (hk:a.k.length≤1048576) (hy:∀y∈a.k,(y:LK).f1.length≤1048576):aG T Tryz.prog 38 [.ag (XY a)] (aak (tR a)):=by
 refine aH hT Tryz.func38 (by kernel_rfl) rfl rfl (fun A=>?_)
 conv=>whnf
 refine ak.mk _ (X8 a.t ht) ?_
 conv=>whnf
 refine ak.mk _ (acn a.k hk hy) ?_
 conv=>whnf
 exact aC.mk ⟨rfl,rfl⟩ ⟨rfl,rfl⟩ ⟨rfl,rfl,rfl,rfl,rfl,trivial⟩
structure I4 (r:RT):Prop where
 t:Bd r.t
 k:r.k.length≤2097152
 b:∀y∈r.k,(y:SK).f1.length≤2097152
theorem adA {a b:RT} (h:a.v=b.v) (h2:a.t=b.t) (h3:a.k=b.k):a=b:=by cases a;cases b;cases h;cases h2;cases h3;rfl
theorem X9 (a b:RT) (ha:I4 a):aG T Tryz.prog 40 [.ag (cR a), .ag (cR b)] (.c (.sc (.bool (same a b)))):=by
 refine aH hT Tryz.func40 (by kernel_rfl) rfl rfl (fun A=>?_)
 conv=>whnf
 refine Split.mk (fun c=>?_) (fun c=>?_)
 ·conv=>whnf
  exact aC.mk ⟨rfl,rfl⟩ ⟨rfl,rfl⟩ ⟨bv (gG (fun e=>rV c (congrArg RT.v e))),trivial⟩
 have h1:a.v=b.v:=Hg c
 conv=>whnf
 refine ak.mk _ (Ya a.t ha.t b.t) ?_
 conv=>whnf
 refine Split.mk (fun c=>?_) (fun c=>?_)
 ·conv=>whnf
  exact aC.mk ⟨rfl,rfl⟩ ⟨rfl,rfl⟩ ⟨bv (gG (fun e=>gJ (bU c) (congrArg RT.t e))),trivial⟩
 have h2:a.t=b.t:=of_same (dn c)
 conv=>whnf
 refine ak.mk _ (aco a.k b.k (Nat.le_trans ha.k (by decide)) (fun y hy=>Nat.le_trans (ha.b y hy) (by decide))) ?_
 conv=>whnf
 refine Split.mk (fun c=>?_) (fun c=>?_)
 ·conv=>whnf
  exact aC.mk ⟨rfl,rfl⟩ ⟨rfl,rfl⟩ ⟨bv (gG (fun e=>gJ (bU c) (congrArg RT.k e))),trivial⟩
 have h3:a.k=b.k:=of_same (dn c)
 conv=>whnf
 exact aC.mk ⟨rfl,rfl⟩ ⟨rfl,rfl⟩ ⟨bv (nT (adA h1 h2 h3)),trivial⟩
def gQ (r:RT) (k:Nat):RT × Nat:=(⟨r.v,(bQ r.t k).1,(bg (β:=SK) eX r.k (bQ r.t k).2).1⟩,(bg (β:=SK) eX r.k (bQ r.t k).2).2)
theorem Qh (r:RT) (k:Nat) (hr:I4 r) (h0:0<k) (hk:(gQ r k).2≤4611686018427387904):CallWOb T Tryz.prog 41 [.ag [.c (.sc (.int .i64 r.v)), .ow 9 r.t.f0 9 (gQ r k).1.t.f0, .ow eN r.t.f1 eN (gQ r k).1.t.f1, .ow eS r.t.f2 eS (gQ r k).1.t.f2, .ow eK r.k eK (gQ r k).1.k], .c (.c (.sc (.int .i64 (k:Int))))] (.c (.sc (.int .i64 ((gQ r k).2:Int)))):=by
 have g1:=lG r.t k
 have g2:=iM tC r.k (bQ r.t k).2
 have hk2:(bg (β:=SK) eX r.k (bQ r.t k).2).2≤4611686018427387904:=hk
 have h1:=aan r.t k hr.t h0 (Nat.le_trans g2 hk2)
 have h2:=Yb r.k (bQ r.t k).2 hr.k hr.b (by omega) hk2
 refine nY hT Tryz.func41 (by kernel_rfl) rfl rfl (fun A=>?_)
 conv=>whnf
 refine ak.wr [[NW.wr 9 (bQ r.t k).1.f0,NW.wr eN (bQ r.t k).1.f1,NW.wr eS (bQ r.t k).1.f2],[NW.rd]] (.c (.sc (.int .i64 ((bQ r.t k).2:Int)))) ?_
 conv=>whnf
 refine jK.mk h1 ?_
 conv=>whnf
 refine ak.wr [[NW.wr eK (bg (β:=SK) eX r.k (bQ r.t k).2).1],[NW.rd]] (.c (.sc (.int .i64 ((bg (β:=SK) eX r.k (bQ r.t k).2).2:Int)))) ?_
 conv=>whnf
 refine jK.mk h2 ?_
 conv=>whnf
 exact uK.mk ⟨rfl,rfl⟩ ⟨⟨rfl,rfl⟩,rfl⟩ ⟨rfl,trivial⟩ ⟨rfl,rfl,rfl,rfl,trivial⟩
theorem aao (r:RT) (k:Nat) (hr:I4 r) (h0:0<k) (hk:(gQ r k).2≤4611686018427387904):aG T Tryz.prog 42 [.ag (cR (gQ r k).1), .c (.sc (.int .i64 (k:Int)))] (.c (.sc (.int .i64 ((gQ r k).2:Int)))):=by
 have g1:=lG r.t k
 have g2:=iM tC r.k (bQ r.t k).2
 have hk2:(bg (β:=SK) eX r.k (bQ r.t k).2).2≤4611686018427387904:=hk
 have h1:=aap r.t k hr.t h0 (Nat.le_trans g2 hk2)
 have h2:=Yc r.k (bQ r.t k).2 hr.k hr.b (by omega) hk2
 refine aH hT Tryz.func42 (by kernel_rfl) rfl rfl (fun A=>?_)
 conv=>whnf
 refine ak.mk _ h1 ?_
 conv=>whnf
 refine Split.mk (fun c=>yG c) (fun c=>?_)
 clear c
 conv=>whnf
 refine ak.mk _ h2 ?_
 conv=>whnf
 refine Split.mk (fun c=>yG c) (fun c=>?_)
 clear c
 conv=>whnf
 exact aC.mk ⟨rfl,rfl⟩ ⟨rfl,rfl⟩ ⟨rfl,trivial⟩
theorem Hl:∀(l:List SK) (k b:Nat),(∀y∈l,(y:SK).f1.length≤b)→(bg (β:=SK) eX l k).2≤k+(2+b)*l.length
 | [],k,b,_=>Nat.le_refl _
 | p::l,k,b,h=>by
   show(bg (β:=SK) eX l (k+1+1*p.f1.length+1)).2≤_
   have h1:=Hl l (k+1+1*p.f1.length+1) b (fun y hy=>h y (List.mem_cons_of_mem _ hy))
   have h2:=h p List.mem_cons_self
   rw [List.length_cons,Nat.mul_succ]
   omega
structure BK (l:List SK):Prop where
 k:l.length≤1048576
 b:∀y∈l,(y:SK).f1.length≤1048576
 t:∀y∈l,(y:SK).f0.size≤1048576
theorem acp {l:List LK} {x:Int} (h0:0≤x) (hx:x≤1048576) (h:0≤Dy l x):BK (l.map tK)∧l.length≤1048576∧∀y∈l,(y:LK).f1.length≤1048576:=by
 obtain⟨h1,h2⟩:=mG h
 have h3:=nX h1
 have hl:l.length≤1048576:=by omega
 have each:∀y∈l,(y:LK).f1.length≤1048576∧(y:LK).f0.size≤1048576:=fun y hy=>by
  obtain⟨v,v1,v2,v3⟩:=wL (F:=qE) (fun a _ x hx=>Lc hx) h1 h2 y hy
  obtain⟨g1,g2⟩:=mG v3
  have g3:=nX g1
  have g4:=nX g2
  have:=jo (n:=l.length) h0
  omega
 refine⟨⟨by rw [List.length_map];exact hl,fun y hy=>?_,fun y hy=>?_⟩,hl,fun y hy=>(each y hy).1⟩
 ·obtain⟨z,hz,rfl⟩:=List.mem_map.1 hy
  exact(each z hz).1
 ·obtain⟨z,hz,rfl⟩:=List.mem_map.1 hy
  exact(each z hz).2
theorem adB {a:RL} {x:Int} (h0:0≤x) (hx:x≤1048576) (h:0≤UJ a x):Qg a.t∧Bd (tR a).t∧(cnt (tR a).t:Int)≤x∧BK (tR a).k∧a.k.length≤1048576∧(∀y∈a.k,(y:LK).f1.length≤1048576)∧UJ a x≤x:=by
 obtain⟨h1,h2⟩:=mG h
 obtain⟨b1,b2⟩:=X6 a.t x h0 hx h1
 have c1:=UH a.t x h0 h1
 have hle:=wZ a.t h0
 obtain⟨k1,k2,k3⟩:=acp h1 (by omega) h2
 refine⟨b2,b1,by show(cnt (tN a.t):Int)≤x;omega,k1,k2,k3,?_⟩
 unfold UJ
 exact vW h0 hle (fun h=>by unfold Dy;exact vW h (jo h) (fun h=>rU (fun a _ x hx=>Lc hx) h))
theorem BK.bdr {v:Int} {t:SN} {l:List SK} (h:BK l) (ht:Bd t):I4 ⟨v,t,l⟩:=⟨ht,Nat.le_trans h.k (by decide),fun y hy=>Nat.le_trans (h.b y hy) (by decide)⟩
theorem Ld (r:RT) (h:BK r.k) (hc:cnt r.t≤2097152):(gQ r 1).2≤4611686018427387904:=by
 have h1:=KY r.t 1
 have h2:=Hl r.k (bQ r.t 1).2 1048576 h.b
 have h3:(2+1048576)*r.k.length≤(2+1048576)*1048576:=Nat.mul_le_mul_left _ h.k
 show(bg (β:=SK) eX r.k (bQ r.t 1).2).2≤_
 omega
end Go.Proofs.YtcnfgfomholheaaGreatDoor.Q
end
section
namespace Go.Proofs.YtcnfgfomholheaaGreatDoor.Q
open Go.RowKit Go.Proofs.YtcnfgfomholheaaGreatDoor.Z Go.Proofs.YtcnfgfomholheaaGreatDoor.Pure
set_option linter.unusedVariables false
set_option linter.unusedSimpArgs false
set_option maxRecDepth 100000
set_option maxHeartbeats 4000000
def VL (ls:List ByteArray) (c:ByteArray) (l:List SS):List SS:=bif decide (0<ls.length) then l else ig c l
structure Pk (ls:List ByteArray) (c:ByteArray) (f:ByteArray→SN→SN) (n:SN):Prop where
 no:ls.length=0→∀x k,f x k=k
 ne:0<ls.length→∀x k,(x.toList==(g9 ls 0).toList)=false→f x k=k
 eq:0<ls.length→∀x,∀k∈n.f1,(x.toList==(g9 ls 0).toList)=true→aG T Tryz.prog 96 [.ag (T.cells eN k), .c (.sl 9 ((ls.drop 1).take (ls.length - 1))), .c (.sc (.bool false)), .c (.sc (.string c))] (Dv (f x k))
end Go.Proofs.YtcnfgfomholheaaGreatDoor.Q
end
section
namespace Go.Proofs.YtcnfgfomholheaaGreatDoor.Q
open Go.RowKit Go.Proofs.YtcnfgfomholheaaGreatDoor.Z Go.Proofs.YtcnfgfomholheaaGreatDoor.Pure
set_option linter.unusedVariables false
set_option linter.unusedSimpArgs false
set_option maxRecDepth 100000
set_option maxHeartbeats 4000000
end Go.Proofs.YtcnfgfomholheaaGreatDoor.Q
end
section
namespace Go.Proofs.YtcnfgfomholheaaGreatDoor.Q
open Go.RowKit Go.Proofs.YtcnfgfomholheaaGreatDoor.Z Go.Proofs.YtcnfgfomholheaaGreatDoor.Pure
set_option linter.unusedVariables false
set_option linter.unusedSimpArgs false
set_option maxRecDepth 100000
set_option maxHeartbeats 4000000
theorem Ho (n:SN) (p:List ByteArray) (hn:Bd n) (hl:n.f0.length=n.f1.length) (hp:p.length≤7) (hz:∀x∈p,x.size≤1048576) (hc:(iI p n).length≤4194304)
  (ih:∀i,i<n.f1.length→aG T Tryz.prog 178 [.ag (T.cells eN (bP T eN n.f1 i)), .c (.sc (.string (dG (p++[g9 n.f0 i])))), .c (.sc (.int .i64 ((p.length+1:Nat):Int)))] (.c (.ow eE (iI (p++[g9 n.f0 i]) (bP T eN n.f1 i))))):aG T Tryz.prog 178 [.ag (T.cells eN n), .c (.sc (.string (dG p))), .c (.sc (.int .i64 (p.length:Int)))] (.c (.ow eE (iI p n))):=by
 have hl2:=hn.l2
 have hjs:=uJ p hp hz
 rw [wX] at hc⊢
 rw [List.length_append,List.length_map] at hc
 refine kK hT Tryz.func178 (by kernel_rfl) rfl rfl (fun A=>?_)
 refine Vc.of 0 hT ?_
 conv=>whnf
 refine dF.mk {k:Nat // k≤n.f2.length} (fun q=>(2,[(8,i64 q.1),(7, .c (.hd 1)),(3, .c (.px 0 0)),(1, .c (.sc (.string (dG p)))),(2,i64 p.length)],[(1, .row 1 eE ((n.f2.take q.1).map (oN p))),(0,vS n)])) (fun q=>n.f2.length - q.1) ⟨0,Nat.zero_le _⟩ (aA [(1,1),(0,0)] rfl rfl rfl ⟨⟨rfl,rfl⟩,⟨rfl,rfl⟩,⟨rfl,rfl⟩,⟨rfl,rfl⟩,⟨rfl,rfl⟩,trivial⟩ ⟨CY rfl,⟨rfl,rfl⟩,trivial⟩) ?_
 rintro⟨k,hk⟩
 conv=>whnf
 refine Split.mk (fun c=>?_) (fun c=>?_)
 ·have hk2:k<n.f2.length:=fQ c
  clear c
  conv=>whnf
  refine Need.mk (idx hk2) ?_
  conv=>whnf
  refine Need.mk (idx hk2) ?_
  conv=>whnf
  refine Need.mk (idx hk2) ?_
  conv=>whnf
  refine Need.mk (bJ (a:=((n.f2.take k).map (oN p)).length) (b:=1) (by rw [List.length_map,List.length_take];omega) (by decide)) ?_
  conv=>whnf
  refine aT.mk ⟨by kernel_rfl,by kernel_rfl⟩ ?_
  conv=>whnf
  exact bF.mk ⟨⟨k+1,hk2⟩,Nat.sub_lt_sub_left hk2 (Nat.lt_succ_self k),aA [(1,3),(0,0)] rfl rfl rfl ⟨⟨rfl,congrArg i64 (dO hk2 (by omega))⟩,⟨rfl,rfl⟩,⟨rfl,rfl⟩,⟨rfl,rfl⟩,⟨rfl,rfl⟩,trivial⟩ ⟨CY (CZ (d:=T.df eS) hk2),⟨rfl,rfl⟩,trivial⟩⟩
 ·have hk2:k=n.f2.length:=Nat.le_antisymm hk (fZ c)
  clear c
  subst hk2
  have hl1:=hn.l1
  conv=>whnf
  refine dF.mk {k:Nat // k≤n.f0.length} (fun q=>(2,[(9,i64 q.1),(7, .c (.hd 1)),(3, .c (.px 0 0)),(1, .c (.sc (.string (dG p)))),(2,i64 p.length)],[(1, .row 1 eE (n.f2.map (oN p)++dY p (n.f0.take q.1) (n.f1.take q.1))),(0,vS n)])) (fun q=>n.f0.length - q.1) ⟨0,Nat.zero_le _⟩ (aA [(1,1),(0,0)] rfl rfl rfl ⟨⟨rfl,rfl⟩,⟨rfl,rfl⟩,⟨rfl,rfl⟩,⟨rfl,rfl⟩,⟨rfl,rfl⟩,trivial⟩ ⟨CY (by rw [List.take_length];simp [dY];rfl),⟨rfl,rfl⟩,trivial⟩) ?_
  rintro⟨k,hk⟩
  conv=>whnf
  refine Split.mk (fun c=>?_) (fun c=>?_)
  ·have hk3:k<n.f0.length:=fQ c
   have hk2:k<n.f1.length:=by omega
   clear c
   have ihk:=ih k hk2
   rw [show(((p.length+1:Nat)):Int)=wrap64 ((p.length:Int)+1) from d1_ (by omega)] at ihk
   have hsn:=vV (p:=p) (d:=T.df 9) (e:=T.df eN) hk3 hk2
   have hle:=qo (p:=p) (ns:=n.f0) (ks:=n.f1) (k:=k+1)
   rw [hsn,List.length_append] at hle
   have hap:(n.f2.map (oN p)++dY p (n.f0.take k) (n.f1.take k)).length+(iI (p++[g9 n.f0 k]) (bP T eN n.f1 k)).length≤8388608:=by
    rw [List.length_append,List.length_map]
    have hle':_+(iI (p++[g9 n.f0 k]) (bP T eN n.f1 k)).length≤_:=hle
    omega
   have hx:(g9 n.f0 k).size≤1048576:=hn.z0 _ (P8 hk3)
   conv=>whnf
   refine Need.mk (idx hk3) ?_
   conv=>whnf
   refine Split.mk (fun c=>?_) (fun c=>?_)
   ·have h1:0<p.length:=lZ c
    have e:(dG p++(⟨#[47]⟩:ByteArray))++g9 n.f0 k=dG (p++[g9 n.f0 k]):=(if_pos h1).symm.trans (Dz p p.length rfl _)
    rw [←e] at ihk
    have hs1:(dG p++(⟨#[47]⟩:ByteArray)).size=(dG p).size+1:=uM _ _
    conv=>whnf
    refine Need.mk (show(dG p).size+1≤9223372036854775807 by omega) ?_
    conv=>whnf
    refine Need.mk (show(dG p++(⟨#[47]⟩:ByteArray)).size+(g9 n.f0 k).size≤9223372036854775807 by omega) ?_
    conv=>whnf
    refine Need.mk (idx hk2) ?_
    conv=>whnf
    refine ak.mk _ ihk ?_
    conv=>whnf
    refine Need.mk (bJ (a:=(n.f2.map (oN p)++dY p (n.f0.take k) (n.f1.take k)).length) (b:=(iI (p++[g9 n.f0 k]) (bP T eN n.f1 k)).length) hap (by decide)) ?_
    conv=>whnf
    exact bF.mk ⟨⟨k+1,hk3⟩,Nat.sub_lt_sub_left hk3 (Nat.lt_succ_self k),aA [(1,3),(0,0)] rfl rfl rfl ⟨⟨rfl,congrArg i64 (dO hk3 (by omega))⟩,⟨rfl,rfl⟩,⟨rfl,rfl⟩,⟨rfl,rfl⟩,⟨rfl,rfl⟩,trivial⟩ ⟨CY (show(n.f2.map (oN p)++dY p (n.f0.take k) (n.f1.take k))++iI (p++[g9 n.f0 k]) (bP T eN n.f1 k)=n.f2.map (oN p)++dY p (n.f0.take (k+1)) (n.f1.take (k+1)) by rw [hsn,List.append_assoc];rfl),⟨rfl,rfl⟩,trivial⟩⟩
   ·have h1:p.length=0:=l7 c
    have e:g9 n.f0 k=dG (p++[g9 n.f0 k]):=(if_neg (show ¬0<p.length by omega)).symm.trans (Dz p p.length rfl _)
    rw [←e] at ihk
    conv=>whnf
    refine Need.mk (idx hk2) ?_
    conv=>whnf
    refine ak.mk _ ihk ?_
    conv=>whnf
    refine Need.mk (bJ (a:=(n.f2.map (oN p)++dY p (n.f0.take k) (n.f1.take k)).length) (b:=(iI (p++[g9 n.f0 k]) (bP T eN n.f1 k)).length) hap (by decide)) ?_
    conv=>whnf
    exact bF.mk ⟨⟨k+1,hk3⟩,Nat.sub_lt_sub_left hk3 (Nat.lt_succ_self k),aA [(1,3),(0,0)] rfl rfl rfl ⟨⟨rfl,congrArg i64 (dO hk3 (by omega))⟩,⟨rfl,rfl⟩,⟨rfl,rfl⟩,⟨rfl,rfl⟩,⟨rfl,rfl⟩,trivial⟩ ⟨CY (show(n.f2.map (oN p)++dY p (n.f0.take k) (n.f1.take k))++iI (p++[g9 n.f0 k]) (bP T eN n.f1 k)=n.f2.map (oN p)++dY p (n.f0.take (k+1)) (n.f1.take (k+1)) by rw [hsn,List.append_assoc];rfl),⟨rfl,rfl⟩,trivial⟩⟩
  ·have hk2:k=n.f0.length:=Nat.le_antisymm hk (fZ c)
   clear c
   conv=>whnf
   exact aC.mk ⟨rfl,rfl⟩ ⟨rfl,rfl⟩ ⟨CY (by show n.f2.map (oN p)++dY p (n.f0.take k) (n.f1.take k)=_;rw [hk2,List.take_length,hl,List.take_length]),trivial⟩
theorem Dc:∀(n:SN) (p:List ByteArray) (d:Nat),Bd n→Tr n→Dp d n→p.length+d≤7→(∀x∈p,x.size≤1048576)→(iI p n).length≤4194304→aG T Tryz.prog 178 [.ag (T.cells eN n), .c (.sc (.string (dG p))), .c (.sc (.int .i64 (p.length:Int)))] (.c (.ow eE (iI p n))):=fun n p d hn ht hd hp hz hc=>
 Ho n p hn ht.len (by omega) hz hc (fun i hi=>by
  have hm:bP T eN n.f1 i∈n.f1:=zG hi
  have h9:g9 n.f0 i∈n.f0:=P8 (by rw [ht.len];exact hi)
  have hpos:=hd.pos (fun e=>by rw [e] at hi;simp at hi)
  have hx:(bP T eN n.f1 i:SN)∈n.f1:=hm
  have hlen:(p++[g9 n.f0 i]).length=p.length+1:=by rw [List.length_append];rfl
  have:=Dc (bP T eN n.f1 i) (p++[g9 n.f0 i]) (d - 1) (hn.kid _ hm) (ht.kid _ hm) (hd.kid _ hm) (by rw [hlen];omega) (fun y hy=>(List.mem_append.1 hy).elim (hz y) (fun h=>by rw [List.mem_singleton.1 h];exact hn.z0 _ h9)) (Nat.le_trans (Nz hi ht.len) hc)
  rw [hlen] at this
  exact this)
termination_by n=>SizeOf.sizeOf n
decreasing_by exact kG hm
theorem specEntries (n:SN) (hn:Bd n) (hg:fH n=true→Tr n∧Dp 7 n) (hc:(jl n).length≤4194304):aG T Tryz.prog 107 [.ag (T.cells eN n)] (.c (.ow eE (jl n))):=by
 refine aH hT Tryz.func107 (by kernel_rfl) rfl rfl (fun A=>?_)
 conv=>whnf
 refine ak.mk _ (Az n hn) ?_
 conv=>whnf
 refine Split.mk (fun c=>?_) (fun c=>?_)
 ·have h0:fH n=false:=bU c
  conv=>whnf
  exact aC.mk ⟨rfl,rfl⟩ ⟨rfl,rfl⟩ ⟨CY (show []=jl n by unfold jl;rw [h0];rfl),trivial⟩
 ·have h0:fH n=true:=dn c
  have he:jl n=iI [] n:=by unfold jl;rw [if_pos h0]
  rw [he] at hc⊢
  conv=>whnf
  refine ak.mk _ (Dc n [] 7 hn (hg h0).1 (hg h0).2 (by decide) (fun x hx=>by cases hx) hc) ?_
  conv=>whnf
  exact aC.mk ⟨rfl,rfl⟩ ⟨rfl,rfl⟩ ⟨rfl,trivial⟩
end Go.Proofs.YtcnfgfomholheaaGreatDoor.Q
end
section
namespace Go.Proofs.YtcnfgfomholheaaGreatDoor.Q
open Go.RowKit Go.Proofs.YtcnfgfomholheaaGreatDoor.Z Go.Proofs.YtcnfgfomholheaaGreatDoor.X Go.Proofs.YtcnfgfomholheaaGreatDoor.Pure
set_option linter.unusedVariables false
set_option linter.unusedSimpArgs false
theorem xk {a b:ByteArray} (h:a≠b):(a.toList==b.toList)=false:=by
 cases hq:a.toList==b.toList with
 | false=>rfl
 | true=>exact(h (aaj hq)).elim
theorem I5 (a:ByteArray):(a.toList==a.toList)=true:=by simp
end Go.Proofs.YtcnfgfomholheaaGreatDoor.Q
end
section
namespace Go.Proofs.YtcnfgfomholheaaGreatDoor.Q
open Go.RowKit Go.Proofs.YtcnfgfomholheaaGreatDoor.Z Go.Proofs.YtcnfgfomholheaaGreatDoor.X Go.Proofs.YtcnfgfomholheaaGreatDoor.Pure
set_option linter.unusedVariables false
set_option linter.unusedSimpArgs false
def cu (g:List SS→List SS):List ByteArray→SN→SN
 | [],n=>⟨n.f0,n.f1,g n.f2⟩
 | t::ts,n=>bif iH t n.f0 then ⟨n.f0,n.f1.set (aN t n.f0) (cu g ts (gN n.f1 (aN t n.f0))),n.f2⟩
   else ⟨n.f0.take (aN t n.f0)++t::n.f0.drop (aN t n.f0),n.f1.take (aN t n.f0)++cu g ts zN::n.f1.drop (aN t n.f0),n.f2⟩
theorem AB:∀(a b:List UInt8),a≠b→Op.bytesLess a b=true∨Op.bytesLess b a=true
 | [],[],h=>(h rfl).elim
 | [],b::y,_=> .inl rfl
 | a::x,[],_=> .inr rfl
 | a::x,b::y,h=>by
   simp only [Op.bytesLess,Bool.or_eq_true,Bool.and_eq_true,decide_eq_true_eq,beq_iff_eq]
   by_cases e:a=b
   ·subst e
    rcases AB x y (fun e=>h (by rw [e])) with h1 | h1
    ·exact .inl (.inr ⟨rfl,h1⟩)
    ·exact .inr (.inr ⟨rfl,h1⟩)
   ·rcases UInt8.lt_or_lt_of_ne e with h1 | h1
    ·exact .inl (.inl h1)
    ·exact .inr (.inl h1)
theorem DC {a b:ByteArray} (h:a≠b):mF a b∨mF b a:=AB _ _ (fun e=>h (toList_inj e))
theorem adC (t:ByteArray) (l:List ByteArray):l.take (aN t l)=l.takeWhile (kS t)∧l.drop (aN t l)=l.dropWhile (kS t):=by
 have h:l.takeWhile (kS t)++l.dropWhile (kS t)=l:=List.takeWhile_append_dropWhile
 exact⟨(show l.take (aN t l)=List.take (l.takeWhile (kS t)).length (l.takeWhile (kS t)++l.dropWhile (kS t)) by rw [h];rfl).trans List.take_left,(show l.drop (aN t l)=List.drop (l.takeWhile (kS t)).length (l.takeWhile (kS t)++l.dropWhile (kS t)) by rw [h];rfl).trans List.drop_left⟩
theorem Yd (t:ByteArray) (l:List ByteArray):aN t l≤l.length:=by
 have:=congrArg List.length (List.takeWhile_append_dropWhile (p:=kS t) (l:=l))
 rw [List.length_append] at this
 unfold aN
 omega
theorem abD {t:ByteArray}:∀{l:List ByteArray},l.Pairwise mF→t∉l→∀b∈l.dropWhile (kS t),mF t b
 | [],_,_,b,hb=>by cases hb
 | a::r,h,ht,b,hb=>by
   obtain⟨h1,h2⟩:=List.pairwise_cons.1 h
   rw [List.dropWhile_cons] at hb
   split at hb
   ·exact abD h2 (fun hm=>ht (List.mem_cons_of_mem _ hm)) b hb
   ·rename_i hc
    have h3:mF t a:=by
     rcases DC (a:=t) (b:=a) (fun e=>ht (by rw [e];exact List.mem_cons_self)) with h3 | h3
     ·exact h3
     ·exact(hc h3).elim
    rcases List.mem_cons.1 hb with rfl | hb
    ·exact h3
    ·exact nC _ _ _ h3 (h1 b hb)
theorem abE {t:ByteArray}:∀{l:List ByteArray},∀b∈l.takeWhile (kS t),mF b t
 | [],b,hb=>by cases hb
 | a::r,b,hb=>by
   rw [List.takeWhile_cons] at hb
   split at hb
   ·rename_i hc
    rcases List.mem_cons.1 hb with rfl | hb
    ·exact hc
    ·exact abE b hb
   ·cases hb
theorem UL {l:List ByteArray} {t:ByteArray} (hr:l.Pairwise mF) (h:iH t l=false):t∉l:=fun hm=>by
 obtain⟨i,hi⟩:=List.getElem?_of_mem hm
 rw [(pos_at hr hi).2] at h
 cases h
theorem aaq {l:List ByteArray} {t:ByteArray} (hr:l.Pairwise mF) (h:iH t l=false):(l.take (aN t l)++t::l.drop (aN t l)).Pairwise mF:=by
 have hn:=UL hr h
 obtain⟨e1,e2⟩:=adC t l
 have hs:(l.take (aN t l)++l.drop (aN t l)).Pairwise mF:=by rw [List.take_append_drop];exact hr
 obtain⟨h1,h2,h3⟩:=List.pairwise_append.1 hs
 refine List.pairwise_append.2 ⟨h1,List.pairwise_cons.2 ⟨fun b hb=>abD hr hn b (e2▸hb),h2⟩,fun a ha b hb=>?_⟩
 have ha':=abE (t:=t) a (e1▸ha)
 rcases List.mem_cons.1 hb with rfl | hb
 ·exact ha'
 ·exact h3 a ha b hb
theorem Ye {n:SN} (ht:Tr n) {t:ByteArray} (hf:iH t n.f0=false) (K:SN):∃A B,kN n=A++B∧(∀x∈A++B,x.1≠t)∧kN ⟨n.f0.take (aN t n.f0)++t::n.f0.drop (aN t n.f0),n.f1.take (aN t n.f0)++K::n.f1.drop (aN t n.f0),n.f2⟩=A++(t,K)::B:=by
 have hl:(n.f0.take (aN t n.f0)).length=(n.f1.take (aN t n.f0)).length:=by rw [List.length_take,List.length_take,ht.len]
 have e:kN n=(n.f0.take (aN t n.f0)).zip (n.f1.take (aN t n.f0))++(n.f0.drop (aN t n.f0)).zip (n.f1.drop (aN t n.f0)):=by
  rw [←List.zip_append hl,List.take_append_drop,List.take_append_drop];rfl
 refine⟨_,_,e,fun x hx ex=>?_,?_⟩
 ·rw [←e] at hx
  exact UL ht.rise hf (ex▸(List.of_mem_zip (a:=x.1) (b:=x.2) hx).1)
 ·unfold kN
  rw [List.zip_append hl,List.zip_cons_cons]
theorem ae2:∀p,kT p zN=[]
 | []=>rfl
 | t::ts=>rfl
theorem Fq:Tr zN:= .mk _ rfl .nil (fun k hk=>by cases hk)
theorem AL (g:List SS→List SS) (t:ByteArray) (ts:List ByteArray) (n:SN) (ht:Tr n):∃A B k,((kN n=A++(t,k)::B∧k∈n.f1)∨(kN n=A++B∧k=zN))∧(∀x∈A++B,x.1≠t)∧kN (cu g (t::ts) n)=A++(t,cu g ts k)::B∧(cu g (t::ts) n).f2=n.f2:=by
 cases hf:iH t n.f0 with
 | true=>
   have hp:aN t n.f0<n.f1.length:=by rw [←ht.len];exact wW hf
   obtain⟨A,B,t',k,h1,h2,h3,h4,h5⟩:=X4 ht hp (cu g ts (gN n.f1 (aN t n.f0)))
   have e1:t'=t:=Option.some.inj (h2.symm.trans (XZ hf))
   subst e1
   have e2:gN n.f1 (aN t' n.f0)=k:=by
    obtain⟨_,e⟩:=List.getElem?_eq_some_iff.1 h3
    rw [←e]
    exact getD_in n.f1 _ (T.df eN) hp
   have hR:cu g (t'::ts) n=⟨n.f0,n.f1.set (aN t' n.f0) (cu g ts (gN n.f1 (aN t' n.f0))),n.f2⟩:=by rw [cu,hf];rfl
   rw [hR]
   exact⟨A,B,k, .inl ⟨h1,List.mem_of_getElem? h3⟩,X5 (h1▸aai ht),by rw [h5,e2],rfl⟩
 | false=>
   obtain⟨A,B,h1,h2,h3⟩:=Ye ht hf (cu g ts zN)
   have hR:cu g (t::ts) n=⟨n.f0.take (aN t n.f0)++t::n.f0.drop (aN t n.f0),n.f1.take (aN t n.f0)++cu g ts zN::n.f1.drop (aN t n.f0),n.f2⟩:=by rw [cu,hf];rfl
   rw [hR]
   exact⟨A,B,zN, .inr ⟨h1,rfl⟩,h2,h3,rfl⟩
theorem DF (g:List SS→List SS):∀(ls:List ByteArray) (n:SN),Tr n→Tr (cu g ls n)
 | [],n,h=> .mk _ h.len h.rise h.kid
 | t::ts,n,h=>by
   cases hf:iH t n.f0 with
   | true=>
     have hp:aN t n.f0<n.f1.length:=by rw [←h.len];exact wW hf
     have ih:=DF g ts (gN n.f1 (aN t n.f0)) (h.kid _ (zG hp))
     rw [cu,hf]
     exact .mk _ (by show n.f0.length=(n.f1.set _ _).length;rw [List.length_set];exact h.len) h.rise (fun x hx=>(List.mem_or_eq_of_mem_set hx).elim (h.kid x) (fun e=>e▸ih))
   | false=>
     have ih:=DF g ts zN Fq
     have hlen:=h.len
     rw [cu,hf]
     refine .mk _ (by show(n.f0.take _++t::n.f0.drop _).length=(n.f1.take _++_::n.f1.drop _).length;simp only [List.length_append,List.length_cons,List.length_take,List.length_drop];omega) (aaq h.rise hf) (fun x hx=>?_)
     rcases List.mem_append.1 hx with hx | hx
     ·exact h.kid x (List.mem_of_mem_take hx)
     ·rcases List.mem_cons.1 hx with rfl | hx
      ·exact ih
      ·exact h.kid x (List.mem_of_mem_drop hx)
theorem DI {g g':List SS→List SS}:∀(q:List ByteArray) (n:SN),Tr n→g (kT q n)=g' (kT q n)→cu g q n=cu g' q n
 | [],n,_,h=>by rw [cu,cu];exact congrArg (fun l:List SS=>(⟨n.f0,n.f1,l⟩:SN)) h
 | t::ts,n,ht,h=>by
   rw [kT] at h
   rw [cu,cu]
   cases hf:iH t n.f0 with
   | true=>
     rw [hf] at h
     have hp:aN t n.f0<n.f1.length:=by rw [←ht.len];exact wW hf
     rw [DI ts (gN n.f1 (aN t n.f0)) (ht.kid _ (zG hp)) h]
     rfl
   | false=>
     rw [hf] at h
     have h':g (kT ts zN)=g' (kT ts zN):=by rw [ae2 ts];exact h
     rw [DI ts zN Fq h']
     rfl
theorem aar {g:List SS→List SS} (hg:∀l,g l≠[]):∀(ls:List ByteArray) (n:SN),Tr n→(cu g ls n).f1≠[]∨(cu g ls n).f2≠[]
 | [],n,_=> .inr (hg _)
 | t::ts,n,ht=>by
   obtain⟨A,B,k,h1,h2,h3,_⟩:=AL g t ts n ht
   refine .inl (fun e=>?_)
   have:cu g ts k∈(cu g (t::ts) n).f1:=Uz (x:=(t,cu g ts k)) (by rw [h3];simp)
   rw [e] at this
   cases this
theorem Hq:∀l m:List SN,jW (l++m)=jW l+jW m
 | [],m=>by rw [List.nil_append,jW,Nat.zero_add]
 | a::l,m=>by rw [List.cons_append,jW,jW,Hq l m];omega
theorem UM:∀{l:List SN} {k:SN},k∈l→cnt k≤jW l
 | [],k,h=>by cases h
 | a::l,k,h=>by
   rw [jW]
   rcases List.mem_cons.1 h with rfl | h
   ·omega
   ·have:=UM h;omega
theorem Le {g:List SS→List SS} (hg:∀l,(g l).length≤l.length+1):∀(ls:List ByteArray) (n:SN),Tr n→cnt (cu g ls n)≤cnt n+ls.length+1
 | [],n,_=>by
   rw [xg,xg]
   have:=hg n.f2
   show n.f0.length+(g n.f2).length+jW n.f1≤_
   simp only [List.length_nil]
   omega
 | t::ts,n,ht=>by
   obtain⟨A,B,k,h1,h2,h3,h4⟩:=AL g t ts n ht
   have hm:=DF g (t::ts) n ht
   rw [xg,xg n,h4,←KW hm,←KX hm,←KW ht,←KX ht,h3]
   rcases h1 with ⟨h1,hk⟩ | ⟨h1,rfl⟩
   ·have ih:=Le hg ts k (ht.kid k hk)
    rw [h1]
    simp only [List.map_append,List.map_cons,List.length_append,List.length_cons,List.length_map,Hq,jW]
    omega
   ·have ih:=Le hg ts zN Fq
    have hz:cnt zN=0:=rfl
    rw [h1]
    simp only [List.map_append,List.map_cons,List.length_append,List.length_cons,List.length_map,Hq,jW]
    omega
inductive Tx:SN→Prop
 | mk (n:SN) (z0:∀x∈n.f0,ByteArray.size x≤1048576) (z2:∀x∈n.f2,(x:SS).f0.size≤1048576) (hk:∀k∈n.f1,Tx k):Tx n
theorem Tx.z0 {n:SN} (h:Tx n):∀x∈n.f0,ByteArray.size x≤1048576:=by cases h;assumption
theorem Tx.z2 {n:SN} (h:Tx n):∀x∈n.f2,(x:SS).f0.size≤1048576:=by cases h;assumption
theorem Tx.kid {n:SN} (h:Tx n):∀k∈n.f1,Tx k:=by cases h;assumption
theorem Qi:∀(n:SN),Bd n→Tx n:=fun n h=> .mk n h.z0 h.z2 (fun k hk=>Qi k (h.kid k hk))
termination_by n=>SizeOf.sizeOf n
decreasing_by exact kG hk
theorem NJ:∀(n:SN),Tr n→Tx n→cnt n≤2097152→Bd n:=fun n ht hx hc=>by
 rw [xg] at hc
 have hl:=ht.len
 exact .mk n (by omega) hx.z0 (by omega) (by omega) hx.z2 (fun k hk=>NJ k (ht.kid k hk) (hx.kid k hk) (by have:=UM hk;omega))
termination_by n=>SizeOf.sizeOf n
decreasing_by exact kG hk
theorem Qj {g:List SS→List SS} (hg:∀l,(∀x∈l,(x:SS).f0.size≤1048576)→∀x∈g l,(x:SS).f0.size≤1048576):∀(ls:List ByteArray) (n:SN),(∀x∈ls,ByteArray.size x≤1048576)→Tx n→Tx (cu g ls n)
 | [],n,_,h=> .mk _ h.z0 (hg _ h.z2) h.kid
 | t::ts,n,hs,h=>by
   have hs1:=hs t List.mem_cons_self
   have hs2:∀x∈ts,ByteArray.size x≤1048576:=fun x hx=>hs x (List.mem_cons_of_mem _ hx)
   rw [cu]
   cases hf:iH t n.f0 with
   | true=>
     refine .mk _ h.z0 h.z2 (fun x hx=>?_)
     by_cases hp:aN t n.f0<n.f1.length
     ·have ih:=Qj hg ts (gN n.f1 (aN t n.f0)) hs2 (h.kid _ (zG hp))
      exact(List.mem_or_eq_of_mem_set hx).elim (h.kid x) (fun e=>e▸ih)
     ·have hx':x∈n.f1.set (aN t n.f0) (cu g ts (gN n.f1 (aN t n.f0))):=hx
      rw [List.set_eq_of_length_le (by omega)] at hx'
      exact h.kid x hx'
   | false=>
     have ih:=Qj hg ts zN hs2 (.mk _ (fun x hx=>by cases hx) (fun x hx=>by cases hx) (fun x hx=>by cases hx))
     refine .mk _ (fun x hx=>?_) h.z2 (fun x hx=>?_)
     ·rcases List.mem_append.1 hx with hx | hx
      ·exact h.z0 x (List.mem_of_mem_take hx)
      ·rcases List.mem_cons.1 hx with rfl | hx
       ·exact hs1
       ·exact h.z0 x (List.mem_of_mem_drop hx)
     ·rcases List.mem_append.1 hx with hx | hx
      ·exact h.kid x (List.mem_of_mem_take hx)
      ·rcases List.mem_cons.1 hx with rfl | hx
       ·exact ih
       ·exact h.kid x (List.mem_of_mem_drop hx)
theorem aas (s:SS) (l:List SS):(eH s l).length≤l.length+1:=by
 unfold eH
 have h:=Ny s.f0 l
 have e:=congrArg List.length (List.takeWhile_append_dropWhile (p:=yD s.f0) (l:=ig s.f0 l))
 rw [List.length_append] at e
 rw [List.length_append,List.length_cons]
 omega
theorem acr (s:SS) (l:List SS):eH s l≠[]:=by unfold eH;simp
theorem Qk {s:SS} {l:List SS} {x:SS} (h:x∈eH s l):x=s∨x∈l:=by
 unfold eH at h
 have sub:∀y,y∈ig s.f0 l→y∈l:=fun y hy=>List.filter_sublist.subset hy
 rcases List.mem_append.1 h with h | h
 ·exact .inr (sub x ((List.takeWhile_sublist _).subset h))
 ·rcases List.mem_cons.1 h with h | h
  ·exact .inl h
  ·exact .inr (sub x ((List.dropWhile_sublist _).subset h))
def iq (s:SS) (p:List SS × Bool) (x:SS):List SS × Bool:=
 bif x.f0.toList==s.f0.toList then (p.1++[s],true) else bif !p.2 && Op.bytesLess s.f0.toList x.f0.toList then (p.1++[s]++[x],true) else (p.1++[x],p.2)
def oO (s:SS) (l:List SS):List SS:=bif (l.foldl (iq s) ([],false)).2 then (l.foldl (iq s) ([],false)).1 else (l.foldl (iq s) ([],false)).1++[s]
abbrev yH (l:List SS):Prop:=l.Pairwise (fun a b=>mF a.f0 b.f0)
theorem AO {s:SS}:∀{l:List SS} {acc:List SS},(∀x∈l,x.f0≠s.f0)→l.foldl (iq s) (acc,true)=(acc++l,true)
 | [],acc,_=>by simp
 | x::r,acc,h=>by
   rw [List.foldl_cons]
   have e:iq s (acc,true) x=(acc++[x],true):=by unfold iq;rw [xk (h x List.mem_cons_self)];rfl
   rw [e,AO (fun y hy=>h y (List.mem_cons_of_mem _ hy)),List.append_assoc];rfl
theorem aat {t:ByteArray} {l:List SS} (h:∀x∈l,x.f0≠t):ig t l=l:=by
 unfold ig
 refine List.filter_eq_self.2 (fun x hx=>?_)
 rw [xk (h x hx)];rfl
theorem Ql {s x:SS} {r:List SS} (h:mF x.f0 s.f0):eH s (x::r)=x::eH s r:=by
 unfold eH
 have hne:x.f0≠s.f0:=fun e=>by rw [e] at h;exact wK h
 have e:ig s.f0 (x::r)=x::ig s.f0 r:=by unfold ig;rw [List.filter_cons,xk hne];rfl
 have h':yD s.f0 x=true:=h
 rw [e,List.takeWhile_cons,List.dropWhile_cons,h']
 rfl
theorem NK {s:SS} {l:List SS} (h:∀x∈l,mF s.f0 x.f0):eH s l=s::l:=by
 unfold eH
 rw [aat (fun x hx e=>by have:=h x hx;rw [e] at this;exact wK this)]
 cases l with
 | nil=>rfl
 | cons y l=>
   have h':yD s.f0 y=false:=pK _ _ (h y List.mem_cons_self)
   rw [List.takeWhile_cons,List.dropWhile_cons,h']
   rfl
theorem Yf {s x:SS} {r:List SS} (he:x.f0=s.f0) (h:∀y∈r,mF s.f0 y.f0):eH s (x::r)=s::r:=by
 rw [←NK h]
 unfold eH
 have e:ig s.f0 (x::r)=ig s.f0 r:=by unfold ig;rw [List.filter_cons,he,I5];rfl
 rw [e]
theorem UN {s:SS}:∀{l:List SS} {acc:List SS},yH l→(bif (l.foldl (iq s) (acc,false)).2 then (l.foldl (iq s) (acc,false)).1 else (l.foldl (iq s) (acc,false)).1++[s])=acc++eH s l
 | [],acc,_=>rfl
 | x::r,acc,h=>by
   obtain⟨h1,h2⟩:=List.pairwise_cons.1 h
   rw [List.foldl_cons]
   by_cases he:x.f0=s.f0
   ·have hr:∀y∈r,mF s.f0 y.f0:=fun y hy=>he▸h1 y hy
    have e:iq s (acc,false) x=(acc++[s],true):=by unfold iq;rw [he,I5];rfl
    rw [e,AO (fun y hy e=>by have:=hr y hy;rw [e] at this;exact wK this),Yf he hr]
    show acc++[s]++r=_
    rw [List.append_assoc];rfl
   ·rcases DC he with hlt | hlt
    ·have e:iq s (acc,false) x=(acc++[x],false):=by
      unfold iq
      rw [xk he,pK _ _ hlt];rfl
     rw [e,UN h2,Ql hlt,List.append_assoc];rfl
    ·have hr:∀y∈x::r,mF s.f0 y.f0:=fun y hy=>by
      rcases List.mem_cons.1 hy with rfl | hy
      ·exact hlt
      ·exact nC _ _ _ hlt (h1 y hy)
     have e:iq s (acc,false) x=(acc++[s]++[x],true):=by
      unfold iq
      rw [xk he,show Op.bytesLess s.f0.toList x.f0.toList=true from hlt];rfl
     rw [e,AO (fun y hy e=>by have:=hr y (List.mem_cons_of_mem _ hy);rw [e] at this;exact wK this),NK hr]
     show acc++[s]++[x]++r=_
     simp
theorem Yg {s:SS} {l:List SS} (h:yH l):oO s l=eH s l:=UN (acc:=[]) h
theorem AP:∀{l:List SS} {y:Option ByteArray},nD y l=true→yH l∧∀x∈l,lD y x.f0=true
 | [],y,_=>⟨.nil,fun x hx=>by cases hx⟩
 | s::r,y,h=>by
   rw [nD,Bool.and_eq_true,Bool.and_eq_true] at h
   obtain⟨_,h1,h2⟩:=h
   obtain⟨a,b⟩:=AP h2
   refine⟨List.pairwise_cons.2 ⟨fun z hz=>b z hz,a⟩,fun z hz=>?_⟩
   rcases List.mem_cons.1 hz with rfl | hz
   ·exact h1
   ·cases y with
    | none=>rfl
    | some y=>exact nC _ _ _ h1 (b z hz)
theorem Qm:∀(q p:List ByteArray) (n:SN),okI p n=true→pO (kT q n)=true
 | [],p,n,h=>(jP.1 h).2.2.1
 | t::ts,p,n,h=>by
   rw [kT]
   cases hf:iH t n.f0 with
   | false=>rfl
   | true=>exact Qm ts (p++[t]) _ (Fp (jP.1 h).2.2.2.2 t _ (UA (yE n p h).1.tr hf)).2.2
theorem TD {n:SN} (h:fH n=true) (s:SS) (q:List ByteArray):cu (oO s) q n=cu (eH s) q n:=by
 obtain⟨ho,_⟩:=yF h
 exact DI q n (yE n [] ho).1.tr (Yg (AP (Qm q [] n ho)).1)
def nG (f:ByteArray) (s:SS) (n:SN):SN:=bif fH n && (bW f && iw s) then cu (eH s) (ng f) n else n
end Go.Proofs.YtcnfgfomholheaaGreatDoor.Q
end
section
namespace Go.Proofs.YtcnfgfomholheaaGreatDoor.Q
open Go.RowKit Go.Proofs.YtcnfgfomholheaaGreatDoor.Z Go.Proofs.YtcnfgfomholheaaGreatDoor.X Go.Proofs.YtcnfgfomholheaaGreatDoor.Pure
set_option linter.unusedVariables false
set_option linter.unusedSimpArgs false
theorem Qn:∀{l:List SS} {y:Option ByteArray},(∀x∈l,iw x=true)→yH l→(∀x∈l,lD y x.f0=true)→nD y l=true
 | [],y,_,_,_=>by rw [nD]
 | s::r,y,h1,h2,h3=>by
   obtain⟨a,b⟩:=List.pairwise_cons.1 h2
   rw [nD,h1 s List.mem_cons_self,h3 s List.mem_cons_self,Qn (y:=some s.f0) (fun x hx=>h1 x (List.mem_cons_of_mem _ hx)) b (fun x hx=>a x hx)]
   rfl
theorem Qo:∀{l:List SS} {y:Option ByteArray},nD y l=true→∀x∈l,iw x=true
 | s::r,y,h,x,hx=>by
   rw [nD,Bool.and_eq_true,Bool.and_eq_true] at h
   rcases List.mem_cons.1 hx with rfl | hx
   ·exact h.1
   ·exact Qo h.2.2 x hx
theorem Yh {t:ByteArray}:∀{l:List SS},yH l→(∀x∈l,x.f0≠t)→∀b∈l.dropWhile (yD t),mF t b.f0
 | [],_,_,b,hb=>by cases hb
 | a::r,h,ht,b,hb=>by
   obtain⟨h1,h2⟩:=List.pairwise_cons.1 h
   rw [List.dropWhile_cons] at hb
   split at hb
   ·exact Yh h2 (fun x hx=>ht x (List.mem_cons_of_mem _ hx)) b hb
   ·rename_i hc
    have h3:mF t a.f0:=by
     rcases DC (a:=t) (b:=a.f0) (fun e=>ht a List.mem_cons_self e.symm) with h3 | h3
     ·exact h3
     ·exact(hc h3).elim
    rcases List.mem_cons.1 hb with rfl | hb
    ·exact h3
    ·exact nC _ _ _ h3 (h1 b hb)
theorem Yi {t:ByteArray}:∀{l:List SS},∀b∈l.takeWhile (yD t),mF b.f0 t
 | [],b,hb=>by cases hb
 | a::r,b,hb=>by
   rw [List.takeWhile_cons] at hb
   split at hb
   ·rename_i hc
    rcases List.mem_cons.1 hb with rfl | hb
    ·exact hc
    ·exact Yi b hb
   ·cases hb
theorem Yj {s:SS} {l:List SS} (h:yH l):yH (eH s l):=by
 unfold eH
 have hd:yH (ig s.f0 l):=h.sublist List.filter_sublist
 have hne:∀x∈ig s.f0 l,x.f0≠s.f0:=fun x hx e=>by
  have:=(List.mem_filter.1 hx).2
  rw [e] at this
  simp at this
 generalize ig s.f0 l=D at hd hne
 have hs:(D.takeWhile (yD s.f0)++D.dropWhile (yD s.f0)).Pairwise (fun a b=>mF a.f0 b.f0):=by rw [List.takeWhile_append_dropWhile];exact hd
 obtain⟨h1,h2,h3⟩:=List.pairwise_append.1 hs
 refine List.pairwise_append.2 ⟨h1,List.pairwise_cons.2 ⟨fun b hb=>Yh hd hne b hb,h2⟩,fun a ha b hb=>?_⟩
 have ha':=Yi (t:=s.f0) a ha
 rcases List.mem_cons.1 hb with rfl | hb
 ·exact ha'
 ·exact h3 a ha b hb
theorem acu {s:SS} {l:List SS} (hs:iw s=true) (h:pO l=true):pO (eH s l)=true:=
 Qn (fun x hx=>by
  rcases Qk hx with rfl | hx
  ·exact hs
  ·exact Qo h x hx) (Yj (AP h).1) (fun x _=>rfl)
theorem Lh {p:List ByteArray}:∀{ns:List ByteArray} {y:Option ByteArray} {ks:List SN},ns.length=ks.length→ns.Pairwise mF→(∀x∈ns,lD y x=true)→(∀x k,(x,k)∈ns.zip ks→wY x k=true∧(k.f1.length≠0∨k.f2.length≠0)∧okI (p++[x]) k=true)→lN p ns y ks=true
 | [],y,[],_,_,_,_=>by rw [lN];exact fun _ _ _ _ h=>by cases h
 | x::r,y,k::q,hl,h1,h2,h3=>by
   obtain⟨a,b⟩:=List.pairwise_cons.1 h1
   obtain⟨c1,c2,c3⟩:=h3 x k (by rw [List.zip_cons_cons];exact List.mem_cons_self)
   exact qX.2 ⟨h2 x List.mem_cons_self,c1,c2,c3,Lh (by simpa using hl) b (fun z hz=>a z hz) (fun z m hm=>h3 z m (by rw [List.zip_cons_cons];exact List.mem_cons_of_mem _ hm))⟩
theorem ae3 {q:List ByteArray} (h:q.length≤6):okI q zN=true:=by
 refine jP.2 ⟨rfl,h,rfl, .inl rfl,Lh rfl .nil (fun x hx=>by cases hx) (fun x k hx=>by cases hx)⟩
theorem Yk {l:List UInt8} (h:jD l false=true) (b:Bool):jD l b=true:=by
 unfold jD at h⊢
 simp only [Bool.and_false,Bool.or_false] at h
 rw [h,Bool.true_or]
theorem UO {s:SS} (hs:iw s=true):∀(ls p:List ByteArray) (n:SN),okI p n=true→p.length+ls.length≤6→allL (ls.map dl)=true→(∀x∈ls,(47:UInt8)∉dl x)→bW (dG (p++ls))=true→okI p (cu (eH s) ls n)=true
 | [],p,n,h,hl,_,_,hf=>by
   obtain⟨h1,h2,h3,h4,h5⟩:=jP.1 h
   rw [List.append_nil] at hf
   exact jP.2 ⟨h1,h2,acu hs h3, .inr hf,h5⟩
 | t::ts,p,n,h,hl,ha,h47,hf=>by
   obtain⟨h1,h2,h3,h4,h5⟩:=jP.1 h
   have ht:=(yE n p h).1.tr
   obtain⟨A,B,k,g1,g2,g3,g4⟩:=AL (eH s) t ts n ht
   have hR:=DF (eH s) (t::ts) n ht
   rw [List.length_cons] at hl
   rw [List.map_cons,allL,Bool.and_eq_true] at ha
   have hin:∀x k,(x,k)∈kN n→wY x k=true∧(k.f1.length≠0∨k.f2.length≠0)∧okI (p++[x]) k=true:=Fp h5
   have hk:okI (p++[t]) k=true∧Tr k∧jD (dl t) (decide (k.f1.length=0) && ts.isEmpty)=true:=by
    rcases g1 with ⟨g1,_⟩ | ⟨_,rfl⟩
    ·obtain⟨c1,c2,c3⟩:=hin t k (by rw [g1];exact List.mem_append_right _ List.mem_cons_self)
     refine⟨c3,(yE k _ c3).1.tr,?_⟩
     unfold wY at c1
     rw [Bool.and_eq_true] at c1
     cases e:ts.isEmpty with
     | true=>rw [Bool.and_true];exact c1.2
     | false=>rw [Bool.and_false];rw [List.isEmpty_map,e] at ha;exact ha.1
    ·refine⟨ae3 (by rw [List.length_append,List.length_singleton];omega),Fq,?_⟩
     rw [List.isEmpty_map] at ha
     exact ha.1
   obtain⟨k1,k2,k3⟩:=hk
   have ih:=UO hs ts (p++[t]) k k1 (by rw [List.length_append,List.length_singleton];omega) ha.2 (fun x hx=>h47 x (List.mem_cons_of_mem _ hx)) (by rw [List.append_assoc];exact hf)
   have hfull:=aar (acr s) ts k k2
   have afX:wY t (cu (eH s) ts k)=true:=by
    unfold wY
    rw [Bool.and_eq_true,decide_eq_true_eq]
    refine⟨(I7 _).2 (h47 t List.mem_cons_self),?_⟩
    cases ts with
    | nil=>rw [cu];rw [List.isEmpty_nil,Bool.and_true] at k3;exact k3
    | cons u us=>exact Yk (by rw [List.isEmpty_cons,Bool.and_false] at k3;exact k3) _
   refine jP.2 ⟨hR.len,h2,by rw [g4];exact h3,by rw [g4];exact h4,Lh hR.len hR.rise (fun x _=>rfl) (fun x m hm=>?_)⟩
   have hm2:(x,m)∈kN (cu (eH s) (t::ts) n):=hm
   rw [g3] at hm2
   have old:(x,m)∈A++B→(x,m)∈kN n:=fun hy=>by
    rcases g1 with ⟨g1,_⟩ | ⟨g1,_⟩
    ·rw [g1];exact List.mem_append.2 ((List.mem_append.1 hy).imp id (List.mem_cons_of_mem _))
    ·rw [g1];exact hy
   rcases List.mem_append.1 hm2 with hy | hy
   ·exact hin x m (old (List.mem_append_left _ hy))
   ·rcases List.mem_cons.1 hy with hy | hy
    ·obtain⟨rfl,rfl⟩:=Prod.mk.inj hy
     exact⟨afX,hfull.imp (fun h e=>h (List.length_eq_zero_iff.1 e)) (fun h e=>h (List.length_eq_zero_iff.1 e)),ih⟩
    ·exact hin x m (old (List.mem_append_right _ hy))
theorem Yl (f:ByteArray):dG (ng f)=f:=by
 apply X0
 rw [tH,lH,AQ]
theorem Ym {n:SN} {f:ByteArray} {s:SS} (hn:fH n=true) (hf:bW f=true) (hs:iw s=true):fH (cu (eH s) (ng f) n)=true:=by
 obtain⟨ho,h2⟩:=yF hn
 have hf2:=hf
 unfold bW at hf2
 simp only [Bool.and_eq_true,decide_eq_true_eq] at hf2
 have hk:=UO hs (ng f) [] n ho (by rw [List.length_nil,Nat.zero_add,←pieces_len];exact hf2.2) (by rw [lH];exact hf2.1.1.1) (fun x hx=>Lj (dl f) (dl x) (by rw [←lH];exact List.mem_map_of_mem hx)) (by rw [List.nil_append,Yl];exact hf)
 unfold fH
 rw [hk,Bool.and_true,decide_eq_true_eq]
 have hne:ng f≠[]:=fun e=>by
  have h3:=lH f
  rw [show X.pieces f stroke=[] from e] at h3
  obtain⟨a,r,h4⟩:=qY (dl f)
  rw [h4] at h3;cases h3
 cases hl:ng f with
 | nil=>exact absurd hl hne
 | cons t ts=>
   obtain⟨A,B,k,_,_,_,g4⟩:=AL (eH s) t ts n (yE n [] ho).1.tr
   rw [g4,h2];rfl
theorem Yn {n:SN} {f:ByteArray} {s:SS} (hn:fH n=true):fH (nG f s n)=true:=by
 unfold nG
 cases hq:fH n && (bW f && iw s) with
 | false=>exact hn
 | true=>
   simp only [Bool.and_eq_true] at hq
   exact Ym hn hq.2.1 hq.2.2
theorem I8 {p:List ByteArray} {d:Nat}:∀{ns:List ByteArray} {ks:List SN},ns.length=ks.length→(∀k∈ks,∀q,1≤(iI q k).length∧cnt k+1≤(1+d)*(iI q k).length)→ns.length+jW ks≤(1+d)*(dY p ns ks).length
 | [],[],_,_=>by simp [jW]
 | x::r,k::q,hl,h=>by
   have ih:=I8 (p:=p) (d:=d) (ns:=r) (ks:=q) (by simpa using hl) (fun m hm=>h m (List.mem_cons_of_mem _ hm))
   obtain⟨_,h2⟩:=h k List.mem_cons_self (p++[x])
   rw [dY,jW,List.length_append,List.length_cons,Nat.mul_add]
   omega
theorem acv:∀(n:SN) (p:List ByteArray),Gd n→(n.f1≠[]∨n.f2≠[])→1≤(iI p n).length:=fun n p hg hne=>by
 obtain⟨q,hq⟩:=UC n hg hne
 obtain⟨s,hs⟩:=List.exists_mem_of_ne_nil _ hq
 exact List.length_pos_of_mem (Qa q n p hg.tr s hs)
theorem UQ:∀(n:SN) (p:List ByteArray) (d:Nat),Gd n→Dp d n→cnt n≤(1+d)*(iI p n).length:=fun n p d hg hd=>by
 rw [xg,Ux,List.length_append,List.length_map,Nat.mul_add]
 have h0:n.f2.length≤(1+d)*n.f2.length:=Nat.le_mul_of_pos_left _ (by omega)
 by_cases hne:n.f1=[]
 ·have:n.f0=[]:=List.length_eq_zero_iff.1 (by rw [hg.tr.len,hne];rfl)
  rw [hne,this]
  simp only [jW,List.length_nil]
  omega
 ·have hp:=hd.pos hne
  have h1:=I8 (p:=p) (d:=d) hg.tr.len (fun k hk q=>by
   have ih:=UQ k q (d - 1) (hg.kid k hk) (hd.kid k hk)
   have hpos:=acv k q (hg.kid k hk) (hg.full k hk)
   rw [show 1+(d - 1)=d by omega] at ih
   refine⟨hpos,?_⟩
   rw [Nat.add_mul]
   omega)
  omega
termination_by n=>SizeOf.sizeOf n
decreasing_by exact kG hk
theorem I9 {n:SN} (hn:fH n=true) (h:(jl n).length≤14):cnt n≤112:=by
 have hg:=yE n [] (yF hn).1
 have h1:=UQ n [] 7 hg.1 hg.2
 unfold jl at h
 rw [if_pos hn] at h
 omega
end Go.Proofs.YtcnfgfomholheaaGreatDoor.Q
end
section
namespace Go.Proofs.YtcnfgfomholheaaGreatDoor.Q
open Go.RowKit Go.Proofs.YtcnfgfomholheaaGreatDoor.Z Go.Proofs.YtcnfgfomholheaaGreatDoor.X Go.Proofs.YtcnfgfomholheaaGreatDoor.Pure
set_option linter.unusedVariables false
set_option linter.unusedSimpArgs false
set_option maxRecDepth 100000
set_option maxHeartbeats 4000000
theorem Qp (n:SN) (s:SS) (hn:Bd n):aG T Tryz.prog 112 [.ag (T.cells eN n), .c (.sl 9 []), .ag (T.cells eS s)] (sW (cu (eH s) [] n)):=by
 refine aH hT Tryz.func112 (by kernel_rfl) rfl rfl (fun A=>?_)
 conv=>whnf
 refine ak.mk _ (qF n hn) ?_
 conv=>whnf
 refine Split.mk (fun _=>?_) (fun e=>jd e)
 conv=>whnf
 refine ak.mk _ (acg n.f2 s (Nat.le_trans hn.l2 (by decide))) ?_
 conv=>whnf
 exact aC.mk ⟨rfl,rfl⟩ ⟨rfl,rfl⟩ ⟨rfl,rfl,rfl,trivial⟩
theorem acw {l:List SN} {p:Nat} {x:SN} (h:p≤l.length):bP T eN (l.take p++x::l.drop p) p=x:=by
 have e:(l.take p++x::l.drop p)[p]? =some x:=by
  rw [List.getElem?_append_right (by rw [List.length_take];omega),List.length_take,Nat.min_eq_left h,Nat.sub_self]
  rfl
 have e2:List.getD (l.take p++x::l.drop p) p (zN:SN)=x:=by rw [List.getD_eq_getElem?_getD,e];rfl
 exact e2
theorem acy {l:List SN} {p:Nat} {x y:SN} (h:p≤l.length):(l.take p++x::l.drop p).set p y=l.take p++y::l.drop p:=by
 rw [List.set_append_right _ _ (by rw [List.length_take];omega),List.length_take,Nat.min_eq_left h,Nat.sub_self]
 rfl
theorem acz {α:Type} {l:List α} {p:Nat} {x:α} (h:p≤l.length):(l.take p++x::l.drop p).length=l.length+1:=by
 rw [List.length_append,List.length_cons,List.length_take,List.length_drop];omega
theorem OW (n:SN) (t:ByteArray) (ts:List ByteArray) (s:SS) (hn:Bd n) (htr:Tr n) (hts:(t::ts).length≤2097152)
  (ih:iH t n.f0=true→aG T Tryz.prog 112 [.ag (T.cells eN (bP T eN n.f1 (aN t n.f0))), .c (.sl 9 (((t::ts).drop 1).take ((t::ts).length - 1))), .ag (T.cells eS s)] (sW (cu (eH s) ts (gN n.f1 (aN t n.f0)))))
  (iz:iH t n.f0=false→aG T Tryz.prog 112 [.ag (T.cells eN zN), .c (.sl 9 (((t::ts).drop 1).take ((t::ts).length - 1))), .ag (T.cells eS s)] (sW (cu (eH s) ts zN))):aG T Tryz.prog 112 [.ag (T.cells eN n), .c (.sl 9 (t::ts)), .ag (T.cells eS s)] (sW (cu (eH s) (t::ts) n)):=by
 have hl0:=hn.l0
 have hl1:=hn.l1
 have hlen:=htr.len
 have Qq:=Yd t n.f0
 refine aH hT Tryz.func112 (by kernel_rfl) rfl rfl (fun A=>?_)
 conv=>whnf
 refine ak.mk _ (qF n hn) ?_
 conv=>whnf
 refine Split.mk (fun e=>?_) (fun _=>?_)
 ·simp at e
 conv=>whnf
 refine Need.mk (idx (Nat.succ_pos _)) ?_
 conv=>whnf
 refine ak.mk _ (bsearch n.f0 t (Nat.le_trans hn.l0 (by decide)) (htr.up t)) ?_
 conv=>whnf
 refine aT.mk ⟨by kernel_rfl,by kernel_rfl⟩ ?_
 conv=>whnf
 refine Split.mk (fun e=>?_) (fun e=>?_)
 ·have hf:iH t n.f0=false:=bU e
  have iz:=iz hf
  generalize hK:cu (eH s) ts zN=K at iz
  conv=>whnf
  refine Need.mk (idx (Nat.succ_pos _)) ?_
  conv=>whnf
  refine ak.wr [[.gv 9],[.rd],[.gv 9]] (.c (.ow 9 (n.f0.take (aN t n.f0)++t::n.f0.drop (aN t n.f0)))) ?_
  conv=>whnf
  refine jK.mk (afY n.f0 t (aN t n.f0) Qq (by omega)) ?_
  conv=>whnf
  refine aT.mk ⟨by kernel_rfl,by kernel_rfl⟩ ?_
  conv=>whnf
  refine ak.wr [[.gv eN],[.rd],[.gv eN]] (.c (.ow eN (n.f1.take (aN t n.f0)++zN::n.f1.drop (aN t n.f0)))) ?_
  conv=>whnf
  refine jK.mk (afZ n.f1 zN (aN t n.f0) (by omega) (by omega)) ?_
  have hq1:aN t n.f0<(n.f1.take (aN t n.f0)++zN::n.f1.drop (aN t n.f0)).length:=by rw [acz (by omega)];omega
  have iz2:aG T Tryz.prog 112 [.ag (T.cells eN (bP T eN (n.f1.take (aN t n.f0)++zN::n.f1.drop (aN t n.f0)) (aN t n.f0))), .c (.sl 9 (((t::ts).drop 1).take ((t::ts).length - 1))), .ag (T.cells eS s)] (sW K):=by
   rw [acw (by omega)];exact iz
  conv=>whnf
  refine Need.mk (idx hq1) ?_
  conv=>whnf
  refine Need.mk ⟨by decide,Int.ofNat_le.2 (show 1≤ts.length+1 from Nat.succ_le_succ (Nat.zero_le _)),Int.le_refl _⟩ ?_
  conv=>whnf
  refine ak.mk _ iz2 ?_
  conv=>whnf
  refine Need.mk (idx hq1) ?_
  conv=>whnf
  refine aT.mk ⟨by kernel_rfl,by kernel_rfl⟩ ?_
  conv=>whnf
  exact aC.mk ⟨rfl,rfl⟩ ⟨rfl,rfl⟩ ⟨jc (by simp [cu,hf]),iT (by rw [Ll];refine(acy (by omega)).trans ?_;simp [cu,hf,hK]),iC (by simp [cu,hf]),trivial⟩
 ·have hf:iH t n.f0=true:=dn e
  have ih:=ih hf
  have hp:=wW hf
  have hp1:aN t n.f0<n.f1.length:=by rw [←htr.len];exact hp
  generalize hK:cu (eH s) ts (gN n.f1 (aN t n.f0))=K at ih
  conv=>whnf
  refine Need.mk (idx hp1) ?_
  conv=>whnf
  refine Need.mk ⟨by decide,Int.ofNat_le.2 (show 1≤ts.length+1 from Nat.succ_le_succ (Nat.zero_le _)),Int.le_refl _⟩ ?_
  conv=>whnf
  refine ak.mk _ ih ?_
  conv=>whnf
  refine Need.mk (idx hp1) ?_
  conv=>whnf
  refine aT.mk ⟨by kernel_rfl,by kernel_rfl⟩ ?_
  conv=>whnf
  exact aC.mk ⟨rfl,rfl⟩ ⟨rfl,rfl⟩ ⟨jc (by simp [cu,hf]),iT (by rw [Ll];simp [cu,hf,hK];rfl),iC (by simp [cu,hf]),trivial⟩
end Go.Proofs.YtcnfgfomholheaaGreatDoor.Q
end
section
namespace Go.Proofs.YtcnfgfomholheaaGreatDoor.Q
open Go.RowKit Go.Proofs.YtcnfgfomholheaaGreatDoor.Z Go.Proofs.YtcnfgfomholheaaGreatDoor.X Go.Proofs.YtcnfgfomholheaaGreatDoor.Pure
set_option linter.unusedVariables false
set_option linter.unusedSimpArgs false
set_option maxRecDepth 100000
set_option maxHeartbeats 4000000
theorem abG:Bd zN:= .mk _ (Nat.zero_le _) (fun x hx=>by cases hx) (Nat.zero_le _) (Nat.zero_le _) (fun x hx=>by cases hx) (fun x hx=>by cases hx)
theorem inserted:∀(ls:List ByteArray) (s:SS) (n:SN),ls.length≤2097152→Bd n→Tr n→aG T Tryz.prog 112 [.ag (T.cells eN n), .c (.sl 9 ls), .ag (T.cells eS s)] (sW (cu (eH s) ls n))
 | [],s,n,_,hn,_=>Qp n s hn
 | t::ts,s,n,hl,hn,ht=>by
   have hl2:ts.length≤2097152:=by simp at hl;omega
   refine OW n t ts s hn ht hl (fun hf=>?_) (fun hf=>?_)
   ·have hp1:aN t n.f0<n.f1.length:=by rw [←ht.len];exact wW hf
    have hm:bP T eN n.f1 (aN t n.f0)∈n.f1:=getD_mem (l:=n.f1) (d:=T.df eN) hp1
    exact Eq.mpr (congrArg (fun L:List ByteArray=>aG T Tryz.prog 112 [.ag (T.cells eN (bP T eN n.f1 (aN t n.f0))), .c (.sl 9 L), .ag (T.cells eS s)] (sW (cu (eH s) ts (gN n.f1 (aN t n.f0))))) (tl_ t ts)) (inserted ts s (bP T eN n.f1 (aN t n.f0)) hl2 (hn.kid _ hm) (ht.kid _ hm))
   ·exact Eq.mpr (congrArg (fun L:List ByteArray=>aG T Tryz.prog 112 [.ag (T.cells eN zN), .c (.sl 9 L), .ag (T.cells eS s)] (sW (cu (eH s) ts zN))) (tl_ t ts)) (inserted ts s zN hl2 abG Fq)
theorem acA {f:ByteArray} (h:f.size≤1048576):(ng f).length≤2097152:=Nat.le_trans (qp f) (by omega)
theorem VN (n:SN) (f:ByteArray) (s:SS) (hn:Bd n) (hf:f.size≤1048576) (hs:s.f0.size≤1048576):aG T Tryz.prog 30 [.ag (T.cells eN n), .c (.sc (.string f)), .ag (T.cells eS s)] (sW (nG f s n)):=by
 have hR:nG f s n=bif fH n && (bW f && iw s) then cu (eH s) (ng f) n else n:=rfl
 generalize nG f s n=R at hR⊢
 refine aH hT Tryz.func30 (by kernel_rfl) rfl rfl (fun A=>?_)
 conv=>whnf
 refine ak.mk _ (Ap n hn) ?_
 conv=>whnf
 refine Split.mk (fun c1=>?_) (fun c1=>?_)
 ·have h0:fH n=false:=bU c1
  rw [h0] at hR
  obtain rfl:n=R:=Eq.symm hR
  conv=>whnf
  refine Split.mk (fun _=>?_) (fun e=>jd e)
  conv=>whnf
  refine Split.mk (fun _=>?_) (fun e=>jd e)
  conv=>whnf
  refine ak.mk _ (qF n hn) ?_
  conv=>whnf
  exact aC.mk ⟨rfl,rfl⟩ ⟨rfl,rfl⟩ ⟨rfl,rfl,rfl,trivial⟩
 have h0:fH n=true:=dn c1
 rw [h0,Bool.true_and] at hR
 conv=>whnf
 refine ak.mk _ (xq f (Nat.le_trans hf (by decide))) ?_
 conv=>whnf
 refine Split.mk (fun c1=>?_) (fun c1=>?_)
 ·have h1:bW f=false:=bU c1
  rw [h1] at hR
  obtain rfl:n=R:=Eq.symm hR
  conv=>whnf
  refine Split.mk (fun _=>?_) (fun e=>jd e)
  conv=>whnf
  refine ak.mk _ (qF n hn) ?_
  conv=>whnf
  exact aC.mk ⟨rfl,rfl⟩ ⟨rfl,rfl⟩ ⟨rfl,rfl,rfl,trivial⟩
 have h1:bW f=true:=dn c1
 rw [h1,Bool.true_and] at hR
 conv=>whnf
 refine ak.mk _ (NM s (Nat.le_trans hs (by decide))) ?_
 conv=>whnf
 refine Split.mk (fun c1=>?_) (fun c1=>?_)
 ·have h2:iw s=false:=bU c1
  rw [h2] at hR
  obtain rfl:n=R:=Eq.symm hR
  conv=>whnf
  refine ak.mk _ (qF n hn) ?_
  conv=>whnf
  exact aC.mk ⟨rfl,rfl⟩ ⟨rfl,rfl⟩ ⟨rfl,rfl,rfl,trivial⟩
 have h2:iw s=true:=dn c1
 rw [h2] at hR
 obtain rfl:R=cu (eH s) (ng f) n:=hR
 conv=>whnf
 refine ak.mk _ (AU f (Nat.le_trans hf (by decide))) ?_
 conv=>whnf
 refine ak.mk _ (inserted (ng f) s n (acA hf) hn (lF h0).1) ?_
 conv=>whnf
 refine aT.mk ⟨by kernel_rfl,by kernel_rfl⟩ ?_
 conv=>whnf
 exact aC.mk ⟨rfl,rfl⟩ ⟨rfl,rfl⟩ ⟨rfl,rfl,rfl,trivial⟩
end Go.Proofs.YtcnfgfomholheaaGreatDoor.Q
end
section
namespace Go.Proofs.YtcnfgfomholheaaGreatDoor.Q
open Go.RowKit Go.Proofs.YtcnfgfomholheaaGreatDoor.Z Go.Proofs.YtcnfgfomholheaaGreatDoor.X Go.Proofs.YtcnfgfomholheaaGreatDoor.Pure
set_option linter.unusedVariables false
set_option linter.unusedSimpArgs false
set_option maxRecDepth 100000
set_option maxHeartbeats 4000000
def qw (s:SS) (l:List SS):Bool:=(l.foldl (iq s) ([],false)).2
def lQ (s:SS) (l:List SS):List SS:=(l.foldl (iq s) ([],false)).1
theorem Yo (s:SS) (p:List SS × Bool) (x:SS):(iq s p x).1.length≤p.1.length+2:=by
 unfold iq
 cases x.f0.toList==s.f0.toList with
 | true=>show(p.1++[s]).length≤_;simp
 | false=>
   cases !p.2 && Op.bytesLess s.f0.toList x.f0.toList with
   | true=>show(p.1++[s]++[x]).length≤_;simp
   | false=>show(p.1++[x]).length≤_;simp
theorem Hr (s:SS):∀(l:List SS) (p:List SS × Bool),(l.foldl (iq s) p).1.length≤p.1.length+2*l.length
 | [],p=>Nat.le_add_right _ _
 | x::l,p=>by
   have h1:=Hr s l (iq s p x)
   have h2:=Yo s p x
   rw [List.foldl_cons,List.length_cons]
   omega
theorem VO {s:SS} {l:List SS} {k:Nat} (h:k<l.length):(l.take (k+1)).foldl (iq s) ([],false)=iq s ((l.take k).foldl (iq s) ([],false)) (gS l k):=by
 rw [List.take_succ_eq_append_getElem h,List.foldl_append,show gS l k=l[k] from getD_in l k (T.df eS) h]
 rfl
theorem abH (a b:List UInt8):(!(Op.bytesLess a b || a==b))=Op.bytesLess b a:=by
 by_cases e:a=b
 ·subst e;rw [y9];simp
 ·have e2:(a==b)=false:=by simp [e]
  rcases AB a b e with h | h
  ·rw [h,pK a b h];rfl
  ·rw [h,pK b a h,e2];rfl
abbrev bxS (s:SS):dK T:= .bx eS [.sc (.string s.f0), .sc (.int .i64 s.f1), .sc (.int .i64 s.f2)]
theorem TF (n:SN) (s:SS) (hn:Bd n):aG T Tryz.prog 110 [.ag (T.cells eN n), .c (.sl 9 []), .ag (T.cells eS s)] (Dv (cu (oO s) [] n)):=by
 have hl0:=hn.l0
 have hl1:=hn.l1
 have hl2:=hn.l2
 refine kK hT Tryz.func110 (by kernel_rfl) rfl rfl (fun A=>?_)
 refine Vc.of 0 hT ?_
 conv=>whnf
 refine Need.mk ⟨rQ,bJ (a:=0) (b:=n.f0.length) (by omega) (by decide)⟩ ?_
 conv=>whnf
 refine Need.mk (bJ (a:=0) (b:=n.f1.length) (by omega) (by decide)) ?_
 conv=>whnf
 refine Need.mk ⟨O8,bJ (a:=0) (b:=n.f2.length) (by omega) (by decide)⟩ ?_
 conv=>whnf
 refine aT.mk ⟨by kernel_rfl,by kernel_rfl⟩ ?_
 conv=>whnf
 refine Split.mk (fun _=>?_) (fun e=>jd e)
 conv=>whnf
 refine dF.mk {k:Nat // k≤n.f2.length} (fun p=>(11,[(10,i64 p.1),(9,bb (qw s (n.f2.take p.1))),(8, .c (.hd 10)),(7, .c (.px 9 0)),(6, .c (.px 2 0)),(5, .c (.px 1 0)),(3, .c (.px 0 0))],[(10, .row 10 eS (lQ s (n.f2.take p.1))),(9, .bx eN [.hd 4, .hd 6, .hd 8]),(4, .row 4 9 n.f0),(6, .sh 6 eN n.f1),(8, .row 8 eS n.f2),(2,Uy),(1,bxS s),(0,vS n)])) (fun p=>n.f2.length - p.1) ⟨0,Nat.zero_le _⟩ (aA [(10,10),(9,9),(4,4),(6,6),(8,8),(2,2),(1,1),(0,0)] rfl rfl rfl ⟨⟨rfl,rfl⟩,⟨rfl,rfl⟩,⟨rfl,rfl⟩,⟨rfl,rfl⟩,⟨rfl,rfl⟩,⟨rfl,rfl⟩,⟨rfl,rfl⟩,trivial⟩ ⟨iC rfl,⟨rfl,rfl⟩,jc rfl,iT rfl,iC rfl,⟨rfl,rfl⟩,⟨rfl,rfl⟩,⟨rfl,rfl⟩,trivial⟩) ?_
 rintro⟨k,hk⟩
 conv=>whnf
 refine Split.mk (fun c1=>?_) (fun c1=>?_)
 ·have hk2:k<n.f2.length:=fQ c1
  clear c1
  have hstep:=VO (s:=s) hk2
  have hrl:=Hr s (n.f2.take k) ([],false)
  rw [List.length_take] at hrl
  have hr1:(lQ s (n.f2.take k)).length+2≤8388608:=by
   have:(lQ s (n.f2.take k)).length≤0+2*min k n.f2.length:=hrl
   omega
  have nx:∀{b:Bool} {l:List SS},iq s (lQ s (n.f2.take k),qw s (n.f2.take k)) (gS n.f2 k)=(l,b)→qw s (n.f2.take (k+1))=b∧lQ s (n.f2.take (k+1))=l:=fun h=>by
   have h2:=hstep.trans h
   exact⟨congrArg Prod.snd h2,congrArg Prod.fst h2⟩
  conv=>whnf
  refine Need.mk (idx hk2) ?_
  conv=>whnf
  refine aT.mk ⟨by kernel_rfl,by kernel_rfl⟩ ?_
  conv=>whnf
  refine Split.mk (fun c1=>?_) (fun c1=>?_)
  ·have hs:iq s (lQ s (n.f2.take k),qw s (n.f2.take k)) (gS n.f2 k)=(lQ s (n.f2.take k)++[s],true):=by
    unfold iq
    rw [show((gS n.f2 k).f0.toList==s.f0.toList)=true from c1];rfl
   obtain⟨e1,e2⟩:=nx hs
   conv=>whnf
   refine Need.mk (bJ (a:=(lQ s (n.f2.take k)).length) (b:=1) (by omega) (by decide)) ?_
   conv=>whnf
   exact bF.mk ⟨⟨k+1,hk2⟩,Nat.sub_lt_sub_left hk2 (Nat.lt_succ_self k),aA [(10,12),(9,9),(4,4),(6,6),(8,8),(2,2),(1,1),(0,0)] rfl rfl rfl ⟨⟨rfl,congrArg i64 (dO hk2 (by omega))⟩,⟨rfl,congrArg bb e1⟩,⟨rfl,rfl⟩,⟨rfl,rfl⟩,⟨rfl,rfl⟩,⟨rfl,rfl⟩,⟨rfl,rfl⟩,trivial⟩ ⟨iC e2.symm,⟨rfl,rfl⟩,jc rfl,iT rfl,iC rfl,⟨rfl,rfl⟩,⟨rfl,rfl⟩,⟨rfl,rfl⟩,trivial⟩⟩
  ·have c2:((gS n.f2 k).f0.toList==s.f0.toList)=false:=c1
   have plain:(!qw s (n.f2.take k) && Op.bytesLess s.f0.toList (gS n.f2 k).f0.toList)=false→qw s (n.f2.take (k+1))=qw s (n.f2.take k)∧lQ s (n.f2.take (k+1))=lQ s (n.f2.take k)++[gS n.f2 k]:=fun h=>nx (by
    unfold iq
    rw [c2]
    show(bif !qw s (n.f2.take k) && Op.bytesLess s.f0.toList (gS n.f2 k).f0.toList then _ else _)=_
    rw [h];rfl)
   conv=>whnf
   refine Split.mk (fun c3=>?_) (fun c3=>?_)
   ·conv=>whnf
    refine Need.mk (idx hk2) ?_
    conv=>whnf
    refine aT.mk ⟨by kernel_rfl,by kernel_rfl⟩ ?_
    conv=>whnf
    refine Split.mk (fun c4=>?_) (fun c4=>?_)
    ·have hs:iq s (lQ s (n.f2.take k),qw s (n.f2.take k)) (gS n.f2 k)=(lQ s (n.f2.take k)++[s]++[gS n.f2 k],true):=by
      unfold iq
      rw [c2]
      show(bif !qw s (n.f2.take k) && Op.bytesLess s.f0.toList (gS n.f2 k).f0.toList then _ else _)=_
      rw [show(!qw s (n.f2.take k))=true from c3,show Op.bytesLess s.f0.toList (gS n.f2 k).f0.toList=true from(abH _ _).symm.trans c4];rfl
     obtain⟨e1,e2⟩:=nx hs
     conv=>whnf
     refine Need.mk (bJ (a:=(lQ s (n.f2.take k)).length) (b:=1) (by omega) (by decide)) ?_
     conv=>whnf
     refine Need.mk (idx hk2) ?_
     conv=>whnf
     refine Need.mk (bJ (a:=(lQ s (n.f2.take k)++[s]).length) (b:=1) (by rw [List.length_append];show _+1+1≤_;omega) (by decide)) ?_
     conv=>whnf
     exact bF.mk ⟨⟨k+1,hk2⟩,Nat.sub_lt_sub_left hk2 (Nat.lt_succ_self k),aA [(10,14),(9,9),(4,4),(6,6),(8,8),(2,2),(1,1),(0,0)] rfl rfl rfl ⟨⟨rfl,congrArg i64 (dO hk2 (by omega))⟩,⟨rfl,congrArg bb e1⟩,⟨rfl,rfl⟩,⟨rfl,rfl⟩,⟨rfl,rfl⟩,⟨rfl,rfl⟩,⟨rfl,rfl⟩,trivial⟩ ⟨iC e2.symm,⟨rfl,rfl⟩,jc rfl,iT rfl,iC rfl,⟨rfl,rfl⟩,⟨rfl,rfl⟩,⟨rfl,rfl⟩,trivial⟩⟩
    ·obtain⟨e1,e2⟩:=plain (by rw [show Op.bytesLess s.f0.toList (gS n.f2 k).f0.toList=false from(abH _ _).symm.trans c4,Bool.and_false])
     conv=>whnf
     refine Need.mk (idx hk2) ?_
     conv=>whnf
     refine Need.mk (bJ (a:=(lQ s (n.f2.take k)).length) (b:=1) (by omega) (by decide)) ?_
     conv=>whnf
     exact bF.mk ⟨⟨k+1,hk2⟩,Nat.sub_lt_sub_left hk2 (Nat.lt_succ_self k),aA [(10,12),(9,9),(4,4),(6,6),(8,8),(2,2),(1,1),(0,0)] rfl rfl rfl ⟨⟨rfl,congrArg i64 (dO hk2 (by omega))⟩,⟨rfl,congrArg bb e1⟩,⟨rfl,rfl⟩,⟨rfl,rfl⟩,⟨rfl,rfl⟩,⟨rfl,rfl⟩,⟨rfl,rfl⟩,trivial⟩ ⟨iC e2.symm,⟨rfl,rfl⟩,jc rfl,iT rfl,iC rfl,⟨rfl,rfl⟩,⟨rfl,rfl⟩,⟨rfl,rfl⟩,trivial⟩⟩
   ·obtain⟨e1,e2⟩:=plain (by rw [show(!qw s (n.f2.take k))=false from c3,Bool.false_and])
    conv=>whnf
    refine aT.mk ⟨by kernel_rfl,by kernel_rfl⟩ ?_
    conv=>whnf
    refine Split.mk (fun e=>jS e) (fun _=>?_)
    conv=>whnf
    refine Need.mk (idx hk2) ?_
    conv=>whnf
    refine Need.mk (bJ (a:=(lQ s (n.f2.take k)).length) (b:=1) (by omega) (by decide)) ?_
    conv=>whnf
    exact bF.mk ⟨⟨k+1,hk2⟩,Nat.sub_lt_sub_left hk2 (Nat.lt_succ_self k),aA [(10,12),(9,9),(4,4),(6,6),(8,8),(2,2),(1,1),(0,0)] rfl rfl rfl ⟨⟨rfl,congrArg i64 (dO hk2 (by omega))⟩,⟨rfl,congrArg bb e1⟩,⟨rfl,rfl⟩,⟨rfl,rfl⟩,⟨rfl,rfl⟩,⟨rfl,rfl⟩,⟨rfl,rfl⟩,trivial⟩ ⟨iC e2.symm,⟨rfl,rfl⟩,jc rfl,iT rfl,iC rfl,⟨rfl,rfl⟩,⟨rfl,rfl⟩,⟨rfl,rfl⟩,trivial⟩⟩
 ·have hk2:k=n.f2.length:=Nat.le_antisymm hk (fZ c1)
  clear c1
  subst hk2
  rw [List.take_length]
  have hr1:(lQ s n.f2).length+2≤8388608:=by
   have:(lQ s n.f2).length≤0+2*n.f2.length:=Hr s n.f2 ([],false)
   omega
  conv=>whnf
  refine Split.mk (fun c3=>?_) (fun c3=>?_)
  ·have e:oO s n.f2=lQ s n.f2++[s]:=by
    unfold oO
    rw [show(n.f2.foldl (iq s) ([],false)).2=false from bU c3];rfl
   conv=>whnf
   refine Need.mk (bJ (a:=(lQ s n.f2).length) (b:=1) (by omega) (by decide)) ?_
   conv=>whnf
   exact aC.mk ⟨rfl,rfl⟩ ⟨rfl,rfl⟩ ⟨jc rfl,iT rfl,iC e.symm,trivial⟩
  ·have e:oO s n.f2=lQ s n.f2:=by
    unfold oO
    rw [show(n.f2.foldl (iq s) ([],false)).2=true from dn c3];rfl
   conv=>whnf
   exact aC.mk ⟨rfl,rfl⟩ ⟨rfl,rfl⟩ ⟨jc rfl,iT rfl,iC e.symm,trivial⟩
end Go.Proofs.YtcnfgfomholheaaGreatDoor.Q
end
section
namespace Go.Proofs.YtcnfgfomholheaaGreatDoor.Q
open Go.RowKit Go.Proofs.YtcnfgfomholheaaGreatDoor.Z Go.Proofs.YtcnfgfomholheaaGreatDoor.X Go.Proofs.YtcnfgfomholheaaGreatDoor.Pure
set_option linter.unusedVariables false
set_option linter.unusedSimpArgs false
set_option maxRecDepth 100000
set_option maxHeartbeats 4000000
theorem Yp {t:ByteArray} {l:List ByteArray} {i:Nat} (hi:i≤l.length) (h1:∀j,j<i→kS t (g9 l j)=true) (h2:i=l.length∨kS t (g9 l i)=false):aN t l=i:=by
 have:=(IZ (p:=kS t) (d:=T.df 9) hi h1 h2).1
 unfold aN
 rw [←this,List.length_take]
 omega
theorem Yq {f:FuncId} {xs:List (Arg T.Tb)} {r:RS T.Tb} (h:aG T Tryz.prog f (.ag (T.cells eN zN)::xs) r):aG T Tryz.prog f (.ag [.sc (.slice none 0 0), .sc (.slice none 0 0), .sc (.slice none 0 0)]::xs) r:=by
 refine⟨h.1,fun w vs S hj ha=>h.2 w vs S hj ?_⟩
 obtain⟨v,q,rfl,⟨us,rfl,h1⟩,h2⟩:=ha
 obtain⟨v1,q1,e1,⟨rfl,_⟩,v2,q2,rfl,⟨rfl,_⟩,v3,q3,rfl,⟨rfl,_⟩,rfl⟩:=h1
 exact⟨_,_,rfl,⟨us,rfl,by rw [e1];exact⟨_,_,rfl, .nil 9 none 0,_,_,rfl, .nil eN none 0,_,_,rfl, .nil eS none 0,rfl⟩⟩,h2⟩
theorem Qr (n:SN) (t:ByteArray) (ts:List ByteArray) (s:SS) (hn:Bd n) (htr:Tr n)
  (ih:iH t n.f0=true→aG T Tryz.prog 110 [.ag (T.cells eN (bP T eN n.f1 (aN t n.f0))), .c (.sl 9 (((t::ts).drop 1).take ((t::ts).length - 1))), .ag (T.cells eS s)] (Dv (cu (oO s) ts (gN n.f1 (aN t n.f0)))))
  (iz:iH t n.f0=false→aG T Tryz.prog 110 [.ag (T.cells eN zN), .c (.sl 9 (((t::ts).drop 1).take ((t::ts).length - 1))), .ag (T.cells eS s)] (Dv (cu (oO s) ts zN))):aG T Tryz.prog 110 [.ag (T.cells eN n), .c (.sl 9 (t::ts)), .ag (T.cells eS s)] (Dv (cu (oO s) (t::ts) n)):=by
 have hl0:=hn.l0
 have hl1:=hn.l1
 have hl2:=hn.l2
 have hlen:=htr.len
 have Qq:=Yd t n.f0
 have abI:aN t n.f0≤n.f1.length:=hlen▸Qq
 refine kK hT Tryz.func110 (by kernel_rfl) rfl rfl (fun A=>?_)
 refine Vc.seq 0 hT ?_
 conv=>whnf
 refine Vc.seq 3 hT ?_
 conv=>whnf
 refine Need.mk ⟨rQ,bJ (a:=0) (b:=n.f0.length) (by omega) (by decide)⟩ ?_
 conv=>whnf
 refine Need.mk (bJ (a:=0) (b:=n.f1.length) (by omega) (by decide)) ?_
 conv=>whnf
 refine Need.mk ⟨O8,bJ (a:=0) (b:=n.f2.length) (by omega) (by decide)⟩ ?_
 conv=>whnf
 refine aT.mk ⟨by kernel_rfl,by kernel_rfl⟩ ?_
 conv=>whnf
 refine Vc.seq 10 hT ?_
 conv=>whnf
 refine Split.mk (fun e=>?_) (fun _=>?_)
 ·simp at e
 conv=>whnf
 refine Vc.seq 10 hT ?_
 conv=>whnf
 refine Vc.cut (α:=Unit) 10 (fun _=>True) (fun _=>[(11,i64 (aN t n.f0)),(7, .c (.px 9 0)),(6, .c (.px 2 0)),(5, .c (.px 1 0)),(3, .c (.px 0 0)),(1,im 9 (t::ts))]) (fun _=>[(9, .bx eN [.hd 4, .hd 6, .hd 8]),(4, .row 4 9 n.f0),(6, .sh 6 eN n.f1),(8, .row 8 eS n.f2),(2,Uy),(1,bxS s),(0,vS n)]) hT ?_ (fun _ _=>?_)
 ·conv=>whnf
  refine dF.mk {k:Nat // k≤n.f0.length∧∀j,j<k→kS t (g9 n.f0 j)=true} (fun p=>(10,[(11,i64 p.1),(7, .c (.px 9 0)),(6, .c (.px 2 0)),(5, .c (.px 1 0)),(3, .c (.px 0 0)),(1,im 9 (t::ts))],[(9, .bx eN [.hd 4, .hd 6, .hd 8]),(4, .row 4 9 n.f0),(6, .sh 6 eN n.f1),(8, .row 8 eS n.f2),(2,Uy),(1,bxS s),(0,vS n)])) (fun p=>n.f0.length - p.1) ⟨0,Nat.zero_le _,fun j hj=>absurd hj (Nat.not_lt_zero j)⟩ (aA [(9,9),(4,4),(6,6),(8,8),(2,2),(1,1),(0,0)] rfl rfl rfl ⟨⟨rfl,rfl⟩,⟨rfl,rfl⟩,⟨rfl,rfl⟩,⟨rfl,rfl⟩,⟨rfl,rfl⟩,⟨rfl,rfl⟩,trivial⟩ ⟨⟨rfl,rfl⟩,jc rfl,iT rfl,iC rfl,⟨rfl,rfl⟩,⟨rfl,rfl⟩,⟨rfl,rfl⟩,trivial⟩) ?_
  rintro⟨k,hk,hlt⟩
  conv=>whnf
  refine Split.mk (fun c1=>?_) (fun c1=>?_)
  ·have hk2:k<n.f0.length:=fQ c1
   clear c1
   conv=>whnf
   refine Need.mk (idx hk2) ?_
   conv=>whnf
   refine Need.mk (idx (Nat.succ_pos _)) ?_
   conv=>whnf
   refine aT.mk ⟨by kernel_rfl,by kernel_rfl⟩ ?_
   conv=>whnf
   refine Split.mk (fun c2=>?_) (fun c2=>?_)
   ·conv=>whnf
    exact bF.mk ⟨⟨k+1,hk2,fun j hj=>by
     rcases Nat.lt_succ_iff_lt_or_eq.1 hj with h | rfl
     ·exact hlt j h
     ·exact c2⟩,Nat.sub_lt_sub_left hk2 (Nat.lt_succ_self k),aA [(9,9),(4,4),(6,6),(8,8),(2,2),(1,1),(0,0)] rfl rfl rfl ⟨⟨rfl,congrArg i64 (dO hk2 (by omega))⟩,⟨rfl,rfl⟩,⟨rfl,rfl⟩,⟨rfl,rfl⟩,⟨rfl,rfl⟩,⟨rfl,rfl⟩,trivial⟩ ⟨⟨rfl,rfl⟩,jc rfl,iT rfl,iC rfl,⟨rfl,rfl⟩,⟨rfl,rfl⟩,⟨rfl,rfl⟩,trivial⟩⟩
   ·have hp:aN t n.f0=k:=Yp hk hlt (.inr c2)
    conv=>whnf
    exact jX.mk ⟨(),trivial,aA [(9,9),(4,4),(6,6),(8,8),(2,2),(1,1),(0,0)] rfl rfl rfl ⟨⟨rfl,congrArg (fun k:Nat=>i64 k) hp⟩,⟨rfl,rfl⟩,⟨rfl,rfl⟩,⟨rfl,rfl⟩,⟨rfl,rfl⟩,⟨rfl,rfl⟩,trivial⟩ ⟨⟨rfl,rfl⟩,jc rfl,iT rfl,iC rfl,⟨rfl,rfl⟩,⟨rfl,rfl⟩,⟨rfl,rfl⟩,trivial⟩⟩
  ·have hk2:k=n.f0.length:=Nat.le_antisymm hk (fZ c1)
   have hp:aN t n.f0=k:=Yp hk hlt (.inl hk2)
   conv=>whnf
   refine aT.mk ⟨by kernel_rfl,by kernel_rfl⟩ ?_
   conv=>whnf
   refine Split.mk (fun e=>jS e) (fun _=>?_)
   conv=>whnf
   exact jX.mk ⟨(),trivial,aA [(9,9),(4,4),(6,6),(8,8),(2,2),(1,1),(0,0)] rfl rfl rfl ⟨⟨rfl,congrArg (fun k:Nat=>i64 k) hp⟩,⟨rfl,rfl⟩,⟨rfl,rfl⟩,⟨rfl,rfl⟩,⟨rfl,rfl⟩,⟨rfl,rfl⟩,trivial⟩ ⟨⟨rfl,rfl⟩,jc rfl,iT rfl,iC rfl,⟨rfl,rfl⟩,⟨rfl,rfl⟩,⟨rfl,rfl⟩,trivial⟩⟩
 have yes:∀hf:iH t n.f0=true,True:=fun _=>trivial
 refine Vc.cut (α:={b:Bool // iH t n.f0=b}) 10 (fun x=>x.1=false) (fun _=>[(11,i64 (aN t n.f0)),(7, .c (.px 9 0)),(6, .c (.px 2 0)),(5, .c (.px 1 0)),(3, .c (.px 0 0)),(1,im 9 (t::ts))]) (fun _=>[(9, .bx eN [.hd 4, .hd 6, .hd 8]),(4, .row 4 9 n.f0),(6, .sh 6 eN n.f1),(8, .row 8 eS n.f2),(2,Uy),(1,bxS s),(0,vS n)]) hT ?_ (fun x hx=>?_)
 ·conv=>whnf
  refine Split.mk (fun c1=>?_) (fun c1=>?_)
  ·have hk2:aN t n.f0<n.f0.length:=fQ c1
   have hk3:aN t n.f0<n.f1.length:=by omega
   clear c1
   conv=>whnf
   refine Need.mk (idx hk2) ?_
   conv=>whnf
   refine Need.mk (idx (Nat.succ_pos _)) ?_
   conv=>whnf
   refine aT.mk ⟨by kernel_rfl,by kernel_rfl⟩ ?_
   conv=>whnf
   refine Split.mk (fun c2=>?_) (fun c2=>?_)
   ·have hf:iH t n.f0=true:=by
     unfold iH
     rw [decide_eq_true hk2,show((g9 n.f0 (aN t n.f0)).toList==t.toList)=true from c2];rfl
    have ih:=ih hf
    generalize hK:cu (oO s) ts (gN n.f1 (aN t n.f0))=K at ih
    conv=>whnf
    refine Need.mk (idx hk3) ?_
    conv=>whnf
    refine Need.mk ⟨by decide,Int.ofNat_le.2 (show 1≤ts.length+1 from Nat.succ_le_succ (Nat.zero_le _)),Int.le_refl _⟩ ?_
    conv=>whnf
    refine ak.mk _ ih ?_
    conv=>whnf
    refine Need.mk (idx hk3) ?_
    conv=>whnf
    refine aT.mk ⟨by kernel_rfl,by kernel_rfl⟩ ?_
    conv=>whnf
    exact aC.mk ⟨rfl,rfl⟩ ⟨rfl,rfl⟩ ⟨jc (by simp [cu,hf]),iT (by rw [Ll];simp [cu,hf,hK];rfl),iC (by simp [cu,hf]),trivial⟩
   ·have hf:iH t n.f0=false:=by
     unfold iH
     rw [show((g9 n.f0 (aN t n.f0)).toList==t.toList)=false from c2,Bool.and_false]
    conv=>whnf
    exact jX.mk ⟨⟨false,hf⟩,rfl,aA [(9,9),(4,4),(6,6),(8,8),(2,2),(1,1),(0,0)] rfl rfl rfl ⟨⟨rfl,rfl⟩,⟨rfl,rfl⟩,⟨rfl,rfl⟩,⟨rfl,rfl⟩,⟨rfl,rfl⟩,⟨rfl,rfl⟩,trivial⟩ ⟨⟨rfl,rfl⟩,jc rfl,iT rfl,iC rfl,⟨rfl,rfl⟩,⟨rfl,rfl⟩,⟨rfl,rfl⟩,trivial⟩⟩
  ·have hk2:n.f0.length≤aN t n.f0:=fZ c1
   have hf:iH t n.f0=false:=by
    unfold iH
    rw [decide_eq_false (by omega)];rfl
   conv=>whnf
   refine aT.mk ⟨by kernel_rfl,by kernel_rfl⟩ ?_
   conv=>whnf
   refine Split.mk (fun e=>jS e) (fun _=>?_)
   conv=>whnf
   exact jX.mk ⟨⟨false,hf⟩,rfl,aA [(9,9),(4,4),(6,6),(8,8),(2,2),(1,1),(0,0)] rfl rfl rfl ⟨⟨rfl,rfl⟩,⟨rfl,rfl⟩,⟨rfl,rfl⟩,⟨rfl,rfl⟩,⟨rfl,rfl⟩,⟨rfl,rfl⟩,trivial⟩ ⟨⟨rfl,rfl⟩,jc rfl,iT rfl,iC rfl,⟨rfl,rfl⟩,⟨rfl,rfl⟩,⟨rfl,rfl⟩,trivial⟩⟩
 have hf:iH t n.f0=false:=hx▸x.2
 have iz:=iz hf
 generalize hK:cu (oO s) ts zN=K at iz
 refine Vc.of 10 hT ?_
 conv=>whnf
 refine Need.mk ⟨by decide,Int.ofNat_le.2 (show 1≤ts.length+1 from Nat.succ_le_succ (Nat.zero_le _)),Int.le_refl _⟩ ?_
 conv=>whnf
 refine ak.mk _ (Yq iz) ?_
 conv=>whnf
 refine aT.mk ⟨by kernel_rfl,by kernel_rfl⟩ ?_
 conv=>whnf
 refine Need.mk ⟨Int.le_refl _,Int.natCast_nonneg _,Int.ofNat_le.2 Qq⟩ ?_
 conv=>whnf
 refine Need.mk ⟨rQ,bJ (a:=0) (b:=(n.f0.take (aN t n.f0)).length) (by rw [List.length_take];omega) (by decide)⟩ ?_
 conv=>whnf
 refine Need.mk (idx (Nat.succ_pos _)) ?_
 conv=>whnf
 refine Need.mk (bJ (a:=(n.f0.take (aN t n.f0)).length) (b:=1) (by rw [List.length_take];omega) (by decide)) ?_
 conv=>whnf
 refine Need.mk ⟨Int.natCast_nonneg _,Int.ofNat_le.2 Qq,Int.le_refl _⟩ ?_
 conv=>whnf
 refine Need.mk ⟨rQ,bJ (a:=(n.f0.take (aN t n.f0)++[t]).length) (b:=((n.f0.drop (aN t n.f0)).take (n.f0.length - aN t n.f0)).length) (by rw [List.length_append,List.length_take,List.length_take,List.length_drop];show _+1+_≤_;omega) (by decide)⟩ ?_
 conv=>whnf
 refine aT.mk ⟨by kernel_rfl,by kernel_rfl⟩ ?_
 conv=>whnf
 refine Need.mk ⟨Int.le_refl _,Int.natCast_nonneg _,Int.ofNat_le.2 abI⟩ ?_
 conv=>whnf
 refine Need.mk (bJ (a:=0) (b:=(n.f1.take (aN t n.f0)).length) (by rw [List.length_take];omega) (by decide)) ?_
 conv=>whnf
 refine Need.mk (bJ (a:=(n.f1.take (aN t n.f0)).length) (b:=1) (by rw [List.length_take];omega) (by decide)) ?_
 conv=>whnf
 refine Need.mk ⟨Int.natCast_nonneg _,Int.ofNat_le.2 abI,Int.le_refl _⟩ ?_
 conv=>whnf
 have hl3:((n.f1.take (aN t n.f0)++[(⟨K.f0,K.f1,K.f2⟩:SN)]).length)+((n.f1.drop (aN t n.f0)).take (n.f1.length - aN t n.f0)).length≤8388608:=by rw [List.length_append,List.length_take,List.length_take,List.length_drop];show _+1+_≤_;omega
 refine Need.mk (bJ (a:=(n.f1.take (aN t n.f0)++[(⟨K.f0,K.f1,K.f2⟩:SN)]).length) (b:=((n.f1.drop (aN t n.f0)).take (n.f1.length - aN t n.f0)).length) hl3 (by decide)) ?_
 conv=>whnf
 refine aT.mk ⟨by kernel_rfl,by kernel_rfl⟩ ?_
 conv=>whnf
 have e0:(cu (oO s) (t::ts) n).f0=n.f0.take (aN t n.f0)++t::n.f0.drop (aN t n.f0):=by simp [cu,hf]
 have e1:(cu (oO s) (t::ts) n).f1=n.f1.take (aN t n.f0)++K::n.f1.drop (aN t n.f0):=by simp [cu,hf,hK]
 have d0:(n.f0.drop (aN t n.f0)).take (n.f0.length - aN t n.f0)=n.f0.drop (aN t n.f0):=List.take_of_length_le (by rw [List.length_drop];exact Nat.le_refl _)
 have d1:(n.f1.drop (aN t n.f0)).take (n.f1.length - aN t n.f0)=n.f1.drop (aN t n.f0):=List.take_of_length_le (by rw [List.length_drop];exact Nat.le_refl _)
 refine aC.mk ⟨rfl,rfl⟩ ⟨rfl,rfl⟩ ⟨jc ?_,iT ?_,iC (by simp [cu,hf]),trivial⟩
 ·rw [e0]
  refine Eq.trans (b:=(n.f0.take (aN t n.f0)++[t])++(n.f0.drop (aN t n.f0)).take (n.f0.length - aN t n.f0)) rfl ?_
  rw [d0,List.append_assoc]
  rfl
 ·rw [e1]
  refine Eq.trans (b:=(n.f1.take (aN t n.f0)++[(⟨K.f0,K.f1,K.f2⟩:SN)])++(n.f1.drop (aN t n.f0)).take (n.f1.length - aN t n.f0)) rfl ?_
  rw [d1,List.append_assoc,Ll]
  rfl
theorem Lm:∀(ls:List ByteArray) (s:SS) (n:SN),Bd n→Tr n→aG T Tryz.prog 110 [.ag (T.cells eN n), .c (.sl 9 ls), .ag (T.cells eS s)] (Dv (cu (oO s) ls n))
 | [],s,n,hn,_=>TF n s hn
 | t::ts,s,n,hn,ht=>by
   refine Qr n t ts s hn ht (fun hf=>?_) (fun hf=>?_)
   ·have hp1:aN t n.f0<n.f1.length:=by rw [←ht.len];exact wW hf
    have hm:bP T eN n.f1 (aN t n.f0)∈n.f1:=getD_mem (l:=n.f1) (d:=T.df eN) hp1
    exact Eq.mpr (congrArg (fun L:List ByteArray=>aG T Tryz.prog 110 [.ag (T.cells eN (bP T eN n.f1 (aN t n.f0))), .c (.sl 9 L), .ag (T.cells eS s)] (Dv (cu (oO s) ts (gN n.f1 (aN t n.f0))))) (tl_ t ts)) (Lm ts s (bP T eN n.f1 (aN t n.f0)) (hn.kid _ hm) (ht.kid _ hm))
   ·exact Eq.mpr (congrArg (fun L:List ByteArray=>aG T Tryz.prog 110 [.ag (T.cells eN zN), .c (.sl 9 L), .ag (T.cells eS s)] (Dv (cu (oO s) ts zN))) (tl_ t ts)) (Lm ts s zN abG Fq)
theorem UR {n:SN} {f:ByteArray} {s:SS} (hn:Bd n) (ht:Tr n) (hc:cnt n≤2097000) (hf:bW f=true) (hs:s.f0.size≤1048576):Bd (cu (eH s) (ng f) n)∧cnt (cu (eH s) (ng f) n)≤cnt n+62:=by
 have ahl:=((vX f).1 (Gx hf)).2.2
 have h1:=Le (aas s) (ng f) n ht
 have h3:(ng f).length≤f.size+1:=qp f
 refine⟨NJ _ (DF _ _ n ht) (Qj (fun l hl x hx=>?_) (ng f) n (fun x hx=>?_) (Qi n hn)) (by omega),by omega⟩
 ·rcases Qk hx with rfl | hx
  ·exact hs
  ·exact hl x hx
 ·obtain⟨i,hi,rfl⟩:=List.mem_iff_getElem.1 hx
  have:=AV f i hi
  exact Nat.le_trans this (by omega)
theorem VP (n:SN) (f:ByteArray) (s:SS) (hn:Bd n) (hc:cnt n≤2097000) (hf:f.size≤1048576) (hs:s.f0.size≤1048576):aG T Tryz.prog 28 [.ag (T.cells eN n), .c (.sc (.string f)), .ag (T.cells eS s)] (sW (nG f s n)):=by
 have hR:nG f s n=bif fH n && (bW f && iw s) then cu (eH s) (ng f) n else n:=rfl
 generalize nG f s n=R at hR⊢
 refine aH hT Tryz.func28 (by kernel_rfl) rfl rfl (fun A=>?_)
 conv=>whnf
 refine ak.mk _ (Az n hn) ?_
 conv=>whnf
 refine Split.mk (fun c1=>?_) (fun c1=>?_)
 ·have h0:fH n=false:=bU c1
  rw [h0] at hR
  obtain rfl:n=R:=Eq.symm hR
  conv=>whnf
  refine Split.mk (fun _=>?_) (fun e=>jd e)
  conv=>whnf
  refine Split.mk (fun _=>?_) (fun e=>jd e)
  conv=>whnf
  refine ak.mk _ (sZ n hn) ?_
  conv=>whnf
  exact aC.mk ⟨rfl,rfl⟩ ⟨rfl,rfl⟩ ⟨rfl,rfl,rfl,trivial⟩
 have h0:fH n=true:=dn c1
 rw [h0,Bool.true_and] at hR
 conv=>whnf
 refine ak.mk _ (rW f (Nat.le_trans hf (by decide))) ?_
 conv=>whnf
 refine Split.mk (fun c1=>?_) (fun c1=>?_)
 ·have h1:bW f=false:=bU c1
  rw [h1] at hR
  obtain rfl:n=R:=Eq.symm hR
  conv=>whnf
  refine Split.mk (fun _=>?_) (fun e=>jd e)
  conv=>whnf
  refine ak.mk _ (sZ n hn) ?_
  conv=>whnf
  exact aC.mk ⟨rfl,rfl⟩ ⟨rfl,rfl⟩ ⟨rfl,rfl,rfl,trivial⟩
 have h1:bW f=true:=dn c1
 rw [h1,Bool.true_and] at hR
 conv=>whnf
 refine ak.mk _ (DJ s) ?_
 conv=>whnf
 refine Split.mk (fun c1=>?_) (fun c1=>?_)
 ·have h2:iw s=false:=bU c1
  rw [h2] at hR
  obtain rfl:n=R:=Eq.symm hR
  conv=>whnf
  refine ak.mk _ (sZ n hn) ?_
  conv=>whnf
  exact aC.mk ⟨rfl,rfl⟩ ⟨rfl,rfl⟩ ⟨rfl,rfl,rfl,trivial⟩
 have h2:iw s=true:=dn c1
 rw [h2] at hR
 obtain rfl:cu (eH s) (ng f) n=R:=Eq.symm hR
 have hB:=(UR hn (lF h0).1 hc h1 hs).1
 have hins:=Lm (ng f) s n hn (lF h0).1
 rw [TD h0] at hins
 generalize cu (eH s) (ng f) n=R at hB hins
 conv=>whnf
 refine ak.mk _ (VQ f (Nat.le_trans hf (by decide))) ?_
 conv=>whnf
 refine ak.mk _ hins ?_
 conv=>whnf
 refine aT.mk ⟨by kernel_rfl,by kernel_rfl⟩ ?_
 conv=>whnf
 refine ak.mk _ (sZ R hB) ?_
 conv=>whnf
 exact aC.mk ⟨rfl,rfl⟩ ⟨rfl,rfl⟩ ⟨rfl,rfl,rfl,trivial⟩
theorem Lp {n:SN} {f:ByteArray} {s:SS} (hn:Bd n) (hc:cnt n≤2097000) (hs:s.f0.size≤1048576):Bd (nG f s n)∧cnt (nG f s n)≤cnt n+62:=by
 unfold nG
 cases h0:fH n with
 | false=>exact⟨hn,Nat.le_add_right _ _⟩
 | true=>
   cases h1:bW f with
   | false=>exact⟨hn,Nat.le_add_right _ _⟩
   | true=>
     cases iw s with
     | false=>exact⟨hn,Nat.le_add_right _ _⟩
     | true=>exact UR hn (lF h0).1 hc h1 hs
end Go.Proofs.YtcnfgfomholheaaGreatDoor.Q
end
section
namespace Go.Proofs.YtcnfgfomholheaaGreatDoor.Q
open Go.RowKit Go.Proofs.YtcnfgfomholheaaGreatDoor.Z Go.Proofs.YtcnfgfomholheaaGreatDoor.Pure
set_option linter.unusedVariables false
set_option linter.unusedSimpArgs false
set_option maxRecDepth 100000
set_option maxHeartbeats 4000000
theorem flat5:tJ T 5:=fun _=>rfl
abbrev gK (l:List SK) (i:Nat):SK:=bP T eK l i
theorem af0 (k:SK):(⟨k.f0,k.f1,k.f2⟩:SK)=k:=by cases k;rfl
theorem acB {l:List (List Int)} {M:Nat} (h:∀x∈l,x.length≤M):l.flatten.length≤l.length*M:=by
 induction l with
 | nil=>simp
 | cons x l ih=>
   have:=h x List.mem_cons_self
   have:=ih (fun y hy=>h y (List.mem_cons_of_mem _ hy))
   simp only [List.flatten_cons,List.length_append,List.length_cons,Nat.succ_mul]
   omega
theorem Yr {l:List (List Int)} {k:Nat} (hk:k<l.length):(l.take k).flatten++l.getD k []=(l.take (k+1)).flatten:=by
 rw [List.take_succ_eq_append_getElem hk]
 have:l.getD k []=l[k]:=by simp [hk]
 rw [this,List.flatten_append];simp
theorem ap_ {m n:Nat} (h:m+n≤100000000000):m+n≤maxLen∧(m+n)*1≤140737488355328:=by simp only [maxLen];omega
theorem joined (ps:List (List Int)) (hn:ps.length≤16) (hs:∀x∈ps,x.length≤4194304):aG T Tryz.prog 169 [.c (.sl 68 ps)] (.c (.ow 5 ps.flatten)):=by
 refine aH hT Tryz.func169 (by kernel_rfl) rfl rfl (fun A=>?_)
 conv=>whnf
 refine dF.mk {k:Nat // k≤ps.length} (fun p=>(2,[(9,i64 p.1),(8,i64 ps.length),(7,im 68 ps),(3, .c (.hd 0))],[(0, .row 1 5 (ps.take p.1).flatten)])) (fun p=>ps.length - p.1) ⟨0,Nat.zero_le _⟩ (aA [(0,0)] rfl rfl rfl ⟨⟨rfl,rfl⟩,⟨rfl,rfl⟩,⟨rfl,rfl⟩,⟨rfl,rfl⟩,trivial⟩ ⟨show bT (T:=T) 5 [] 5 (ps.take 0).flatten from eu rfl,trivial⟩) ?_
 rintro⟨k,hk⟩
 conv=>whnf
 refine Split.mk (fun c=>?_) (fun c=>?_)
 ·have hk2:k<ps.length:=fQ c
  clear c
  have hm:(ps.getD k []).length≤4194304:=hs _ (getD_mem (d:=[]) hk2)
  have hf:(ps.take k).flatten.length≤67108864:=by
   have h1:=acB (l:=ps.take k) (M:=4194304) (fun x hx=>hs x (List.mem_of_mem_take hx))
   have h2:(ps.take k).length≤16:=by rw [List.length_take];omega
   have h3:=Nat.mul_le_mul_right 4194304 h2
   omega
  conv=>whnf
  refine Need.mk (idx hk2) ?_
  conv=>whnf
  refine Need.mk ⟨flat5,ap_ (show(ps.take k).flatten.length+(ps.getD k []).length≤100000000000 by omega)⟩ ?_
  conv=>whnf
  exact bF.mk ⟨⟨k+1,hk2⟩,Nat.sub_lt_sub_left hk2 (Nat.lt_succ_self k),aA [(0,2)] rfl rfl rfl ⟨⟨rfl,congrArg i64 (dO hk2 (by omega))⟩,⟨rfl,rfl⟩,⟨rfl,rfl⟩,⟨rfl,rfl⟩,trivial⟩ ⟨show bT (T:=T) 5 ((ps.take k).flatten++ps.getD k []) 5 (ps.take (k+1)).flatten from eu (Yr hk2),trivial⟩⟩
 ·have hk2:k=ps.length:=Nat.le_antisymm hk (fZ c)
  clear c
  conv=>whnf
  subst hk2
  exact aC.mk ⟨rfl,rfl⟩ ⟨rfl,rfl⟩ ⟨show bT (T:=T) 5 (ps.take ps.length).flatten 5 ps.flatten from eu (by rw [List.take_length]),trivial⟩
theorem all1 {M:Nat} {b:List Int} (h:b.length≤M):∀x∈[b],x.length≤M:=by intro x hx;simp at hx;subst hx;exact h
theorem acC (b:List Int) (hs:b.length≤4194304):aG T Tryz.prog 169 [.c (.sl 68 ([b]:List (List Int)))] (.c (.ow 5 b)):=by
 have h:=joined [b] (by simp) (all1 hs)
 rwa [show([b]:List (List Int)).flatten=b by simp] at h
theorem abJ {l:List SK} {k:Nat} (h:k<l.length):l.take k++[(⟨(gK l k).f0,(gK l k).f1,(gK l k).f2⟩:SK)]=l.take (k+1):=by
 rw [af0,show gK l k=l[k] from getD_in (α:=SK) l k (T.df eK) h,List.take_succ_eq_append_getElem h]
theorem Ja {l:List SK} {i:Nat} (h:i<l.length):gK l i∈l:=getD_mem (l:=l) (d:=T.df eK) h
theorem Qs (l:List SK) (hl:l.length≤2097152) (hb:∀y∈l,(y:SK).f1.length≤2097152):aG T Tryz.prog 165 [.c (.sl eK l)] (.c (.ow eK l)):=by
 refine aH hT Tryz.func165 (by kernel_rfl) rfl rfl (fun A=>?_)
 conv=>whnf
 refine dF.mk {k:Nat // k≤l.length} (fun p=>(3,[(9,i64 p.1),(8,i64 l.length),(7,im eK l),(3, .c (.hd 0))],[(0, .row 1 eK (l.take p.1))])) (fun p=>l.length - p.1) ⟨0,Nat.zero_le _⟩ (aA [(0,0)] rfl rfl rfl ⟨⟨rfl,rfl⟩,⟨rfl,rfl⟩,⟨rfl,rfl⟩,⟨rfl,rfl⟩,trivial⟩ ⟨kH rfl,trivial⟩) ?_
 rintro⟨k,hk⟩
 conv=>whnf
 refine Split.mk (fun c=>?_) (fun c=>?_)
 ·have hk2:k<l.length:=fQ c
  clear c
  have h1:=hb _ (Ja hk2)
  conv=>whnf
  refine Need.mk (idx hk2) ?_
  conv=>whnf
  refine ak.mk _ (acC (gK l k).f1 (by omega)) ?_
  conv=>whnf
  refine Need.mk (bJ (a:=(l.take k).length) (b:=1) (by rw [List.length_take];omega) (by decide)) ?_
  conv=>whnf
  refine aT.mk ⟨by kernel_rfl,by kernel_rfl⟩ ?_
  conv=>whnf
  exact bF.mk ⟨⟨k+1,hk2⟩,Nat.sub_lt_sub_left hk2 (Nat.lt_succ_self k),aA [(0,6)] rfl rfl rfl ⟨⟨rfl,congrArg i64 (dO hk2 (by omega))⟩,⟨rfl,rfl⟩,⟨rfl,rfl⟩,⟨rfl,rfl⟩,trivial⟩ ⟨kH (abJ hk2),trivial⟩⟩
 ·have hk2:k=l.length:=Nat.le_antisymm hk (fZ c)
  clear c
  conv=>whnf
  subst hk2
  exact aC.mk ⟨rfl,rfl⟩ ⟨rfl,rfl⟩ ⟨kH (List.take_length),trivial⟩
theorem Qu (l:List SK) (hl:l.length≤2097152) (hb:∀y∈l,(y:SK).f1.length≤2097152):aG T Tryz.prog 187 [.c (.sl eK l)] (.c (.ow eK l)):=by
 refine aH hT Tryz.func187 (by kernel_rfl) rfl rfl (fun A=>?_)
 conv=>whnf
 refine dF.mk {k:Nat // k≤l.length} (fun p=>(3,[(4,i64 p.1),(0,im eK l),(3, .c (.hd 0))],[(0, .row 1 eK (l.take p.1))])) (fun p=>l.length - p.1) ⟨0,Nat.zero_le _⟩ (aA [(0,0)] rfl rfl rfl ⟨⟨rfl,rfl⟩,⟨rfl,rfl⟩,⟨rfl,rfl⟩,trivial⟩ ⟨kH rfl,trivial⟩) ?_
 rintro⟨k,hk⟩
 conv=>whnf
 refine Split.mk (fun c=>?_) (fun c=>?_)
 ·have hk2:k<l.length:=fQ c
  clear c
  have h1:=hb _ (Ja hk2)
  conv=>whnf
  refine Need.mk (idx hk2) ?_
  conv=>whnf
  refine Need.mk (idx hk2) ?_
  conv=>whnf
  refine Need.mk ⟨flat5,bJ (a:=0) (b:=(gK l k).f1.length) (by omega) (by decide)⟩ ?_
  conv=>whnf
  refine Need.mk (idx hk2) ?_
  conv=>whnf
  refine Need.mk (bJ (a:=(l.take k).length) (b:=1) (by rw [List.length_take];omega) (by decide)) ?_
  conv=>whnf
  refine aT.mk ⟨by kernel_rfl,by kernel_rfl⟩ ?_
  conv=>whnf
  exact bF.mk ⟨⟨k+1,hk2⟩,Nat.sub_lt_sub_left hk2 (Nat.lt_succ_self k),aA [(0,6)] rfl rfl rfl ⟨⟨rfl,congrArg i64 (dO hk2 (by omega))⟩,⟨rfl,rfl⟩,⟨rfl,rfl⟩,trivial⟩ ⟨kH (abJ hk2),trivial⟩⟩
 ·have hk2:k=l.length:=Nat.le_antisymm hk (fZ c)
  clear c
  conv=>whnf
  subst hk2
  exact aC.mk ⟨rfl,rfl⟩ ⟨rfl,rfl⟩ ⟨kH (List.take_length),trivial⟩
def qZ (l:List SK) (i:Nat):Bool:=oP (gK l i).f0 && ((decide (1≤((gK l i).f1.length:Int)) && decide (((gK l i).f1.length:Int)≤40)) && ((decide (0≤(gK l i).f2) && decide ((gK l i).f2≤2)) && !(decide (0<i) && !(Op.bytesLess (gK l (i - 1)).f0.toList (gK l i).f0.toList))))
def yI (l:List SK):Bool:=(List.range l.length).all (qZ l) && decide ((l.length:Int)≤8)
theorem oQ {l:List SK} {i:Nat} (h:i<l.length) (h2:qZ l i=false):yI l=false:=by
 unfold yI
 rw [List.all_eq_false.2 ⟨i,List.mem_range.2 h,by rw [h2];simp⟩];rfl
theorem NP {l:List SK} (h:∀i,i<l.length→qZ l i=true):yI l=decide ((l.length:Int)≤8):=by
 unfold yI
 rw [List.all_eq_true.2 (fun i hi=>h i (List.mem_range.1 hi)),Bool.true_and]
theorem AX {l:List SK} {k:Nat} (h:∀i,i<k→qZ l i=true) (h2:qZ l k=true):∀i,i<k+1→qZ l i=true:=fun i hi=>by
 rcases Nat.lt_or_ge i k with h3 | h3
 ·exact h i h3
 ·have:i=k:=by omega
  subst this;exact h2
theorem VR (l:List SK) (hl:l.length≤2097152) (hb:∀y∈l,(y:SK).f0.size≤1048576):aG T Tryz.prog 162 [.c (.sl eK l)] (.c (.sc (.bool (yI l)))):=by
 refine aH hT Tryz.func162 (by kernel_rfl) rfl rfl (fun A=>?_)
 conv=>whnf
 refine dF.mk {k:Nat // k≤l.length∧∀i,i<k→qZ l i=true} (fun p=>(0,[(7,i64 p.1),(6,i64 l.length),(5,im eK l),(0,im eK l)],[])) (fun p=>l.length - p.1) ⟨0,Nat.zero_le _,fun i hi=>absurd hi (Nat.not_lt_zero i)⟩ (aA [] rfl rfl rfl ⟨⟨rfl,rfl⟩,⟨rfl,rfl⟩,⟨rfl,rfl⟩,⟨rfl,rfl⟩,trivial⟩ trivial) ?_
 rintro⟨k,hk,hok⟩
 conv=>whnf
 refine Split.mk (fun c=>?_) (fun c=>?_)
 ·have hk2:k<l.length:=fQ c
  clear c
  have h1:=hb _ (Ja hk2)
  conv=>whnf
  refine Need.mk (idx hk2) ?_
  conv=>whnf
  refine ak.mk _ (TG (gK l k).f0 (Nat.le_trans h1 (by decide))) ?_
  conv=>whnf
  refine Split.mk (fun c=>?_) (fun c=>?_)
  ·have c1:oP (gK l k).f0=false:=bU c
   conv=>whnf
   repeat (first | (refine Split.mk (fun _=>?_) (fun e=>jd e);conv=>whnf) | (refine aT.mk ⟨by kernel_rfl,by kernel_rfl⟩ ?_;conv=>whnf))
   exact aC.mk ⟨rfl,rfl⟩ ⟨rfl,rfl⟩ ⟨bv (oQ hk2 (by unfold qZ;rw [c1];rfl)),trivial⟩
  have c1:oP (gK l k).f0=true:=dn c
  clear c
  conv=>whnf
  refine ak.mk _ (AY ((gK l k).f1.length:Int) 1 40) ?_
  conv=>whnf
  refine Split.mk (fun c=>?_) (fun c=>?_)
  ·have c2:=bU c
   conv=>whnf
   repeat (first | (refine Split.mk (fun _=>?_) (fun e=>jd e);conv=>whnf) | (refine aT.mk ⟨by kernel_rfl,by kernel_rfl⟩ ?_;conv=>whnf))
   exact aC.mk ⟨rfl,rfl⟩ ⟨rfl,rfl⟩ ⟨bv (oQ hk2 (by unfold qZ;rw [c1,c2];rfl)),trivial⟩
  have c2:=dn c
  clear c
  conv=>whnf
  refine ak.mk _ (DK (gK l k).f2) ?_
  conv=>whnf
  refine Split.mk (fun c=>?_) (fun c=>?_)
  ·have c3:=bU c
   conv=>whnf
   repeat (first | (refine Split.mk (fun _=>?_) (fun e=>jd e);conv=>whnf) | (refine aT.mk ⟨by kernel_rfl,by kernel_rfl⟩ ?_;conv=>whnf))
   exact aC.mk ⟨rfl,rfl⟩ ⟨rfl,rfl⟩ ⟨bv (oQ hk2 (by unfold qZ;rw [c1,c2,c3];rfl)),trivial⟩
  have c3:=dn c
  clear c
  conv=>whnf
  refine Split.mk (fun c=>?_) (fun c=>?_)
  ·have c4:0<k:=lZ c
   clear c
   have hpr:=Fv c4 (by omega)
   have hpt:(wrap64 ((k:Int) - 1)).toNat=k - 1:=by rw [hpr];rfl
   conv=>whnf
   refine Need.mk (by rw [hpr];exact idx (show k - 1<l.length by omega)) ?_
   conv=>whnf
   refine aT.mk ⟨by kernel_rfl,by kernel_rfl⟩ ?_
   conv=>whnf
   refine Split.mk (fun c=>?_) (fun c=>?_)
   ·have c5:Op.bytesLess (gK l (k - 1)).f0.toList (gK l k).f0.toList=false:=(congrArg (fun j=>Op.bytesLess (gK l j).f0.toList (gK l k).f0.toList) hpt.symm).trans (bU c)
    conv=>whnf
    exact aC.mk ⟨rfl,rfl⟩ ⟨rfl,rfl⟩ ⟨bv (oQ hk2 (by unfold qZ;rw [c1,c2,c3,c5,decide_eq_true c4];rfl)),trivial⟩
   ·have c5:Op.bytesLess (gK l (k - 1)).f0.toList (gK l k).f0.toList=true:=(congrArg (fun j=>Op.bytesLess (gK l j).f0.toList (gK l k).f0.toList) hpt.symm).trans (dn c)
    conv=>whnf
    exact bF.mk ⟨⟨k+1,hk2,AX hok (by unfold qZ;rw [c1,c2,c3,c5];simp)⟩,Nat.sub_lt_sub_left hk2 (Nat.lt_succ_self k),aA [] rfl rfl rfl ⟨⟨rfl,congrArg i64 (dO hk2 (by omega))⟩,⟨rfl,rfl⟩,⟨rfl,rfl⟩,⟨rfl,rfl⟩,trivial⟩ trivial⟩
  ·have c4:k=0:=l7 c
   clear c
   subst c4
   conv=>whnf
   refine aT.mk ⟨by kernel_rfl,by kernel_rfl⟩ ?_
   conv=>whnf
   refine Split.mk (fun e=>jS e) (fun _=>?_)
   conv=>whnf
   exact bF.mk ⟨⟨0+1,hk2,AX hok (by unfold qZ;rw [c1,c2,c3];rfl)⟩,Nat.sub_lt_sub_left hk2 (Nat.lt_succ_self 0),aA [] rfl rfl rfl ⟨⟨rfl,congrArg i64 (dO hk2 (by omega))⟩,⟨rfl,rfl⟩,⟨rfl,rfl⟩,⟨rfl,rfl⟩,trivial⟩ trivial⟩
 ·have hk2:k=l.length:=Nat.le_antisymm hk (fZ c)
  clear c
  conv=>whnf
  subst hk2
  exact aC.mk ⟨rfl,rfl⟩ ⟨rfl,rfl⟩ ⟨bv (NP hok),trivial⟩
theorem VT (l:List SK) (hl:l.length≤2097152) (hb:∀y∈l,(y:SK).f0.size≤1048576):aG T Tryz.prog 160 [.c (.sl eK l)] (.c (.sc (.bool (yI l)))):=by
 refine aH hT Tryz.func160 (by kernel_rfl) rfl rfl (fun A=>?_)
 conv=>whnf
 refine dF.mk {k:Nat // k≤l.length∧∀i,i<k→qZ l i=true} (fun p=>(0,[(3,i64 p.1),(0,im eK l)],[])) (fun p=>l.length - p.1) ⟨0,Nat.zero_le _,fun i hi=>absurd hi (Nat.not_lt_zero i)⟩ (aA [] rfl rfl rfl ⟨⟨rfl,rfl⟩,⟨rfl,rfl⟩,trivial⟩ trivial) ?_
 rintro⟨k,hk,hok⟩
 conv=>whnf
 refine Split.mk (fun c=>?_) (fun c=>?_)
 ·have hk2:k<l.length:=fQ c
  clear c
  have h1:=hb _ (Ja hk2)
  conv=>whnf
  refine Need.mk (idx hk2) ?_
  conv=>whnf
  refine ak.mk _ (TJ (gK l k).f0 (Nat.le_trans h1 (by decide))) ?_
  conv=>whnf
  refine Split.mk (fun c=>?_) (fun c=>?_)
  ·have c1:oP (gK l k).f0=false:=bU c
   conv=>whnf
   repeat (first | (refine Split.mk (fun _=>?_) (fun e=>jd e);conv=>whnf) | (refine aT.mk ⟨by kernel_rfl,by kernel_rfl⟩ ?_;conv=>whnf))
   exact aC.mk ⟨rfl,rfl⟩ ⟨rfl,rfl⟩ ⟨bv (oQ hk2 (by unfold qZ;rw [c1];rfl)),trivial⟩
  have c1:oP (gK l k).f0=true:=dn c
  clear c
  conv=>whnf
  refine Need.mk (idx hk2) ?_
  conv=>whnf
  refine ak.mk _ (Jb ((gK l k).f1.length:Int) 1 40) ?_
  conv=>whnf
  refine Split.mk (fun c=>?_) (fun c=>?_)
  ·have c2:=bU c
   conv=>whnf
   repeat (first | (refine Split.mk (fun _=>?_) (fun e=>jd e);conv=>whnf) | (refine aT.mk ⟨by kernel_rfl,by kernel_rfl⟩ ?_;conv=>whnf))
   exact aC.mk ⟨rfl,rfl⟩ ⟨rfl,rfl⟩ ⟨bv (oQ hk2 (by unfold qZ;rw [c1,c2];rfl)),trivial⟩
  have c2:=dn c
  clear c
  conv=>whnf
  refine Need.mk (idx hk2) ?_
  conv=>whnf
  refine ak.mk _ (Jb (gK l k).f2 0 2) ?_
  conv=>whnf
  refine Split.mk (fun c=>?_) (fun c=>?_)
  ·have c3:=bU c
   conv=>whnf
   repeat (first | (refine Split.mk (fun _=>?_) (fun e=>jd e);conv=>whnf) | (refine aT.mk ⟨by kernel_rfl,by kernel_rfl⟩ ?_;conv=>whnf))
   exact aC.mk ⟨rfl,rfl⟩ ⟨rfl,rfl⟩ ⟨bv (oQ hk2 (by unfold qZ;rw [c1,c2,c3];rfl)),trivial⟩
  have c3:=dn c
  clear c
  conv=>whnf
  refine Split.mk (fun c=>?_) (fun c=>?_)
  ·have c4:0<k:=lZ c
   clear c
   have hpr:=Fv c4 (by omega)
   have hpt:(wrap64 ((k:Int) - 1)).toNat=k - 1:=by rw [hpr];rfl
   conv=>whnf
   refine Need.mk (by rw [hpr];exact idx (show k - 1<l.length by omega)) ?_
   conv=>whnf
   refine Need.mk (idx hk2) ?_
   conv=>whnf
   refine aT.mk ⟨by kernel_rfl,by kernel_rfl⟩ ?_
   conv=>whnf
   refine Split.mk (fun c=>?_) (fun c=>?_)
   ·have c5:Op.bytesLess (gK l (k - 1)).f0.toList (gK l k).f0.toList=false:=(congrArg (fun j=>Op.bytesLess (gK l j).f0.toList (gK l k).f0.toList) hpt.symm).trans (bU c)
    conv=>whnf
    exact aC.mk ⟨rfl,rfl⟩ ⟨rfl,rfl⟩ ⟨bv (oQ hk2 (by unfold qZ;rw [c1,c2,c3,c5,decide_eq_true c4];rfl)),trivial⟩
   ·have c5:Op.bytesLess (gK l (k - 1)).f0.toList (gK l k).f0.toList=true:=(congrArg (fun j=>Op.bytesLess (gK l j).f0.toList (gK l k).f0.toList) hpt.symm).trans (dn c)
    conv=>whnf
    exact bF.mk ⟨⟨k+1,hk2,AX hok (by unfold qZ;rw [c1,c2,c3,c5];simp)⟩,Nat.sub_lt_sub_left hk2 (Nat.lt_succ_self k),aA [] rfl rfl rfl ⟨⟨rfl,congrArg i64 (dO hk2 (by omega))⟩,⟨rfl,rfl⟩,trivial⟩ trivial⟩
  ·have c4:k=0:=l7 c
   clear c
   subst c4
   conv=>whnf
   refine aT.mk ⟨by kernel_rfl,by kernel_rfl⟩ ?_
   conv=>whnf
   refine Split.mk (fun e=>jS e) (fun _=>?_)
   conv=>whnf
   exact bF.mk ⟨⟨0+1,hk2,AX hok (by unfold qZ;rw [c1,c2,c3];rfl)⟩,Nat.sub_lt_sub_left hk2 (Nat.lt_succ_self 0),aA [] rfl rfl rfl ⟨⟨rfl,congrArg i64 (dO hk2 (by omega))⟩,⟨rfl,rfl⟩,trivial⟩ trivial⟩
 ·have hk2:k=l.length:=Nat.le_antisymm hk (fZ c)
  clear c
  conv=>whnf
  subst hk2
  exact aC.mk ⟨rfl,rfl⟩ ⟨rfl,rfl⟩ ⟨bv (NP hok),trivial⟩
end Go.Proofs.YtcnfgfomholheaaGreatDoor.Q
end
section
namespace Go.Proofs.YtcnfgfomholheaaGreatDoor.Q
open Go.RowKit Go.Proofs.YtcnfgfomholheaaGreatDoor.Z Go.Proofs.YtcnfgfomholheaaGreatDoor.Pure
set_option linter.unusedVariables false
set_option linter.unusedSimpArgs false
set_option maxRecDepth 100000
set_option maxHeartbeats 4000000
theorem ae4 {n:Nat} (h:decide ((n:Int)>1048576)=false):n≤1048576:=by simp at h;omega
end Go.Proofs.YtcnfgfomholheaaGreatDoor.Q
end
section
namespace Go.Proofs.YtcnfgfomholheaaGreatDoor.Q
open Go.RowKit Go.Proofs.YtcnfgfomholheaaGreatDoor.Z Go.Proofs.YtcnfgfomholheaaGreatDoor.Pure
set_option linter.unusedVariables false
set_option linter.unusedSimpArgs false
set_option maxRecDepth 100000
set_option maxHeartbeats 4000000
theorem Qv (r:RT) (hr:I4 r):aG T Tryz.prog 122 [.ag (cR r)] (aak r):=by
 refine aH hT Tryz.func122 (by kernel_rfl) rfl rfl (fun A=>?_)
 conv=>whnf
 refine ak.mk _ (qF r.t hr.t) ?_
 conv=>whnf
 refine ak.mk _ (Qs r.k hr.k hr.b) ?_
 conv=>whnf
 refine aT.mk ⟨by kernel_rfl,by kernel_rfl⟩ ?_
 conv=>whnf
 exact aC.mk ⟨rfl,rfl⟩ ⟨rfl,rfl⟩ ⟨rfl,rfl,rfl,rfl,rfl,trivial⟩
theorem xu (r:RT) (hr:I4 r):aG T Tryz.prog 120 [.ag (cR r)] (aak r):=by
 refine aH hT Tryz.func120 (by kernel_rfl) rfl rfl (fun A=>?_)
 conv=>whnf
 refine ak.mk _ (sZ r.t hr.t) ?_
 conv=>whnf
 refine ak.mk _ (Qu r.k hr.k hr.b) ?_
 conv=>whnf
 refine aT.mk ⟨by kernel_rfl,by kernel_rfl⟩ ?_
 conv=>whnf
 exact aC.mk ⟨rfl,rfl⟩ ⟨rfl,rfl⟩ ⟨rfl,rfl,rfl,rfl,rfl,trivial⟩
structure GR (r:RT):Prop where
 bd:I4 r
 c:cnt r.t≤2097000
 t:∀y∈r.k,(y:SK).f0.size≤1048576
theorem GR.el {r:RT} (h:GR r):(jl r.t).length≤4194304:=Nat.le_trans (Ht r.t) (by have:=h.c;omega)
def uN (r:RT):Bool:=(decide (0≤r.v) && decide (r.v≤1000000)) && (fH r.t && (decide (((jl r.t).length:Int)≤14) && yI r.k))
theorem Qw (r:RT):uN r=((decide (0≤r.v) && decide (r.v≤1000000)) && (fH r.t && (decide (((jl r.t).length:Int)≤14) && yI r.k))):=rfl
theorem VU (r:RT) (h:GR r):aG T Tryz.prog 85 [.ag (cR r)] (.c (.sc (.bool (uN r)))):=by
 have he:=Gv r.t h.bd.t lF h.el
 have hn:=Ap r.t h.bd.t
 have hk:=VR r.k h.bd.k h.t
 have hR:=Qw r
 generalize uN r=R at hR⊢
 replace hR:=hR.symm
 refine aH hT Tryz.func85 (by kernel_rfl) rfl rfl (fun A=>?_)
 conv=>whnf
 refine ak.mk _ (AY _ _ _) ?_
 conv=>whnf
 refine Split.mk (fun c1=>?_) (fun c1=>?_)
 ·replace hR:=dW c1 hR
  clear c1
  conv=>whnf
  refine ak.mk _ hn ?_
  conv=>whnf
  refine Split.mk (fun c1=>?_) (fun c1=>?_)
  ·replace hR:=dW c1 hR
   clear c1
   conv=>whnf
   refine ak.mk _ he ?_
   conv=>whnf
   refine Split.mk (fun c1=>?_) (fun c1=>?_)
   ·replace hR:=dW c1 hR
    clear c1
    conv=>whnf
    refine ak.mk _ hk ?_
    conv=>whnf
    exact aC.mk ⟨rfl,rfl⟩ ⟨rfl,rfl⟩ ⟨bv hR.symm,trivial⟩
   ·conv=>whnf
    repeat (first | (refine Split.mk (fun e=>jS e) (fun _=>?_);conv=>whnf) | (refine aT.mk ⟨by kernel_rfl,by kernel_rfl⟩ ?_;conv=>whnf))
    exact aC.mk ⟨rfl,rfl⟩ ⟨rfl,rfl⟩ ⟨bv (fJ c1 hR),trivial⟩
  ·conv=>whnf
   repeat (first | (refine Split.mk (fun e=>jS e) (fun _=>?_);conv=>whnf) | (refine aT.mk ⟨by kernel_rfl,by kernel_rfl⟩ ?_;conv=>whnf))
   exact aC.mk ⟨rfl,rfl⟩ ⟨rfl,rfl⟩ ⟨bv (fJ c1 hR),trivial⟩
 ·conv=>whnf
  repeat (first | (refine Split.mk (fun e=>jS e) (fun _=>?_);conv=>whnf) | (refine aT.mk ⟨by kernel_rfl,by kernel_rfl⟩ ?_;conv=>whnf))
  exact aC.mk ⟨rfl,rfl⟩ ⟨rfl,rfl⟩ ⟨bv (fJ c1 hR),trivial⟩
theorem VW (r:RT) (h:GR r):aG T Tryz.prog 84 [.ag (cR r)] (.c (.sc (.bool (uN r)))):=by
 have he:=specEntries r.t h.bd.t lF h.el
 have hn:=Az r.t h.bd.t
 have hk:=VT r.k h.bd.k h.t
 have hR:=Qw r
 generalize uN r=R at hR⊢
 replace hR:=hR.symm
 refine aH hT Tryz.func84 (by kernel_rfl) rfl rfl (fun A=>?_)
 conv=>whnf
 refine ak.mk _ (Jb _ _ _) ?_
 conv=>whnf
 refine Split.mk (fun c1=>?_) (fun c1=>?_)
 ·replace hR:=dW c1 hR
  clear c1
  conv=>whnf
  refine ak.mk _ hn ?_
  conv=>whnf
  refine Split.mk (fun c1=>?_) (fun c1=>?_)
  ·replace hR:=dW c1 hR
   clear c1
   conv=>whnf
   refine ak.mk _ he ?_
   conv=>whnf
   refine Split.mk (fun c1=>?_) (fun c1=>?_)
   ·replace hR:=dW c1 hR
    clear c1
    conv=>whnf
    refine ak.mk _ hk ?_
    conv=>whnf
    exact aC.mk ⟨rfl,rfl⟩ ⟨rfl,rfl⟩ ⟨bv hR.symm,trivial⟩
   ·conv=>whnf
    repeat (first | (refine Split.mk (fun e=>jS e) (fun _=>?_);conv=>whnf) | (refine aT.mk ⟨by kernel_rfl,by kernel_rfl⟩ ?_;conv=>whnf))
    exact aC.mk ⟨rfl,rfl⟩ ⟨rfl,rfl⟩ ⟨bv (fJ c1 hR),trivial⟩
  ·conv=>whnf
   repeat (first | (refine Split.mk (fun e=>jS e) (fun _=>?_);conv=>whnf) | (refine aT.mk ⟨by kernel_rfl,by kernel_rfl⟩ ?_;conv=>whnf))
   exact aC.mk ⟨rfl,rfl⟩ ⟨rfl,rfl⟩ ⟨bv (fJ c1 hR),trivial⟩
 ·conv=>whnf
  repeat (first | (refine Split.mk (fun e=>jS e) (fun _=>?_);conv=>whnf) | (refine aT.mk ⟨by kernel_rfl,by kernel_rfl⟩ ?_;conv=>whnf))
  exact aC.mk ⟨rfl,rfl⟩ ⟨rfl,rfl⟩ ⟨bv (fJ c1 hR),trivial⟩
def kZ (r:RT):Bool:=uN r && decide (r.v<1000000)
theorem TL (r:RT) (h:GR r):aG T Tryz.prog 123 [.ag (cR r)] (.c (.sc (.bool (kZ r)))):=by
 refine aH hT Tryz.func123 (by kernel_rfl) rfl rfl (fun A=>?_)
 conv=>whnf
 refine ak.mk _ (VU r h) ?_
 conv=>whnf
 refine Split.mk (fun c1=>?_) (fun c1=>?_)
 ·conv=>whnf
  exact aC.mk ⟨rfl,rfl⟩ ⟨rfl,rfl⟩ ⟨bv (by unfold kZ;rw [c1];rfl),trivial⟩
 ·conv=>whnf
  exact aC.mk ⟨rfl,rfl⟩ ⟨rfl,rfl⟩ ⟨bv (by unfold kZ;rw [c1];rfl),trivial⟩
theorem acD {r:RT} (h:uN r=true):kZ r=!(r.v==1000000):=by
 have h2:=h
 unfold uN at h2
 simp only [Bool.and_eq_true,decide_eq_true_eq] at h2
 unfold kZ
 rw [h,Bool.true_and]
 rw [Bool.eq_iff_iff]
 simp
 omega
theorem adD {r:RT} (h:uN r=false):kZ r=false:=by unfold kZ;rw [h];rfl
theorem GR.of {r:RT} (hB:Bd r.t) (hc:cnt r.t≤2097000) (hk:BK r.k):GR r:=⟨hk.bdr hB,hc,hk.t⟩
theorem NQ (r:RT) (h:BK r.k) (hc:cnt r.t≤2097152):(gQ r 1).2≤2305843009213693952:=by
 have h1:=KY r.t 1
 have h2:=Hl r.k (bQ r.t 1).2 1048576 h.b
 have h3:(2+1048576)*r.k.length≤(2+1048576)*1048576:=Nat.mul_le_mul_left _ h.k
 show(bg (β:=SK) eX r.k (bQ r.t 1).2).2≤_
 omega
theorem Lr (r:RT):0<(gQ r 1).2:=by
 have g1:=lG r.t 1
 have g2:(bQ r.t 1).2≤(gQ r 1).2:=iM tC r.k (bQ r.t 1).2
 omega
end Go.Proofs.YtcnfgfomholheaaGreatDoor.Q
end
section
namespace Go.Proofs.YtcnfgfomholheaaGreatDoor.Q
open Go.RowKit Go.Proofs.YtcnfgfomholheaaGreatDoor.Z Go.Proofs.YtcnfgfomholheaaGreatDoor.Pure
set_option linter.unusedVariables false
set_option linter.unusedSimpArgs false
set_option maxRecDepth 100000
set_option maxHeartbeats 4000000
abbrev aau:dK T:= .bx eG [.sc (.int .i64 0), .sc (.slice none 0 0), .sc (.slice none 0 0), .sc (.slice none 0 0), .sc (.slice none 0 0)]
end Go.Proofs.YtcnfgfomholheaaGreatDoor.Q
end
section
namespace Go.Proofs.YtcnfgfomholheaaGreatDoor.Q
open Go.RowKit Go.Proofs.YtcnfgfomholheaaGreatDoor.Z Go.Proofs.YtcnfgfomholheaaGreatDoor.Pure
set_option linter.unusedVariables false
set_option linter.unusedSimpArgs false
set_option maxRecDepth 100000
set_option maxHeartbeats 4000000
def pR (c:ByteArray) (i:Int) (p:SN × List Int) (w:SW):SN × List Int:=
 bif decide (((jl (nG w.f0 ⟨c,w.f1,i⟩ p.1)).length:Int)>14) then (p.1,p.2++[128]) else (nG w.f0 ⟨c,w.f1,i⟩ p.1,p.2++[w.f1])
def fG (c:ByteArray) (i:Int) (t:SN) (ws:List SW):SN × List Int:=ws.foldl (pR c i) (t,[])
def zI (c:ByteArray) (i:Int) (w:SW):Bool:=bW w.f0 && iw ⟨c,w.f1,i⟩
def gX (r:RT) (c:ByteArray) (i:Int) (ws:List SW):RT × List Int:=
 bif kZ r && ws.all (zI c i) then (⟨bif decide ((ws.length:Int)>0) then wrap64 (r.v+1) else r.v,(fG c i r.t ws).1,r.k⟩,(fG c i r.t ws).2) else (r,[])
abbrev abK (r:RT) (l:List Int):RS T.Tb:= .tu [(true,[.sc (.int .i64 r.v), .ow 9 r.t.f0, .ow eN r.t.f1, .ow eS r.t.f2, .ow eK r.k]),(false,[.ow 3 l])]
abbrev gW (l:List SW) (i:Nat):SW:=bP T eW l i
theorem abL {l:List SW} {k:Nat} (h:k<l.length):gW l k=l[k]:=getD_in (α:=SW) l k (T.df eW) h
theorem Jc {l:List SW} {k:Nat} (h:k<l.length):gW l k∈l:=getD_mem (l:=l) (d:=T.df eW) h
structure Sm (t:SN):Prop where
 bd:Bd t
 ok:fH t=true
 c:cnt t≤112
theorem VX {c:ByteArray} {i:Int} {p:SN × List Int} {w:SW} (h:Sm p.1) (hc:c.size≤1048576):Sm (pR c i p w).1∧(pR c i p w).2.length=p.2.length+1:=by
 obtain⟨h1,h2⟩:=Lp (f:=w.f0) (s:=⟨c,w.f1,i⟩) h.bd (Nat.le_trans h.c (by decide)) hc
 have h3:=Yn (f:=w.f0) (s:=⟨c,w.f1,i⟩) h.ok
 unfold pR
 cases hd:decide (((jl (nG w.f0 ⟨c,w.f1,i⟩ p.1)).length:Int)>14) with
 | true=>exact⟨h,by simp⟩
 | false=>exact⟨⟨h1,h3,I9 h3 (show(jl (nG w.f0 ⟨c,w.f1,i⟩ p.1)).length≤14 by have:=of_decide_eq_false hd;omega)⟩,by simp⟩
theorem yJ {c:ByteArray} {i:Int} (hc:c.size≤1048576):∀(ws:List SW) (p:SN × List Int),Sm p.1→Sm (ws.foldl (pR c i) p).1∧(ws.foldl (pR c i) p).2.length=p.2.length+ws.length
 | [],p,h=>⟨h,rfl⟩
 | w::ws,p,h=>by
   obtain⟨h1,h2⟩:=VX (w:=w) (i:=i) h hc
   obtain⟨h3,h4⟩:=yJ hc ws _ h1
   refine⟨h3,?_⟩
   rw [List.foldl_cons,h4,h2,List.length_cons];omega
theorem Gy {c:ByteArray} {i:Int} {t:SN} {ws:List SW} {k:Nat} (h:k<ws.length):fG c i t (ws.take (k+1))=pR c i (fG c i t (ws.take k)) (gW ws k):=by
 unfold fG
 rw [List.take_succ_eq_append_getElem h,List.foldl_append,abL h]
 rfl
theorem Hu {r:RT} (hB:Bd r.t) (h:kZ r=true):Sm r.t:=by
 unfold kZ uN at h
 simp only [Bool.and_eq_true,decide_eq_true_eq] at h
 have h1:=h.1.2.1
 exact⟨hB,h1,I9 h1 (by have:=h.1.2.2.1;omega)⟩
theorem DL (c:ByteArray) (i:Int) (w:SW):zI c i w=((nameP c && !decide (i<0)) && (bW w.f0 && (decide (0≤w.f1) && decide (w.f1≤2)))):=by
 unfold zI iw
 rw [show(!decide (i<0))=decide (i≥0) from by rw [←decide_not];exact decide_eq_decide.2 (by omega)]
 cases nameP c<;>cases bW w.f0<;>cases decide (i≥0)<;>cases (decide (0≤w.f1) && decide (w.f1≤2))<;>rfl
theorem Yt {p:SW→Bool} {l:List SW} (h:∀k,k<l.length→p (gW l k)=true):l.all p=true:=
 List.all_eq_true.2 (fun x hx=>by
  obtain⟨k,hk,e⟩:=List.mem_iff_getElem.1 hx
  rw [←e,←abL hk];exact h k hk)
theorem NR {p:SW→Bool} {l:List SW} {k:Nat} (hk:k<l.length) (h:p (gW l k)=false):l.all p=false:=
 List.all_eq_false.2 ⟨_,Jc hk,by rw [h];simp⟩
theorem uZ {r:RT} {c:ByteArray} {i:Int} {ws:List SW} (h:kZ r=false∨ws.all (zI c i)=false):gX r c i ws=(r,[]):=by
 unfold gX
 rcases h with h | h
 ·rw [h];rfl
 ·rw [h,Bool.and_false];rfl
theorem VY {r:RT} {c:ByteArray} {i:Int}:gX r c i []=(r,[]):=by
 unfold gX
 cases kZ r<;>rfl
theorem Jd {r:RT} {c:ByteArray} {i:Int} {ws:List SW} (h1:kZ r=true) (h2:ws.all (zI c i)=true):gX r c i ws=(⟨bif decide ((ws.length:Int)>0) then wrap64 (r.v+1) else r.v,(fG c i r.t ws).1,r.k⟩,(fG c i r.t ws).2):=by
 unfold gX
 rw [h1,h2];rfl
theorem TM {r:RT} {c:ByteArray} {i:Int} {ws:List SW} (h:(nameP c && !decide (i<0))=false):gX r c i ws=(r,[]):=by
 cases ws with
 | nil=>exact VY
 | cons w ws=>exact uZ (.inr (by rw [List.all_cons,DL,h];rfl))
theorem TN (r:RT) (c:ByteArray) (i:Int) (ws:List SW) (h:GR r) (hc:c.size≤1048576) (hl:ws.length≤1048576) (hz:∀w∈ws,(w:SW).f0.size≤1048576):aG T Tryz.prog 57 [.ag (cR r), .c (.sc (.string c)), .c (.sc (.int .i64 i)), .c (.sl eW ws)] (abK (gX r c i ws).1 (gX r c i ws).2):=by
 have hm:=TL r h
 have AZ:kZ r=false→gX r c i ws=(r,[]):=fun h=>uZ (.inl h)
 have Qx:(nameP c && !decide (i<0))=false→gX r c i ws=(r,[]):=TM
 have Ls:∀k,k<ws.length→(bW (gW ws k).f0 && (decide (0≤(gW ws k).f1) && decide ((gW ws k).f1≤2)))=false→gX r c i ws=(r,[]):=fun k hk h=>uZ (.inr (NR hk (by rw [DL,h,Bool.and_false])))
 have hyes:kZ r=true→(nameP c && !decide (i<0))=true→(∀k,k<ws.length→(bW (gW ws k).f0 && (decide (0≤(gW ws k).f1) && decide ((gW ws k).f1≤2)))=true)→gX r c i ws=(⟨bif decide ((ws.length:Int)>0) then wrap64 (r.v+1) else r.v,(fG c i r.t ws).1,r.k⟩,(fG c i r.t ws).2):=fun h1 h2 h3=>Jd h1 (Yt (fun k hk=>by rw [DL,h2,h3 k hk];rfl))
 have hsm:kZ r=true→Sm r.t:=Hu h.bd.t
 generalize kZ r=m at hm AZ hyes hsm
 generalize gX r c i ws=R at AZ Qx Ls hyes⊢
 refine aH hT Tryz.func57 (by kernel_rfl) rfl rfl (fun A=>?_)
 conv=>whnf
 refine ak.mk _ (Qv r h.bd) ?_
 conv=>whnf
 refine ak.mk _ hm ?_
 conv=>whnf
 refine Split.mk (fun c1=>?_) (fun c1=>?_)
 ·have e:=AZ (bU c1)
  subst e
  conv=>whnf
  repeat (first | (refine Split.mk (fun _=>?_) (fun e=>jd e);conv=>whnf) | (refine aT.mk ⟨by kernel_rfl,by kernel_rfl⟩ ?_;conv=>whnf))
  exact aC.mk ⟨rfl,rfl⟩ ⟨rfl,rfl⟩ ⟨rfl,rfl,rfl,rfl,rfl,⟨rfl,rfl⟩,trivial⟩
 have hmt:m=true:=dn c1
 subst hmt
 clear c1 AZ
 replace hsm:=hsm rfl
 replace hyes:=hyes rfl
 conv=>whnf
 refine ak.mk _ (Je c (Nat.le_trans hc (by decide))) ?_
 conv=>whnf
 refine Split.mk (fun c1=>?_) (fun c1=>?_)
 ·have e:=Qx (by rw [bU c1];rfl)
  subst e
  conv=>whnf
  repeat (first | (refine Split.mk (fun _=>?_) (fun e=>jd e);conv=>whnf) | (refine aT.mk ⟨by kernel_rfl,by kernel_rfl⟩ ?_;conv=>whnf))
  exact aC.mk ⟨rfl,rfl⟩ ⟨rfl,rfl⟩ ⟨rfl,rfl,rfl,rfl,rfl,⟨rfl,rfl⟩,trivial⟩
 have hn1:nameP c=true:=dn c1
 rw [hn1,Bool.true_and] at Qx hyes
 clear c1
 conv=>whnf
 refine Split.mk (fun c1=>?_) (fun c1=>?_)
 ·have e:=Qx (by rw [c1];rfl)
  subst e
  conv=>whnf
  exact aC.mk ⟨rfl,rfl⟩ ⟨rfl,rfl⟩ ⟨rfl,rfl,rfl,rfl,rfl,⟨rfl,rfl⟩,trivial⟩
 replace hyes:=hyes (by rw [c1];rfl)
 clear c1 Qx
 conv=>whnf
 refine dF.mk {k:Nat // k≤ws.length∧∀j,j<k→(bW (gW ws j).f0 && (decide (0≤(gW ws j).f1) && decide ((gW ws j).f1≤2)))=true} (fun p=>(20,[(34,i64 p.1),(33,i64 ws.length),(32,im eW ws),(10, .c (.px 7 0)),(8, .c (.px 1 0)),(1, .c (.sc (.string c))),(2,i64 i),(3,im eW ws)],[(7, .bx eG [.sc (.int .i64 r.v), .hd 3, .hd 4, .hd 5, .hd 6]),(1,aau),(3, .row 3 9 r.t.f0),(4, .row 4 eN r.t.f1),(5, .row 5 eS r.t.f2),(6, .row 6 eK r.k)])) (fun p=>ws.length - p.1) ⟨0,Nat.zero_le _,fun j hj=>absurd hj (Nat.not_lt_zero j)⟩ (aA [(7,7),(1,1),(3,3),(4,4),(5,5),(6,6)] rfl rfl rfl ⟨⟨rfl,rfl⟩,⟨rfl,rfl⟩,⟨rfl,rfl⟩,⟨rfl,rfl⟩,⟨rfl,rfl⟩,⟨rfl,rfl⟩,⟨rfl,rfl⟩,⟨rfl,rfl⟩,trivial⟩ ⟨⟨rfl,rfl⟩,⟨rfl,rfl⟩,jc rfl,iT rfl,iC rfl,kH rfl,trivial⟩) ?_
 rintro⟨k,hk,hok⟩
 conv=>whnf
 refine Split.mk (fun c1=>?_) (fun c1=>?_)
 ·have hk2:k<ws.length:=fQ c1
  clear c1
  have hz1:=hz _ (Jc hk2)
  have hnk:=Ls k hk2
  have hmore:(bW (gW ws k).f0 && (decide (0≤(gW ws k).f1) && decide ((gW ws k).f1≤2)))=true→∀j,j<k+1→(bW (gW ws j).f0 && (decide (0≤(gW ws j).f1) && decide ((gW ws j).f1≤2)))=true:=fun h j hj=>by
   rcases Nat.lt_succ_iff_lt_or_eq.1 hj with h2 | rfl
   ·exact hok j h2
   ·exact h
  conv=>whnf
  refine Need.mk (idx hk2) ?_
  conv=>whnf
  refine ak.mk _ (xq (gW ws k).f0 (Nat.le_trans hz1 (by decide))) ?_
  conv=>whnf
  refine Split.mk (fun c1=>?_) (fun c1=>?_)
  ·have e:=hnk (by rw [bU c1];rfl)
   subst e
   conv=>whnf
   repeat (first | (refine Split.mk (fun _=>?_) (fun e=>jd e);conv=>whnf) | (refine aT.mk ⟨by kernel_rfl,by kernel_rfl⟩ ?_;conv=>whnf))
   exact aC.mk ⟨rfl,rfl⟩ ⟨rfl,rfl⟩ ⟨rfl,rfl,rfl,rfl,rfl,⟨rfl,rfl⟩,trivial⟩
  have h1:=dn c1
  rw [h1,Bool.true_and] at hnk hmore
  clear c1
  conv=>whnf
  refine ak.mk _ (DK (gW ws k).f1) ?_
  conv=>whnf
  refine Split.mk (fun c1=>?_) (fun c1=>?_)
  ·have e:=hnk (bU c1)
   subst e
   conv=>whnf
   exact aC.mk ⟨rfl,rfl⟩ ⟨rfl,rfl⟩ ⟨rfl,rfl,rfl,rfl,rfl,⟨rfl,rfl⟩,trivial⟩
  ·have h2:=hmore (dn c1)
   conv=>whnf
   exact bF.mk ⟨⟨k+1,hk2,h2⟩,Nat.sub_lt_sub_left hk2 (Nat.lt_succ_self k),aA [(7,7),(1,1),(3,3),(4,4),(5,5),(6,6)] rfl rfl rfl ⟨⟨rfl,congrArg i64 (dO hk2 (by omega))⟩,⟨rfl,rfl⟩,⟨rfl,rfl⟩,⟨rfl,rfl⟩,⟨rfl,rfl⟩,⟨rfl,rfl⟩,⟨rfl,rfl⟩,⟨rfl,rfl⟩,trivial⟩ ⟨⟨rfl,rfl⟩,⟨rfl,rfl⟩,jc rfl,iT rfl,iC rfl,kH rfl,trivial⟩⟩
 have hk2:k=ws.length:=Nat.le_antisymm hk (fZ c1)
 subst hk2
 have e:=hyes hok
 subst e
 clear c1 Ls hyes
 have hinv:=fun k=>yJ (i:=i) hc (ws.take k) (r.t,[]) hsm
 change ∀k,Sm (fG c i r.t (ws.take k)).1∧(fG c i r.t (ws.take k)).2.length=0+(ws.take k).length at hinv
 conv=>whnf
 refine dF.mk {k:Nat // k≤ws.length} (fun p=>(30,[(53,i64 p.1),(52,i64 ws.length),(51,im eW ws),(13, .c (.hd 9)),(10, .c (.px 7 0)),(8, .c (.px 1 0)),(1, .c (.sc (.string c))),(2,i64 i)],[(7, .bx eG [.sc (.int .i64 r.v), .hd 3, .hd 4, .hd 5, .hd 6]),(1,aau),(3, .row 3 9 (fG c i r.t (ws.take p.1)).1.f0),(4, .row 4 eN (fG c i r.t (ws.take p.1)).1.f1),(5, .row 5 eS (fG c i r.t (ws.take p.1)).1.f2),(6, .row 6 eK r.k),(9, .row 9 3 (fG c i r.t (ws.take p.1)).2)])) (fun p=>ws.length - p.1) ⟨0,Nat.zero_le _⟩ (aA [(7,7),(1,1),(3,3),(4,4),(5,5),(6,6),(9,20)] rfl rfl rfl ⟨⟨rfl,rfl⟩,⟨rfl,rfl⟩,⟨rfl,rfl⟩,⟨rfl,rfl⟩,⟨rfl,rfl⟩,⟨rfl,rfl⟩,⟨rfl,rfl⟩,⟨rfl,rfl⟩,trivial⟩ ⟨⟨rfl,rfl⟩,⟨rfl,rfl⟩,jc rfl,iT rfl,iC rfl,kH rfl,mZ rfl,trivial⟩) ?_
 rintro⟨k,hk3⟩
 conv=>whnf
 refine Split.mk (fun c1=>?_) (fun c1=>?_)
 ·have hk2:k<ws.length:=fQ c1
  clear c1
  have hz1:=hz _ (Jc hk2)
  have hst:=Gy (c:=c) (i:=i) (t:=r.t) hk2
  obtain⟨hs1,hs2⟩:=hinv k
  rw [List.length_take] at hs2
  generalize fG c i r.t (ws.take k)=q at hst hs1 hs2
  have hins:=VN q.1 (gW ws k).f0 ⟨c,(gW ws k).f1,i⟩ hs1.bd hz1 hc
  obtain⟨hb,hcn⟩:=Lp (f:=(gW ws k).f0) (s:=⟨c,(gW ws k).f1,i⟩) hs1.bd (Nat.le_trans hs1.c (by decide)) hc
  have hent:=Gv (nG (gW ws k).f0 ⟨c,(gW ws k).f1,i⟩ q.1) hb lF (Nat.le_trans (Ht _) (by have:=hs1.c;omega))
  unfold pR at hst
  generalize nG (gW ws k).f0 ⟨c,(gW ws k).f1,i⟩ q.1=t2 at hst hins hent
  conv=>whnf
  refine Need.mk (idx hk2) ?_
  conv=>whnf
  refine ak.mk _ hins ?_
  conv=>whnf
  refine ak.mk _ hent ?_
  conv=>whnf
  refine Split.mk (fun c1=>?_) (fun c1=>?_)
  ·rw [show decide (((jl t2).length:Int)>14)=true from c1] at hst
   conv=>whnf
   refine Need.mk (bJ (a:=q.2.length) (b:=1) (by omega) (by decide)) ?_
   conv=>whnf
   exact bF.mk ⟨⟨k+1,hk2⟩,Nat.sub_lt_sub_left hk2 (Nat.lt_succ_self k),aA [(7,7),(1,1),(3,3),(4,4),(5,5),(6,6),(9,37)] rfl rfl rfl ⟨⟨rfl,congrArg i64 (dO hk2 (by omega))⟩,⟨rfl,rfl⟩,⟨rfl,rfl⟩,⟨rfl,rfl⟩,⟨rfl,rfl⟩,⟨rfl,rfl⟩,⟨rfl,rfl⟩,⟨rfl,rfl⟩,trivial⟩ ⟨⟨rfl,rfl⟩,⟨rfl,rfl⟩,jc (congrArg (fun x:SN × List Int=>x.1.f0) hst).symm,iT (congrArg (fun x:SN × List Int=>x.1.f1) hst).symm,iC (congrArg (fun x:SN × List Int=>x.1.f2) hst).symm,kH rfl,mZ (congrArg Prod.snd hst).symm,trivial⟩⟩
  ·rw [show decide (((jl t2).length:Int)>14)=false from c1] at hst
   conv=>whnf
   refine Need.mk (bJ (a:=q.2.length) (b:=1) (by omega) (by decide)) ?_
   conv=>whnf
   exact bF.mk ⟨⟨k+1,hk2⟩,Nat.sub_lt_sub_left hk2 (Nat.lt_succ_self k),aA [(7,7),(1,1),(3,31),(4,32),(5,33),(6,6),(9,37)] rfl rfl rfl ⟨⟨rfl,congrArg i64 (dO hk2 (by omega))⟩,⟨rfl,rfl⟩,⟨rfl,rfl⟩,⟨rfl,rfl⟩,⟨rfl,rfl⟩,⟨rfl,rfl⟩,⟨rfl,rfl⟩,⟨rfl,rfl⟩,trivial⟩ ⟨⟨rfl,rfl⟩,⟨rfl,rfl⟩,jc (congrArg (fun x:SN × List Int=>x.1.f0) hst).symm,iT (congrArg (fun x:SN × List Int=>x.1.f1) hst).symm,iC (congrArg (fun x:SN × List Int=>x.1.f2) hst).symm,kH rfl,mZ (congrArg Prod.snd hst).symm,trivial⟩⟩
 ·have hk4:k=ws.length:=Nat.le_antisymm hk3 (fZ c1)
  clear c1
  subst hk4
  have htk:ws.take ws.length=ws:=List.take_length
  obtain⟨hs1,hs2⟩:=hinv ws.length
  rw [htk] at hs2
  simp only [htk]
  generalize fG c i r.t ws=q at hs1 hs2⊢
  conv=>whnf
  have e0:(@List.length (T.Tb 3) q.2:Int)=(ws.length:Int):=by
   have:@List.length (T.Tb 3) q.2=q.2.length:=rfl
   rw [this,hs2];simp
  refine Split.mk (fun c1=>?_) (fun c1=>?_)
  ·rw [e0] at c1
   rw [show decide ((ws.length:Int)>0)=true from c1]
   conv=>whnf
   exact aC.mk ⟨rfl,rfl⟩ ⟨rfl,rfl⟩ ⟨rfl,rfl,rfl,rfl,rfl,rfl,trivial⟩
  ·rw [e0] at c1
   rw [show decide ((ws.length:Int)>0)=false from c1]
   conv=>whnf
   exact aC.mk ⟨rfl,rfl⟩ ⟨rfl,rfl⟩ ⟨rfl,rfl,rfl,rfl,rfl,rfl,trivial⟩
end Go.Proofs.YtcnfgfomholheaaGreatDoor.Q
end
section
namespace Go.Proofs.YtcnfgfomholheaaGreatDoor.Q
open Go.RowKit Go.Proofs.YtcnfgfomholheaaGreatDoor.Z Go.Proofs.YtcnfgfomholheaaGreatDoor.Pure
set_option linter.unusedVariables false
set_option linter.unusedSimpArgs false
set_option maxRecDepth 100000
set_option maxHeartbeats 4000000
theorem TP (r:RT) (c:ByteArray) (i:Int) (ws:List SW) (h:GR r) (hc:c.size≤1048576) (hl:ws.length≤1048576) (hz:∀w∈ws,(w:SW).f0.size≤1048576):aG T Tryz.prog 55 [.ag (cR r), .c (.sc (.string c)), .c (.sc (.int .i64 i)), .c (.sl eW ws)] (abK (gX r c i ws).1 (gX r c i ws).2):=by
 have hm:=VW r h
 have AZ:kZ r=false→gX r c i ws=(r,[]):=fun h=>uZ (.inl h)
 have Ls:∀k,k<ws.length→zI c i (gW ws k)=false→gX r c i ws=(r,[]):=fun k hk h=>uZ (.inr (NR hk h))
 have hyes:kZ r=true→(∀k,k<ws.length→zI c i (gW ws k)=true)→gX r c i ws=(⟨bif decide ((ws.length:Int)>0) then wrap64 (r.v+1) else r.v,(fG c i r.t ws).1,r.k⟩,(fG c i r.t ws).2):=fun h1 h3=>Jd h1 (Yt h3)
 have hsm:kZ r=true→Sm r.t:=Hu h.bd.t
 generalize gX r c i ws=R at AZ Ls hyes⊢
 refine aH hT Tryz.func55 (by kernel_rfl) rfl rfl (fun A=>?_)
 conv=>whnf
 refine ak.mk _ (xu r h.bd) ?_
 conv=>whnf
 refine ak.mk _ hm ?_
 conv=>whnf
 refine Split.mk (fun c1=>?_) (fun c1=>?_)
 ·have e:=AZ (adD (bU c1))
  subst e
  conv=>whnf
  repeat (first | (refine Split.mk (fun _=>?_) (fun e=>jd e);conv=>whnf) | (refine aT.mk ⟨by kernel_rfl,by kernel_rfl⟩ ?_;conv=>whnf))
  exact aC.mk ⟨rfl,rfl⟩ ⟨rfl,rfl⟩ ⟨rfl,rfl,rfl,rfl,rfl,mZ rfl,trivial⟩
 have hme:=acD (dn c1)
 clear c1
 conv=>whnf
 refine Split.mk (fun c1=>?_) (fun c1=>?_)
 ·have e:=AZ (by rw [hme,show(r.v==1000000)=true from c1];rfl)
  subst e
  conv=>whnf
  exact aC.mk ⟨rfl,rfl⟩ ⟨rfl,rfl⟩ ⟨rfl,rfl,rfl,rfl,rfl,mZ rfl,trivial⟩
 have hmt:kZ r=true:=by rw [hme,show(r.v==1000000)=false from c1];rfl
 clear c1 hme AZ
 replace hsm:=hsm hmt
 replace hyes:=hyes hmt
 have hinv:=fun k=>yJ (i:=i) hc (ws.take k) (r.t,[]) hsm
 change ∀k,Sm (fG c i r.t (ws.take k)).1∧(fG c i r.t (ws.take k)).2.length=0+(ws.take k).length at hinv
 conv=>whnf
 refine dF.mk {k:Nat // k≤ws.length∧∀j,j<k→zI c i (gW ws j)=true} (fun p=>(30,[(12,i64 p.1),(11, .c (.hd 9)),(10, .c (.px 7 0)),(8, .c (.px 1 0)),(4, .c (.px 0 0)),(3,im eW ws),(1, .c (.sc (.string c))),(2,i64 i)],[(7, .bx eG [.sc (.int .i64 r.v), .hd 3, .hd 4, .hd 5, .hd 6]),(1,aau),(0,bxG r),(3, .row 3 9 (fG c i r.t (ws.take p.1)).1.f0),(4, .row 4 eN (fG c i r.t (ws.take p.1)).1.f1),(5, .row 5 eS (fG c i r.t (ws.take p.1)).1.f2),(6, .row 6 eK r.k),(9, .row 9 3 (fG c i r.t (ws.take p.1)).2)])) (fun p=>ws.length - p.1) ⟨0,Nat.zero_le _,fun j hj=>absurd hj (Nat.not_lt_zero j)⟩ (aA [(7,7),(1,1),(0,0),(3,3),(4,4),(5,5),(6,6),(9,8)] rfl rfl rfl ⟨⟨rfl,rfl⟩,⟨rfl,rfl⟩,⟨rfl,rfl⟩,⟨rfl,rfl⟩,⟨rfl,rfl⟩,⟨rfl,rfl⟩,⟨rfl,rfl⟩,⟨rfl,rfl⟩,trivial⟩ ⟨⟨rfl,rfl⟩,⟨rfl,rfl⟩,⟨rfl,rfl⟩,jc rfl,iT rfl,iC rfl,kH rfl,mZ rfl,trivial⟩) ?_
 rintro⟨k,hk,hok⟩
 conv=>whnf
 refine Split.mk (fun c1=>?_) (fun c1=>?_)
 ·have hk2:k<ws.length:=fQ c1
  clear c1
  have hz1:=hz _ (Jc hk2)
  have hnk:=Ls k hk2
  have hmore:zI c i (gW ws k)=true→∀j,j<k+1→zI c i (gW ws j)=true:=fun h j hj=>by
   rcases Nat.lt_succ_iff_lt_or_eq.1 hj with h2 | rfl
   ·exact hok j h2
   ·exact h
  unfold zI at hnk
  replace hmore:=fun h1:bW (gW ws k).f0=true=>fun h2:iw ⟨c,(gW ws k).f1,i⟩=true=>hmore (by unfold zI;rw [h1,h2];rfl)
  have hst:=Gy (c:=c) (i:=i) (t:=r.t) hk2
  obtain⟨hs1,hs2⟩:=hinv k
  rw [List.length_take] at hs2
  generalize fG c i r.t (ws.take k)=q at hst hs1 hs2
  have hins:=VP q.1 (gW ws k).f0 ⟨c,(gW ws k).f1,i⟩ hs1.bd (Nat.le_trans hs1.c (by decide)) hz1 hc
  obtain⟨hb,hcn⟩:=Lp (f:=(gW ws k).f0) (s:=⟨c,(gW ws k).f1,i⟩) hs1.bd (Nat.le_trans hs1.c (by decide)) hc
  have hent:=specEntries (nG (gW ws k).f0 ⟨c,(gW ws k).f1,i⟩ q.1) hb lF (Nat.le_trans (Ht _) (by have:=hs1.c;omega))
  unfold pR at hst
  generalize nG (gW ws k).f0 ⟨c,(gW ws k).f1,i⟩ q.1=t2 at hst hins hent
  conv=>whnf
  refine Need.mk (idx hk2) ?_
  conv=>whnf
  refine ak.mk _ (rW (gW ws k).f0 (Nat.le_trans hz1 (by decide))) ?_
  conv=>whnf
  refine Split.mk (fun c1=>?_) (fun c1=>?_)
  ·have e:=hnk (by rw [bU c1];rfl)
   subst e
   conv=>whnf
   repeat (first | (refine Split.mk (fun _=>?_) (fun e=>jd e);conv=>whnf) | (refine aT.mk ⟨by kernel_rfl,by kernel_rfl⟩ ?_;conv=>whnf))
   refine ak.mk _ (xu r h.bd) ?_
   conv=>whnf
   exact aC.mk ⟨rfl,rfl⟩ ⟨rfl,rfl⟩ ⟨rfl,rfl,rfl,rfl,rfl,mZ rfl,trivial⟩
  have h1:=dn c1
  rw [h1,Bool.true_and] at hnk
  replace hmore:=hmore h1
  clear c1
  conv=>whnf
  refine Need.mk (idx hk2) ?_
  conv=>whnf
  refine ak.mk _ (DJ ⟨c,(gW ws k).f1,i⟩) ?_
  conv=>whnf
  refine Split.mk (fun c1=>?_) (fun c1=>?_)
  ·have e:=hnk (bU c1)
   subst e
   conv=>whnf
   refine ak.mk _ (xu r h.bd) ?_
   conv=>whnf
   exact aC.mk ⟨rfl,rfl⟩ ⟨rfl,rfl⟩ ⟨rfl,rfl,rfl,rfl,rfl,mZ rfl,trivial⟩
  replace hmore:=hmore (dn c1)
  clear c1 hnk
  conv=>whnf
  refine Need.mk (idx hk2) ?_
  conv=>whnf
  refine Need.mk (idx hk2) ?_
  conv=>whnf
  refine ak.mk _ hins ?_
  conv=>whnf
  refine aT.mk ⟨by kernel_rfl,by kernel_rfl⟩ ?_
  conv=>whnf
  refine ak.mk _ hent ?_
  conv=>whnf
  refine Split.mk (fun c1=>?_) (fun c1=>?_)
  ·rw [show decide (((jl t2).length:Int)>14)=true from c1] at hst
   conv=>whnf
   refine Need.mk (bJ (a:=q.2.length) (b:=1) (by omega) (by decide)) ?_
   conv=>whnf
   exact bF.mk ⟨⟨k+1,hk2,hmore⟩,Nat.sub_lt_sub_left hk2 (Nat.lt_succ_self k),aA [(7,7),(1,1),(0,0),(3,3),(4,4),(5,5),(6,6),(9,38)] rfl rfl rfl ⟨⟨rfl,congrArg i64 (dO hk2 (by omega))⟩,⟨rfl,rfl⟩,⟨rfl,rfl⟩,⟨rfl,rfl⟩,⟨rfl,rfl⟩,⟨rfl,rfl⟩,⟨rfl,rfl⟩,⟨rfl,rfl⟩,trivial⟩ ⟨⟨rfl,rfl⟩,⟨rfl,rfl⟩,⟨rfl,rfl⟩,jc (congrArg (fun x:SN × List Int=>x.1.f0) hst).symm,iT (congrArg (fun x:SN × List Int=>x.1.f1) hst).symm,iC (congrArg (fun x:SN × List Int=>x.1.f2) hst).symm,kH rfl,mZ (congrArg Prod.snd hst).symm,trivial⟩⟩
  ·rw [show decide (((jl t2).length:Int)>14)=false from c1] at hst
   conv=>whnf
   refine Need.mk (idx hk2) ?_
   conv=>whnf
   refine Need.mk (bJ (a:=q.2.length) (b:=1) (by omega) (by decide)) ?_
   conv=>whnf
   exact bF.mk ⟨⟨k+1,hk2,hmore⟩,Nat.sub_lt_sub_left hk2 (Nat.lt_succ_self k),aA [(7,7),(1,1),(0,0),(3,32),(4,33),(5,34),(6,6),(9,38)] rfl rfl rfl ⟨⟨rfl,congrArg i64 (dO hk2 (by omega))⟩,⟨rfl,rfl⟩,⟨rfl,rfl⟩,⟨rfl,rfl⟩,⟨rfl,rfl⟩,⟨rfl,rfl⟩,⟨rfl,rfl⟩,⟨rfl,rfl⟩,trivial⟩ ⟨⟨rfl,rfl⟩,⟨rfl,rfl⟩,⟨rfl,rfl⟩,jc (congrArg (fun x:SN × List Int=>x.1.f0) hst).symm,iT (congrArg (fun x:SN × List Int=>x.1.f1) hst).symm,iC (congrArg (fun x:SN × List Int=>x.1.f2) hst).symm,kH rfl,mZ (congrArg Prod.snd hst).symm,trivial⟩⟩
 ·have hk4:k=ws.length:=Nat.le_antisymm hk (fZ c1)
  clear c1
  subst hk4
  have htk:ws.take ws.length=ws:=List.take_length
  have e:=hyes hok
  subst e
  simp only [htk]
  generalize fG c i r.t ws=q
  conv=>whnf
  refine Split.mk (fun c1=>?_) (fun c1=>?_)
  ·rw [show decide ((ws.length:Int)>0)=true from c1]
   conv=>whnf
   exact aC.mk ⟨rfl,rfl⟩ ⟨rfl,rfl⟩ ⟨rfl,rfl,rfl,rfl,rfl,rfl,trivial⟩
  ·rw [show decide ((ws.length:Int)>0)=false from c1]
   conv=>whnf
   exact aC.mk ⟨rfl,rfl⟩ ⟨rfl,rfl⟩ ⟨rfl,rfl,rfl,rfl,rfl,rfl,trivial⟩
end Go.Proofs.YtcnfgfomholheaaGreatDoor.Q
end
section
namespace Go.Proofs.YtcnfgfomholheaaGreatDoor.Q
open Go.RowKit Go.Proofs.YtcnfgfomholheaaGreatDoor.Z Go.Proofs.YtcnfgfomholheaaGreatDoor.X Go.Proofs.YtcnfgfomholheaaGreatDoor.Pure
set_option linter.unusedVariables false
set_option linter.unusedSimpArgs false
set_option maxRecDepth 100000
set_option maxHeartbeats 4000000
theorem acE {l:List LW} {x:Int} (h0:0≤x) (hx:x≤1048576) (h:0≤thenS (dM l.length x) (iF (fun y:LW=>dM y.f0.size) l)):l.length≤1048576∧∀y∈l,(y:LW).f0.size≤1048576:=by
 obtain⟨h1,h2⟩:=mG h
 have h3:=nX h1
 refine⟨by omega,fun y hy=>?_⟩
 obtain⟨v,v1,v2,v3⟩:=wL (F:=fun y:LW=>dM y.f0.size) (fun a _ x hx=>jo hx) h1 h2 y hy
 have g3:=nX v3
 have:=jo (n:=l.length) h0
 omega
theorem Yu {r:RT} {c:ByteArray} {i:Int} {ws:List SW} (h:GR r) (hk:BK r.k) (hc:c.size≤1048576) (hr:cnt r.t≤1048576):Bd (gX r c i ws).1.t∧cnt (gX r c i ws).1.t≤1048576∧BK (gX r c i ws).1.k∧(gX r c i ws).2.length≤ws.length:=by
 have hsm:=Hu h.bd.t
 unfold gX
 cases hm:kZ r with
 | false=>exact⟨h.bd.t,hr,hk,Nat.zero_le _⟩
 | true=>
   cases ws.all (zI c i) with
   | false=>exact⟨h.bd.t,hr,hk,Nat.zero_le _⟩
   | true=>
     obtain⟨h1,h2⟩:=yJ (i:=i) hc ws (r.t,[]) (hsm hm)
     change Sm (fG c i r.t ws).1 at h1
     change (fG c i r.t ws).2.length=0+ws.length at h2
     exact⟨h1.bd,Nat.le_trans h1.c (by decide),hk,by show(fG c i r.t ws).2.length≤_;omega⟩
theorem VH (a:RL) (c:ByteArray) (i:Int) (l:List LW) (ha:adu a) (hl1:l.length≤140737488351232) (hl2:∀x∈l,(x:LW).f0.size≤140737488351232):aG T Tryz.prog 10 [.ag (XY a), .c (.sc (.string c)), .c (.sc (.int .i64 i)), .c (.sl pY l)] (.c (.sc (.bool true))):=by
 refine kK hT Tryz.func10 (by kernel_rfl) rfl rfl (fun A=>?_)
 refine Vc.seq 0 hT ?_
 conv=>whnf
 refine Vc.seq 1 hT ?_
 conv=>whnf
 refine Split.mk (fun c1=>?_) (fun c1=>?_)
 ·conv=>whnf
  exact aC.mk ⟨rfl,rfl⟩ ⟨rfl,rfl⟩ ⟨rfl,trivial⟩
 have hf:c.size≤1048576:=ae4 c1
 clear c1
 conv=>whnf
 refine Vc.seq 1 hT ?_
 conv=>whnf
 refine Vc.seq 1 hT ?_
 conv=>whnf
 refine ak.mk _ (ady a _ ha.1 ha.2 (by decide) (by decide)) ?_
 conv=>whnf
 refine Vc.seq 2 hT ?_
 conv=>whnf
 refine Split.mk (fun c1=>?_) (fun c1=>?_)
 ·conv=>whnf
  exact aC.mk ⟨rfl,rfl⟩ ⟨rfl,rfl⟩ ⟨rfl,trivial⟩
 have hsz:0≤UJ a 1048576:=Qy c1
 clear c1
 obtain⟨hL,hB,hcB,hkB,hk1,hk2,hle⟩:=adB (by decide) (by decide) hsz
 conv=>whnf
 refine Vc.seq 2 hT ?_
 conv=>whnf
 refine ak.mk _ (acF l _ hsz hle hl1 hl2) ?_
 conv=>whnf
 refine Vc.seq 2 hT ?_
 conv=>whnf
 refine Split.mk (fun c1=>?_) (fun c1=>?_)
 ·conv=>whnf
  exact aC.mk ⟨rfl,rfl⟩ ⟨rfl,rfl⟩ ⟨rfl,trivial⟩
 obtain⟨hll,hlz⟩:=acE hsz hle (Qy c1)
 clear c1
 have hto:=adz a hL hk1 hk2
 have hwl:(l.map tW).length=l.length:=List.length_map _
 have hwz:∀w∈l.map tW,(w:SW).f0.size≤1048576:=fun w hw=>by
  obtain⟨x,hx,rfl⟩:=List.mem_map.1 hw
  exact hlz x hx
 generalize hws:(l.map tW:List SW)=ws at hwl hwz
 have htl:aG T Tryz.prog 56 [.c (.sl pY l)] (.c (.ow eW ws)):=by subst hws;exact acG l hll
 clear hws
 generalize tR a=B at hcB hB hkB hto
 have adE:cnt B.t≤1048576:=by omega
 clear hcB hsz hL hk1 hk2 hle
 have hG:=GR.of hB (Nat.le_trans adE (by decide)) hkB
 have him:=TN B c i ws hG hf (by omega) hwz
 have hsp:=TP B c i ws hG hf (by omega) hwz
 obtain⟨hR,hcR,hkR,hC⟩:=Yu (i:=i) (ws:=ws) hG hkB hf adE
 generalize (gX B c i ws).1=R at him hsp hR hcR hkR
 generalize (gX B c i ws).2=C at him hsp hC
 have hbB:I4 B:=hG.bd
 have hbR:I4 R:=hkR.bdr hR
 have hmB:=Qh B 1 hbB (by decide) (Ld B hkB (by omega))
 have hmR:=Qh R 1 hbR (by decide) (Ld R hkR (by omega))
 have hhR:=aao R 1 hbR (by decide) (Ld R hkR (by omega))
 have heR:=X9 R R hbR
 have heB:=X9 B B hbB
 have hel:=acH ws ws (by omega)
 have heC:=adF C C (by omega)
 have ahm:=NQ B hkB (by omega)
 have ahn:=NQ R hkR (by omega)
 have hml:=Yv ws (gQ B 1).2 (by omega) (Lr B) (by omega)
 have hmC:=aav C (gQ R 1).2 (by omega) (Lr R) (by omega)
 have hhC:=aaw C.length (gQ R 1).2 (by omega) (Lr R) (by omega)
 conv=>whnf
 refine Vc.cut (α:=Unit) 60 (fun _=>True) (fun _=>[(11, .c (.hd 6)),(10, .c (.px 1 0)),(4, .c (.px 0 0)),(1, .c (.sc (.string c))),(2,i64 i),(3,im pY l)]) (fun _=>[(6, .row 6 3 C),(1, .bx eG [.sc (.int .i64 R.v), .hd 2, .hd 3, .hd 4, .hd 5]),(2, .row 2 9 R.t.f0),(3, .row 3 eN R.t.f1),(4, .row 4 eS R.t.f2),(5, .row 5 eK R.k),(0,Ar a)]) hT ?_ (fun _ _=>?_)
 ·conv=>whnf
  refine ak.mk _ hto ?_
  conv=>whnf
  refine ak.mk _ htl ?_
  conv=>whnf
  refine ak.mk _ hsp ?_
  conv=>whnf
  exact jX.mk ⟨(),trivial,aA [(6,71),(1,72),(2,67),(3,68),(4,69),(5,70),(0,0)] rfl rfl rfl ⟨⟨rfl,rfl⟩,⟨rfl,rfl⟩,⟨rfl,rfl⟩,⟨rfl,rfl⟩,⟨rfl,rfl⟩,⟨rfl,rfl⟩,trivial⟩ ⟨mZ rfl,⟨rfl,rfl⟩,jc rfl,iT rfl,iC rfl,kH rfl,⟨rfl,rfl⟩,trivial⟩⟩
 refine Vc.cut (α:=Unit) 60 (fun _=>True) (fun _=>[(12, .c (.px 7 0)),(11, .c (.hd 6)),(10, .c (.px 1 0)),(4, .c (.px 0 0)),(1, .c (.sc (.string c))),(2,i64 i),(3,im pY l)]) (fun _=>[(7, .bx eG [.sc (.int .i64 B.v), .hd 8, .hd 9, .hd 10, .hd 11]),(8, .row 8 9 B.t.f0),(9, .row 9 eN B.t.f1),(10, .row 10 eS B.t.f2),(11, .row 11 eK B.k),(6, .row 6 3 C),(1, .bx eG [.sc (.int .i64 R.v), .hd 2, .hd 3, .hd 4, .hd 5]),(2, .row 2 9 R.t.f0),(3, .row 3 eN R.t.f1),(4, .row 4 eS R.t.f2),(5, .row 5 eK R.k),(0,Ar a)]) hT ?_ (fun _ _=>?_)
 ·conv=>whnf
  refine ak.mk _ hto ?_
  conv=>whnf
  exact jX.mk ⟨(),trivial,aA [(7,65),(8,61),(9,62),(10,63),(11,64),(6,6),(1,1),(2,2),(3,3),(4,4),(5,5),(0,0)] rfl rfl rfl ⟨⟨rfl,rfl⟩,⟨rfl,rfl⟩,⟨rfl,rfl⟩,⟨rfl,rfl⟩,⟨rfl,rfl⟩,⟨rfl,rfl⟩,⟨rfl,rfl⟩,trivial⟩ ⟨⟨rfl,rfl⟩,jc rfl,iT rfl,iC rfl,kH rfl,mZ rfl,⟨rfl,rfl⟩,jc rfl,iT rfl,iC rfl,kH rfl,⟨rfl,rfl⟩,trivial⟩⟩
 refine Vc.cut (α:=Unit) 60 (fun _=>True) (fun _=>[(13, .c (.hd 12)),(12, .c (.px 7 0)),(11, .c (.hd 6)),(10, .c (.px 1 0)),(4, .c (.px 0 0)),(1, .c (.sc (.string c))),(2,i64 i),(3,im pY l)]) (fun _=>[(12, .row 12 eW ws),(7, .bx eG [.sc (.int .i64 B.v), .hd 8, .hd 9, .hd 10, .hd 11]),(8, .row 8 9 B.t.f0),(9, .row 9 eN B.t.f1),(10, .row 10 eS B.t.f2),(11, .row 11 eK B.k),(6, .row 6 3 C),(1, .bx eG [.sc (.int .i64 R.v), .hd 2, .hd 3, .hd 4, .hd 5]),(2, .row 2 9 R.t.f0),(3, .row 3 eN R.t.f1),(4, .row 4 eS R.t.f2),(5, .row 5 eK R.k),(0,Ar a)]) hT ?_ (fun _ _=>?_)
 ·conv=>whnf
  refine ak.mk _ htl ?_
  conv=>whnf
  exact jX.mk ⟨(),trivial,aA [(12,60),(7,7),(8,8),(9,9),(10,10),(11,11),(6,6),(1,1),(2,2),(3,3),(4,4),(5,5),(0,0)] rfl rfl rfl ⟨⟨rfl,rfl⟩,⟨rfl,rfl⟩,⟨rfl,rfl⟩,⟨rfl,rfl⟩,⟨rfl,rfl⟩,⟨rfl,rfl⟩,⟨rfl,rfl⟩,⟨rfl,rfl⟩,trivial⟩ ⟨srW rfl,⟨rfl,rfl⟩,jc rfl,iT rfl,iC rfl,kH rfl,mZ rfl,⟨rfl,rfl⟩,jc rfl,iT rfl,iC rfl,kH rfl,⟨rfl,rfl⟩,trivial⟩⟩
 refine Vc.cut (α:=Unit) 60 (fun _=>True) (fun _=>[(15, .c (.hd 18)),(14, .c (.px 13 0)),(13, .c (.hd 12)),(12, .c (.px 7 0)),(11, .c (.hd 6)),(10, .c (.px 1 0)),(4, .c (.px 0 0)),(1, .c (.sc (.string c))),(2,i64 i),(3,im pY l)]) (fun _=>[(18, .row 18 3 C),(13, .bx eG [.sc (.int .i64 R.v), .hd 14, .hd 15, .hd 16, .hd 17]),(14, .row 14 9 R.t.f0),(15, .row 15 eN R.t.f1),(16, .row 16 eS R.t.f2),(17, .row 17 eK R.k),(12, .row 12 eW ws),(7, .bx eG [.sc (.int .i64 B.v), .hd 8, .hd 9, .hd 10, .hd 11]),(8, .row 8 9 B.t.f0),(9, .row 9 eN B.t.f1),(10, .row 10 eS B.t.f2),(11, .row 11 eK B.k),(6, .row 6 3 C),(1, .bx eG [.sc (.int .i64 R.v), .hd 2, .hd 3, .hd 4, .hd 5]),(2, .row 2 9 R.t.f0),(3, .row 3 eN R.t.f1),(4, .row 4 eS R.t.f2),(5, .row 5 eK R.k),(0,Ar a)]) hT ?_ (fun _ _=>?_)
 ·conv=>whnf
  refine ak.mk _ him ?_
  conv=>whnf
  exact jX.mk ⟨(),trivial,aA [(18,65),(13,66),(14,61),(15,62),(16,63),(17,64),(12,12),(7,7),(8,8),(9,9),(10,10),(11,11),(6,6),(1,1),(2,2),(3,3),(4,4),(5,5),(0,0)] rfl rfl rfl ⟨⟨rfl,rfl⟩,⟨rfl,rfl⟩,⟨rfl,rfl⟩,⟨rfl,rfl⟩,⟨rfl,rfl⟩,⟨rfl,rfl⟩,⟨rfl,rfl⟩,⟨rfl,rfl⟩,⟨rfl,rfl⟩,⟨rfl,rfl⟩,trivial⟩ ⟨mZ rfl,⟨rfl,rfl⟩,jc rfl,iT rfl,iC rfl,kH rfl,srW rfl,⟨rfl,rfl⟩,jc rfl,iT rfl,iC rfl,kH rfl,mZ rfl,⟨rfl,rfl⟩,jc rfl,iT rfl,iC rfl,kH rfl,⟨rfl,rfl⟩,trivial⟩⟩
 refine Vc.seq 60 hT ?_
 conv=>whnf
 refine ak.mk _ heR ?_
 conv=>whnf
 refine Split.mk (fun c1=>(gJ (bU c1) rfl).elim) (fun c1=>?_)
 clear c1
 conv=>whnf
 refine ak.mk _ heC ?_
 conv=>whnf
 refine Split.mk (fun c1=>(gJ (bU c1) rfl).elim) (fun c1=>?_)
 clear c1
 conv=>whnf
 refine Vc.seq 60 hT ?_
 conv=>whnf
 refine ak.mk _ hto ?_
 conv=>whnf
 refine ak.mk _ heB ?_
 conv=>whnf
 refine aT.mk ⟨by kernel_rfl,by kernel_rfl⟩ ?_
 conv=>whnf
 refine Split.mk (fun c1=>(gJ (bU c1) rfl).elim) (fun c1=>?_)
 clear c1
 conv=>whnf
 refine Vc.seq 70 hT ?_
 conv=>whnf
 refine ak.mk _ htl ?_
 conv=>whnf
 refine ak.mk _ hel ?_
 conv=>whnf
 refine Split.mk (fun c1=>(gJ (bU c1) rfl).elim) (fun c1=>?_)
 clear c1
 conv=>whnf
 refine Vc.seq 120 hT ?_
 conv=>whnf
 refine Vc.cut (α:=Unit) 100 (fun _=>True) (fun _=>[(16,i64 (((gQ B 1).2:Nat):Int)),(15, .c (.hd 18)),(14, .c (.px 13 0)),(13, .c (.hd 12)),(11, .c (.hd 6)),(10, .c (.px 1 0)),(4, .c (.px 0 0)),(1, .c (.sc (.string c))),(2,i64 i),(3,im pY l)]) (fun _=>[(18, .row 18 3 C),(13, .bx eG [.sc (.int .i64 R.v), .hd 14, .hd 15, .hd 16, .hd 17]),(14, .row 14 9 R.t.f0),(15, .row 15 eN R.t.f1),(16, .row 16 eS R.t.f2),(17, .row 17 eK R.k),(12, .row 12 eW ws),(6, .row 6 3 C),(1, .bx eG [.sc (.int .i64 R.v), .hd 2, .hd 3, .hd 4, .hd 5]),(2, .row 2 9 R.t.f0),(3, .row 3 eN R.t.f1),(4, .row 4 eS R.t.f2),(5, .row 5 eK R.k),(0,Ar a)]) hT ?_ (fun _ _=>?_)
 ·conv=>whnf
  refine ak.wr [[NW.rd,NW.wr 9 (gQ B 1).1.t.f0,NW.wr eN (gQ B 1).1.t.f1,NW.wr eS (gQ B 1).1.t.f2,NW.wr eK (gQ B 1).1.k],[NW.rd]] (.c (.sc (.int .i64 (((gQ B 1).2:Nat):Int)))) ?_
  conv=>whnf
  refine jK.mk hmB ?_
  conv=>whnf
  exact jX.mk ⟨(),trivial,aA [(18,18),(13,13),(14,14),(15,15),(16,16),(17,17),(12,12),(6,6),(1,1),(2,2),(3,3),(4,4),(5,5),(0,0)] rfl rfl rfl ⟨⟨rfl,rfl⟩,⟨rfl,rfl⟩,⟨rfl,rfl⟩,⟨rfl,rfl⟩,⟨rfl,rfl⟩,⟨rfl,rfl⟩,⟨rfl,rfl⟩,⟨rfl,rfl⟩,⟨rfl,rfl⟩,⟨rfl,rfl⟩,trivial⟩ ⟨mZ rfl,⟨rfl,rfl⟩,jc rfl,iT rfl,iC rfl,kH rfl,srW rfl,mZ rfl,⟨rfl,rfl⟩,jc rfl,iT rfl,iC rfl,kH rfl,⟨rfl,rfl⟩,trivial⟩⟩
 refine Vc.cut (α:=Unit) 100 (fun _=>True) (fun _=>[(16,i64 ((((gQ B 1).2+2*ws.length):Nat):Int)),(15, .c (.hd 18)),(14, .c (.px 13 0)),(11, .c (.hd 6)),(10, .c (.px 1 0)),(4, .c (.px 0 0)),(1, .c (.sc (.string c))),(2,i64 i),(3,im pY l)]) (fun _=>[(18, .row 18 3 C),(13, .bx eG [.sc (.int .i64 R.v), .hd 14, .hd 15, .hd 16, .hd 17]),(14, .row 14 9 R.t.f0),(15, .row 15 eN R.t.f1),(16, .row 16 eS R.t.f2),(17, .row 17 eK R.k),(6, .row 6 3 C),(1, .bx eG [.sc (.int .i64 R.v), .hd 2, .hd 3, .hd 4, .hd 5]),(2, .row 2 9 R.t.f0),(3, .row 3 eN R.t.f1),(4, .row 4 eS R.t.f2),(5, .row 5 eK R.k),(0,Ar a)]) hT ?_ (fun _ _=>?_)
 ·conv=>whnf
  refine ak.wr [[NW.wr eW (jm 2 fW (gQ B 1).2 ws.length)],[NW.rd]] (.c (.sc (.int .i64 ((((gQ B 1).2+2*ws.length):Nat):Int)))) ?_
  conv=>whnf
  refine jK.mk hml ?_
  conv=>whnf
  exact jX.mk ⟨(),trivial,aA [(18,18),(13,13),(14,14),(15,15),(16,16),(17,17),(6,6),(1,1),(2,2),(3,3),(4,4),(5,5),(0,0)] rfl rfl rfl ⟨⟨rfl,rfl⟩,⟨rfl,rfl⟩,⟨rfl,rfl⟩,⟨rfl,rfl⟩,⟨rfl,rfl⟩,⟨rfl,rfl⟩,⟨rfl,rfl⟩,⟨rfl,rfl⟩,⟨rfl,rfl⟩,trivial⟩ ⟨mZ rfl,⟨rfl,rfl⟩,jc rfl,iT rfl,iC rfl,kH rfl,mZ rfl,⟨rfl,rfl⟩,jc rfl,iT rfl,iC rfl,kH rfl,⟨rfl,rfl⟩,trivial⟩⟩
 refine Vc.seq 60 hT ?_
 conv=>whnf
 refine Split.mk (fun c1=>yG c1) (fun c1=>?_)
 clear c1
 conv=>whnf
 refine ak.mk _ heR ?_
 conv=>whnf
 refine Split.mk (fun c1=>(gJ (bU c1) rfl).elim) (fun c1=>?_)
 clear c1
 conv=>whnf
 refine ak.mk _ heC ?_
 conv=>whnf
 refine Split.mk (fun c1=>(gJ (bU c1) rfl).elim) (fun c1=>?_)
 clear c1
 conv=>whnf
 refine Vc.seq 100 hT ?_
 conv=>whnf
 refine Vc.cut (α:=Unit) 100 (fun _=>True) (fun _=>[(17,i64 (((gQ R 1).2:Nat):Int)),(15, .c (.hd 18)),(14, .c (.px 13 0)),(11, .c (.hd 6)),(10, .c (.px 1 0)),(4, .c (.px 0 0)),(1, .c (.sc (.string c))),(2,i64 i),(3,im pY l)]) (fun _=>[(18, .row 18 3 C),(13, .bx eG [.sc (.int .i64 (gQ R 1).1.v), .hd 14, .hd 15, .hd 16, .hd 17]),(14, .row 14 9 ((gQ R 1).1.t.f0)),(15, .row 15 eN ((gQ R 1).1.t.f1)),(16, .row 16 eS ((gQ R 1).1.t.f2)),(17, .row 17 eK ((gQ R 1).1.k)),(6, .row 6 3 C),(1, .bx eG [.sc (.int .i64 R.v), .hd 2, .hd 3, .hd 4, .hd 5]),(2, .row 2 9 R.t.f0),(3, .row 3 eN R.t.f1),(4, .row 4 eS R.t.f2),(5, .row 5 eK R.k),(0,Ar a)]) hT ?_ (fun _ _=>?_)
 ·conv=>whnf
  refine ak.wr [[NW.rd,NW.wr 9 (gQ R 1).1.t.f0,NW.wr eN (gQ R 1).1.t.f1,NW.wr eS (gQ R 1).1.t.f2,NW.wr eK (gQ R 1).1.k],[NW.rd]] (.c (.sc (.int .i64 (((gQ R 1).2:Nat):Int)))) ?_
  conv=>whnf
  refine jK.mk hmR ?_
  conv=>whnf
  exact jX.mk ⟨(),trivial,aA [(18,18),(13,13),(14,14),(15,15),(16,16),(17,17),(6,6),(1,1),(2,2),(3,3),(4,4),(5,5),(0,0)] rfl rfl rfl ⟨⟨rfl,rfl⟩,⟨rfl,rfl⟩,⟨rfl,rfl⟩,⟨rfl,rfl⟩,⟨rfl,rfl⟩,⟨rfl,rfl⟩,⟨rfl,rfl⟩,⟨rfl,rfl⟩,⟨rfl,rfl⟩,trivial⟩ ⟨mZ rfl,⟨rfl,rfl⟩,jc rfl,iT rfl,iC rfl,kH rfl,mZ rfl,⟨rfl,rfl⟩,jc rfl,iT rfl,iC rfl,kH rfl,⟨rfl,rfl⟩,trivial⟩⟩
 refine Vc.cut (α:=Unit) 100 (fun _=>True) (fun _=>[(17,i64 ((((gQ R 1).2+1*C.length):Nat):Int)),(15, .c (.hd 18)),(14, .c (.px 13 0)),(11, .c (.hd 6)),(10, .c (.px 1 0)),(4, .c (.px 0 0)),(1, .c (.sc (.string c))),(2,i64 i),(3,im pY l)]) (fun _=>[(18, .row 18 3 ((jm 1 fI (gQ R 1).2 C.length))),(13, .bx eG [.sc (.int .i64 (gQ R 1).1.v), .hd 14, .hd 15, .hd 16, .hd 17]),(14, .row 14 9 ((gQ R 1).1.t.f0)),(15, .row 15 eN ((gQ R 1).1.t.f1)),(16, .row 16 eS ((gQ R 1).1.t.f2)),(17, .row 17 eK ((gQ R 1).1.k)),(6, .row 6 3 C),(1, .bx eG [.sc (.int .i64 R.v), .hd 2, .hd 3, .hd 4, .hd 5]),(2, .row 2 9 R.t.f0),(3, .row 3 eN R.t.f1),(4, .row 4 eS R.t.f2),(5, .row 5 eK R.k),(0,Ar a)]) hT ?_ (fun _ _=>?_)
 ·conv=>whnf
  refine ak.wr [[NW.wr 3 (jm 1 fI (gQ R 1).2 C.length)],[NW.rd]] (.c (.sc (.int .i64 ((((gQ R 1).2+1*C.length):Nat):Int)))) ?_
  conv=>whnf
  refine jK.mk hmC ?_
  conv=>whnf
  exact jX.mk ⟨(),trivial,aA [(18,18),(13,13),(14,14),(15,15),(16,16),(17,17),(6,6),(1,1),(2,2),(3,3),(4,4),(5,5),(0,0)] rfl rfl rfl ⟨⟨rfl,rfl⟩,⟨rfl,rfl⟩,⟨rfl,rfl⟩,⟨rfl,rfl⟩,⟨rfl,rfl⟩,⟨rfl,rfl⟩,⟨rfl,rfl⟩,⟨rfl,rfl⟩,⟨rfl,rfl⟩,trivial⟩ ⟨mZ rfl,⟨rfl,rfl⟩,jc rfl,iT rfl,iC rfl,kH rfl,mZ rfl,⟨rfl,rfl⟩,jc rfl,iT rfl,iC rfl,kH rfl,⟨rfl,rfl⟩,trivial⟩⟩
 refine Vc.seq 60 hT ?_
 conv=>whnf
 refine Vc.seq 60 hT ?_
 conv=>whnf
 refine ak.mk (.c (.sc (.int .i64 (((gQ R 1).2:Nat):Int)))) hhR ?_
 conv=>whnf
 refine Vc.seq 60 hT ?_
 conv=>whnf
 refine Split.mk (fun c1=>yG c1) (fun c1=>?_)
 clear c1
 conv=>whnf
 refine Vc.seq 60 hT ?_
 conv=>whnf
 refine ak.mk (.c (.sc (.int .i64 ((((gQ R 1).2+1*C.length):Nat):Int)))) hhC ?_
 conv=>whnf
 refine Vc.seq 60 hT ?_
 conv=>whnf
 refine Split.mk (fun c1=>yG c1) (fun c1=>?_)
 clear c1
 conv=>whnf
 refine Vc.seq 60 hT ?_
 conv=>whnf
 refine Split.mk (fun c1=>(rV c1 rfl).elim) (fun c1=>?_)
 clear c1
 conv=>whnf
 refine Vc.cut (α:=Unit) 60 (fun _=>True) (fun _=>[(20, .c (.hd 24)),(19, .c (.px 19 0)),(17,i64 ((((gQ R 1).2+1*C.length):Nat):Int)),(15, .c (.hd 18)),(14, .c (.px 13 0)),(11, .c (.hd 6)),(10, .c (.px 1 0)),(4, .c (.px 0 0)),(1, .c (.sc (.string c))),(2,i64 i),(3,im pY l)]) (fun _=>[(24, .row 24 3 C),(19, .bx eG [.sc (.int .i64 R.v), .hd 20, .hd 21, .hd 22, .hd 23]),(20, .row 20 9 R.t.f0),(21, .row 21 eN R.t.f1),(22, .row 22 eS R.t.f2),(23, .row 23 eK R.k),(18, .row 18 3 ((jm 1 fI (gQ R 1).2 C.length))),(13, .bx eG [.sc (.int .i64 (gQ R 1).1.v), .hd 14, .hd 15, .hd 16, .hd 17]),(14, .row 14 9 ((gQ R 1).1.t.f0)),(15, .row 15 eN ((gQ R 1).1.t.f1)),(16, .row 16 eS ((gQ R 1).1.t.f2)),(17, .row 17 eK ((gQ R 1).1.k)),(6, .row 6 3 C),(1, .bx eG [.sc (.int .i64 R.v), .hd 2, .hd 3, .hd 4, .hd 5]),(2, .row 2 9 R.t.f0),(3, .row 3 eN R.t.f1),(4, .row 4 eS R.t.f2),(5, .row 5 eK R.k),(0,Ar a)]) hT ?_ (fun _ _=>?_)
 ·conv=>whnf
  refine ak.mk _ hto ?_
  conv=>whnf
  refine ak.mk _ htl ?_
  conv=>whnf
  refine ak.mk _ him ?_
  conv=>whnf
  exact jX.mk ⟨(),trivial,aA [(24,71),(19,72),(20,67),(21,68),(22,69),(23,70),(18,18),(13,13),(14,14),(15,15),(16,16),(17,17),(6,6),(1,1),(2,2),(3,3),(4,4),(5,5),(0,0)] rfl rfl rfl ⟨⟨rfl,rfl⟩,⟨rfl,rfl⟩,⟨rfl,rfl⟩,⟨rfl,rfl⟩,⟨rfl,rfl⟩,⟨rfl,rfl⟩,⟨rfl,rfl⟩,⟨rfl,rfl⟩,⟨rfl,rfl⟩,⟨rfl,rfl⟩,⟨rfl,rfl⟩,trivial⟩ ⟨mZ rfl,⟨rfl,rfl⟩,jc rfl,iT rfl,iC rfl,kH rfl,mZ rfl,⟨rfl,rfl⟩,jc rfl,iT rfl,iC rfl,kH rfl,mZ rfl,⟨rfl,rfl⟩,jc rfl,iT rfl,iC rfl,kH rfl,⟨rfl,rfl⟩,trivial⟩⟩
 refine Vc.seq 60 hT ?_
 conv=>whnf
 refine ak.mk _ heR ?_
 conv=>whnf
 refine Split.mk (fun c1=>(gJ (bU c1) rfl).elim) (fun c1=>?_)
 clear c1
 conv=>whnf
 refine ak.mk _ heC ?_
 conv=>whnf
 refine Split.mk (fun c1=>(gJ (bU c1) rfl).elim) (fun c1=>?_)
 clear c1
 conv=>whnf
 refine Vc.seq 60 hT ?_
 conv=>whnf
 refine Vc.seq 60 hT ?_
 conv=>whnf
 refine ak.mk (.c (.sc (.int .i64 (((gQ R 1).2:Nat):Int)))) hhR ?_
 conv=>whnf
 refine Vc.seq 60 hT ?_
 conv=>whnf
 refine Split.mk (fun c1=>yG c1) (fun c1=>?_)
 clear c1
 conv=>whnf
 refine Vc.seq 60 hT ?_
 conv=>whnf
 refine ak.mk (.c (.sc (.int .i64 ((((gQ R 1).2+1*C.length):Nat):Int)))) hhC ?_
 conv=>whnf
 refine Vc.seq 60 hT ?_
 conv=>whnf
 refine Split.mk (fun c1=>yG c1) (fun c1=>?_)
 clear c1
 conv=>whnf
 refine Vc.seq 60 hT ?_
 conv=>whnf
 refine Split.mk (fun c1=>(rV c1 rfl).elim) (fun c1=>?_)
 clear c1
 conv=>whnf
 refine Vc.of 60 hT ?_
 conv=>whnf
 exact aC.mk ⟨rfl,rfl⟩ ⟨rfl,rfl⟩ ⟨rfl,trivial⟩
end Go.Proofs.YtcnfgfomholheaaGreatDoor.Q
end
