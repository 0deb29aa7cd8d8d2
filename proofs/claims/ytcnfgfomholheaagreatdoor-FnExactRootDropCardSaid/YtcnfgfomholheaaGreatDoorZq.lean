/- Several texts of this claim in one (a claim holds at most 60 files). -/
import Derived.Test.YtcnfgfomholheaaGreatDoorZy
import Derived.Test.YtcnfgfomholheaaGreatDoorZp
section
namespace Go.Proofs.YtcnfgfomholheaaGreatDoor.Q
open Go.RowKit Go.Proofs.YtcnfgfomholheaaGreatDoor.Z Go.Proofs.YtcnfgfomholheaaGreatDoor.Pure
set_option linter.unusedVariables false
set_option linter.unusedSimpArgs false
set_option maxRecDepth 100000
set_option maxHeartbeats 4000000
def ig (t:ByteArray) (l:List SS):List SS:=l.filter fun s=>!(s.f0.toList==t.toList)
theorem xg (t:ByteArray) (l:List SS):(ig t l).length≤l.length:=List.length_filter_le _ _
theorem Uu (l:List SS) (client:ByteArray) (hl:l.length≤8388608):ay T Tryz.prog 171 [.c (.sl eS l), .c (.sc (.string client))] (.c (.ow eS (ig client l))):=by
 refine aH hT Tryz.func171 (by kernel_rfl) rfl rfl (fun A=>?_)
 conv=>whnf
 refine aA.mk _ (Ot l hl) ?_
 conv=>whnf
 refine aA.wr [[.gv eS],[.rd]] (.c (.ow eS (ig client l))) ?_
 conv=>whnf
 refine jW.mk (Uw l client) ?_
 conv=>whnf
 exact aG.mk ⟨rfl,rfl⟩ ⟨rfl,rfl⟩ ⟨rfl,trivial⟩
theorem Ux {α:Type} {p:α→Bool} {d:α}:∀{l:List α} {i:Nat},i≤l.length→(∀j,j<i→p (l.getD j d)=true)→(i=l.length∨p (l.getD i d)=false)→l.take i=l.takeWhile p∧l.drop i=l.dropWhile p
 | [],i,hi,_,_=>by simp
 | a::l,0,_,_,h=>by
   rcases h with h | h
   ·simp at h
   ·have h:p a=false:=h
    simp [List.takeWhile_cons,List.dropWhile_cons,h]
 | a::l,i+1,hi,h1,h2=>by
   have ha:p a=true:=h1 0 (Nat.succ_pos i)
   have ih:=Ux (p:=p) (d:=d) (l:=l) (i:=i) (by simpa using hi) (fun j hj=>h1 (j+1) (by omega)) (by simpa using h2)
   simp [List.takeWhile_cons,List.dropWhile_cons,ha,ih.1,ih.2]
theorem jX {l l':List SS} (h:l=l'):bW (T:=T) eS l eS l':=gy h
theorem kN {l l':List SN} (h:l=l'):bW (T:=T) eN l eN l':=gy h
theorem vI {l l':List SE} (h:l=l'):bW (T:=T) eE l eE l':=gy h
theorem kW {l l':List ByteArray} (h:l=l'):bW (T:=T) 9 l 9 l':=gy h
end Go.Proofs.YtcnfgfomholheaaGreatDoor.Q
end
section
namespace Go.Proofs.YtcnfgfomholheaaGreatDoor.Q
open Go.RowKit Go.Proofs.YtcnfgfomholheaaGreatDoor.Z Go.Proofs.YtcnfgfomholheaaGreatDoor.Pure
set_option linter.unusedVariables false
set_option linter.unusedSimpArgs false
set_option maxRecDepth 100000
set_option maxHeartbeats 4000000
theorem isNaN1 (a:ByteArray):ay T Tryz.prog 206 [.c (.sc (.string a))] (.c (.sc (.bool false))):=by
 refine aH hT Tryz.func206 (by kernel_rfl) rfl rfl (fun A=>?_)
 conv=>whnf
 exact aG.mk ⟨rfl,rfl⟩ ⟨rfl,rfl⟩ ⟨bv (by simp),trivial⟩
theorem isNaN2 (a:ByteArray):ay T Tryz.prog 222 [.c (.sc (.string a))] (.c (.sc (.bool false))):=by
 refine aH hT Tryz.func222 (by kernel_rfl) rfl rfl (fun A=>?_)
 conv=>whnf
 exact aG.mk ⟨rfl,rfl⟩ ⟨rfl,rfl⟩ ⟨bv (by simp),trivial⟩
theorem aaF (a b:ByteArray):ay T Tryz.prog 205 [.c (.sc (.string a)), .c (.sc (.string b))] (.c (.sc (.bool (Op.bytesLess a.toList b.toList)))):=by
 refine aH hT Tryz.func205 (by kernel_rfl) rfl rfl (fun A=>?_)
 conv=>whnf
 refine aA.mk _ (isNaN2 a) ?_
 conv=>whnf
 refine Split.mk (fun e=>jH e) (fun _=>?_)
 conv=>whnf
 refine Split.mk (fun e=>jH e) (fun _=>?_)
 conv=>whnf
 exact aG.mk ⟨rfl,rfl⟩ ⟨rfl,rfl⟩ ⟨rfl,trivial⟩
def xk (t s:ByteArray):Bool:=Op.bytesLess s.toList t.toList
def g9 (l:List ByteArray) (k:Nat):ByteArray:=l.getD k (T.df 9)
structure Bs (l:List ByteArray) (t:ByteArray) (i j:Nat):Prop where
 le:i≤j
 hi:j≤l.length
 lo:∀k,k<i→xk t (g9 l k)=true
 up:∀k,j≤k→k<l.length→xk t (g9 l k)=false
theorem ael {i j:Nat} (h:i+j≤140737488351232):IntKind.i64.wrap ((IntKind.u64.wrap (wrap64 ((i:Int)+(j:Int)))).fdiv (2 ^ min (Int.toNat 1) IntKind.u64.bits))=(((i+j) / 2:Nat):Int):=by
 have h1:wrap64 ((i:Int)+(j:Int))=((i+j:Nat):Int):=by simp only [wrap64];omega
 have h2:IntKind.u64.wrap (((i+j:Nat):Int))=((i+j:Nat):Int):=by
  simp only [IntKind.wrap,IntKind.bits,IntKind.signed]
  simp
  omega
 have h3:((2:Int) ^ min (Int.toNat 1) IntKind.u64.bits)=2:=by decide
 rw [h1,h2,h3]
 have h4:(((i+j:Nat):Int)).fdiv 2=(((i+j) / 2:Nat):Int):=by
  rw [Int.fdiv_eq_ediv_of_nonneg _ (by decide)]
  omega
 rw [h4]
 simp only [IntKind.wrap_i64]
 omega
def dG (t:ByteArray) (l:List ByteArray):Nat:=(l.takeWhile (xk t)).length
def jm (t:ByteArray) (l:List ByteArray):Bool:=decide (dG t l<l.length) && ((g9 l (dG t l)).toList==t.toList)
theorem Bs.pos {l:List ByteArray} {t:ByteArray} {i:Nat} (h:Bs l t i i):dG t l=i:=by
 have h1:=h.hi
 have:=(Ux (p:=xk t) (d:=T.df 9) (l:=l) (i:=i) h1 h.lo (by
  rcases Nat.lt_or_ge i l.length with h2 | h2
  ·exact .inr (h.up i (Nat.le_refl _) h2)
  ·exact .inl (by omega))).1
 unfold dG
 rw [←this,List.length_take]
 omega
theorem bsearch (l:List ByteArray) (t:ByteArray) (hl:l.length≤8388608) (hm:∀a b,a≤b→b<l.length→xk t (g9 l b)=true→xk t (g9 l a)=true):ay T Tryz.prog 172 [.c (.sl 9 l), .c (.sc (.string t))] (.tu [(false,[.sc (.int .i64 (dG t l:Int))]),(false,[.sc (.bool (jm t l))])]):=by
 refine aH hT Tryz.func172 (by kernel_rfl) rfl rfl (fun A=>?_)
 conv=>whnf
 refine dM.mk {p:Nat × Nat // Bs l t p.1 p.2} (fun p=>(0,[(7,i64 p.1.1),(8,i64 p.1.2),(6,i64 l.length),(0,im 9 l),(1, .c (.sc (.string t)))],[])) (fun p=>p.1.2 - p.1.1) ⟨(0,l.length),Nat.zero_le _,Nat.le_refl _,fun k hk=>absurd hk (Nat.not_lt_zero k),fun k h1 h2=>absurd h1 (Nat.not_le_of_lt h2)⟩ (aC [] rfl rfl rfl ⟨⟨rfl,rfl⟩,⟨rfl,rfl⟩,⟨rfl,rfl⟩,⟨rfl,rfl⟩,⟨rfl,rfl⟩,trivial⟩ trivial) ?_
 rintro⟨⟨i,j⟩,hb⟩
 conv=>whnf
 refine Split.mk (fun c=>?_) (fun c=>?_)
 ·have hk2:i<j:=iw c
  clear c
  have hi:=hb.hi
  have hM:=ael (i:=i) (j:=j) (by simp only at hi;omega)
  have hMt:(IntKind.i64.wrap ((IntKind.u64.wrap (wrap64 ((i:Int)+(j:Int)))).fdiv (2 ^ min (Int.toNat 1) IntKind.u64.bits))).toNat=(i+j) / 2:=by rw [hM];rfl
  have hlt:(i+j) / 2<l.length:=by simp only at hi;omega
  conv=>whnf
  refine Need.mk (by rw [hM];exact idx hlt) ?_
  conv=>whnf
  refine aA.mk _ (aaF _ _) ?_
  conv=>whnf
  refine Split.mk (fun c=>?_) (fun c=>?_)
  ·have c1:xk t (g9 l ((i+j) / 2))=true:=(congrArg (fun k=>xk t (g9 l k)) hMt.symm).trans c
   conv=>whnf
   exact bI.mk ⟨⟨((i+j) / 2+1,j),by show(i+j) / 2+1≤j;omega,hi,fun k hk=>hm k ((i+j) / 2) (by omega) hlt c1,hb.up⟩,by show j - ((i+j) / 2+1)<j - i;omega,aC [] rfl rfl rfl ⟨⟨rfl,congrArg i64 (show(((i+j) / 2+1:Nat):Int)=wrap64 (IntKind.i64.wrap ((IntKind.u64.wrap (wrap64 ((i:Int)+(j:Int)))).fdiv (2 ^ min (Int.toNat 1) IntKind.u64.bits))+1) by rw [hM];exact dY hlt (by omega))⟩,⟨rfl,rfl⟩,⟨rfl,rfl⟩,⟨rfl,rfl⟩,⟨rfl,rfl⟩,trivial⟩ trivial⟩
  ·have c1:xk t (g9 l ((i+j) / 2))=false:=(congrArg (fun k=>xk t (g9 l k)) hMt.symm).trans c
   conv=>whnf
   exact bI.mk ⟨⟨(i,(i+j) / 2),by show i≤(i+j) / 2;omega,Nat.le_of_lt hlt,hb.lo,fun k h1 h2=>by
    cases hq:xk t (g9 l k) with
    | false=>rfl
    | true=>rw [hm ((i+j) / 2) k h1 h2 hq] at c1;cases c1⟩,by show(i+j) / 2 - i<j - i;omega,aC [] rfl rfl rfl ⟨⟨rfl,rfl⟩,⟨rfl,congrArg i64 hM.symm⟩,⟨rfl,rfl⟩,⟨rfl,rfl⟩,⟨rfl,rfl⟩,trivial⟩ trivial⟩
 ·have hk2:i=j:=Nat.le_antisymm hb.le (iy c)
  clear c
  subst hk2
  have hp:=hb.pos
  conv=>whnf
  refine Split.mk (fun c=>?_) (fun c=>?_)
  ·have hlt:i<l.length:=iw c
   clear c
   conv=>whnf
   refine Need.mk (idx hlt) ?_
   conv=>whnf
   refine Split.mk (fun c=>?_) (fun c=>?_)
   ·conv=>whnf
    exact aG.mk ⟨rfl,rfl⟩ ⟨rfl,rfl⟩ ⟨iv (by rw [hp]),bv (by unfold jm;rw [hp,show((g9 l i).toList==t.toList)=true from c];simp [hlt]),trivial⟩
   ·conv=>whnf
    refine Need.mk (idx hlt) ?_
    conv=>whnf
    refine aA.mk _ (isNaN1 _) ?_
    conv=>whnf
    refine Split.mk (fun e=>jH e) (fun _=>?_)
    conv=>whnf
    exact aG.mk ⟨rfl,rfl⟩ ⟨rfl,rfl⟩ ⟨iv (by rw [hp]),bv (by unfold jm;rw [hp,show((g9 l i).toList==t.toList)=false from c];simp),trivial⟩
  ·have hge:l.length≤i:=iy c
   clear c
   conv=>whnf
   exact aG.mk ⟨rfl,rfl⟩ ⟨rfl,rfl⟩ ⟨iv (by rw [hp]),bv (by unfold jm;rw [hp];simp;omega),trivial⟩
end Go.Proofs.YtcnfgfomholheaaGreatDoor.Q
end
section
namespace Go.Proofs.YtcnfgfomholheaaGreatDoor.Q
open Go.RowKit Go.Proofs.YtcnfgfomholheaaGreatDoor.Z Go.Proofs.YtcnfgfomholheaaGreatDoor.Pure
set_option linter.unusedVariables false
set_option linter.unusedSimpArgs false
set_option maxRecDepth 100000
set_option maxHeartbeats 4000000
theorem zq:∀(a b:List UInt8),Op.bytesLess a b=true→Op.bytesLess b a=false
 | [],[],h=>by simp [Op.bytesLess] at h
 | [],b::y,_=>rfl
 | a::x,[],h=>by simp [Op.bytesLess] at h
 | a::x,b::y,h=>by
   simp only [Op.bytesLess,Bool.or_eq_true,Bool.and_eq_true,decide_eq_true_eq,beq_iff_eq] at h
   simp only [Op.bytesLess,Bool.or_eq_false_iff,Bool.and_eq_false_iff,decide_eq_false_iff_not,beq_eq_false_iff_ne,ne_eq]
   rcases h with h | ⟨h1,h2⟩
   ·exact⟨fun h'=>absurd (UInt8.lt_trans h h') (UInt8.lt_irrefl _), .inl (fun e=>by subst e;exact UInt8.lt_irrefl _ h)⟩
   ·subst h1
    exact⟨UInt8.lt_irrefl _, .inr (zq x y h2)⟩
theorem Fe (a:List UInt8):Op.bytesLess a a=false:=by
 cases h:Op.bytesLess a a with
 | false=>rfl
 | true=>exact absurd (zq a a h) (by rw [h];decide)
theorem zu:∀(a b c:List UInt8),Op.bytesLess a b=true→Op.bytesLess b c=true→Op.bytesLess a c=true
 | [],[],_,h,_=>by simp [Op.bytesLess] at h
 | a::x,[],_,h,_=>by simp [Op.bytesLess] at h
 | _,b::y,[],_,h=>by simp [Op.bytesLess] at h
 | [],b::y,c::z,_,_=>rfl
 | a::x,b::y,c::z,h,h2=>by
   simp only [Op.bytesLess,Bool.or_eq_true,Bool.and_eq_true,decide_eq_true_eq,beq_iff_eq] at h h2⊢
   rcases h with h | ⟨rfl,h⟩
   ·rcases h2 with h2 | ⟨rfl,h2⟩
    ·exact .inl (UInt8.lt_trans h h2)
    ·exact .inl h
   ·rcases h2 with h2 | ⟨rfl,h2⟩
    ·exact .inl h2
    ·exact .inr ⟨rfl,zu x y z h h2⟩
inductive Tr:SN→Prop
 | mk (n:SN) (hl:n.f0.length=n.f1.length) (hr:n.f0.Pairwise (fun a b=>Op.bytesLess a.toList b.toList=true)) (hk:∀k∈n.f1,Tr k):Tr n
theorem Tr.len {n:SN} (h:Tr n):n.f0.length=n.f1.length:=by cases h;assumption
theorem Tr.kid {n:SN} (h:Tr n):∀k∈n.f1,Tr k:=by cases h;assumption
theorem Tr.rise {n:SN} (h:Tr n):n.f0.Pairwise (fun a b=>Op.bytesLess a.toList b.toList=true):=by cases h;assumption
theorem Tr.up {n:SN} (h:Tr n) (t:ByteArray):∀a b,a≤b→b<n.f0.length→xk t (g9 n.f0 b)=true→xk t (g9 n.f0 a)=true:=by
 cases h with
 | mk _ _ hr _=>
   intro a b hab hb h
   rcases Nat.lt_or_eq_of_le hab with h1 | rfl
   ·have h2:=List.pairwise_iff_getElem.1 hr a b (by omega) hb h1
    rw [show g9 n.f0 b=n.f0[b] from getD_in _ _ _ hb] at h
    have e:=zu _ _ _ h2 h
    rw [←getD_in n.f0 a (T.df 9) (by omega)] at e
    exact e
   ·exact h
theorem vJ {t:ByteArray} {l:List ByteArray} (h:jm t l=true):dG t l<l.length:=by
 unfold jm at h
 simp at h
 exact h.1
def cO:List ByteArray→ByteArray→SN→SN
 | [],c,n=>⟨n.f0,n.f1,ig c n.f2⟩
 | t::ts,c,n=>
   bif jm t n.f0 then
    bif (cO ts c (bD T eN n.f1 (dG t n.f0))).f1.length==0 && (cO ts c (bD T eN n.f1 (dG t n.f0))).f2.length==0 then
     ⟨n.f0.take (dG t n.f0)++n.f0.drop (dG t n.f0+1),n.f1.take (dG t n.f0)++n.f1.drop (dG t n.f0+1),n.f2⟩
    else ⟨n.f0,n.f1.set (dG t n.f0) (cO ts c (bD T eN n.f1 (dG t n.f0))),n.f2⟩
   else ⟨n.f0,n.f1,n.f2⟩
abbrev qw (n:SN):RS T.Tb:= .ag [.ow 9 n.f0, .ow eN n.f1, .ow eS n.f2]
theorem Rk (n:SN) (c:ByteArray) (hn:Bd n):ay T Tryz.prog 100 [.ag (T.cells eN n), .c (.sl 9 []), .c (.sc (.string c))] (qw (cO [] c n)):=by
 refine aH hT Tryz.func100 (by kernel_rfl) rfl rfl (fun A=>?_)
 conv=>whnf
 refine aA.mk _ (vK n hn) ?_
 conv=>whnf
 refine Split.mk (fun _=>?_) (fun e=>jv e)
 conv=>whnf
 refine aA.mk _ (Uu n.f2 c (Nat.le_trans hn.l2 (by decide))) ?_
 conv=>whnf
 exact aG.mk ⟨rfl,rfl⟩ ⟨rfl,rfl⟩ ⟨rfl,rfl,rfl,trivial⟩
theorem tl_ {α:Type} (t:α) (ts:List α):((t::ts).drop 1).take ((t::ts).length - 1)=ts:=by simp
theorem abJ {n:Nat} (h:((n:Int)==0)=true):n=0:=by simp at h;exact h
theorem abK {n:Nat} (h:((n:Int)==0)=false):¬n=0:=by simp at h;exact h
theorem Ou (n:SN) (t:ByteArray) (ts:List ByteArray) (c:ByteArray) (hn:Bd n) (htr:Tr n) (hts:(t::ts).length≤2097152) (ih:jm t n.f0=true→ay T Tryz.prog 100 [.ag (T.cells eN (bD T eN n.f1 (dG t n.f0))), .c (.sl 9 (((t::ts).drop 1).take ((t::ts).length - 1))), .c (.sc (.string c))] (qw (cO ts c (bD T eN n.f1 (dG t n.f0))))):ay T Tryz.prog 100 [.ag (T.cells eN n), .c (.sl 9 (t::ts)), .c (.sc (.string c))] (qw (cO (t::ts) c n)):=by
 have hl0:=hn.l0
 have hl1:=hn.l1
 generalize hK:cO ts c (bD T eN n.f1 (dG t n.f0))=K at ih
 refine aH hT Tryz.func100 (by kernel_rfl) rfl rfl (fun A=>?_)
 conv=>whnf
 refine aA.mk _ (vK n hn) ?_
 conv=>whnf
 refine Split.mk (fun e=>?_) (fun _=>?_)
 ·simp at e
 conv=>whnf
 refine Need.mk (idx (Nat.succ_pos _)) ?_
 conv=>whnf
 refine aA.mk _ (bsearch n.f0 t (Nat.le_trans hn.l0 (by decide)) (htr.up t)) ?_
 conv=>whnf
 refine bH.mk ⟨by kernel_rfl,by kernel_rfl⟩ ?_
 conv=>whnf
 refine Split.mk (fun e=>?_) (fun e=>?_)
 ·have hf:jm t n.f0=false:=dh e
  conv=>whnf
  exact aG.mk ⟨rfl,rfl⟩ ⟨rfl,rfl⟩ ⟨kW (by simp [cO,hf]),kN (by simp [cO,hf]),jX (by simp [cO,hf]),trivial⟩
 ·have hf:jm t n.f0=true:=dB e
  have ih:=ih hf
  have hp:=vJ hf
  have hp1:dG t n.f0<n.f1.length:=by rw [←htr.len];exact hp
  conv=>whnf
  refine Need.mk (idx hp1) ?_
  conv=>whnf
  refine Need.mk ⟨by decide,Int.ofNat_le.2 (show 1≤ts.length+1 from Nat.succ_le_succ (Nat.zero_le _)),Int.le_refl _⟩ ?_
  conv=>whnf
  refine aA.mk _ ih ?_
  conv=>whnf
  refine bH.mk ⟨by kernel_rfl,by kernel_rfl⟩ ?_
  conv=>whnf
  refine Split.mk (fun c1=>?_) (fun c1=>?_)
  ·have e1:K.f1.length=0:=abJ c1
   conv=>whnf
   refine Split.mk (fun c2=>?_) (fun c2=>?_)
   ·have e2:K.f2.length=0:=abJ c2
    have hw:wrap64 ((dG t n.f0:Int)+1)=((dG t n.f0+1:Nat):Int):=(dY hp (by omega)).symm
    have q0:=aem n.f0 (dG t n.f0) (dG t n.f0+1) (Nat.lt_succ_self _) hp
    have q1:=aen n.f1 (dG t n.f0) (dG t n.f0+1) (Nat.lt_succ_self _) hp1
    rw [←hw] at q0 q1
    conv=>whnf
    refine aA.wr [[.gv 9],[.rd],[.rd]] (.c (.ow 9 (n.f0.take (dG t n.f0)++n.f0.drop (dG t n.f0+1)))) ?_
    conv=>whnf
    refine jW.mk q0 ?_
    conv=>whnf
    refine aA.wr [[.gv eN],[.rd],[.rd]] (.c (.ow eN (n.f1.take (dG t n.f0)++n.f1.drop (dG t n.f0+1)))) ?_
    conv=>whnf
    refine jW.mk q1 ?_
    conv=>whnf
    exact aG.mk ⟨rfl,rfl⟩ ⟨rfl,rfl⟩ ⟨kW (by simp [cO,hf,hK,e1,e2]),kN (by simp [cO,hf,hK,e1,e2]),jX (by simp [cO,hf,hK,e1,e2]),trivial⟩
   ·have e2:¬K.f2.length=0:=abK c2
    conv=>whnf
    have b2:(K.f2.length==0)=false:=beq_eq_false_iff_ne.2 e2
    refine Need.mk (idx hp1) ?_
    conv=>whnf
    exact aG.mk ⟨rfl,rfl⟩ ⟨rfl,rfl⟩ ⟨kW (by simp [cO,hf,hK,e1,b2]),kN (by rw [BF];simp [cO,hf,hK,e1,b2];rfl),jX (by simp [cO,hf,hK,e1,b2]),trivial⟩
  ·have e1:¬K.f1.length=0:=abK c1
   conv=>whnf
   have b1:(K.f1.length==0)=false:=beq_eq_false_iff_ne.2 e1
   refine Split.mk (fun e=>jH e) (fun _=>?_)
   conv=>whnf
   refine Need.mk (idx hp1) ?_
   conv=>whnf
   exact aG.mk ⟨rfl,rfl⟩ ⟨rfl,rfl⟩ ⟨kW (by simp [cO,hf,hK,b1]),kN (by rw [BF];simp [cO,hf,hK,b1];rfl),jX (by simp [cO,hf,hK,b1]),trivial⟩
theorem removed:∀(ls:List ByteArray) (c:ByteArray) (n:SN),ls.length≤2097152→Bd n→Tr n→ay T Tryz.prog 100 [.ag (T.cells eN n), .c (.sl 9 ls), .c (.sc (.string c))] (qw (cO ls c n))
 | [],c,n,_,hn,_=>Rk n c hn
 | t::ts,c,n,hl,hn,ht=>by
   refine Ou n t ts c hn ht hl (fun hf=>?_)
   have hp1:dG t n.f0<n.f1.length:=by rw [←ht.len];exact vJ hf
   have hm:bD T eN n.f1 (dG t n.f0)∈n.f1:=getD_mem (l:=n.f1) (d:=T.df eN) hp1
   exact Eq.mpr (congrArg (fun L:List ByteArray=>ay T Tryz.prog 100 [.ag (T.cells eN (bD T eN n.f1 (dG t n.f0))), .c (.sl 9 L), .c (.sc (.string c))] (qw (cO ts c (bD T eN n.f1 (dG t n.f0))))) (tl_ t ts)) (removed ts c (bD T eN n.f1 (dG t n.f0)) (by simp at hl;omega) (hn.kid _ hm) (ht.kid _ hm))
end Go.Proofs.YtcnfgfomholheaaGreatDoor.Q
end
section
namespace Go.Proofs.YtcnfgfomholheaaGreatDoor.Q
open Go.RowKit Go.Proofs.YtcnfgfomholheaaGreatDoor.Z Go.Proofs.YtcnfgfomholheaaGreatDoor.Pure
set_option linter.unusedVariables false
set_option linter.unusedSimpArgs false
set_option maxRecDepth 100000
set_option maxHeartbeats 4000000
def mZ (p:List ByteArray) (s:SS):SE:=⟨dn p,s.f0,s.f1,s.f2⟩
theorem qV (p:List ByteArray) (n:SN):gW p n=n.f2.map (mZ p)++dR p n.f0 n.f1:=aaG p n
theorem uw {p:List ByteArray} {d:ByteArray} {e:SN}:∀{ns:List ByteArray} {ks:List SN} {k:Nat},k<ns.length→k<ks.length→dR p (ns.take (k+1)) (ks.take (k+1))=dR p (ns.take k) (ks.take k)++gW (p++[ns.getD k d]) (ks.getD k e)
 | [],_,_,h,_=>by simp at h
 | _::_,[],_,_,h=>by simp at h
 | x::r,y::q,0,_,_=>by
   simp only [List.take_succ_cons,List.take_zero,dR,List.append_nil,List.nil_append]
   rfl
 | x::r,y::q,k+1,h,h2=>by
   have:=uw (p:=p) (d:=d) (e:=e) (ns:=r) (ks:=q) (k:=k) (by simpa using h) (by simpa using h2)
   simp only [List.take_succ_cons] at this⊢
   rw [dR,dR,this,List.append_assoc]
   rfl
theorem oP {p:List ByteArray}:∀{ns:List ByteArray} {ks:List SN} {k:Nat},(dR p (ns.take k) (ks.take k)).length≤(dR p ns ks).length
 | [],ks,k=>by rw [List.take_nil,dR];exact Nat.zero_le _
 | _::_,[],0=>by rw [List.take_zero,dR];exact Nat.zero_le _
 | _::_,[],k+1=>by rw [List.take_nil,List.take_succ_cons,dR];exact Nat.zero_le _
 | x::r,y::q,0=>by rw [List.take_zero,dR];exact Nat.zero_le _
 | x::r,y::q,k+1=>by
   have:=oP (p:=p) (ns:=r) (ks:=q) (k:=k)
   simp only [List.take_succ_cons,dR,List.length_append]
   omega
theorem AX {l:List SS} {p:List ByteArray} {k:Nat} {d:SS} (h:k<l.length):(l.take k).map (mZ p)++[mZ p (l.getD k d)]=(l.take (k+1)).map (mZ p):=by
 rw [List.take_succ_eq_append_getElem h,List.map_append,getD_in (α:=SS) l k d h];rfl
theorem Ov (n:SN) (p:List ByteArray) (hn:Bd n) (hl:n.f0.length=n.f1.length) (hp:p.length≤7) (hz:∀x∈p,x.size≤1048576) (hc:(gW p n).length≤4194304)
  (ih:∀i,i<n.f1.length→ay T Tryz.prog 136 [.ag (T.cells eN (bD T eN n.f1 i)), .c (.sl 9 (p++[g9 n.f0 i]))] (.c (.ow eE (gW (p++[g9 n.f0 i]) (bD T eN n.f1 i))))):ay T Tryz.prog 136 [.ag (T.cells eN n), .c (.sl 9 p)] (.c (.ow eE (gW p n))):=by
 have hl2:=hn.l2
 rw [qV] at hc⊢
 rw [List.length_append,List.length_map] at hc
 refine aH hT Tryz.func136 (by kernel_rfl) rfl rfl (fun A=>?_)
 conv=>whnf
 refine dM.mk {k:Nat // k≤n.f2.length} (fun q=>(2,[(14,i64 q.1),(13,i64 n.f2.length),(12,im eS n.f2),(5, .c (.hd 1)),(2, .c (.px 0 0)),(1,im 9 p)],[(1, .row 1 eE ((n.f2.take q.1).map (mZ p))),(0,xq n)])) (fun q=>n.f2.length - q.1) ⟨0,Nat.zero_le _⟩ (aC [(1,1),(0,0)] rfl rfl rfl ⟨⟨rfl,rfl⟩,⟨rfl,rfl⟩,⟨rfl,rfl⟩,⟨rfl,rfl⟩,⟨rfl,rfl⟩,⟨rfl,rfl⟩,trivial⟩ ⟨vI rfl,⟨rfl,rfl⟩,trivial⟩) ?_
 rintro⟨k,hk⟩
 conv=>whnf
 refine Split.mk (fun c=>?_) (fun c=>?_)
 ·have hk2:k<n.f2.length:=iw c
  clear c
  conv=>whnf
  refine Need.mk (idx hk2) ?_
  conv=>whnf
  refine aA.mk _ (Ox p (Nat.le_trans hp (by decide)) (rV p hp hz)) ?_
  conv=>whnf
  refine Need.mk (dH (a:=((n.f2.take k).map (mZ p)).length) (b:=1) (by rw [List.length_map,List.length_take];omega) (by decide)) ?_
  conv=>whnf
  refine bH.mk ⟨by kernel_rfl,by kernel_rfl⟩ ?_
  conv=>whnf
  exact bI.mk ⟨⟨k+1,hk2⟩,Nat.sub_lt_sub_left hk2 (Nat.lt_succ_self k),aC [(1,5),(0,0)] rfl rfl rfl ⟨⟨rfl,congrArg i64 (dY hk2 (by omega))⟩,⟨rfl,rfl⟩,⟨rfl,rfl⟩,⟨rfl,rfl⟩,⟨rfl,rfl⟩,⟨rfl,rfl⟩,trivial⟩ ⟨vI (AX (d:=T.df eS) hk2),⟨rfl,rfl⟩,trivial⟩⟩
 ·have hk2:k=n.f2.length:=Nat.le_antisymm hk (iy c)
  clear c
  subst hk2
  have hl1:=hn.l1
  conv=>whnf
  refine dM.mk {k:Nat // k≤n.f1.length} (fun q=>(2,[(34,i64 q.1),(33,i64 n.f1.length),(32,im eN n.f1),(5, .c (.hd 1)),(2, .c (.px 0 0)),(1,im 9 p)],[(1, .row 1 eE (n.f2.map (mZ p)++dR p (n.f0.take q.1) (n.f1.take q.1))),(0,xq n)])) (fun q=>n.f1.length - q.1) ⟨0,Nat.zero_le _⟩ (aC [(1,1),(0,0)] rfl rfl rfl ⟨⟨rfl,rfl⟩,⟨rfl,rfl⟩,⟨rfl,rfl⟩,⟨rfl,rfl⟩,⟨rfl,rfl⟩,⟨rfl,rfl⟩,trivial⟩ ⟨vI (by rw [List.take_length];simp [dR];rfl),⟨rfl,rfl⟩,trivial⟩) ?_
  rintro⟨k,hk⟩
  conv=>whnf
  refine Split.mk (fun c=>?_) (fun c=>?_)
  ·have hk2:k<n.f1.length:=iw c
   have hk3:k<n.f0.length:=by omega
   clear c
   conv=>whnf
   refine Need.mk (idx hk2) ?_
   conv=>whnf
   refine Need.mk ⟨zx,dH (a:=0) (b:=p.length) (by omega) (by decide)⟩ ?_
   conv=>whnf
   refine Need.mk (idx hk3) ?_
   conv=>whnf
   refine Need.mk (dH (a:=p.length) (b:=1) (by omega) (by decide)) ?_
   conv=>whnf
   refine aA.mk _ (ih k hk2) ?_
   conv=>whnf
   have hsn:=uw (p:=p) (d:=T.df 9) (e:=T.df eN) hk3 hk2
   have hle:=oP (p:=p) (ns:=n.f0) (ks:=n.f1) (k:=k+1)
   rw [hsn,List.length_append] at hle
   refine Need.mk (dH (a:=(n.f2.map (mZ p)++dR p (n.f0.take k) (n.f1.take k)).length) (b:=(gW (p++[g9 n.f0 k]) (bD T eN n.f1 k)).length) (by rw [List.length_append,List.length_map];have hle':_+(gW (p++[g9 n.f0 k]) (bD T eN n.f1 k)).length≤_:=hle;omega) (by decide)) ?_
   conv=>whnf
   refine bH.mk ⟨by kernel_rfl,by kernel_rfl⟩ ?_
   conv=>whnf
   exact bI.mk ⟨⟨k+1,hk2⟩,Nat.sub_lt_sub_left hk2 (Nat.lt_succ_self k),aC [(1,8),(0,0)] rfl rfl rfl ⟨⟨rfl,congrArg i64 (dY hk2 (by omega))⟩,⟨rfl,rfl⟩,⟨rfl,rfl⟩,⟨rfl,rfl⟩,⟨rfl,rfl⟩,⟨rfl,rfl⟩,trivial⟩ ⟨vI (show(n.f2.map (mZ p)++dR p (n.f0.take k) (n.f1.take k))++gW (p++[g9 n.f0 k]) (bD T eN n.f1 k)=n.f2.map (mZ p)++dR p (n.f0.take (k+1)) (n.f1.take (k+1)) by rw [hsn,List.append_assoc];rfl),⟨rfl,rfl⟩,trivial⟩⟩
  ·have hk2:k=n.f1.length:=Nat.le_antisymm hk (iy c)
   clear c
   conv=>whnf
   exact aG.mk ⟨rfl,rfl⟩ ⟨rfl,rfl⟩ ⟨vI (by show n.f2.map (mZ p)++dR p (n.f0.take k) (n.f1.take k)=_;rw [hk2,List.take_length,←hl,List.take_length]),trivial⟩
theorem LD {p:List ByteArray} {n:SN} {i:Nat} (h:i<n.f1.length) (hl:n.f0.length=n.f1.length):(gW (p++[g9 n.f0 i]) (bD T eN n.f1 i)).length≤(gW p n).length:=by
 have h3:i<n.f0.length:=by omega
 have hsn:=uw (p:=p) (d:=T.df 9) (e:=T.df eN) h3 h
 have hle:=oP (p:=p) (ns:=n.f0) (ks:=n.f1) (k:=i+1)
 rw [hsn,List.length_append] at hle
 rw [qV,List.length_append]
 have hle':_+(gW (p++[g9 n.f0 i]) (bD T eN n.f1 i)).length≤_:=hle
 omega
theorem Oy {l:List ByteArray} {i:Nat} (h:i<l.length):g9 l i∈l:=getD_mem (l:=l) (d:=T.df 9) h
theorem vM {l:List SN} {i:Nat} (h:i<l.length):bD T eN l i∈l:=getD_mem (l:=l) (d:=T.df eN) h
inductive Dp:Nat→SN→Prop
 | mk (d:Nat) (n:SN) (h:n.f1≠[]→0<d) (hk:∀k∈n.f1,Dp (d - 1) k):Dp d n
theorem Dp.pos {d:Nat} {n:SN} (h:Dp d n) (hne:n.f1≠[]):0<d:=by cases h with | mk _ _ h _=>exact h hne
theorem Dp.kid {d:Nat} {n:SN} (h:Dp d n):∀k∈n.f1,Dp (d - 1) k:=by cases h with | mk _ _ _ h=>exact h
theorem entriesOf:∀(n:SN) (p:List ByteArray) (d:Nat),Bd n→Tr n→Dp d n→p.length+d≤7→(∀x∈p,x.size≤1048576)→(gW p n).length≤4194304→ay T Tryz.prog 136 [.ag (T.cells eN n), .c (.sl 9 p)] (.c (.ow eE (gW p n))):=fun n p d hn ht hd hp hz hc=>
 Ov n p hn ht.len (by omega) hz hc (fun i hi=>by
  have hm:bD T eN n.f1 i∈n.f1:=vM hi
  have h9:g9 n.f0 i∈n.f0:=Oy (by rw [ht.len];exact hi)
  have hpos:=hd.pos (fun e=>by rw [e] at hi;simp at hi)
  have hx:(bD T eN n.f1 i:SN)∈n.f1:=hm
  exact entriesOf (bD T eN n.f1 i) (p++[g9 n.f0 i]) (d - 1) (hn.kid _ hm) (ht.kid _ hm) (hd.kid _ hm) (by rw [List.length_append];show p.length+1+(d - 1)≤7;omega) (fun y hy=>(List.mem_append.1 hy).elim (hz y) (fun h=>by rw [List.mem_singleton.1 h];exact hn.z0 _ h9)) (Nat.le_trans (LD hi ht.len) hc))
termination_by n=>SizeOf.sizeOf n
decreasing_by exact jB hm
theorem Fg (n:SN) (hn:Bd n) (hg:gI n=true→Tr n∧Dp 7 n) (hc:(fZ n).length≤4194304):ay T Tryz.prog 71 [.ag (T.cells eN n)] (.c (.ow eE (fZ n))):=by
 refine aH hT Tryz.func71 (by kernel_rfl) rfl rfl (fun A=>?_)
 conv=>whnf
 refine aA.mk _ (Hy n hn) ?_
 conv=>whnf
 refine Split.mk (fun c=>?_) (fun c=>?_)
 ·have h0:gI n=false:=dh c
  conv=>whnf
  exact aG.mk ⟨rfl,rfl⟩ ⟨rfl,rfl⟩ ⟨⟨rfl,show fZ n=[] by unfold fZ;rw [h0];rfl⟩,trivial⟩
 ·have h0:gI n=true:=dB c
  have he:fZ n=gW [] n:=by unfold fZ;rw [if_pos h0]
  rw [he] at hc⊢
  conv=>whnf
  refine aA.mk _ (LG (entriesOf n [] 7 hn (hg h0).1 (hg h0).2 (by decide) (fun x hx=>by cases hx) hc)) ?_
  conv=>whnf
  exact aG.mk ⟨rfl,rfl⟩ ⟨rfl,rfl⟩ ⟨rfl,trivial⟩
end Go.Proofs.YtcnfgfomholheaaGreatDoor.Q
end
section
namespace Go.Proofs.YtcnfgfomholheaaGreatDoor.Q
open Go.RowKit Go.Proofs.YtcnfgfomholheaaGreatDoor.Z Go.Proofs.YtcnfgfomholheaaGreatDoor.Pure
set_option linter.unusedVariables false
set_option linter.unusedSimpArgs false
set_option maxRecDepth 100000
set_option maxHeartbeats 4000000
theorem uU {α:Type} (l:List α) (i:Nat):(l.take i++l.drop (i+1)).Sublist l:=by
 have:=(List.drop_sublist_drop_left l (Nat.le_succ i)).append_left (l.take i)
 rwa [List.take_append_drop] at this
theorem Sz:∀(ls:List ByteArray) (c:ByteArray) (n:SN),Bd n→Tr n→Bd (cO ls c n)
 | [],c,n,h,_=> .mk _ h.l0 h.z0 h.l1 (Nat.le_trans (xg c n.f2) h.l2) (fun x hx=>h.z2 x (List.filter_sublist.subset hx)) h.kid
 | t::ts,c,n,h,ht=>by
   unfold cO
   cases hf:jm t n.f0 with
   | false=>exact .mk _ h.l0 h.z0 h.l1 h.l2 h.z2 h.kid
   | true=>
     have hp:dG t n.f0<n.f1.length:=by rw [←ht.len];exact vJ hf
     have ih:=Sz ts c (bD T eN n.f1 (dG t n.f0)) (h.kid _ (vM hp)) (ht.kid _ (vM hp))
     generalize cO ts c (bD T eN n.f1 (dG t n.f0))=K at ih⊢
     cases K.f1.length==0 && K.f2.length==0 with
     | true=>exact .mk _ (Nat.le_trans (uU n.f0 _).length_le h.l0) (fun x hx=>h.z0 x ((uU n.f0 _).subset hx)) (Nat.le_trans (uU n.f1 _).length_le h.l1) h.l2 h.z2 (fun x hx=>h.kid x ((uU n.f1 _).subset hx))
     | false=>exact .mk _ h.l0 h.z0 (by show(n.f1.set _ _).length≤_;rw [List.length_set];exact h.l1) h.l2 h.z2 (fun x hx=>(List.mem_or_eq_of_mem_set hx).elim (h.kid x) (fun e=>e▸ih))
theorem pW:∀(ls:List ByteArray) (c:ByteArray) (n:SN),Tr n→Tr (cO ls c n)
 | [],c,n,h=> .mk _ h.len h.rise h.kid
 | t::ts,c,n,h=>by
   unfold cO
   cases hf:jm t n.f0 with
   | false=>exact .mk _ h.len h.rise h.kid
   | true=>
     have hp:dG t n.f0<n.f1.length:=by rw [←h.len];exact vJ hf
     have ih:=pW ts c (bD T eN n.f1 (dG t n.f0)) (h.kid _ (vM hp))
     generalize cO ts c (bD T eN n.f1 (dG t n.f0))=K at ih⊢
     have hlen:=h.len
     have hp0:=vJ hf
     cases K.f1.length==0 && K.f2.length==0 with
     | true=>exact .mk _ (by show(n.f0.take _++n.f0.drop _).length=(n.f1.take _++n.f1.drop _).length;simp only [List.length_append,List.length_take,List.length_drop];omega) (h.rise.sublist (uU n.f0 _)) (fun x hx=>h.kid x ((uU n.f1 _).subset hx))
     | false=>exact .mk _ (by show n.f0.length=(n.f1.set _ _).length;rw [List.length_set];exact hlen) h.rise (fun x hx=>(List.mem_or_eq_of_mem_set hx).elim (h.kid x) (fun e=>e▸ih))
def gG (c:ByteArray) (es:List SE) (n:SN):SN:=es.foldl (fun o e=>bif e.f1.toList==c.toList then cO (ng e.f0) c o else o) n
theorem BG (c:ByteArray):∀(es:List SE) (n:SN),Bd n→Tr n→Bd (gG c es n)∧Tr (gG c es n)
 | [],n,hb,ht=>⟨hb,ht⟩
 | e::es,n,hb,ht=>by
   unfold gG
   rw [List.foldl_cons]
   cases e.f1.toList==c.toList with
   | true=>exact BG c es _ (Sz _ _ _ hb ht) (pW _ _ _ ht)
   | false=>exact BG c es _ hb ht
theorem Rl {c:ByteArray} {es:List SE} {n:SN} {k:Nat} {d:SE} (h:k<es.length):gG c (es.take (k+1)) n=bif (es.getD k d).f1.toList==c.toList then cO (ng (es.getD k d).f0) c (gG c (es.take k) n) else gG c (es.take k) n:=by
 unfold gG
 rw [List.take_succ_eq_append_getElem h,List.foldl_append,getD_in es k d h]
 rfl
theorem F5 (n:SN) (c:ByteArray) (hn:Bd n) (htn:gI n=true→Tr n∧Dp 7 n) (hc:(fZ n).length≤4194304) (hE:∀e∈fZ n,e.f0.size≤1073741824∧(ng e.f0).length≤2097152):ay T Tryz.prog 21 [.ag (T.cells eN n), .c (.sc (.string c))] (qw (gG c (fZ n) n)):=by
 have hok:∀k,fZ n≠[]→Bd (gG c ((fZ n).take k) n)∧Tr (gG c ((fZ n).take k) n):=fun k hne=>BG c _ n hn (htn (by
  cases h:gI n with
  | true=>rfl
  | false=>exact absurd (show fZ n=[] by unfold fZ;rw [h];rfl) hne)).1
 have adt:=Fg n hn htn hc
 refine aH hT Tryz.func21 (by kernel_rfl) rfl rfl (fun A=>?_)
 conv=>whnf
 refine aA.mk _ (vK n hn) ?_
 conv=>whnf
 refine aA.mk _ adt ?_
 conv=>whnf
 generalize hEq:fZ n=E at hc hE hok⊢
 refine dM.mk {k:Nat // k≤E.length} (fun q=>(7,[(13,i64 q.1),(12,i64 E.length),(11, .c (.hd 6)),(5, .c (.px 5 0)),(4, .c (.px 1 0)),(1, .c (.sc (.string c)))],[(5, .bx eN [.hd 2, .hd 3, .hd 4]),(2, .row 2 9 (gG c (E.take q.1) n).f0),(3, .row 3 eN (gG c (E.take q.1) n).f1),(4, .row 4 eS (gG c (E.take q.1) n).f2),(6, .row 6 eE E),(1,WB)])) (fun q=>E.length - q.1) ⟨0,Nat.zero_le _⟩ (aC [(5,5),(2,2),(3,3),(4,4),(6,6),(1,1)] rfl rfl rfl ⟨⟨rfl,rfl⟩,⟨rfl,rfl⟩,⟨rfl,rfl⟩,⟨rfl,rfl⟩,⟨rfl,rfl⟩,⟨rfl,rfl⟩,trivial⟩ ⟨⟨rfl,rfl⟩,kW rfl,kN rfl,jX rfl,vI rfl,⟨rfl,rfl⟩,trivial⟩) ?_
 rintro⟨k,hk⟩
 conv=>whnf
 refine Split.mk (fun c1=>?_) (fun c1=>?_)
 ·have hk2:k<E.length:=iw c1
  clear c1
  obtain⟨hob,hot⟩:=hok k (fun e=>by rw [e] at hk2;simp at hk2)
  obtain⟨hs1,hs2⟩:=hE (bD T eE E k) (getD_mem (l:=E) (d:=T.df eE) hk2)
  have hstep:=Rl (c:=c) (n:=n) (d:=T.df eE) hk2
  conv=>whnf
  refine Need.mk (idx hk2) ?_
  conv=>whnf
  refine Split.mk (fun c1=>?_) (fun c1=>?_)
  ·have hq:gG c (E.take (k+1)) n=cO (ng (bD T eE E k).f0) c (gG c (E.take k) n):=by rw [hstep];rw [show((List.getD E k (T.df eE)).f1.toList==c.toList)=true from c1];rfl
   conv=>whnf
   refine aA.mk _ (zy _ hs1) ?_
   conv=>whnf
   refine aA.mk _ (removed (ng (bD T eE E k).f0) c (gG c (E.take k) n) hs2 hob hot) ?_
   conv=>whnf
   refine bH.mk ⟨by kernel_rfl,by kernel_rfl⟩ ?_
   conv=>whnf
   exact bI.mk ⟨⟨k+1,hk2⟩,Nat.sub_lt_sub_left hk2 (Nat.lt_succ_self k),aC [(5,5),(2,9),(3,10),(4,11),(6,6),(1,1)] rfl rfl rfl ⟨⟨rfl,congrArg i64 (dY hk2 (by omega))⟩,⟨rfl,rfl⟩,⟨rfl,rfl⟩,⟨rfl,rfl⟩,⟨rfl,rfl⟩,⟨rfl,rfl⟩,trivial⟩ ⟨⟨rfl,rfl⟩,kW (congrArg (·.f0) hq.symm),kN (congrArg (·.f1) hq.symm),jX (congrArg (·.f2) hq.symm),vI rfl,⟨rfl,rfl⟩,trivial⟩⟩
  ·have hq:gG c (E.take (k+1)) n=gG c (E.take k) n:=by rw [hstep];rw [show((List.getD E k (T.df eE)).f1.toList==c.toList)=false from c1];rfl
   conv=>whnf
   exact bI.mk ⟨⟨k+1,hk2⟩,Nat.sub_lt_sub_left hk2 (Nat.lt_succ_self k),aC [(5,5),(2,2),(3,3),(4,4),(6,6),(1,1)] rfl rfl rfl ⟨⟨rfl,congrArg i64 (dY hk2 (by omega))⟩,⟨rfl,rfl⟩,⟨rfl,rfl⟩,⟨rfl,rfl⟩,⟨rfl,rfl⟩,⟨rfl,rfl⟩,trivial⟩ ⟨⟨rfl,rfl⟩,kW (congrArg (·.f0) hq.symm),kN (congrArg (·.f1) hq.symm),jX (congrArg (·.f2) hq.symm),vI rfl,⟨rfl,rfl⟩,trivial⟩⟩
 ·have hk2:k=E.length:=Nat.le_antisymm hk (iy c1)
  clear c1
  subst hk2
  conv=>whnf
  exact aG.mk ⟨rfl,rfl⟩ ⟨rfl,rfl⟩ ⟨kW (by rw [List.take_length]),kN (by rw [List.take_length]),jX (by rw [List.take_length]),trivial⟩
end Go.Proofs.YtcnfgfomholheaaGreatDoor.Q
end
section
namespace Go.Proofs.YtcnfgfomholheaaGreatDoor.Q
open Go.RowKit Go.Proofs.YtcnfgfomholheaaGreatDoor.Z Go.Proofs.YtcnfgfomholheaaGreatDoor.Pure
set_option linter.unusedVariables false
set_option linter.unusedSimpArgs false
set_option maxRecDepth 100000
set_option maxHeartbeats 4000000
theorem Rn (n:SN) (hn:Bd n) (ih:∀k∈n.f1,ay T Tryz.prog 95 [.ag (T.cells eN k)] (qw k)):ay T Tryz.prog 95 [.ag (T.cells eN n)] (qw n):=by
 have hl0:=hn.l0
 have hl1:=hn.l1
 have hl2:=hn.l2
 refine kP hT Tryz.func95 (by kernel_rfl) rfl rfl (fun A=>?_)
 refine Vc.seq 0 hT ?_
 conv=>whnf
 refine Vc.seq 2 hT ?_
 conv=>whnf
 refine Need.mk ⟨zx,dH (a:=0) (b:=n.f0.length) (by omega) (by decide)⟩ ?_
 conv=>whnf
 refine Need.mk ⟨aad,dH (a:=0) (b:=n.f2.length) (by omega) (by decide)⟩ ?_
 conv=>whnf
 refine bH.mk ⟨by kernel_rfl,by kernel_rfl⟩ ?_
 conv=>whnf
 refine Vc.of 10 hT ?_
 conv=>whnf
 refine dM.mk {k:Nat // k≤n.f1.length} (fun p=>(8,[(4,i64 p.1),(3, .c (.px 6 0)),(2, .c (.px 1 0)),(1, .c (.px 0 0))],[(6, .bx eN [.hd 3, .hd 7, .hd 5]),(3, .row 3 9 n.f0),(7, .row 7 eN (n.f1.take p.1)),(5, .row 5 eS n.f2),(1,WB),(0,xq n)])) (fun p=>n.f1.length - p.1) ⟨0,Nat.zero_le _⟩ ((vN 6 1 20 eN (t:=eN) (cs:=[.hd 3, .sc (.slice none 0 0), .hd 5]) rfl rfl rfl).trans (aC [(6,6),(3,3),(7,20),(5,5),(1,1),(0,0)] rfl rfl rfl ⟨⟨rfl,rfl⟩,⟨rfl,rfl⟩,⟨rfl,rfl⟩,⟨rfl,rfl⟩,trivial⟩ ⟨⟨rfl,rfl⟩,kW rfl,kN rfl,jX rfl,⟨rfl,rfl⟩,⟨rfl,rfl⟩,trivial⟩)) ?_
 rintro⟨k,hk⟩
 conv=>whnf
 refine Split.mk (fun c=>?_) (fun c=>?_)
 ·have hk2:k<n.f1.length:=iw c
  clear c
  conv=>whnf
  refine Need.mk (idx hk2) ?_
  conv=>whnf
  refine aA.mk _ (ih _ (vM hk2)) ?_
  conv=>whnf
  refine Need.mk (dH (a:=(n.f1.take k).length) (b:=1) (by rw [List.length_take];omega) (by decide)) ?_
  conv=>whnf
  exact bI.mk ⟨⟨k+1,hk2⟩,Nat.sub_lt_sub_left hk2 (Nat.lt_succ_self k),aC [(6,6),(3,3),(7,13),(5,5),(1,1),(0,0)] rfl rfl rfl ⟨⟨rfl,congrArg i64 (dY hk2 (by omega))⟩,⟨rfl,rfl⟩,⟨rfl,rfl⟩,⟨rfl,rfl⟩,trivial⟩ ⟨⟨rfl,rfl⟩,kW rfl,kN (take_snoc hk2),jX rfl,⟨rfl,rfl⟩,⟨rfl,rfl⟩,trivial⟩⟩
 ·have hk2:k=n.f1.length:=Nat.le_antisymm hk (iy c)
  subst hk2
  conv=>whnf
  exact aG.mk ⟨rfl,rfl⟩ ⟨rfl,rfl⟩ ⟨rfl,kN (List.take_length),rfl,trivial⟩
theorem zA:∀(n:SN),Bd n→ay T Tryz.prog 95 [.ag (T.cells eN n)] (qw n):=fun n hn=>
 Rn n hn (fun k hk=>zA k (by cases hn with | mk _ _ _ _ _ _ h=>exact h k hk))
termination_by n=>SizeOf.sizeOf n
decreasing_by exact jB hk
end Go.Proofs.YtcnfgfomholheaaGreatDoor.Q
end
section
namespace Go.Proofs.YtcnfgfomholheaaGreatDoor.Q
open Go.RowKit Go.Proofs.YtcnfgfomholheaaGreatDoor.Z Go.Proofs.YtcnfgfomholheaaGreatDoor.Pure
set_option linter.unusedVariables false
set_option linter.unusedSimpArgs false
set_option maxRecDepth 100000
set_option maxHeartbeats 4000000
def jP (n:SN):Bool:=decide (0<n.f0.length) || decide (0<n.f2.length)
mutual
def gX (c:ByteArray):SN→SN
 | ⟨ns,ks,ss⟩=>⟨(dU c ns ks).map (·.1),(dU c ns ks).map (·.2),ig c ss⟩
def dU (c:ByteArray):List ByteArray→List SN→List (ByteArray × SN)
 | x::r,k::q=>(bif jP (gX c k) then [(x,gX c k)] else [])++dU c r q
 | [],_=>[]
 | _::_,[]=>[]
end
theorem uV (c:ByteArray) (n:SN):gX c n=⟨(dU c n.f0 n.f1).map (·.1),(dU c n.f0 n.f1).map (·.2),ig c n.f2⟩:=by cases n;rw [gX]
theorem Hz {c:ByteArray} {d:ByteArray} {e:SN}:∀{ns:List ByteArray} {ks:List SN} {k:Nat},k<ns.length→k<ks.length→dU c (ns.take (k+1)) (ks.take (k+1))=dU c (ns.take k) (ks.take k)++bif jP (gX c (ks.getD k e)) then [(ns.getD k d,gX c (ks.getD k e))] else []
 | [],_,_,h,_=>by simp at h
 | _::_,[],_,_,h=>by simp at h
 | x::r,y::q,0,_,_=>by
   simp only [List.take_succ_cons,List.take_zero,dU,List.append_nil,List.nil_append]
   rfl
 | x::r,y::q,k+1,h,h2=>by
   have:=Hz (c:=c) (d:=d) (e:=e) (ns:=r) (ks:=q) (k:=k) (by simpa using h) (by simpa using h2)
   simp only [List.take_succ_cons] at this⊢
   rw [dU,dU,this,List.append_assoc]
   rfl
theorem Uy {c:ByteArray} {l:List SS} {k:Nat} {d:SS} (h:k<l.length):ig c (l.take (k+1))=ig c (l.take k)++bif (l.getD k d).f0.toList==c.toList then [] else [l.getD k d]:=by
 unfold ig
 rw [List.take_succ_eq_append_getElem h,List.filter_append,getD_in l k d h]
 cases hq:l[k].f0.toList==c.toList<;>simp [hq]
theorem xu (c:ByteArray):∀(ns:List ByteArray) (ks:List SN),(dU c ns ks).length≤ns.length
 | x::r,k::q=>by
   have:=xu c r q
   rw [dU,List.length_append,List.length_cons]
   cases jP (gX c k)
   ·show 0+_≤_;omega
   ·show 1+_≤_;omega
 | [],_=>by rw [dU];exact Nat.zero_le _
 | _::_,[]=>by rw [dU];exact Nat.zero_le _
abbrev Oz (n:SN):RS T.Tb:= .ag [.im 9 n.f0, .im eN n.f1, .im eS n.f2]
abbrev BH:Cell T:= .sc (.slice none 0 0)
def gS (l:List SS) (i:Nat):SS:=l.getD i (T.df eS)
def gN (l:List SN) (i:Nat):SN:=l.getD i (T.df eN)
theorem pm1 {l m:List (ByteArray × SN)} {x:ByteArray} {K:SN} (h:m=l++bif true then [(x,K)] else []):l.map (·.1)++[x]=m.map (·.1):=by rw [h];simp
theorem pm2 {l m:List (ByteArray × SN)} {x:ByteArray} {K:SN} (h:m=l++bif true then [(x,K)] else []):l.map (·.2)++[(⟨K.f0,K.f1,K.f2⟩:SN)]=m.map (·.2):=by rw [h,BF];simp
theorem aeo {l m:List (ByteArray × SN)} {x:ByteArray} {K:SN} (h:m=l++bif false then [(x,K)] else []):l.map (·.1)=m.map (·.1):=by rw [h];simp
theorem aep {l m:List (ByteArray × SN)} {x:ByteArray} {K:SN} (h:m=l++bif false then [(x,K)] else []):l.map (·.2)=m.map (·.2):=by rw [h];simp
theorem abL {c:ByteArray} {n:SN} (hl:n.f0.length=n.f1.length):dU c (n.f0.take n.f0.length) (n.f1.take n.f0.length)=dU c n.f0 n.f1:=by rw [List.take_length,hl,List.take_length]
theorem abM {b:Bool} (h:(!b)=true):b=false:=by cases b<;>simp_all
theorem abN {b:Bool} (h:(!b)=false):b=true:=by cases b<;>simp_all
theorem OA (n:SN) (l:List ByteArray) (c:ByteArray) (hn:Bd n) (hl:n.f0.length=n.f1.length) (ih:∀k∈n.f1,ay T Tryz.prog 96 [.ag (T.cells eN k), .c (.sl 9 l), .c (.sc (.bool true)), .c (.sc (.string c))] (Oz (gX c k))):ay T Tryz.prog 96 [.ag (T.cells eN n), .c (.sl 9 l), .c (.sc (.bool true)), .c (.sc (.string c))] (Oz (gX c n)):=by
 have hl0:=hn.l0
 have hl1:=hn.l1
 have hl2:=hn.l2
 have hR:=uV c n
 generalize gX c n=R at hR⊢
 subst hR
 refine kP hT Tryz.func96 (by kernel_rfl) rfl rfl (fun A=>?_)
 refine Vc.of 0 hT ?_
 conv=>whnf
 refine dM.mk {k:Nat // k≤n.f2.length} (fun p=>(6,[(10,i64 p.1),(9, .c (.px 2 0)),(8, .c (.px 1 0)),(4, .c (.px 0 0)),(1,im 9 l),(2, .c (.sc (.bool true))),(3, .c (.sc (.string c)))],[(2, .bx eN [BH,BH, .hd 5]),(5, .row 5 eS (ig c (n.f2.take p.1))),(1,WB),(0,xq n)])) (fun p=>n.f2.length - p.1) ⟨0,Nat.zero_le _⟩ ((vN 2 2 20 eS (t:=eN) (cs:=[BH,BH,BH]) rfl rfl rfl).trans (aC [(2,2),(5,20),(1,1),(0,0)] rfl rfl rfl ⟨⟨rfl,rfl⟩,⟨rfl,rfl⟩,⟨rfl,rfl⟩,⟨rfl,rfl⟩,⟨rfl,rfl⟩,⟨rfl,rfl⟩,⟨rfl,rfl⟩,trivial⟩ ⟨⟨rfl,rfl⟩,jX rfl,⟨rfl,rfl⟩,⟨rfl,rfl⟩,trivial⟩)) ?_
 rintro⟨k,hk⟩
 conv=>whnf
 refine Split.mk (fun c1=>?_) (fun c1=>?_)
 ·have hk2:k<n.f2.length:=iw c1
  clear c1
  have hstep:=Uy (c:=c) (d:=T.df eS) hk2
  conv=>whnf
  refine Need.mk (idx hk2) ?_
  conv=>whnf
  refine Split.mk (fun c1=>?_) (fun c1=>?_)
  ·have hq:ig c (n.f2.take (k+1))=ig c (n.f2.take k)++[gS n.f2 k]:=by
    rw [hstep,show((n.f2.getD k (T.df eS)).f0.toList==c.toList)=false from abM c1];rfl
   have hdl:=xg c (n.f2.take k)
   rw [List.length_take] at hdl
   conv=>whnf
   refine Split.mk (fun _=>?_) (fun e=>jv e)
   conv=>whnf
   refine Need.mk (idx hk2) ?_
   conv=>whnf
   refine Need.mk (dH (a:=(ig c (n.f2.take k)).length) (b:=1) (by omega) (by decide)) ?_
   conv=>whnf
   refine bH.mk ⟨by kernel_rfl,by kernel_rfl⟩ ?_
   conv=>whnf
   exact bI.mk ⟨⟨k+1,hk2⟩,Nat.sub_lt_sub_left hk2 (Nat.lt_succ_self k),aC [(2,2),(5,7),(1,1),(0,0)] rfl rfl rfl ⟨⟨rfl,congrArg i64 (dY hk2 (by omega))⟩,⟨rfl,rfl⟩,⟨rfl,rfl⟩,⟨rfl,rfl⟩,⟨rfl,rfl⟩,⟨rfl,rfl⟩,⟨rfl,rfl⟩,trivial⟩ ⟨⟨rfl,rfl⟩,jX hq.symm,⟨rfl,rfl⟩,⟨rfl,rfl⟩,trivial⟩⟩
  ·have hq:ig c (n.f2.take (k+1))=ig c (n.f2.take k):=by
    rw [hstep,show((n.f2.getD k (T.df eS)).f0.toList==c.toList)=true from abN c1];simp
   conv=>whnf
   refine Split.mk (fun e=>jH e) (fun _=>?_)
   conv=>whnf
   refine Split.mk (fun e=>jH e) (fun _=>?_)
   conv=>whnf
   exact bI.mk ⟨⟨k+1,hk2⟩,Nat.sub_lt_sub_left hk2 (Nat.lt_succ_self k),aC [(2,2),(5,5),(1,1),(0,0)] rfl rfl rfl ⟨⟨rfl,congrArg i64 (dY hk2 (by omega))⟩,⟨rfl,rfl⟩,⟨rfl,rfl⟩,⟨rfl,rfl⟩,⟨rfl,rfl⟩,⟨rfl,rfl⟩,⟨rfl,rfl⟩,trivial⟩ ⟨⟨rfl,rfl⟩,jX hq.symm,⟨rfl,rfl⟩,⟨rfl,rfl⟩,trivial⟩⟩
 ·have hk2:k=n.f2.length:=Nat.le_antisymm hk (iy c1)
  clear c1
  subst hk2
  conv=>whnf
  refine dM.mk {k:Nat // k≤n.f0.length} (fun p=>(6,[(11,i64 p.1),(9, .c (.px 2 0)),(8, .c (.px 1 0)),(4, .c (.px 0 0)),(1,im 9 l),(2, .c (.sc (.bool true))),(3, .c (.sc (.string c)))],[(2, .bx eN [.hd 3, .hd 4, .hd 5]),(3, .row 3 9 ((dU c (n.f0.take p.1) (n.f1.take p.1)).map (·.1))),(4, .sh 4 eN ((dU c (n.f0.take p.1) (n.f1.take p.1)).map (·.2))),(5, .row 5 eS (ig c n.f2)),(1,WB),(0,xq n)])) (fun p=>n.f0.length - p.1) ⟨0,Nat.zero_le _⟩ ((vN 2 0 20 9 (t:=eN) (cs:=[BH,BH, .hd 5]) rfl rfl rfl).trans ((vN 2 1 21 eN (t:=eN) (cs:=[.hd 20,BH, .hd 5]) rfl rfl rfl).trans (aC [(2,2),(3,20),(4,21),(5,5),(1,1),(0,0)] rfl rfl rfl ⟨⟨rfl,rfl⟩,⟨rfl,rfl⟩,⟨rfl,rfl⟩,⟨rfl,rfl⟩,⟨rfl,rfl⟩,⟨rfl,rfl⟩,⟨rfl,rfl⟩,trivial⟩ ⟨⟨rfl,rfl⟩,kW rfl,kN rfl,jX (by rw [List.take_length]),⟨rfl,rfl⟩,⟨rfl,rfl⟩,trivial⟩))) ?_
  rintro⟨k,hk⟩
  conv=>whnf
  refine Split.mk (fun c1=>?_) (fun c1=>?_)
  ·have hk2:k<n.f0.length:=iw c1
   have hk3:k<n.f1.length:=by omega
   clear c1
   have ihk:=ih _ (vM hk3)
   have hstep:=Hz (c:=c) (d:=T.df 9) (e:=T.df eN) hk2 hk3
   change _=_++bif jP (gX c (gN n.f1 k)) then [(g9 n.f0 k,gX c (gN n.f1 k))] else [] at hstep
   change ay T Tryz.prog 96 [.ag (T.cells eN (gN n.f1 k)), .c (.sl 9 l), .c (.sc (.bool true)), .c (.sc (.string c))] (Oz (gX c (gN n.f1 k))) at ihk
   have hdl:=xu c (n.f0.take k) (n.f1.take k)
   rw [List.length_take] at hdl
   generalize gX c (gN n.f1 k)=K at ihk hstep
   conv=>whnf
   refine Need.mk (idx hk3) ?_
   conv=>whnf
   refine Split.mk (fun _=>?_) (fun e=>jv e)
   conv=>whnf
   refine aA.mk _ ihk ?_
   conv=>whnf
   refine Split.mk (fun c1=>?_) (fun c1=>?_)
   ·have hf:jP K=true:=by unfold jP;rw [decide_eq_true (p:=0<K.f0.length) (kF c1)];rfl
    rw [hf] at hstep
    conv=>whnf
    refine Split.mk (fun _=>?_) (fun e=>jv e)
    conv=>whnf
    refine Need.mk (idx hk2) ?_
    conv=>whnf
    refine Need.mk (dH (a:=((dU c (n.f0.take k) (n.f1.take k)).map (·.1)).length) (b:=1) (by rw [List.length_map];omega) (by decide)) ?_
    conv=>whnf
    refine bH.mk ⟨by kernel_rfl,by kernel_rfl⟩ ?_
    conv=>whnf
    refine Need.mk (dH (a:=((dU c (n.f0.take k) (n.f1.take k)).map (·.2)).length) (b:=1) (by rw [List.length_map];omega) (by decide)) ?_
    conv=>whnf
    exact bI.mk ⟨⟨k+1,hk2⟩,Nat.sub_lt_sub_left hk2 (Nat.lt_succ_self k),aC [(2,2),(3,11),(4,12),(5,5),(1,1),(0,0)] rfl rfl rfl ⟨⟨rfl,congrArg i64 (dY hk2 (by omega))⟩,⟨rfl,rfl⟩,⟨rfl,rfl⟩,⟨rfl,rfl⟩,⟨rfl,rfl⟩,⟨rfl,rfl⟩,⟨rfl,rfl⟩,trivial⟩ ⟨⟨rfl,rfl⟩,kW (pm1 hstep),kN (pm2 hstep),jX rfl,⟨rfl,rfl⟩,⟨rfl,rfl⟩,trivial⟩⟩
   ·conv=>whnf
    refine Split.mk (fun c2=>?_) (fun c2=>?_)
    ·have hf:jP K=true:=by unfold jP;rw [decide_eq_true (p:=0<K.f2.length) (kF c2),Bool.or_true]
     rw [hf] at hstep
     conv=>whnf
     refine Need.mk (idx hk2) ?_
     conv=>whnf
     refine Need.mk (dH (a:=((dU c (n.f0.take k) (n.f1.take k)).map (·.1)).length) (b:=1) (by rw [List.length_map];omega) (by decide)) ?_
     conv=>whnf
     refine bH.mk ⟨by kernel_rfl,by kernel_rfl⟩ ?_
     conv=>whnf
     refine Need.mk (dH (a:=((dU c (n.f0.take k) (n.f1.take k)).map (·.2)).length) (b:=1) (by rw [List.length_map];omega) (by decide)) ?_
     conv=>whnf
     exact bI.mk ⟨⟨k+1,hk2⟩,Nat.sub_lt_sub_left hk2 (Nat.lt_succ_self k),aC [(2,2),(3,11),(4,12),(5,5),(1,1),(0,0)] rfl rfl rfl ⟨⟨rfl,congrArg i64 (dY hk2 (by omega))⟩,⟨rfl,rfl⟩,⟨rfl,rfl⟩,⟨rfl,rfl⟩,⟨rfl,rfl⟩,⟨rfl,rfl⟩,⟨rfl,rfl⟩,trivial⟩ ⟨⟨rfl,rfl⟩,kW (pm1 hstep),kN (pm2 hstep),jX rfl,⟨rfl,rfl⟩,⟨rfl,rfl⟩,trivial⟩⟩
    ·have hf:jP K=false:=by unfold jP;rw [decide_eq_false (p:=0<K.f0.length) (Nat.not_lt_of_le (Nat.le_of_eq (kG c1))),decide_eq_false (p:=0<K.f2.length) (Nat.not_lt_of_le (Nat.le_of_eq (kG c2)))];rfl
     rw [hf] at hstep
     conv=>whnf
     exact bI.mk ⟨⟨k+1,hk2⟩,Nat.sub_lt_sub_left hk2 (Nat.lt_succ_self k),aC [(2,2),(3,3),(4,4),(5,5),(1,1),(0,0)] rfl rfl rfl ⟨⟨rfl,congrArg i64 (dY hk2 (by omega))⟩,⟨rfl,rfl⟩,⟨rfl,rfl⟩,⟨rfl,rfl⟩,⟨rfl,rfl⟩,⟨rfl,rfl⟩,⟨rfl,rfl⟩,trivial⟩ ⟨⟨rfl,rfl⟩,kW (aeo hstep),kN (aep hstep),jX rfl,⟨rfl,rfl⟩,⟨rfl,rfl⟩,trivial⟩⟩
  ·have hk2:k=n.f0.length:=Nat.le_antisymm hk (iy c1)
   subst hk2
   conv=>whnf
   exact aG.mk ⟨rfl,rfl⟩ ⟨rfl,rfl⟩ ⟨kW (congrArg (List.map (fun x=>x.1)) (abL hl)),kN (congrArg (List.map (fun x=>x.2)) (abL hl)),jX rfl,trivial⟩
theorem LH:∀(n:SN) (l:List ByteArray) (c:ByteArray),Bd n→Tr n→ay T Tryz.prog 96 [.ag (T.cells eN n), .c (.sl 9 l), .c (.sc (.bool true)), .c (.sc (.string c))] (Oz (gX c n)):=fun n l c hn ht=>
 OA n l c hn ht.len (fun k hk=>LH k l c (hn.kid k hk) (ht.kid k hk))
termination_by n=>SizeOf.sizeOf n
decreasing_by exact jB hk
mutual
theorem JQ (c:ByteArray):∀(n:SN),Bd n→Bd (gX c n)
 | ⟨ns,ks,ss⟩,h=>by
   rw [gX]
   have hl:=xu c ns ks
   refine .mk _ (by show(List.map _ _).length≤_;rw [List.length_map];exact Nat.le_trans hl h.l0) (fun x hx=>?_) (by show(List.map _ _).length≤_;rw [List.length_map];exact Nat.le_trans hl h.l0) (Nat.le_trans (xg c ss) h.l2) (fun x hx=>h.z2 x (List.filter_sublist.subset hx)) (fun x hx=>?_)
   ·obtain⟨y,hy,rfl⟩:=List.mem_map.1 hx
    exact h.z0 _ (BI c ns ks y hy (fun k hk=>h.kid k hk)).1
   ·obtain⟨y,hy,rfl⟩:=List.mem_map.1 hx
    exact(BI c ns ks y hy (fun k hk=>h.kid k hk)).2
theorem BI (c:ByteArray):∀(ns:List ByteArray) (ks:List SN),∀y∈dU c ns ks,(∀k∈ks,Bd k)→y.1∈ns∧Bd y.2
 | x::r,k::q,y,hy,h=>by
   rw [dU] at hy
   rcases List.mem_append.1 hy with hy | hy
   ·cases hf:jP (gX c k) with
    | false=>rw [hf] at hy;cases hy
    | true=>
      rw [hf] at hy
      obtain rfl:=List.mem_singleton.1 hy
      exact⟨List.mem_cons_self,JQ c k (h k List.mem_cons_self)⟩
   ·have:=BI c r q y hy (fun k hk=>h k (List.mem_cons_of_mem _ hk))
    exact⟨List.mem_cons_of_mem _ this.1,this.2⟩
 | [],_,y,hy,_=>by rw [dU] at hy;cases hy
 | _::_,[],y,hy,_=>by rw [dU] at hy;cases hy
end
theorem F6 (n:SN) (c:ByteArray) (hn:Bd n) (ht:gI n=true→Tr n):ay T Tryz.prog 19 [.ag (T.cells eN n), .c (.sc (.string c))] (qw (bif gI n then gX c n else n)):=by
 refine aH hT Tryz.func19 (by kernel_rfl) rfl rfl (fun A=>?_)
 conv=>whnf
 refine aA.mk _ (zB n hn) ?_
 conv=>whnf
 refine Split.mk (fun c1=>?_) (fun c1=>?_)
 ·have h0:gI n=false:=dh c1
  rw [h0]
  conv=>whnf
  refine aA.mk _ (zA n hn) ?_
  conv=>whnf
  exact aG.mk ⟨rfl,rfl⟩ ⟨rfl,rfl⟩ ⟨rfl,rfl,rfl,trivial⟩
 ·have h0:gI n=true:=dB c1
  rw [h0]
  conv=>whnf
  refine aA.mk _ (LH n [] c hn (ht h0)) ?_
  conv=>whnf
  refine aA.mk _ (zA (gX c n) (JQ c n hn)) ?_
  conv=>whnf
  exact aG.mk ⟨rfl,rfl⟩ ⟨rfl,rfl⟩ ⟨rfl,rfl,rfl,trivial⟩
end Go.Proofs.YtcnfgfomholheaaGreatDoor.Q
end
section
namespace Go.Proofs.YtcnfgfomholheaaGreatDoor.Q
open Go.RowKit Go.Proofs.YtcnfgfomholheaaGreatDoor.Z Go.Proofs.YtcnfgfomholheaaGreatDoor.Pure
set_option linter.unusedVariables false
set_option linter.unusedSimpArgs false
def jo (n:SN):List (ByteArray × SN):=n.f0.zip n.f1
abbrev BJ (a b:ByteArray):Prop:=Op.bytesLess a.toList b.toList=true
theorem Ec {a:ByteArray} (h:BJ a a):False:=by unfold BJ at h;rw [Fe] at h;cases h
theorem aaH {a b:ByteArray} (h:BJ a b) (h2:BJ b a):False:=by unfold BJ at h h2;rw [zq _ _ h] at h2;cases h2
theorem JR {n:SN} (h:Tr n):(jo n).map (·.1)=n.f0:=by unfold jo;exact List.map_fst_zip (by rw [h.len];exact Nat.le_refl _)
theorem Ed {n:SN} (h:Tr n):(jo n).map (·.2)=n.f1:=by unfold jo;exact List.map_snd_zip (by rw [h.len];exact Nat.le_refl _)
theorem zC {n:SN} (h:Tr n):(jo n).Pairwise (fun a b=>BJ a.1 b.1):=by
 have:=h.rise
 rw [←JR h] at this
 exact List.pairwise_map.1 this
theorem kK {n:SN} {x:ByteArray × SN} (h:x∈jo n):x.2∈n.f1:=(List.of_mem_zip (a:=x.1) (b:=x.2) h).2
theorem pos_at {l:List ByteArray} {t:ByteArray} {i:Nat} (hr:l.Pairwise BJ) (h:l[i]? =some t):dG t l=i∧jm t l=true:=by
 obtain⟨hi,rfl⟩:=List.getElem?_eq_some_iff.1 h
 have h1:=(Ux (p:=xk l[i]) (d:=T.df 9) (l:=l) (i:=i) (Nat.le_of_lt hi) (fun j hj=>by
  have e:l.getD j (T.df 9)=l[j]:=getD_in l j (T.df 9) (by omega)
  rw [e]
  exact List.pairwise_iff_getElem.1 hr j i (by omega) hi hj) (.inr (by
  have e:l.getD i (T.df 9)=l[i]:=getD_in l i (T.df 9) hi
  rw [e]
  exact Fe _))).1
 have h2:dG l[i] l=i:=by
  unfold dG
  rw [←h1,List.length_take];omega
 refine⟨h2,?_⟩
 unfold jm
 rw [h2,show g9 l i=l[i] from getD_in l i (T.df 9) hi]
 simp [hi]
theorem WC {l:List ByteArray} {t:ByteArray} (h:jm t l=true):l[dG t l]? =some t:=by
 have hp:=vJ h
 unfold jm at h
 simp only [Bool.and_eq_true,decide_eq_true_eq] at h
 have h2:=abO h.2
 rw [show g9 l (dG t l)=l[dG t l] from getD_in l _ (T.df 9) hp] at h2
 rw [List.getElem?_eq_getElem hp,h2]
def dA:List ByteArray→SN→List SS
 | [],n=>n.f2
 | t::ts,n=>bif jm t n.f0 then dA ts (gN n.f1 (dG t n.f0)) else []
theorem OB {n:SN} (ht:Tr n) {t:ByteArray} {k:SN} (h:(t,k)∈jo n):jm t n.f0=true∧gN n.f1 (dG t n.f0)=k:=by
 obtain⟨i,hi,e⟩:=List.mem_iff_getElem.1 h
 have hi':i<n.f0.length∧i<n.f1.length:=by unfold jo at hi;rw [List.length_zip] at hi;omega
 have e':(n.f0[i],n.f1[i])=(t,k):=by rw [←e];exact(List.getElem_zip (h:=hi)).symm
 cases e'
 obtain⟨h1,h2⟩:=pos_at (i:=i) ht.rise (List.getElem?_eq_getElem hi'.1)
 refine⟨h2,?_⟩
 rw [h1]
 exact getD_in n.f1 i (T.df eN) hi'.2
theorem mD {n:SN} (ht:Tr n) {t:ByteArray} {k:SN} (h:(t,k)∈jo n) (ts:List ByteArray):dA (t::ts) n=dA ts k:=by
 obtain⟨h1,h2⟩:=OB ht h
 rw [dA,h1,h2];rfl
theorem yK {n:SN} (ht:Tr n) {t:ByteArray} (h:jm t n.f0=true):(t,gN n.f1 (dG t n.f0))∈jo n:=by
 have h1:=WC h
 obtain⟨h2,h3⟩:=List.getElem?_eq_some_iff.1 h1
 have h4:dG t n.f0<n.f1.length:=by rw [←ht.len];exact h2
 refine List.mem_iff_getElem.2 ⟨dG t n.f0,by unfold jo;rw [List.length_zip];omega,?_⟩
 unfold jo
 rw [List.getElem_zip,h3]
 exact congrArg (Prod.mk t) (getD_in n.f1 _ (T.df eN) h4).symm
theorem pX {n:SN} (ht:Tr n) {t:ByteArray} (h:∀k,(t,k)∉jo n) (ts:List ByteArray):dA (t::ts) n=[]:=by
 rw [dA]
 cases hf:jm t n.f0 with
 | false=>rfl
 | true=>exact absurd (yK ht hf) (h _)
theorem aaI {n:SN} (ht:Tr n) {t:ByteArray} {k k':SN} (h:(t,k)∈jo n) (h':(t,k')∈jo n):k=k':=(OB ht h).2.symm.trans (OB ht h').2
inductive Gd:SN→Prop
 | mk (n:SN) (ht:Tr n) (hf:∀k∈n.f1,k.f1≠[]∨k.f2≠[]) (hk:∀k∈n.f1,Gd k):Gd n
theorem Gd.tr {n:SN} (h:Gd n):Tr n:=by cases h;assumption
theorem Gd.full {n:SN} (h:Gd n):∀k∈n.f1,k.f1≠[]∨k.f2≠[]:=by cases h;assumption
theorem Gd.kid {n:SN} (h:Gd n):∀k∈n.f1,Gd k:=by cases h;assumption
theorem SA:∀(n:SN),Gd n→(n.f1≠[]∨n.f2≠[])→∃p,dA p n≠[]:=fun n hg hne=>by
 rcases hne with h | h
 ·obtain⟨k,hk⟩:=List.exists_mem_of_ne_nil _ h
  obtain⟨p,hp⟩:=SA k (hg.kid k hk) (hg.full k hk)
  have h1:k∈(jo n).map (·.2):=by rw [Ed hg.tr];exact hk
  obtain⟨⟨t,k'⟩,h2,rfl⟩:=List.mem_map.1 h1
  exact⟨t::p,by rw [mD hg.tr h2];exact hp⟩
 ·exact⟨[],h⟩
termination_by n=>SizeOf.sizeOf n
decreasing_by exact jB hk
theorem HY {α:Type} {f:α→ByteArray}:∀{l m:List α},l.Pairwise (fun a b=>BJ (f a) (f b))→m.Pairwise (fun a b=>BJ (f a) (f b))→(∀x,x∈l↔x∈m)→l=m
 | [],[],_,_,_=>rfl
 | [],b::m,_,_,h=>by have:=(h b).2 List.mem_cons_self;cases this
 | a::l,[],_,_,h=>by have:=(h a).1 List.mem_cons_self;cases this
 | a::l,b::m,hl,hm,h=>by
   obtain⟨hl1,hl2⟩:=List.pairwise_cons.1 hl
   obtain⟨hm1,hm2⟩:=List.pairwise_cons.1 hm
   have e:a=b:=by
    rcases List.mem_cons.1 ((h a).1 List.mem_cons_self) with e | h1
    ·exact e
    ·rcases List.mem_cons.1 ((h b).2 List.mem_cons_self) with e | h2
     ·exact e.symm
     ·exact(aaH (hm1 a h1) (hl1 b h2)).elim
   subst e
   congr 1
   refine HY hl2 hm2 (fun x=>⟨fun hx=>?_,fun hx=>?_⟩)
   ·rcases List.mem_cons.1 ((h x).1 (List.mem_cons_of_mem _ hx)) with e | h1
    ·subst e;exact(Ec (hl1 _ hx)).elim
    ·exact h1
   ·rcases List.mem_cons.1 ((h x).2 (List.mem_cons_of_mem _ hx)) with e | h1
    ·subst e;exact(Ec (hm1 _ hx)).elim
    ·exact h1
theorem OD:∀(n m:SN),Gd n→Gd m→(∀p,dA p n=dA p m)→n=m:=fun n m hn hm h=>by
 have key:∀(a b:SN),Gd a→Gd b→(∀p,dA p a=dA p b)→∀t k,(t,k)∈jo a→∃k',(t,k')∈jo b∧∀p,dA p k=dA p k':=fun a b ha hb hab t k hk=>by
  obtain⟨p,hp⟩:=SA k (ha.kid k (kK hk)) (ha.full k (kK hk))
  rw [←mD ha.tr hk,hab] at hp
  have hf:jm t b.f0=true:=by
   cases hf:jm t b.f0 with
   | true=>rfl
   | false=>rw [dA,hf] at hp;exact(hp rfl).elim
  refine⟨_,yK hb.tr hf,fun q=>?_⟩
  rw [←mD ha.tr hk,hab,mD hb.tr (yK hb.tr hf)]
 have hp:jo n=jo m:=by
  refine HY (f:=fun x=>x.1) (zC hn.tr) (zC hm.tr) (fun x=>⟨fun hx=>?_,fun hx=>?_⟩)
  ·obtain⟨t,k⟩:=x
   obtain⟨k',h1,h2⟩:=key n m hn hm h t k hx
   have hk:=kK hx
   rw [OD k k' (hn.kid k hk) (hm.kid k' (kK h1)) h2]
   exact h1
  ·obtain⟨t,k⟩:=x
   obtain⟨k',h1,h2⟩:=key m n hm hn (fun p=>(h p).symm) t k hx
   have hk:=kK h1
   rw [←OD k' k (hn.kid k' hk) (hm.kid k (kK hx)) (fun p=>(h2 p).symm)]
   exact h1
 have h0:n.f0=m.f0:=by rw [←JR hn.tr,←JR hm.tr,hp]
 have h1:n.f1=m.f1:=by rw [←Ed hn.tr,←Ed hm.tr,hp]
 have h2:n.f2=m.f2:=h []
 rw [←BF n,←BF m,h0,h1,h2]
termination_by n=>SizeOf.sizeOf n
decreasing_by
 ·exact jB hk
 ·exact jB hk
end Go.Proofs.YtcnfgfomholheaaGreatDoor.Q
end
section
namespace Go.Proofs.YtcnfgfomholheaaGreatDoor.Q
open Go.RowKit Go.Proofs.YtcnfgfomholheaaGreatDoor.Z Go.Proofs.YtcnfgfomholheaaGreatDoor.X Go.Proofs.YtcnfgfomholheaaGreatDoor.Pure
set_option linter.unusedVariables false
set_option linter.unusedSimpArgs false
theorem LJ {p:List ByteArray}:∀{ns:List ByteArray} {y:Option ByteArray} {ks:List SN},ns.length=ks.length→lT p ns y ks=true→ns.Pairwise BJ∧∀x∈ns,ni y x=true
 | [],y,ks,_,_=>⟨.nil,fun x hx=>by cases hx⟩
 | x::r,y,[],h,_=>by simp at h
 | x::r,y,k::q,h,ho=>by
   obtain⟨h1,_,_,_,h5⟩:=sQ.1 ho
   obtain⟨a,b⟩:=LJ (by simpa using h) h5
   refine⟨List.pairwise_cons.2 ⟨fun z hz=>b z hz,a⟩,fun z hz=>?_⟩
   rcases List.mem_cons.1 hz with rfl | hz
   ·exact h1
   ·cases y with
    | none=>rfl
    | some y=>exact zu _ _ _ h1 (b z hz)
theorem Ee {p:List ByteArray}:∀{ns:List ByteArray} {y:Option ByteArray} {ks:List SN},lT p ns y ks=true→∀x k,(x,k)∈ns.zip ks→BL x k=true∧(k.f1.length≠0∨k.f2.length≠0)∧okI (p++[x]) k=true
 | [],y,ks,_,x,k,h=>by simp at h
 | x::r,y,[],_,x',k',h=>by simp at h
 | x::r,y,k::q,ho,x',k',h=>by
   obtain⟨_,h2,h3,h4,h5⟩:=sQ.1 ho
   rw [List.zip_cons_cons] at h
   rcases List.mem_cons.1 h with h | h
   ·cases h;exact⟨h2,h3,h4⟩
   ·exact Ee h5 x' k' h
theorem aaJ {n:SN} (hl:n.f0.length=n.f1.length) {k:SN} (hk:k∈n.f1):∃x,(x,k)∈jo n:=by
 have:k∈(jo n).map (·.2):=by unfold jo;rw [List.map_snd_zip (by omega)];exact hk
 obtain⟨⟨x,k'⟩,h,rfl⟩:=List.mem_map.1 this
 exact⟨x,h⟩
theorem NG:∀(n:SN) (p:List ByteArray),okI p n=true→Gd n∧Dp (7 - p.length) n:=fun n p h=>by
 obtain⟨h1,h2,h3,h4,h5⟩:=nK.1 h
 have hk:∀k∈n.f1,(Gd k∧Dp (7 - (p.length+1)) k)∧(k.f1≠[]∨k.f2≠[])∧p.length+1≤6:=fun k hk=>by
  obtain⟨x,hx⟩:=aaJ h1 hk
  obtain⟨_,a2,a3⟩:=Ee h5 x k hx
  have:=NG k (p++[x]) a3
  have h7:=(nK.1 a3).2.1
  rw [List.length_append] at this h7
  refine⟨this,a2.imp (fun h e=>h (by rw [e];rfl)) (fun h e=>h (by rw [e];rfl)),h7⟩
 refine⟨.mk n (.mk n h1 (LJ h1 h5).1 (fun k h=>(hk k h).1.1.tr)) (fun k h=>(hk k h).2.1) (fun k h=>(hk k h).1.1), .mk _ n (fun hne=>?_) (fun k h=>?_)⟩
 ·obtain⟨k,h⟩:=List.exists_mem_of_ne_nil _ hne
  have:=(hk k h).2.2
  omega
 ·have:=(hk k h).1.2
  rw [show 7 - p.length - 1=7 - (p.length+1) by omega]
  exact this
termination_by n=>SizeOf.sizeOf n
decreasing_by exact jB hk
theorem BM {n:SN} (h:gI n=true):okI [] n=true∧n.f2=[]:=by
 unfold gI at h
 simp only [Bool.and_eq_true,decide_eq_true_eq] at h
 exact⟨h.2,List.length_eq_zero_iff.1 h.1⟩
theorem uy {n:SN} (h:gI n=true):Tr n∧Dp 7 n:=by
 have:=NG n [] (BM h).1
 exact⟨this.1.tr,this.2⟩
theorem abP {x:ByteArray} {k:SN} (h:BL x k=true):(47:UInt8)∉dl x:=by
 unfold BL at h
 simp only [Bool.and_eq_true,decide_eq_true_eq] at h
 exact(H6 _).1 h.1
theorem WE {a b:ByteArray} (h:dl a=dl b):a=b:=by
 cases a;cases b
 congr 1
 exact Array.ext' h
theorem OE {p:List ByteArray} {e:SE}:∀{ns:List ByteArray} {ks:List SN},e∈dR p ns ks→∃x k,(x,k)∈ns.zip ks∧e∈gW (p++[x]) k
 | [],ks,h=>by rw [dR] at h;cases h
 | x::r,[],h=>by rw [dR] at h;cases h
 | x::r,k::q,h=>by
   rw [dR] at h
   rcases List.mem_append.1 h with h | h
   ·exact⟨x,k,by rw [List.zip_cons_cons];exact List.mem_cons_self,h⟩
   ·obtain⟨x',k',h1,h2⟩:=OE h
    exact⟨x',k',by rw [List.zip_cons_cons];exact List.mem_cons_of_mem _ h1,h2⟩
theorem LM {p:List ByteArray} {e:SE}:∀{ns:List ByteArray} {ks:List SN} {x:ByteArray} {k:SN},(x,k)∈ns.zip ks→e∈gW (p++[x]) k→e∈dR p ns ks
 | [],ks,x,k,h,_=>by simp at h
 | x::r,[],_,_,h,_=>by simp at h
 | x::r,k::q,x',k',h,he=>by
   rw [dR]
   rw [List.zip_cons_cons] at h
   rcases List.mem_cons.1 h with h | h
   ·cases h;exact List.mem_append_left _ he
   ·exact List.mem_append_right _ (LM h he)
theorem YO {q:List ByteArray} (hq:q≠[]) (h:∀x∈q,(47:UInt8)∉dl x):ng (dn q)=q:=by
 have h1:(ng (dn q)).map dl=q.map dl:=(qx (dn q)).trans (WG q hq h)
 exact(List.map_inj_right (fun a b e=>WE e)).1 h1
theorem H7:∀(n:SN) (p:List ByteArray),okI p n=true→∀e∈gW p n,fO e.f0=true:=fun n p h e he=>by
 obtain⟨h1,h2,h3,h4,h5⟩:=nK.1 h
 rw [qV] at he
 rcases List.mem_append.1 he with he | he
 ·obtain⟨s,hs,rfl⟩:=List.mem_map.1 he
  rcases h4 with h4 | h4
  ·rw [List.length_eq_zero_iff.1 h4] at hs;cases hs
  ·exact h4
 ·obtain⟨x,k,hx,hk⟩:=OE he
  have hkk:k∈n.f1:=kK (n:=n) hx
  exact H7 k (p++[x]) (Ee h5 x k hx).2.2 e hk
termination_by n=>SizeOf.sizeOf n
decreasing_by exact jB hkk
theorem WH {n:SN} {e:SE} (he:e∈fZ n):e.f0.size≤1073741824∧(ng e.f0).length≤2097152:=by
 unfold fZ at he
 cases h:gI n with
 | false=>rw [h] at he;cases he
 | true=>
   rw [h] at he
   have h1:=H7 n [] (BM h).1 e he
   have h2:=((uz e.f0).1 (Fh h1)).2.2
   have h3:=tY e.f0
   exact⟨Nat.le_trans h2 (by decide),Nat.le_trans h3 (by omega)⟩
theorem OG:∀(q:List ByteArray) (n:SN) (p:List ByteArray),Tr n→∀s∈dA q n,mZ (p++q) s∈gW p n
 | [],n,p,ht,s,hs=>by
   rw [qV,List.append_nil]
   exact List.mem_append_left _ (List.mem_map.2 ⟨s,hs,rfl⟩)
 | t::ts,n,p,ht,s,hs=>by
   rw [dA] at hs
   cases hf:jm t n.f0 with
   | false=>rw [hf] at hs;cases hs
   | true=>
     rw [hf] at hs
     have h1:=yK ht hf
     have h2:=OG ts (gN n.f1 (dG t n.f0)) (p++[t]) (ht.kid _ (kK h1)) s hs
     rw [qV]
     refine List.mem_append_right _ (LM h1 ?_)
     rw [List.append_assoc] at h2
     exact h2
theorem LP:∀(q:List ByteArray) (n:SN) (p:List ByteArray),okI p n=true→dA q n≠[]→∀x∈q,(47:UInt8)∉dl x
 | [],n,p,ho,hs,x,hx=>by cases hx
 | t::ts,n,p,ho,hs,x,hx=>by
   rw [dA] at hs
   cases hf:jm t n.f0 with
   | false=>rw [hf] at hs;exact(hs rfl).elim
   | true=>
     rw [hf] at hs
     have h1:=yK (NG n p ho).1.tr hf
     obtain⟨h2,_,h3⟩:=Ee (nK.1 ho).2.2.2.2 t _ h1
     rcases List.mem_cons.1 hx with rfl | hx
     ·exact abP h2
     ·exact LP ts _ (p++[t]) h3 hs x hx
end Go.Proofs.YtcnfgfomholheaaGreatDoor.Q
end
section
namespace Go.Proofs.YtcnfgfomholheaaGreatDoor.Q
open Go.RowKit Go.Proofs.YtcnfgfomholheaaGreatDoor.Z Go.Proofs.YtcnfgfomholheaaGreatDoor.X Go.Proofs.YtcnfgfomholheaaGreatDoor.Pure
set_option linter.unusedVariables false
set_option linter.unusedSimpArgs false
theorem Ro (c:ByteArray) (l:List SS):ig c (ig c l)=ig c l:=by unfold ig;rw [List.filter_filter];congr 1;funext s;simp
theorem F7 {n:SN} (ht:Tr n) (h1:n.f1.length=0) (h2:n.f2.length=0):∀p,dA p n=[]
 | []=>List.length_eq_zero_iff.1 h2
 | t::ts=>pX ht (fun k hk=>by have:=kK hk;rw [List.length_eq_zero_iff.1 h1] at this;cases this) ts
theorem aaK {n m:SN} (hn:Tr n) (hm:Tr m) {u:ByteArray} (h:∀k,(u,k)∈jo n↔(u,k)∈jo m) (us:List ByteArray):dA (u::us) n=dA (u::us) m:=by
 by_cases hk:∃k,(u,k)∈jo n
 ·obtain⟨k,hk⟩:=hk
  rw [mD hn hk,mD hm ((h k).1 hk)]
 ·rw [pX hn (fun k hx=>hk ⟨k,hx⟩),pX hm (fun k hx=>hk ⟨k,(h k).2 hx⟩)]
theorem WI {n:SN} (ht:Tr n) {i:Nat} (hi:i<n.f1.length) (K:SN):∃A B t k,jo n=A++(t,k)::B∧n.f0[i]? =some t∧n.f1[i]? =some k∧jo ⟨n.f0.take i++n.f0.drop (i+1),n.f1.take i++n.f1.drop (i+1),n.f2⟩=A++B∧jo ⟨n.f0,n.f1.set i K,n.f2⟩=A++(t,K)::B:=by
 have hi0:i<n.f0.length:=by rw [ht.len];exact hi
 have hl:(n.f0.take i).length=(n.f1.take i).length:=by rw [List.length_take,List.length_take,ht.len]
 have e0:n.f0=n.f0.take i++n.f0[i]::n.f0.drop (i+1):=by rw [←List.drop_eq_getElem_cons hi0,List.take_append_drop]
 have e1:n.f1=n.f1.take i++n.f1[i]::n.f1.drop (i+1):=by rw [←List.drop_eq_getElem_cons hi,List.take_append_drop]
 refine⟨(n.f0.take i).zip (n.f1.take i),(n.f0.drop (i+1)).zip (n.f1.drop (i+1)),n.f0[i],n.f1[i],?_,List.getElem?_eq_getElem hi0,List.getElem?_eq_getElem hi,?_,?_⟩
 ·unfold jo
  rw [←List.zip_cons_cons,←List.zip_append hl,←e0,←e1]
 ·unfold jo
  exact List.zip_append hl
 ·unfold jo
  rw [←List.zip_cons_cons,←List.zip_append hl,←e0]
  congr 1
  rw [List.set_eq_take_append_cons_drop,if_pos hi]
theorem LQ {A B:List (ByteArray × SN)} {t:ByteArray} {k:SN} (h:(A++(t,k)::B).Pairwise (fun a b=>BJ a.1 b.1)):∀x,x∈A++B→x.1≠t:=fun x hx e=>by
 obtain⟨_,h1,h2⟩:=List.pairwise_append.1 h
 rcases List.mem_append.1 hx with hx | hx
 ·have:=h2 x hx (t,k) List.mem_cons_self
  rw [e] at this
  exact Ec this
 ·have:=(List.pairwise_cons.1 h1).1 x hx
  rw [e] at this
  exact Ec this
theorem Fj {A B:List (ByteArray × SN)} {t u:ByteArray} {k K k':SN} (hu:u≠t):((u,k')∈A++(t,k)::B↔(u,k')∈A++B)∧((u,k')∈A++(t,K)::B↔(u,k')∈A++B):=by
 have h1:∀z:SN,(u,k')≠(t,z):=fun z e=>hu (congrArg Prod.fst e)
 simp [h1,hu]
theorem F8 (t:ByteArray) (ts:List ByteArray) (c:ByteArray) (n:SN) (ht:Tr n) (hf:jm t n.f0=true):∃A B k,jo n=A++(t,k)::B∧k∈n.f1∧(((cO ts c k).f1.length=0∧(cO ts c k).f2.length=0)∧jo (cO (t::ts) c n)=A++B∨((cO ts c k).f1≠[]∨(cO ts c k).f2≠[])∧jo (cO (t::ts) c n)=A++(t,cO ts c k)::B)∧(cO (t::ts) c n).f2=n.f2:=by
 have hp:dG t n.f0<n.f1.length:=by rw [←ht.len];exact vJ hf
 obtain⟨A,B,t',k,h1,h2,h3,h4,h5⟩:=WI ht hp (cO ts c (gN n.f1 (dG t n.f0)))
 have e1:t'=t:=Option.some.inj (h2.symm.trans (WC hf))
 subst e1
 have e2:gN n.f1 (dG t' n.f0)=k:=by
  obtain⟨_,e⟩:=List.getElem?_eq_some_iff.1 h3
  rw [←e]
  exact getD_in n.f1 _ (T.df eN) hp
 rw [e2] at h5
 have hkm:k∈n.f1:=List.mem_of_getElem? h3
 have hR:cO (t'::ts) c n=bif (cO ts c k).f1.length==0 && (cO ts c k).f2.length==0 then ⟨n.f0.take (dG t' n.f0)++n.f0.drop (dG t' n.f0+1),n.f1.take (dG t' n.f0)++n.f1.drop (dG t' n.f0+1),n.f2⟩ else ⟨n.f0,n.f1.set (dG t' n.f0) (cO ts c k),n.f2⟩:=by
  rw [cO,hf]
  have e3:bD T eN n.f1 (dG t' n.f0)=k:=e2
  rw [e3]
  rfl
 refine⟨A,B,k,h1,hkm,?_,?_⟩
 ·rw [hR]
  by_cases hz:(cO ts c k).f1.length=0∧(cO ts c k).f2.length=0
  ·refine .inl ⟨hz,?_⟩
   simp only [hz.1,hz.2,beq_self_eq_true,Bool.and_self,cond_true]
   exact h4
  ·refine .inr ⟨?_,?_⟩
   ·by_cases h6:(cO ts c k).f1.length=0
    ·exact .inr (fun e=>hz ⟨h6,by rw [e];rfl⟩)
    ·exact .inl (fun e=>h6 (by rw [e];rfl))
   ·have:((cO ts c k).f1.length==0 && (cO ts c k).f2.length==0)=false:=by
     rw [Bool.and_eq_false_iff,beq_eq_false_iff_ne,beq_eq_false_iff_ne]
     by_cases h6:(cO ts c k).f1.length=0
     ·exact .inr (fun h7=>hz ⟨h6,h7⟩)
     ·exact .inl h6
    rw [this]
    exact h5
 ·rw [hR]
  cases (cO ts c k).f1.length==0 && (cO ts c k).f2.length==0<;>rfl
theorem F9 (t:ByteArray) (ts:List ByteArray) (c:ByteArray) (n:SN) (hf:jm t n.f0=false):cO (t::ts) c n=n:=by rw [cO,hf];exact BF n
theorem Gf:∀(q:List ByteArray) (c:ByteArray) (n:SN),Tr n→dA q (cO q c n)=ig c (dA q n)
 | [],c,n,_=>rfl
 | t::ts,c,n,ht=>by
   cases hf:jm t n.f0 with
   | false=>
     rw [F9 t ts c n hf,dA,hf]
     rfl
   | true=>
     obtain⟨A,B,k,h1,hk,h2,_⟩:=F8 t ts c n ht hf
     have hm:=pW (t::ts) c n ht
     have hK:=pW ts c k (ht.kid k hk)
     have ih:=Gf ts c k (ht.kid k hk)
     rw [mD ht (by rw [h1];simp:(t,k)∈jo n),←ih]
     rcases h2 with ⟨⟨z1,z2⟩,h2⟩ | ⟨_,h2⟩
     ·rw [F7 hK z1 z2,pX hm (fun k' hk'=>LQ (h1▸zC ht) _ (h2▸hk') rfl)]
     ·rw [mD hm (by rw [h2];simp:(t,cO ts c k)∈_)]
theorem LU:∀(q p:List ByteArray) (c:ByteArray) (n:SN),Tr n→p≠q→dA p (cO q c n)=dA p n
 | [],[],c,n,_,h=>(h rfl).elim
 | [],u::us,c,n,_,_=>rfl
 | t::ts,p,c,n,ht,hne=>by
   cases hf:jm t n.f0 with
   | false=>rw [F9 t ts c n hf]
   | true=>
     obtain⟨A,B,k,h1,hk,h2,h3⟩:=F8 t ts c n ht hf
     have hm:=pW (t::ts) c n ht
     have hK:=pW ts c k (ht.kid k hk)
     cases p with
     | nil=>exact h3
     | cons u us=>
       by_cases hu:u=t
       ·subst hu
        have ih:=LU ts us c k (ht.kid k hk) (fun e=>hne (by rw [e]))
        rw [mD ht (by rw [h1];simp:(u,k)∈jo n),←ih]
        rcases h2 with ⟨⟨z1,z2⟩,h2⟩ | ⟨_,h2⟩
        ·rw [F7 hK z1 z2,pX hm (fun k' hk'=>LQ (h1▸zC ht) _ (h2▸hk') rfl)]
        ·rw [mD hm (by rw [h2];simp:(u,cO ts c k)∈_)]
       ·refine aaK hm ht (fun k'=>?_) us
        rw [h1,(Fj (k:=k) (K:=cO ts c k) hu).1]
        rcases h2 with ⟨_,h2⟩ | ⟨_,h2⟩
        ·rw [h2]
        ·rw [h2,(Fj (k:=k) (K:=cO ts c k) hu).2]
theorem OH:∀(q:List ByteArray) (c:ByteArray) (n:SN),Gd n→Gd (cO q c n)
 | [],c,n,h=> .mk _ (pW [] c n h.tr) h.full h.kid
 | t::ts,c,n,h=>by
   cases hf:jm t n.f0 with
   | false=>rw [F9 t ts c n hf];exact h
   | true=>
     obtain⟨A,B,k,h1,hk,h2,h3⟩:=F8 t ts c n h.tr hf
     have hm:=pW (t::ts) c n h.tr
     have ih:=OH ts c k (h.kid k hk)
     have all:∀x∈(cO (t::ts) c n).f1,(x∈n.f1)∨x=cO ts c k∧((cO ts c k).f1≠[]∨(cO ts c k).f2≠[]):=fun x hx=>by
      rw [←Ed hm] at hx
      obtain⟨y,hy,rfl⟩:=List.mem_map.1 hx
      have old:y∈A++B→y.2∈n.f1:=fun hy=>kK (by rw [h1];exact List.mem_append.2 ((List.mem_append.1 hy).imp id (List.mem_cons_of_mem _)))
      rcases h2 with ⟨_,h2⟩ | ⟨hf,h2⟩
      ·rw [h2] at hy;exact .inl (old hy)
      ·rw [h2] at hy
       rcases List.mem_append.1 hy with hy | hy
       ·exact .inl (old (List.mem_append_left _ hy))
       ·rcases List.mem_cons.1 hy with rfl | hy
        ·exact .inr ⟨rfl,hf⟩
        ·exact .inl (old (List.mem_append_right _ hy))
     refine .mk _ hm (fun x hx=>?_) (fun x hx=>?_)
     ·rcases all x hx with h4 | ⟨rfl,h4⟩
      ·exact h.full x h4
      ·exact h4
     ·rcases all x hx with h4 | ⟨rfl,h4⟩
      ·exact h.kid x h4
      ·exact ih
theorem WJ {α β:Type}:∀(l:List (α × β)),(l.map (·.1)).zip (l.map (·.2))=l
 | []=>rfl
 | a::l=>by rw [List.map_cons,List.map_cons,List.zip_cons_cons,WJ l]
theorem SB (c:ByteArray) (n:SN):jo (gX c n)=dU c n.f0 n.f1:=by rw [uV];exact WJ _
theorem yL {c:ByteArray} {x:ByteArray × SN}:∀{ns:List ByteArray} {ks:List SN},x∈dU c ns ks↔∃k,(x.1,k)∈ns.zip ks∧x.2=gX c k∧jP x.2=true
 | [],ks=>by rw [dU];simp
 | y::r,[]=>by rw [dU];simp
 | y::r,k::q=>by
   rw [dU,List.mem_append,yL (ns:=r) (ks:=q),List.zip_cons_cons]
   constructor
   ·rintro(h | ⟨k',h1,h2⟩)
    ·cases hf:jP (gX c k) with
     | false=>rw [hf] at h;cases h
     | true=>
       rw [hf] at h
       obtain rfl:=List.mem_singleton.1 h
       exact⟨k,List.mem_cons_self,rfl,hf⟩
    ·exact⟨k',List.mem_cons_of_mem _ h1,h2⟩
   ·rintro⟨k',h1,h2,h3⟩
    rcases List.mem_cons.1 h1 with h1 | h1
    ·cases h1
     refine .inl ?_
     rw [h2] at h3
     rw [h3]
     exact List.mem_singleton.2 (Prod.ext rfl h2)
    ·exact .inr ⟨k',h1,h2,h3⟩
theorem JU (c:ByteArray):∀(ns:List ByteArray) (ks:List SN),((dU c ns ks).map (·.1)).Sublist ns
 | [],ks=>by rw [dU];exact List.Sublist.refl _
 | y::r,[]=>by rw [dU];exact List.nil_sublist _
 | y::r,k::q=>by
   rw [dU]
   cases jP (gX c k) with
   | false=>exact(JU c r q).cons y
   | true=>exact(JU c r q).cons_cons y
theorem H8 (c:ByteArray):∀(n:SN),Tr n→Gd (gX c n):=fun n ht=>by
 have hp:=SB c n
 have kid:∀x∈(gX c n).f1,∃k∈n.f1,x=gX c k∧jP x=true:=fun x hx=>by
  rw [uV] at hx
  obtain⟨y,hy,rfl⟩:=List.mem_map.1 hx
  obtain⟨k,h1,h2,h3⟩:=yL.1 hy
  exact⟨k,kK (n:=n) h1,h2,h3⟩
 have gk:∀x∈(gX c n).f1,Gd x:=fun x hx=>by
  obtain⟨k,hk,rfl,_⟩:=kid x hx
  exact H8 c k (ht.kid k hk)
 have htr:Tr (gX c n):= .mk _ (by rw [uV];simp) (by rw [uV];exact ht.rise.sublist (JU c n.f0 n.f1)) (fun x hx=>(gk x hx).tr)
 refine .mk _ htr (fun x hx=>?_) gk
 obtain⟨k,hk,_,hf⟩:=kid x hx
 have hlx:=(gk x hx).tr.len
 unfold jP at hf
 rw [Bool.or_eq_true,decide_eq_true_eq,decide_eq_true_eq] at hf
 rcases hf with hf | hf
 ·exact .inl (fun e=>by rw [e] at hlx;simp at hlx;rw [hlx] at hf;simp at hf)
 ·exact .inr (fun e=>by rw [e] at hf;simp at hf)
termination_by n=>SizeOf.sizeOf n
decreasing_by exact jB hk
theorem WL (c:ByteArray):∀(p:List ByteArray) (n:SN),Tr n→dA p (gX c n)=ig c (dA p n)
 | [],n,_=>by rw [uV];rfl
 | t::ts,n,ht=>by
   have hd:=(H8 c n ht).tr
   have hp:=SB c n
   by_cases hk:∃k,(t,k)∈jo n
   ·obtain⟨k,hk⟩:=hk
    have hkm:=kK hk
    rw [mD ht hk,←WL c ts k (ht.kid k hkm)]
    have hkt:=(H8 c k (ht.kid k hkm)).tr
    cases hf:jP (gX c k) with
    | true=>exact mD hd (by rw [hp];exact yL.2 ⟨k,hk,rfl,hf⟩) ts
    | false=>
      unfold jP at hf
      rw [Bool.or_eq_false_iff,decide_eq_false_iff_not,decide_eq_false_iff_not] at hf
      rw [F7 hkt (by rw [←hkt.len];omega) (by omega)]
      refine pX hd (fun k' hk'=>?_) ts
      rw [hp] at hk'
      obtain⟨k2,h1,h2,h3⟩:=yL.1 hk'
      obtain rfl:=aaI ht hk h1
      unfold jP at h3
      rw [h2,Bool.or_eq_true,decide_eq_true_eq,decide_eq_true_eq] at h3
      rcases h3 with h3 | h3
      ·exact hf.1 h3
      ·exact hf.2 h3
   ·rw [pX ht (fun k h=>hk ⟨k,h⟩)]
    refine pX hd (fun k' hk'=>?_) ts
    rw [hp] at hk'
    obtain⟨k2,h1,_⟩:=yL.1 hk'
    exact hk ⟨k2,h1⟩
theorem Fp (c:ByteArray) (e:SE) (es:List SE) (n:SN):gG c (e::es) n=gG c es (bif e.f1.toList==c.toList then cO (ng e.f0) c n else n):=rfl
theorem BN (c:ByteArray):∀(es:List SE) (n:SN),Gd n→Gd (gG c es n)
 | [],n,h=>h
 | e::es,n,h=>by
   rw [Fp]
   cases e.f1.toList==c.toList with
   | true=>exact BN c es _ (OH _ c n h)
   | false=>exact BN c es _ h
theorem BO (c:ByteArray):∀(es:List SE) (n:SN),Gd n→(∀p,dA p (gG c es n)=ig c (dA p n)∨dA p (gG c es n)=dA p n)∧∀e∈es,(e.f1.toList==c.toList)=true→dA (ng e.f0) (gG c es n)=ig c (dA (ng e.f0) n)
 | [],n,h=>⟨fun p=> .inr rfl,fun e he=>by cases he⟩
 | e::es,n,h=>by
   rw [Fp]
   cases hc:e.f1.toList==c.toList with
   | false=>
     obtain⟨h1,h2⟩:=BO c es n h
     refine⟨h1,fun e' he hq=>?_⟩
     rcases List.mem_cons.1 he with rfl | he
     ·rw [hc] at hq;cases hq
     ·exact h2 e' he hq
   | true=>
     obtain⟨h1,h2⟩:=BO c es _ (OH (ng e.f0) c n h)
     have one:∀p,dA p (cO (ng e.f0) c n)=ig c (dA p n)∨dA p (cO (ng e.f0) c n)=dA p n:=fun p=>by
      by_cases hp:p=ng e.f0
      ·rw [hp];exact .inl (Gf _ c n h.tr)
      ·exact .inr (LU _ p c n h.tr hp)
     have two:∀p,ig c (dA p (cO (ng e.f0) c n))=ig c (dA p n):=fun p=>by
      rcases one p with h3 | h3<;>rw [h3]
      exact Ro _ _
     refine⟨fun p=>?_,fun e' he hq=>?_⟩
     ·rcases h1 p with h3 | h3
      ·exact .inl (h3.trans (two p))
      ·rcases one p with h4 | h4
       ·exact .inl (h3.trans h4)
       ·exact .inr (h3.trans h4)
     ·rcases List.mem_cons.1 he with rfl | he
      ·rcases h1 (ng e'.f0) with h3 | h3
       ·exact h3.trans (two _)
       ·exact h3.trans (Gf _ c n h.tr)
      ·exact(h2 e' he hq).trans (two _)
theorem Uz (c:ByteArray) (n:SN) (h:gI n=true):gG c (fZ n) n=gX c n:=by
 obtain⟨ho,hroot⟩:=BM h
 have hg:=(NG n [] ho).1
 have he:fZ n=gW [] n:=by unfold fZ;rw [if_pos h]
 rw [he]
 obtain⟨h1,h2⟩:=BO c (gW [] n) n hg
 refine OD _ _ (BN c _ n hg) (H8 c n hg.tr) (fun p=>?_)
 rw [WL c p n hg.tr]
 rcases h1 p with h3 | h3
 ·exact h3
 ·by_cases hx:∃s∈dA p n,(s.f0.toList==c.toList)=true
  ·obtain⟨s,hs,hq⟩:=hx
   have h4:=OG p n [] hg.tr s hs
   have hp:p≠[]:=fun e=>by rw [e,show dA [] n=n.f2 from rfl,hroot] at hs;cases hs
   have h5:=h2 _ h4 hq
   rw [show ng (mZ ([]++p) s).f0=p from YO hp (LP p n [] ho (fun e=>by rw [e] at hs;cases hs))] at h5
   exact h5
  ·rw [h3]
   unfold ig
   refine(List.filter_eq_self.2 (fun s hs=>?_)).symm
   cases hq:s.f0.toList==c.toList with
   | false=>rfl
   | true=>exact(hx ⟨s,hs,hq⟩).elim
theorem E5 (c:ByteArray) (n:SN):gG c (fZ n) n=bif gI n then gX c n else n:=by
 cases h:gI n with
 | true=>exact Uz c n h
 | false=>unfold fZ;rw [h];rfl
end Go.Proofs.YtcnfgfomholheaaGreatDoor.Q
end
section
namespace Go.Proofs.YtcnfgfomholheaaGreatDoor.Q
open Go.RowKit Go.Proofs.YtcnfgfomholheaaGreatDoor.Z Go.Proofs.YtcnfgfomholheaaGreatDoor.X Go.Proofs.YtcnfgfomholheaaGreatDoor.Pure
set_option linter.unusedVariables false
set_option linter.unusedSimpArgs false
theorem OI:∀(l:List SS) (k:Nat),(aY dQ l k).2=k+3*l.length
 | [],k=>rfl
 | p::l,k=>by
   show(aY dQ l (k+3)).2=_
   rw [OI l (k+3),List.length_cons];omega
mutual
theorem SC:∀(n:SN) (k:Nat),(bJ n k).2≤k+3*cnt n
 | ⟨a,b,c⟩,k=>by
   rw [bJ,cnt]
   show(aY dQ c (qW b (k+1*a.length)).2).2≤_
   rw [OI]
   have:=OJ b (k+1*a.length)
   omega
theorem OJ:∀(l:List SN) (k:Nat),(qW l k).2≤k+3*kJ l
 | [],k=>by rw [qW,kJ];exact Nat.le_refl _
 | p::l,k=>by
   rw [qW,kJ]
   show(qW l (bJ p k).2).2≤_
   have h1:=SC p k
   have h2:=OJ l (bJ p k).2
   omega
end
theorem pY {n:Nat} {x:Int} (h:0≤dZ n x):dZ n x+n≤x:=by unfold dZ at*;split at h<;>(try split)<;>omega
def sumF {α:Type} (g:α→Nat):List α→Nat
 | []=>0
 | a::l=>g a+sumF g l
theorem SG {α:Type} {F:α→Int→Int} {g:α→Nat}:∀{l:List α} {x:Int},(∀a∈l,∀x,0≤x→0≤F a x→F a x+g a≤x)→0≤x→0≤iO F l x→iO F l x+sumF g l≤x
 | [],x,_,_,_=>by show x+((0:Nat):Int)≤x;omega
 | a::l,x,hF,h0,h=>by
   obtain⟨h1,h2⟩:=mF h
   have e:iO F (a::l) x=iO F l (F a x):=zD h1
   have h3:=hF a List.mem_cons_self x h0 h1
   have h4:=SG (g:=g) (l:=l) (fun b hb=>hF b (List.mem_cons_of_mem _ hb)) h1 h2
   rw [e]
   show _+((g a+sumF g l:Nat):Int)≤x
   omega
theorem yM {α:Type} {F:α→Int→Int}:∀{l:List α} {x:Int},(∀a∈l,∀x,0≤x→F a x≤x)→0≤x→0≤iO F l x→∀a∈l,∃v,0≤v∧v≤x∧0≤F a v
 | [],x,_,_,_,a,ha=>by cases ha
 | b::l,x,hF,h0,h,a,ha=>by
   obtain⟨h1,h2⟩:=mF h
   rcases List.mem_cons.1 ha with rfl | ha
   ·exact⟨x,h0,Int.le_refl _,h1⟩
   ·have h3:=hF b List.mem_cons_self x h0
    obtain⟨v,v1,v2,v3⟩:=yM (l:=l) (fun b hb=>hF b (List.mem_cons_of_mem _ hb)) h1 h2 a ha
    exact⟨v,v1,by omega,v3⟩
theorem SH:∀l:List LN,sumF (fun a=>cnt (tN a)) l=kJ (l.map tN)
 | []=>by rw [List.map_nil,kJ];rfl
 | a::l=>by rw [List.map_cons,kJ,←SH l];rfl
theorem SL {l:List ByteArray} {x:Int} (h0:0≤x) (h:0≤Fq l x):Fq l x+l.length≤x:=by
 obtain⟨h1,h2⟩:=mF h
 have e:Fq l x=_:=zD h1
 have h3:=pY h1
 have h4:=qy (F:=fun y:ByteArray=>dZ y.size) (l:=l) (fun a _ x hx=>jC hx) h1
 rw [e];omega
theorem SQ {l:List LS} {x:Int} (h0:0≤x) (h:0≤AY l x):AY l x+l.length≤x:=by
 obtain⟨h1,h2⟩:=mF h
 have e:AY l x=_:=zD h1
 have h3:=pY h1
 have h4:=qy (F:=fun y:LS=>dZ y.f0.size) (l:=l) (fun a _ x hx=>jC hx) h1
 rw [e];omega
theorem LV {a:LN} {x:Int} (h0:0≤x) (h:0≤mG a x):∃x1 x2 x3:Int,Fq a.f0 x=x1∧0≤x1∧x1≤x∧dZ a.f1.length x1=x2∧0≤x2∧x2≤x1∧iO mG a.f1 x2=x3∧0≤x3∧x3≤x2∧0≤AY a.f2 x3∧mG a x=AY a.f2 x3:=by
 rw [OL] at h⊢
 obtain⟨h1,h2⟩:=mF h
 obtain⟨h3,h4⟩:=mF h2
 obtain⟨h5,h6⟩:=mF h3
 have e1:=zD (K:=fun x=>thenS (thenS (dZ a.f1.length x) (iO mG a.f1)) fun x=>AY a.f2 x) h1
 have e2:=zD (K:=fun x=>AY a.f2 x) h3
 have e3:=zD (K:=iO mG a.f1) h5
 refine⟨_,_,_,rfl,h1,OM h0,rfl,h5,jC h1,rfl,h6,qy (fun b _ y hy=>vO b hy) h5,?_,?_⟩
 ·rw [←e3];exact h4
 ·rw [e1,e2,e3]
theorem SV:∀(a:LN) (x:Int),0≤x→0≤mG a x→mG a x+cnt (tN a)≤x:=fun a x h0 h=>by
 obtain⟨x1,x2,x3,e1,a1,b1,e2,a2,b2,e3,a3,b3,h4,e⟩:=LV h0 h
 have g1:=SL h0 (by rw [e1];exact a1)
 have g2:=SG (F:=mG) (g:=fun a=>cnt (tN a)) (l:=a.f1) (fun k hk y hy hz=>SV k y hy hz) a2 (by rw [e3];exact a3)
 have g3:=SQ a3 h4
 rw [e1] at g1
 rw [e3,SH] at g2
 rw [e,UA,abQ]
 show _+(((a.f0.length+(a.f2.map tS).length+kJ (a.f1.map tN):Nat)):Int)≤x
 rw [List.length_map]
 omega
termination_by a=>SizeOf.sizeOf a
decreasing_by exact yN hk
theorem WM:∀(a:LN) (x:Int),0≤x→x≤1048576→0≤mG a x→Bd (tN a)∧OO a:=fun a x h0 hx h=>by
 obtain⟨x1,x2,x3,e1,a1,b1,e2,a2,b2,e3,a3,b3,h4,e⟩:=LV h0 h
 have h1:0≤Fq a.f0 x:=by rw [e1];exact a1
 have g1:=SL h0 h1
 have g3:=SQ a3 h4
 have g2:=pY (n:=a.f1.length) (x:=x1) (by rw [e2];exact a2)
 rw [e1] at g1
 rw [e2] at g2
 have z0:∀y∈a.f0,y.size≤1048576:=fun y hy=>by
  obtain⟨q1,q2⟩:=mF h1
  obtain⟨v,v1,v2,v3⟩:=yM (F:=fun y:ByteArray=>dZ y.size) (fun a _ x hx=>jC hx) q1 q2 y hy
  have:=pY v3
  have:=jC (n:=a.f0.length) h0
  omega
 have z2:∀y∈a.f2,y.f0.size≤1048576:=fun y hy=>by
  obtain⟨q1,q2⟩:=mF h4
  obtain⟨v,v1,v2,v3⟩:=yM (F:=fun y:LS=>dZ y.f0.size) (fun a _ x hx=>jC hx) q1 q2 y hy
  have:=pY v3
  have:=jC (n:=a.f2.length) a3
  omega
 have hk:∀k∈a.f1,Bd (tN k)∧OO k:=fun k hk=>by
  obtain⟨v,v1,v2,v3⟩:=yM (F:=mG) (fun b _ y hy=>vO b hy) a2 (by rw [e3];exact a3) k hk
  exact WM k v v1 (by omega) v3
 refine⟨?_, .mk a (by omega) (by omega) (by omega) (fun k h=>(hk k h).2)⟩
 rw [UA]
 refine .mk _ (by show a.f0.length≤_;omega) z0 (by show(a.f1.map tN).length≤_;rw [List.length_map];omega) (by show(a.f2.map tS).length≤_;rw [List.length_map];omega) (fun y hy=>?_) (fun y hy=>?_)
 ·obtain⟨z,hz,rfl⟩:=List.mem_map.1 hy
  exact z2 z hz
 ·obtain⟨z,hz,rfl⟩:=List.mem_map.1 hy
  exact(hk z hz).1
termination_by a=>SizeOf.sizeOf a
decreasing_by exact yN hk
mutual
theorem SX (c:ByteArray):∀n:SN,cnt (gX c n)≤cnt n
 | ⟨ns,ks,ss⟩=>by
   rw [gX,cnt,cnt]
   have h1:=OQ c ns ks
   have h2:=xg c ss
   have h3:=xu c ns ks
   rw [List.length_map]
   omega
theorem OQ (c:ByteArray):∀(ns:List ByteArray) (ks:List SN),kJ ((dU c ns ks).map (·.2))≤kJ ks
 | x::r,k::q=>by
   rw [dU,kJ]
   have h1:=SX c k
   have h2:=OQ c r q
   cases jP (gX c k) with
   | false=>show kJ ((dU c r q).map (·.2))≤_;omega
   | true=>
     show kJ (gX c k::(dU c r q).map (·.2))≤_
     rw [kJ];omega
 | [],ks=>by rw [dU];show kJ []≤_;rw [kJ];exact Nat.zero_le _
 | x::r,[]=>by rw [dU];show kJ []≤_;rw [kJ];exact Nat.zero_le _
end
end Go.Proofs.YtcnfgfomholheaaGreatDoor.Q
end
section
namespace Go.Proofs.YtcnfgfomholheaaGreatDoor.Q
open Go.RowKit Go.Proofs.YtcnfgfomholheaaGreatDoor.Z Go.Proofs.YtcnfgfomholheaaGreatDoor.Pure
set_option linter.unusedVariables false
set_option linter.unusedSimpArgs false
set_option maxRecDepth 100000
set_option maxHeartbeats 4000000
structure RT where
 v:Int
 t:SN
 k:List SK
structure RL where
 v:Int
 t:LN
 k:List LK
abbrev eG:Nat:=56
abbrev eGL:Nat:=52
abbrev cR (r:RT):List (C0 T.Tb):=[.sc (.int .i64 r.v), .sl 9 r.t.f0, .sl eN r.t.f1, .sl eS r.t.f2, .sl eK r.k]
abbrev WA (r:RL):List (C0 T.Tb):=[.sc (.int .i64 r.v), .sl 9 r.t.f0, .sl qQ r.t.f1, .sl BP r.t.f2, .sl BQ r.k]
abbrev YP (r:RT):RS T.Tb:= .ag [.sc (.int .i64 r.v), .ow 9 r.t.f0, .ow eN r.t.f1, .ow eS r.t.f2, .ow eK r.k]
abbrev JV (r:RL):dJ T:= .bx eGL ((WA r).map (toCell none))
theorem qA {l l':List SK} (h:l=l'):bW (T:=T) eK l eK l':=gy h
def BR (l:List LK) (x:Int):Int:=thenS (dZ l.length x) (iO o8 l)
def SY (a:RL) (x:Int):Int:=thenS (mG a.t x) (BR a.k)
def abR (l:List LK):Prop:=l.length≤140737488351232∧∀y∈l,(y:LK).f0.size≤140737488351232∧(y:LK).f1.length≤140737488351232
def abI (a:RL):Prop:=xY a.t∧abR a.k
theorem YQ (a:LK) (x:Int) (h0:0≤x) (h:o8 a x<0):o8 a x= -1:=by
 unfold o8 thenS at*
 split at h
 ·rename_i hc;rw [if_pos hc]
 ·rename_i hc;rw [if_neg hc];exact S9 h
theorem YR {l:List LK} {x:Int} (h0:0≤x) (h:BR l x<0):BR l x= -1:=by
 unfold BR at*
 by_cases hc:dZ l.length x<0
 ·unfold thenS;rw [if_pos hc]
 ·rw [zD (by omega)] at h⊢
  exact JW YQ (by omega) h
theorem abS (a:RL) (x:Int) (ht:xY a.t) (hk:abR a.k) (h0:0≤x) (h1:x≤1048576):ay T Tryz.prog 36 [.ag (WA a), .c (.sc (.int .i64 x))] (.c (.sc (.int .i64 (SY a x)))):=by
 have hle:=vO a.t h0
 refine aH hT Tryz.func36 (by kernel_rfl) rfl rfl (fun A=>?_)
 conv=>whnf
 refine aA.mk _ (WO a.t ht x h0 h1) ?_
 conv=>whnf
 refine Split.mk (fun c=>?_) (fun c=>?_)
 ·conv=>whnf
  exact aG.mk ⟨rfl,rfl⟩ ⟨rfl,rfl⟩ ⟨iv (Ef c),trivial⟩
 ·obtain⟨e1,e2⟩:=Eh (K:=BR a.k) c
  have e3:SY a x=BR a.k (mG a.t x):=e1
  conv=>whnf
  refine aA.mk _ (aaL a.k (mG a.t x) e2 (Int.le_trans hle h1) hk.1 hk.2) ?_
  conv=>whnf
  refine Split.mk (fun c=>?_) (fun c=>?_)
  ·conv=>whnf
   exact aG.mk ⟨rfl,rfl⟩ ⟨rfl,rfl⟩ ⟨iv (e3.trans (YR e2 (JX c))),trivial⟩
  ·conv=>whnf
   exact aG.mk ⟨rfl,rfl⟩ ⟨rfl,rfl⟩ ⟨iv e3,trivial⟩
def tR (a:RL):RT:=⟨a.v,tN a.t,a.k.map tK⟩
theorem abT (a:RL) (ht:OO a.t) (hk:a.k.length≤1048576) (hy:∀y∈a.k,(y:LK).f1.length≤1048576):ay T Tryz.prog 38 [.ag (WA a)] (YP (tR a)):=by
 refine aH hT Tryz.func38 (by kernel_rfl) rfl rfl (fun A=>?_)
 conv=>whnf
 refine aA.mk _ (WQ a.t ht) ?_
 conv=>whnf
 refine aA.mk _ (aaM a.k hk hy) ?_
 conv=>whnf
 exact aG.mk ⟨rfl,rfl⟩ ⟨rfl,rfl⟩ ⟨rfl,rfl,rfl,rfl,rfl,trivial⟩
structure H9 (r:RT):Prop where
 t:Bd r.t
 k:r.k.length≤2097152
 b:∀y∈r.k,(y:SK).f1.length≤2097152
theorem abU {a b:RT} (h:a.v=b.v) (h2:a.t=b.t) (h3:a.k=b.k):a=b:=by cases a;cases b;cases h;cases h2;cases h3;rfl
theorem WR (a b:RT) (ha:H9 a):ay T Tryz.prog 40 [.ag (cR a), .ag (cR b)] (.c (.sc (.bool (same a b)))):=by
 refine aH hT Tryz.func40 (by kernel_rfl) rfl rfl (fun A=>?_)
 conv=>whnf
 refine Split.mk (fun c=>?_) (fun c=>?_)
 ·conv=>whnf
  exact aG.mk ⟨rfl,rfl⟩ ⟨rfl,rfl⟩ ⟨bv (iT (fun e=>vP c (congrArg RT.v e))),trivial⟩
 have h1:a.v=b.v:=OT c
 conv=>whnf
 refine aA.mk _ (WS a.t ha.t b.t) ?_
 conv=>whnf
 refine Split.mk (fun c=>?_) (fun c=>?_)
 ·conv=>whnf
  exact aG.mk ⟨rfl,rfl⟩ ⟨rfl,rfl⟩ ⟨bv (iT (fun e=>jd (dh c) (congrArg RT.t e))),trivial⟩
 have h2:a.t=b.t:=of_same (dB c)
 conv=>whnf
 refine aA.mk _ (aaN a.k b.k (Nat.le_trans ha.k (by decide)) (fun y hy=>Nat.le_trans (ha.b y hy) (by decide))) ?_
 conv=>whnf
 refine Split.mk (fun c=>?_) (fun c=>?_)
 ·conv=>whnf
  exact aG.mk ⟨rfl,rfl⟩ ⟨rfl,rfl⟩ ⟨bv (iT (fun e=>jd (dh c) (congrArg RT.k e))),trivial⟩
 have h3:a.k=b.k:=of_same (dB c)
 conv=>whnf
 exact aG.mk ⟨rfl,rfl⟩ ⟨rfl,rfl⟩ ⟨bv (qB (abU h1 h2 h3)),trivial⟩
def jJ (r:RT) (k:Nat):RT × Nat:=(⟨r.v,(bJ r.t k).1,(aY (β:=SK) fA r.k (bJ r.t k).2).1⟩,(aY (β:=SK) fA r.k (bJ r.t k).2).2)
theorem OU (r:RT) (k:Nat) (hr:H9 r) (h0:0<k) (hk:(jJ r k).2≤4611686018427387904):CallWOb T Tryz.prog 41 [.ag [.c (.sc (.int .i64 r.v)), .ow 9 r.t.f0 9 (jJ r k).1.t.f0, .ow eN r.t.f1 eN (jJ r k).1.t.f1, .ow eS r.t.f2 eS (jJ r k).1.t.f2, .ow eK r.k eK (jJ r k).1.k], .c (.c (.sc (.int .i64 (k:Int))))] (.c (.sc (.int .i64 ((jJ r k).2:Int)))):=by
 have g1:=lq r.t k
 have g2:=iH uX r.k (bJ r.t k).2
 have hk2:(aY (β:=SK) fA r.k (bJ r.t k).2).2≤4611686018427387904:=hk
 have h1:=YS r.t k hr.t h0 (Nat.le_trans g2 hk2)
 have h2:=WT r.k (bJ r.t k).2 hr.k hr.b (by omega) hk2
 refine rW hT Tryz.func41 (by kernel_rfl) rfl rfl (fun A=>?_)
 conv=>whnf
 refine aA.wr [[NW.wr 9 (bJ r.t k).1.f0,NW.wr eN (bJ r.t k).1.f1,NW.wr eS (bJ r.t k).1.f2],[NW.rd]] (.c (.sc (.int .i64 ((bJ r.t k).2:Int)))) ?_
 conv=>whnf
 refine jW.mk h1 ?_
 conv=>whnf
 refine aA.wr [[NW.wr eK (aY (β:=SK) fA r.k (bJ r.t k).2).1],[NW.rd]] (.c (.sc (.int .i64 ((aY (β:=SK) fA r.k (bJ r.t k).2).2:Int)))) ?_
 conv=>whnf
 refine jW.mk h2 ?_
 conv=>whnf
 exact xw.mk ⟨rfl,rfl⟩ ⟨⟨rfl,rfl⟩,rfl⟩ ⟨rfl,trivial⟩ ⟨rfl,rfl,rfl,rfl,trivial⟩
theorem YT (r:RT) (k:Nat) (hr:H9 r) (h0:0<k) (hk:(jJ r k).2≤4611686018427387904):ay T Tryz.prog 42 [.ag (cR (jJ r k).1), .c (.sc (.int .i64 (k:Int)))] (.c (.sc (.int .i64 ((jJ r k).2:Int)))):=by
 have g1:=lq r.t k
 have g2:=iH uX r.k (bJ r.t k).2
 have hk2:(aY (β:=SK) fA r.k (bJ r.t k).2).2≤4611686018427387904:=hk
 have h1:=YU r.t k hr.t h0 (Nat.le_trans g2 hk2)
 have h2:=WU r.k (bJ r.t k).2 hr.k hr.b (by omega) hk2
 refine aH hT Tryz.func42 (by kernel_rfl) rfl rfl (fun A=>?_)
 conv=>whnf
 refine aA.mk _ h1 ?_
 conv=>whnf
 refine Split.mk (fun c=>AZ c) (fun c=>?_)
 clear c
 conv=>whnf
 refine aA.mk _ h2 ?_
 conv=>whnf
 refine Split.mk (fun c=>AZ c) (fun c=>?_)
 clear c
 conv=>whnf
 exact aG.mk ⟨rfl,rfl⟩ ⟨rfl,rfl⟩ ⟨rfl,trivial⟩
theorem OV:∀(l:List SK) (k b:Nat),(∀y∈l,(y:SK).f1.length≤b)→(aY (β:=SK) fA l k).2≤k+(2+b)*l.length
 | [],k,b,_=>Nat.le_refl _
 | p::l,k,b,h=>by
   show(aY (β:=SK) fA l (k+1+1*p.f1.length+1)).2≤_
   have h1:=OV l (k+1+1*p.f1.length+1) b (fun y hy=>h y (List.mem_cons_of_mem _ hy))
   have h2:=h p List.mem_cons_self
   rw [List.length_cons,Nat.mul_succ]
   omega
structure BK (l:List SK):Prop where
 k:l.length≤1048576
 b:∀y∈l,(y:SK).f1.length≤1048576
 t:∀y∈l,(y:SK).f0.size≤1048576
theorem aaO {l:List LK} {x:Int} (h0:0≤x) (hx:x≤1048576) (h:0≤BR l x):BK (l.map tK)∧l.length≤1048576∧∀y∈l,(y:LK).f1.length≤1048576:=by
 obtain⟨h1,h2⟩:=mF h
 have h3:=pY h1
 have hl:l.length≤1048576:=by omega
 have each:∀y∈l,(y:LK).f1.length≤1048576∧(y:LK).f0.size≤1048576:=fun y hy=>by
  obtain⟨v,v1,v2,v3⟩:=yM (F:=o8) (fun a _ x hx=>JY hx) h1 h2 y hy
  obtain⟨g1,g2⟩:=mF v3
  have g3:=pY g1
  have g4:=pY g2
  have:=jC (n:=l.length) h0
  omega
 refine⟨⟨by rw [List.length_map];exact hl,fun y hy=>?_,fun y hy=>?_⟩,hl,fun y hy=>(each y hy).1⟩
 ·obtain⟨z,hz,rfl⟩:=List.mem_map.1 hy
  exact(each z hz).1
 ·obtain⟨z,hz,rfl⟩:=List.mem_map.1 hy
  exact(each z hz).2
theorem abV {a:RL} {x:Int} (h0:0≤x) (hx:x≤1048576) (h:0≤SY a x):OO a.t∧Bd (tR a).t∧(cnt (tR a).t:Int)≤x∧BK (tR a).k∧a.k.length≤1048576∧(∀y∈a.k,(y:LK).f1.length≤1048576)∧SY a x≤x:=by
 obtain⟨h1,h2⟩:=mF h
 obtain⟨b1,b2⟩:=WM a.t x h0 hx h1
 have c1:=SV a.t x h0 h1
 have hle:=vO a.t h0
 obtain⟨k1,k2,k3⟩:=aaO h1 (by omega) h2
 refine⟨b2,b1,by show(cnt (tN a.t):Int)≤x;omega,k1,k2,k3,?_⟩
 unfold SY
 exact uD h0 hle (fun h=>by unfold BR;exact uD h (jC h) (fun h=>qy (fun a _ x hx=>JY hx) h))
theorem BK.bdr {v:Int} {t:SN} {l:List SK} (h:BK l) (ht:Bd t):H9 ⟨v,t,l⟩:=⟨ht,Nat.le_trans h.k (by decide),fun y hy=>Nat.le_trans (h.b y hy) (by decide)⟩
theorem JZ (r:RT) (h:BK r.k) (hc:cnt r.t≤2097152):(jJ r 1).2≤4611686018427387904:=by
 have h1:=SC r.t 1
 have h2:=OV r.k (bJ r.t 1).2 1048576 h.b
 have h3:(2+1048576)*r.k.length≤(2+1048576)*1048576:=Nat.mul_le_mul_left _ h.k
 show(aY (β:=SK) fA r.k (bJ r.t 1).2).2≤_
 omega
end Go.Proofs.YtcnfgfomholheaaGreatDoor.Q
end
section
namespace Go.Proofs.YtcnfgfomholheaaGreatDoor.Q
open Go.RowKit Go.Proofs.YtcnfgfomholheaaGreatDoor.Z Go.Proofs.YtcnfgfomholheaaGreatDoor.Pure
set_option linter.unusedVariables false
set_option linter.unusedSimpArgs false
set_option maxRecDepth 100000
set_option maxHeartbeats 4000000
def UC (ls:List ByteArray) (c:ByteArray) (l:List SS):List SS:=bif decide (0<ls.length) then l else ig c l
structure Pk (ls:List ByteArray) (c:ByteArray) (f:ByteArray→SN→SN) (n:SN):Prop where
 no:ls.length=0→∀x k,f x k=k
 ne:0<ls.length→∀x k,(x.toList==(g9 ls 0).toList)=false→f x k=k
 eq:0<ls.length→∀x,∀k∈n.f1,(x.toList==(g9 ls 0).toList)=true→ay T Tryz.prog 96 [.ag (T.cells eN k), .c (.sl 9 ((ls.drop 1).take (ls.length - 1))), .c (.sc (.bool false)), .c (.sc (.string c))] (Oz (f x k))
end Go.Proofs.YtcnfgfomholheaaGreatDoor.Q
end
section
namespace Go.Proofs.YtcnfgfomholheaaGreatDoor.Q
open Go.RowKit Go.Proofs.YtcnfgfomholheaaGreatDoor.Z Go.Proofs.YtcnfgfomholheaaGreatDoor.Pure
set_option linter.unusedVariables false
set_option linter.unusedSimpArgs false
set_option maxRecDepth 100000
set_option maxHeartbeats 4000000
end Go.Proofs.YtcnfgfomholheaaGreatDoor.Q
end
section
namespace Go.Proofs.YtcnfgfomholheaaGreatDoor.Q
open Go.RowKit Go.Proofs.YtcnfgfomholheaaGreatDoor.Z Go.Proofs.YtcnfgfomholheaaGreatDoor.Pure
set_option linter.unusedVariables false
set_option linter.unusedSimpArgs false
set_option maxRecDepth 100000
set_option maxHeartbeats 4000000
theorem Gg (n:SN) (p:List ByteArray) (hn:Bd n) (hl:n.f0.length=n.f1.length) (hp:p.length≤7) (hz:∀x∈p,x.size≤1048576) (hc:(gW p n).length≤4194304)
  (ih:∀i,i<n.f1.length→ay T Tryz.prog 178 [.ag (T.cells eN (bD T eN n.f1 i)), .c (.sc (.string (dn (p++[g9 n.f0 i])))), .c (.sc (.int .i64 ((p.length+1:Nat):Int)))] (.c (.ow eE (gW (p++[g9 n.f0 i]) (bD T eN n.f1 i))))):ay T Tryz.prog 178 [.ag (T.cells eN n), .c (.sc (.string (dn p))), .c (.sc (.int .i64 (p.length:Int)))] (.c (.ow eE (gW p n))):=by
 have hl2:=hn.l2
 have hjs:=rV p hp hz
 rw [qV] at hc⊢
 rw [List.length_append,List.length_map] at hc
 refine kP hT Tryz.func178 (by kernel_rfl) rfl rfl (fun A=>?_)
 refine Vc.of 0 hT ?_
 conv=>whnf
 refine dM.mk {k:Nat // k≤n.f2.length} (fun q=>(2,[(8,i64 q.1),(7, .c (.hd 1)),(3, .c (.px 0 0)),(1, .c (.sc (.string (dn p)))),(2,i64 p.length)],[(1, .row 1 eE ((n.f2.take q.1).map (mZ p))),(0,xq n)])) (fun q=>n.f2.length - q.1) ⟨0,Nat.zero_le _⟩ (aC [(1,1),(0,0)] rfl rfl rfl ⟨⟨rfl,rfl⟩,⟨rfl,rfl⟩,⟨rfl,rfl⟩,⟨rfl,rfl⟩,⟨rfl,rfl⟩,trivial⟩ ⟨vI rfl,⟨rfl,rfl⟩,trivial⟩) ?_
 rintro⟨k,hk⟩
 conv=>whnf
 refine Split.mk (fun c=>?_) (fun c=>?_)
 ·have hk2:k<n.f2.length:=iw c
  clear c
  conv=>whnf
  refine Need.mk (idx hk2) ?_
  conv=>whnf
  refine Need.mk (idx hk2) ?_
  conv=>whnf
  refine Need.mk (idx hk2) ?_
  conv=>whnf
  refine Need.mk (dH (a:=((n.f2.take k).map (mZ p)).length) (b:=1) (by rw [List.length_map,List.length_take];omega) (by decide)) ?_
  conv=>whnf
  refine bH.mk ⟨by kernel_rfl,by kernel_rfl⟩ ?_
  conv=>whnf
  exact bI.mk ⟨⟨k+1,hk2⟩,Nat.sub_lt_sub_left hk2 (Nat.lt_succ_self k),aC [(1,3),(0,0)] rfl rfl rfl ⟨⟨rfl,congrArg i64 (dY hk2 (by omega))⟩,⟨rfl,rfl⟩,⟨rfl,rfl⟩,⟨rfl,rfl⟩,⟨rfl,rfl⟩,trivial⟩ ⟨vI (AX (d:=T.df eS) hk2),⟨rfl,rfl⟩,trivial⟩⟩
 ·have hk2:k=n.f2.length:=Nat.le_antisymm hk (iy c)
  clear c
  subst hk2
  have hl1:=hn.l1
  conv=>whnf
  refine dM.mk {k:Nat // k≤n.f0.length} (fun q=>(2,[(9,i64 q.1),(7, .c (.hd 1)),(3, .c (.px 0 0)),(1, .c (.sc (.string (dn p)))),(2,i64 p.length)],[(1, .row 1 eE (n.f2.map (mZ p)++dR p (n.f0.take q.1) (n.f1.take q.1))),(0,xq n)])) (fun q=>n.f0.length - q.1) ⟨0,Nat.zero_le _⟩ (aC [(1,1),(0,0)] rfl rfl rfl ⟨⟨rfl,rfl⟩,⟨rfl,rfl⟩,⟨rfl,rfl⟩,⟨rfl,rfl⟩,⟨rfl,rfl⟩,trivial⟩ ⟨vI (by rw [List.take_length];simp [dR];rfl),⟨rfl,rfl⟩,trivial⟩) ?_
  rintro⟨k,hk⟩
  conv=>whnf
  refine Split.mk (fun c=>?_) (fun c=>?_)
  ·have hk3:k<n.f0.length:=iw c
   have hk2:k<n.f1.length:=by omega
   clear c
   have ihk:=ih k hk2
   rw [show(((p.length+1:Nat)):Int)=wrap64 ((p.length:Int)+1) from d1_ (by omega)] at ihk
   have hsn:=uw (p:=p) (d:=T.df 9) (e:=T.df eN) hk3 hk2
   have hle:=oP (p:=p) (ns:=n.f0) (ks:=n.f1) (k:=k+1)
   rw [hsn,List.length_append] at hle
   have hap:(n.f2.map (mZ p)++dR p (n.f0.take k) (n.f1.take k)).length+(gW (p++[g9 n.f0 k]) (bD T eN n.f1 k)).length≤8388608:=by
    rw [List.length_append,List.length_map]
    have hle':_+(gW (p++[g9 n.f0 k]) (bD T eN n.f1 k)).length≤_:=hle
    omega
   have hx:(g9 n.f0 k).size≤1048576:=hn.z0 _ (Oy hk3)
   conv=>whnf
   refine Need.mk (idx hk3) ?_
   conv=>whnf
   refine Split.mk (fun c=>?_) (fun c=>?_)
   ·have h1:0<p.length:=kF c
    have e:(dn p++(⟨#[47]⟩:ByteArray))++g9 n.f0 k=dn (p++[g9 n.f0 k]):=(if_pos h1).symm.trans (BU p p.length rfl _)
    rw [←e] at ihk
    have hs1:(dn p++(⟨#[47]⟩:ByteArray)).size=(dn p).size+1:=rX _ _
    conv=>whnf
    refine Need.mk (show(dn p).size+1≤9223372036854775807 by omega) ?_
    conv=>whnf
    refine Need.mk (show(dn p++(⟨#[47]⟩:ByteArray)).size+(g9 n.f0 k).size≤9223372036854775807 by omega) ?_
    conv=>whnf
    refine Need.mk (idx hk2) ?_
    conv=>whnf
    refine aA.mk _ ihk ?_
    conv=>whnf
    refine Need.mk (dH (a:=(n.f2.map (mZ p)++dR p (n.f0.take k) (n.f1.take k)).length) (b:=(gW (p++[g9 n.f0 k]) (bD T eN n.f1 k)).length) hap (by decide)) ?_
    conv=>whnf
    exact bI.mk ⟨⟨k+1,hk3⟩,Nat.sub_lt_sub_left hk3 (Nat.lt_succ_self k),aC [(1,3),(0,0)] rfl rfl rfl ⟨⟨rfl,congrArg i64 (dY hk3 (by omega))⟩,⟨rfl,rfl⟩,⟨rfl,rfl⟩,⟨rfl,rfl⟩,⟨rfl,rfl⟩,trivial⟩ ⟨vI (show(n.f2.map (mZ p)++dR p (n.f0.take k) (n.f1.take k))++gW (p++[g9 n.f0 k]) (bD T eN n.f1 k)=n.f2.map (mZ p)++dR p (n.f0.take (k+1)) (n.f1.take (k+1)) by rw [hsn,List.append_assoc];rfl),⟨rfl,rfl⟩,trivial⟩⟩
   ·have h1:p.length=0:=kG c
    have e:g9 n.f0 k=dn (p++[g9 n.f0 k]):=(if_neg (show ¬0<p.length by omega)).symm.trans (BU p p.length rfl _)
    rw [←e] at ihk
    conv=>whnf
    refine Need.mk (idx hk2) ?_
    conv=>whnf
    refine aA.mk _ ihk ?_
    conv=>whnf
    refine Need.mk (dH (a:=(n.f2.map (mZ p)++dR p (n.f0.take k) (n.f1.take k)).length) (b:=(gW (p++[g9 n.f0 k]) (bD T eN n.f1 k)).length) hap (by decide)) ?_
    conv=>whnf
    exact bI.mk ⟨⟨k+1,hk3⟩,Nat.sub_lt_sub_left hk3 (Nat.lt_succ_self k),aC [(1,3),(0,0)] rfl rfl rfl ⟨⟨rfl,congrArg i64 (dY hk3 (by omega))⟩,⟨rfl,rfl⟩,⟨rfl,rfl⟩,⟨rfl,rfl⟩,⟨rfl,rfl⟩,trivial⟩ ⟨vI (show(n.f2.map (mZ p)++dR p (n.f0.take k) (n.f1.take k))++gW (p++[g9 n.f0 k]) (bD T eN n.f1 k)=n.f2.map (mZ p)++dR p (n.f0.take (k+1)) (n.f1.take (k+1)) by rw [hsn,List.append_assoc];rfl),⟨rfl,rfl⟩,trivial⟩⟩
  ·have hk2:k=n.f0.length:=Nat.le_antisymm hk (iy c)
   clear c
   conv=>whnf
   exact aG.mk ⟨rfl,rfl⟩ ⟨rfl,rfl⟩ ⟨vI (by show n.f2.map (mZ p)++dR p (n.f0.take k) (n.f1.take k)=_;rw [hk2,List.take_length,hl,List.take_length]),trivial⟩
theorem Ba:∀(n:SN) (p:List ByteArray) (d:Nat),Bd n→Tr n→Dp d n→p.length+d≤7→(∀x∈p,x.size≤1048576)→(gW p n).length≤4194304→ay T Tryz.prog 178 [.ag (T.cells eN n), .c (.sc (.string (dn p))), .c (.sc (.int .i64 (p.length:Int)))] (.c (.ow eE (gW p n))):=fun n p d hn ht hd hp hz hc=>
 Gg n p hn ht.len (by omega) hz hc (fun i hi=>by
  have hm:bD T eN n.f1 i∈n.f1:=vM hi
  have h9:g9 n.f0 i∈n.f0:=Oy (by rw [ht.len];exact hi)
  have hpos:=hd.pos (fun e=>by rw [e] at hi;simp at hi)
  have hx:(bD T eN n.f1 i:SN)∈n.f1:=hm
  have hlen:(p++[g9 n.f0 i]).length=p.length+1:=by rw [List.length_append];rfl
  have:=Ba (bD T eN n.f1 i) (p++[g9 n.f0 i]) (d - 1) (hn.kid _ hm) (ht.kid _ hm) (hd.kid _ hm) (by rw [hlen];omega) (fun y hy=>(List.mem_append.1 hy).elim (hz y) (fun h=>by rw [List.mem_singleton.1 h];exact hn.z0 _ h9)) (Nat.le_trans (LD hi ht.len) hc)
  rw [hlen] at this
  exact this)
termination_by n=>SizeOf.sizeOf n
decreasing_by exact jB hm
theorem specEntries (n:SN) (hn:Bd n) (hg:gI n=true→Tr n∧Dp 7 n) (hc:(fZ n).length≤4194304):ay T Tryz.prog 107 [.ag (T.cells eN n)] (.c (.ow eE (fZ n))):=by
 refine aH hT Tryz.func107 (by kernel_rfl) rfl rfl (fun A=>?_)
 conv=>whnf
 refine aA.mk _ (zB n hn) ?_
 conv=>whnf
 refine Split.mk (fun c=>?_) (fun c=>?_)
 ·have h0:gI n=false:=dh c
  conv=>whnf
  exact aG.mk ⟨rfl,rfl⟩ ⟨rfl,rfl⟩ ⟨vI (show []=fZ n by unfold fZ;rw [h0];rfl),trivial⟩
 ·have h0:gI n=true:=dB c
  have he:fZ n=gW [] n:=by unfold fZ;rw [if_pos h0]
  rw [he] at hc⊢
  conv=>whnf
  refine aA.mk _ (Ba n [] 7 hn (hg h0).1 (hg h0).2 (by decide) (fun x hx=>by cases hx) hc) ?_
  conv=>whnf
  exact aG.mk ⟨rfl,rfl⟩ ⟨rfl,rfl⟩ ⟨rfl,trivial⟩
end Go.Proofs.YtcnfgfomholheaaGreatDoor.Q
end
section
namespace Go.Proofs.YtcnfgfomholheaaGreatDoor.Q
open Go.RowKit Go.Proofs.YtcnfgfomholheaaGreatDoor.Z Go.Proofs.YtcnfgfomholheaaGreatDoor.X Go.Proofs.YtcnfgfomholheaaGreatDoor.Pure
set_option linter.unusedVariables false
set_option linter.unusedSimpArgs false
end Go.Proofs.YtcnfgfomholheaaGreatDoor.Q
end
section
namespace Go.Proofs.YtcnfgfomholheaaGreatDoor.Q
open Go.RowKit Go.Proofs.YtcnfgfomholheaaGreatDoor.Z Go.Proofs.YtcnfgfomholheaaGreatDoor.X Go.Proofs.YtcnfgfomholheaaGreatDoor.Pure
set_option linter.unusedVariables false
set_option linter.unusedSimpArgs false
inductive Tx:SN→Prop
 | mk (n:SN) (z0:∀x∈n.f0,ByteArray.size x≤1048576) (z2:∀x∈n.f2,(x:SS).f0.size≤1048576) (hk:∀k∈n.f1,Tx k):Tx n
theorem Tx.z0 {n:SN} (h:Tx n):∀x∈n.f0,ByteArray.size x≤1048576:=by cases h;assumption
theorem Tx.z2 {n:SN} (h:Tx n):∀x∈n.f2,(x:SS).f0.size≤1048576:=by cases h;assumption
theorem Tx.kid {n:SN} (h:Tx n):∀k∈n.f1,Tx k:=by cases h;assumption
end Go.Proofs.YtcnfgfomholheaaGreatDoor.Q
end
section
namespace Go.Proofs.YtcnfgfomholheaaGreatDoor.Q
open Go.RowKit Go.Proofs.YtcnfgfomholheaaGreatDoor.Z Go.Proofs.YtcnfgfomholheaaGreatDoor.X Go.Proofs.YtcnfgfomholheaaGreatDoor.Pure
set_option linter.unusedVariables false
set_option linter.unusedSimpArgs false
set_option maxRecDepth 100000
set_option maxHeartbeats 4000000
end Go.Proofs.YtcnfgfomholheaaGreatDoor.Q
end
section
namespace Go.Proofs.YtcnfgfomholheaaGreatDoor.Q
open Go.RowKit Go.Proofs.YtcnfgfomholheaaGreatDoor.Z Go.Proofs.YtcnfgfomholheaaGreatDoor.X Go.Proofs.YtcnfgfomholheaaGreatDoor.Pure
set_option linter.unusedVariables false
set_option linter.unusedSimpArgs false
set_option maxRecDepth 100000
set_option maxHeartbeats 4000000
end Go.Proofs.YtcnfgfomholheaaGreatDoor.Q
end
section
namespace Go.Proofs.YtcnfgfomholheaaGreatDoor.Q
open Go.RowKit Go.Proofs.YtcnfgfomholheaaGreatDoor.Z Go.Proofs.YtcnfgfomholheaaGreatDoor.X Go.Proofs.YtcnfgfomholheaaGreatDoor.Pure
set_option linter.unusedVariables false
set_option linter.unusedSimpArgs false
set_option maxRecDepth 100000
set_option maxHeartbeats 4000000
end Go.Proofs.YtcnfgfomholheaaGreatDoor.Q
end
section
namespace Go.Proofs.YtcnfgfomholheaaGreatDoor.Q
open Go.RowKit Go.Proofs.YtcnfgfomholheaaGreatDoor.Z Go.Proofs.YtcnfgfomholheaaGreatDoor.X Go.Proofs.YtcnfgfomholheaaGreatDoor.Pure
set_option linter.unusedVariables false
set_option linter.unusedSimpArgs false
set_option maxRecDepth 100000
set_option maxHeartbeats 4000000
end Go.Proofs.YtcnfgfomholheaaGreatDoor.Q
end
section
namespace Go.Proofs.YtcnfgfomholheaaGreatDoor.Q
open Go.RowKit Go.Proofs.YtcnfgfomholheaaGreatDoor.Z Go.Proofs.YtcnfgfomholheaaGreatDoor.Pure
set_option linter.unusedVariables false
set_option linter.unusedSimpArgs false
set_option maxRecDepth 100000
set_option maxHeartbeats 4000000
theorem flat5:qX T 5:=fun _=>rfl
abbrev gK (l:List SK) (i:Nat):SK:=bD T eK l i
theorem aer (k:SK):(⟨k.f0,k.f1,k.f2⟩:SK)=k:=by cases k;rfl
theorem aaP {l:List (List Int)} {M:Nat} (h:∀x∈l,x.length≤M):l.flatten.length≤l.length*M:=by
 induction l with
 | nil=>simp
 | cons x l ih=>
   have:=h x List.mem_cons_self
   have:=ih (fun y hy=>h y (List.mem_cons_of_mem _ hy))
   simp only [List.flatten_cons,List.length_append,List.length_cons,Nat.succ_mul]
   omega
theorem WV {l:List (List Int)} {k:Nat} (hk:k<l.length):(l.take k).flatten++l.getD k []=(l.take (k+1)).flatten:=by
 rw [List.take_succ_eq_append_getElem hk]
 have:l.getD k []=l[k]:=by simp [hk]
 rw [this,List.flatten_append];simp
theorem ap_ {m n:Nat} (h:m+n≤100000000000):m+n≤maxLen∧(m+n)*1≤140737488355328:=by simp only [maxLen];omega
theorem joined (ps:List (List Int)) (hn:ps.length≤16) (hs:∀x∈ps,x.length≤4194304):ay T Tryz.prog 169 [.c (.sl 68 ps)] (.c (.ow 5 ps.flatten)):=by
 refine aH hT Tryz.func169 (by kernel_rfl) rfl rfl (fun A=>?_)
 conv=>whnf
 refine dM.mk {k:Nat // k≤ps.length} (fun p=>(2,[(9,i64 p.1),(8,i64 ps.length),(7,im 68 ps),(3, .c (.hd 0))],[(0, .row 1 5 (ps.take p.1).flatten)])) (fun p=>ps.length - p.1) ⟨0,Nat.zero_le _⟩ (aC [(0,0)] rfl rfl rfl ⟨⟨rfl,rfl⟩,⟨rfl,rfl⟩,⟨rfl,rfl⟩,⟨rfl,rfl⟩,trivial⟩ ⟨show bW (T:=T) 5 [] 5 (ps.take 0).flatten from gy rfl,trivial⟩) ?_
 rintro⟨k,hk⟩
 conv=>whnf
 refine Split.mk (fun c=>?_) (fun c=>?_)
 ·have hk2:k<ps.length:=iw c
  clear c
  have hm:(ps.getD k []).length≤4194304:=hs _ (getD_mem (d:=[]) hk2)
  have hf:(ps.take k).flatten.length≤67108864:=by
   have h1:=aaP (l:=ps.take k) (M:=4194304) (fun x hx=>hs x (List.mem_of_mem_take hx))
   have h2:(ps.take k).length≤16:=by rw [List.length_take];omega
   have h3:=Nat.mul_le_mul_right 4194304 h2
   omega
  conv=>whnf
  refine Need.mk (idx hk2) ?_
  conv=>whnf
  refine Need.mk ⟨flat5,ap_ (show(ps.take k).flatten.length+(ps.getD k []).length≤100000000000 by omega)⟩ ?_
  conv=>whnf
  exact bI.mk ⟨⟨k+1,hk2⟩,Nat.sub_lt_sub_left hk2 (Nat.lt_succ_self k),aC [(0,2)] rfl rfl rfl ⟨⟨rfl,congrArg i64 (dY hk2 (by omega))⟩,⟨rfl,rfl⟩,⟨rfl,rfl⟩,⟨rfl,rfl⟩,trivial⟩ ⟨show bW (T:=T) 5 ((ps.take k).flatten++ps.getD k []) 5 (ps.take (k+1)).flatten from gy (WV hk2),trivial⟩⟩
 ·have hk2:k=ps.length:=Nat.le_antisymm hk (iy c)
  clear c
  conv=>whnf
  subst hk2
  exact aG.mk ⟨rfl,rfl⟩ ⟨rfl,rfl⟩ ⟨show bW (T:=T) 5 (ps.take ps.length).flatten 5 ps.flatten from gy (by rw [List.take_length]),trivial⟩
theorem all1 {M:Nat} {b:List Int} (h:b.length≤M):∀x∈[b],x.length≤M:=by intro x hx;simp at hx;subst hx;exact h
theorem aaQ (b:List Int) (hs:b.length≤4194304):ay T Tryz.prog 169 [.c (.sl 68 ([b]:List (List Int)))] (.c (.ow 5 b)):=by
 have h:=joined [b] (by simp) (all1 hs)
 rwa [show([b]:List (List Int)).flatten=b by simp] at h
theorem aae {l:List SK} {k:Nat} (h:k<l.length):l.take k++[(⟨(gK l k).f0,(gK l k).f1,(gK l k).f2⟩:SK)]=l.take (k+1):=by
 rw [aer,show gK l k=l[k] from getD_in (α:=SK) l k (T.df eK) h,List.take_succ_eq_append_getElem h]
theorem Ia {l:List SK} {i:Nat} (h:i<l.length):gK l i∈l:=getD_mem (l:=l) (d:=T.df eK) h
theorem OW (l:List SK) (hl:l.length≤2097152) (hb:∀y∈l,(y:SK).f1.length≤2097152):ay T Tryz.prog 165 [.c (.sl eK l)] (.c (.ow eK l)):=by
 refine aH hT Tryz.func165 (by kernel_rfl) rfl rfl (fun A=>?_)
 conv=>whnf
 refine dM.mk {k:Nat // k≤l.length} (fun p=>(3,[(9,i64 p.1),(8,i64 l.length),(7,im eK l),(3, .c (.hd 0))],[(0, .row 1 eK (l.take p.1))])) (fun p=>l.length - p.1) ⟨0,Nat.zero_le _⟩ (aC [(0,0)] rfl rfl rfl ⟨⟨rfl,rfl⟩,⟨rfl,rfl⟩,⟨rfl,rfl⟩,⟨rfl,rfl⟩,trivial⟩ ⟨qA rfl,trivial⟩) ?_
 rintro⟨k,hk⟩
 conv=>whnf
 refine Split.mk (fun c=>?_) (fun c=>?_)
 ·have hk2:k<l.length:=iw c
  clear c
  have h1:=hb _ (Ia hk2)
  conv=>whnf
  refine Need.mk (idx hk2) ?_
  conv=>whnf
  refine aA.mk _ (aaQ (gK l k).f1 (by omega)) ?_
  conv=>whnf
  refine Need.mk (dH (a:=(l.take k).length) (b:=1) (by rw [List.length_take];omega) (by decide)) ?_
  conv=>whnf
  refine bH.mk ⟨by kernel_rfl,by kernel_rfl⟩ ?_
  conv=>whnf
  exact bI.mk ⟨⟨k+1,hk2⟩,Nat.sub_lt_sub_left hk2 (Nat.lt_succ_self k),aC [(0,6)] rfl rfl rfl ⟨⟨rfl,congrArg i64 (dY hk2 (by omega))⟩,⟨rfl,rfl⟩,⟨rfl,rfl⟩,⟨rfl,rfl⟩,trivial⟩ ⟨qA (aae hk2),trivial⟩⟩
 ·have hk2:k=l.length:=Nat.le_antisymm hk (iy c)
  clear c
  conv=>whnf
  subst hk2
  exact aG.mk ⟨rfl,rfl⟩ ⟨rfl,rfl⟩ ⟨qA (List.take_length),trivial⟩
theorem OX (l:List SK) (hl:l.length≤2097152) (hb:∀y∈l,(y:SK).f1.length≤2097152):ay T Tryz.prog 187 [.c (.sl eK l)] (.c (.ow eK l)):=by
 refine aH hT Tryz.func187 (by kernel_rfl) rfl rfl (fun A=>?_)
 conv=>whnf
 refine dM.mk {k:Nat // k≤l.length} (fun p=>(3,[(4,i64 p.1),(0,im eK l),(3, .c (.hd 0))],[(0, .row 1 eK (l.take p.1))])) (fun p=>l.length - p.1) ⟨0,Nat.zero_le _⟩ (aC [(0,0)] rfl rfl rfl ⟨⟨rfl,rfl⟩,⟨rfl,rfl⟩,⟨rfl,rfl⟩,trivial⟩ ⟨qA rfl,trivial⟩) ?_
 rintro⟨k,hk⟩
 conv=>whnf
 refine Split.mk (fun c=>?_) (fun c=>?_)
 ·have hk2:k<l.length:=iw c
  clear c
  have h1:=hb _ (Ia hk2)
  conv=>whnf
  refine Need.mk (idx hk2) ?_
  conv=>whnf
  refine Need.mk (idx hk2) ?_
  conv=>whnf
  refine Need.mk ⟨flat5,dH (a:=0) (b:=(gK l k).f1.length) (by omega) (by decide)⟩ ?_
  conv=>whnf
  refine Need.mk (idx hk2) ?_
  conv=>whnf
  refine Need.mk (dH (a:=(l.take k).length) (b:=1) (by rw [List.length_take];omega) (by decide)) ?_
  conv=>whnf
  refine bH.mk ⟨by kernel_rfl,by kernel_rfl⟩ ?_
  conv=>whnf
  exact bI.mk ⟨⟨k+1,hk2⟩,Nat.sub_lt_sub_left hk2 (Nat.lt_succ_self k),aC [(0,6)] rfl rfl rfl ⟨⟨rfl,congrArg i64 (dY hk2 (by omega))⟩,⟨rfl,rfl⟩,⟨rfl,rfl⟩,trivial⟩ ⟨qA (aae hk2),trivial⟩⟩
 ·have hk2:k=l.length:=Nat.le_antisymm hk (iy c)
  clear c
  conv=>whnf
  subst hk2
  exact aG.mk ⟨rfl,rfl⟩ ⟨rfl,rfl⟩ ⟨qA (List.take_length),trivial⟩
def qc (l:List SK) (i:Nat):Bool:=nM (gK l i).f0 && ((decide (1≤((gK l i).f1.length:Int)) && decide (((gK l i).f1.length:Int)≤40)) && ((decide (0≤(gK l i).f2) && decide ((gK l i).f2≤2)) && !(decide (0<i) && !(Op.bytesLess (gK l (i - 1)).f0.toList (gK l i).f0.toList))))
def xA (l:List SK):Bool:=(List.range l.length).all (qc l) && decide ((l.length:Int)≤8)
theorem nN {l:List SK} {i:Nat} (h:i<l.length) (h2:qc l i=false):xA l=false:=by
 unfold xA
 rw [List.all_eq_false.2 ⟨i,List.mem_range.2 h,by rw [h2];simp⟩];rfl
theorem LW {l:List SK} (h:∀i,i<l.length→qc l i=true):xA l=decide ((l.length:Int)≤8):=by
 unfold xA
 rw [List.all_eq_true.2 (fun i hi=>h i (List.mem_range.1 hi)),Bool.true_and]
theorem zF {l:List SK} {k:Nat} (h:∀i,i<k→qc l i=true) (h2:qc l k=true):∀i,i<k+1→qc l i=true:=fun i hi=>by
 rcases Nat.lt_or_ge i k with h3 | h3
 ·exact h i h3
 ·have:i=k:=by omega
  subst this;exact h2
theorem UD (l:List SK) (hl:l.length≤2097152) (hb:∀y∈l,(y:SK).f0.size≤1048576):ay T Tryz.prog 162 [.c (.sl eK l)] (.c (.sc (.bool (xA l)))):=by
 refine aH hT Tryz.func162 (by kernel_rfl) rfl rfl (fun A=>?_)
 conv=>whnf
 refine dM.mk {k:Nat // k≤l.length∧∀i,i<k→qc l i=true} (fun p=>(0,[(7,i64 p.1),(6,i64 l.length),(5,im eK l),(0,im eK l)],[])) (fun p=>l.length - p.1) ⟨0,Nat.zero_le _,fun i hi=>absurd hi (Nat.not_lt_zero i)⟩ (aC [] rfl rfl rfl ⟨⟨rfl,rfl⟩,⟨rfl,rfl⟩,⟨rfl,rfl⟩,⟨rfl,rfl⟩,trivial⟩ trivial) ?_
 rintro⟨k,hk,hok⟩
 conv=>whnf
 refine Split.mk (fun c=>?_) (fun c=>?_)
 ·have hk2:k<l.length:=iw c
  clear c
  have h1:=hb _ (Ia hk2)
  conv=>whnf
  refine Need.mk (idx hk2) ?_
  conv=>whnf
  refine aA.mk _ (Rq (gK l k).f0 (Nat.le_trans h1 (by decide))) ?_
  conv=>whnf
  refine Split.mk (fun c=>?_) (fun c=>?_)
  ·have c1:nM (gK l k).f0=false:=dh c
   conv=>whnf
   repeat (first | (refine Split.mk (fun _=>?_) (fun e=>jv e);conv=>whnf) | (refine bH.mk ⟨by kernel_rfl,by kernel_rfl⟩ ?_;conv=>whnf))
   exact aG.mk ⟨rfl,rfl⟩ ⟨rfl,rfl⟩ ⟨bv (nN hk2 (by unfold qc;rw [c1];rfl)),trivial⟩
  have c1:nM (gK l k).f0=true:=dB c
  clear c
  conv=>whnf
  refine aA.mk _ (zG ((gK l k).f1.length:Int) 1 40) ?_
  conv=>whnf
  refine Split.mk (fun c=>?_) (fun c=>?_)
  ·have c2:=dh c
   conv=>whnf
   repeat (first | (refine Split.mk (fun _=>?_) (fun e=>jv e);conv=>whnf) | (refine bH.mk ⟨by kernel_rfl,by kernel_rfl⟩ ?_;conv=>whnf))
   exact aG.mk ⟨rfl,rfl⟩ ⟨rfl,rfl⟩ ⟨bv (nN hk2 (by unfold qc;rw [c1,c2];rfl)),trivial⟩
  have c2:=dB c
  clear c
  conv=>whnf
  refine aA.mk _ (LX (gK l k).f2) ?_
  conv=>whnf
  refine Split.mk (fun c=>?_) (fun c=>?_)
  ·have c3:=dh c
   conv=>whnf
   repeat (first | (refine Split.mk (fun _=>?_) (fun e=>jv e);conv=>whnf) | (refine bH.mk ⟨by kernel_rfl,by kernel_rfl⟩ ?_;conv=>whnf))
   exact aG.mk ⟨rfl,rfl⟩ ⟨rfl,rfl⟩ ⟨bv (nN hk2 (by unfold qc;rw [c1,c2,c3];rfl)),trivial⟩
  have c3:=dB c
  clear c
  conv=>whnf
  refine Split.mk (fun c=>?_) (fun c=>?_)
  ·have c4:0<k:=kF c
   clear c
   have hpr:=Ei c4 (by omega)
   have hpt:(wrap64 ((k:Int) - 1)).toNat=k - 1:=by rw [hpr];rfl
   conv=>whnf
   refine Need.mk (by rw [hpr];exact idx (show k - 1<l.length by omega)) ?_
   conv=>whnf
   refine bH.mk ⟨by kernel_rfl,by kernel_rfl⟩ ?_
   conv=>whnf
   refine Split.mk (fun c=>?_) (fun c=>?_)
   ·have c5:Op.bytesLess (gK l (k - 1)).f0.toList (gK l k).f0.toList=false:=(congrArg (fun j=>Op.bytesLess (gK l j).f0.toList (gK l k).f0.toList) hpt.symm).trans (dh c)
    conv=>whnf
    exact aG.mk ⟨rfl,rfl⟩ ⟨rfl,rfl⟩ ⟨bv (nN hk2 (by unfold qc;rw [c1,c2,c3,c5,decide_eq_true c4];rfl)),trivial⟩
   ·have c5:Op.bytesLess (gK l (k - 1)).f0.toList (gK l k).f0.toList=true:=(congrArg (fun j=>Op.bytesLess (gK l j).f0.toList (gK l k).f0.toList) hpt.symm).trans (dB c)
    conv=>whnf
    exact bI.mk ⟨⟨k+1,hk2,zF hok (by unfold qc;rw [c1,c2,c3,c5];simp)⟩,Nat.sub_lt_sub_left hk2 (Nat.lt_succ_self k),aC [] rfl rfl rfl ⟨⟨rfl,congrArg i64 (dY hk2 (by omega))⟩,⟨rfl,rfl⟩,⟨rfl,rfl⟩,⟨rfl,rfl⟩,trivial⟩ trivial⟩
  ·have c4:k=0:=kG c
   clear c
   subst c4
   conv=>whnf
   refine bH.mk ⟨by kernel_rfl,by kernel_rfl⟩ ?_
   conv=>whnf
   refine Split.mk (fun e=>jH e) (fun _=>?_)
   conv=>whnf
   exact bI.mk ⟨⟨0+1,hk2,zF hok (by unfold qc;rw [c1,c2,c3];rfl)⟩,Nat.sub_lt_sub_left hk2 (Nat.lt_succ_self 0),aC [] rfl rfl rfl ⟨⟨rfl,congrArg i64 (dY hk2 (by omega))⟩,⟨rfl,rfl⟩,⟨rfl,rfl⟩,⟨rfl,rfl⟩,trivial⟩ trivial⟩
 ·have hk2:k=l.length:=Nat.le_antisymm hk (iy c)
  clear c
  conv=>whnf
  subst hk2
  exact aG.mk ⟨rfl,rfl⟩ ⟨rfl,rfl⟩ ⟨bv (LW hok),trivial⟩
theorem UE (l:List SK) (hl:l.length≤2097152) (hb:∀y∈l,(y:SK).f0.size≤1048576):ay T Tryz.prog 160 [.c (.sl eK l)] (.c (.sc (.bool (xA l)))):=by
 refine aH hT Tryz.func160 (by kernel_rfl) rfl rfl (fun A=>?_)
 conv=>whnf
 refine dM.mk {k:Nat // k≤l.length∧∀i,i<k→qc l i=true} (fun p=>(0,[(3,i64 p.1),(0,im eK l)],[])) (fun p=>l.length - p.1) ⟨0,Nat.zero_le _,fun i hi=>absurd hi (Nat.not_lt_zero i)⟩ (aC [] rfl rfl rfl ⟨⟨rfl,rfl⟩,⟨rfl,rfl⟩,trivial⟩ trivial) ?_
 rintro⟨k,hk,hok⟩
 conv=>whnf
 refine Split.mk (fun c=>?_) (fun c=>?_)
 ·have hk2:k<l.length:=iw c
  clear c
  have h1:=hb _ (Ia hk2)
  conv=>whnf
  refine Need.mk (idx hk2) ?_
  conv=>whnf
  refine aA.mk _ (Rt (gK l k).f0 (Nat.le_trans h1 (by decide))) ?_
  conv=>whnf
  refine Split.mk (fun c=>?_) (fun c=>?_)
  ·have c1:nM (gK l k).f0=false:=dh c
   conv=>whnf
   repeat (first | (refine Split.mk (fun _=>?_) (fun e=>jv e);conv=>whnf) | (refine bH.mk ⟨by kernel_rfl,by kernel_rfl⟩ ?_;conv=>whnf))
   exact aG.mk ⟨rfl,rfl⟩ ⟨rfl,rfl⟩ ⟨bv (nN hk2 (by unfold qc;rw [c1];rfl)),trivial⟩
  have c1:nM (gK l k).f0=true:=dB c
  clear c
  conv=>whnf
  refine Need.mk (idx hk2) ?_
  conv=>whnf
  refine aA.mk _ (Ib ((gK l k).f1.length:Int) 1 40) ?_
  conv=>whnf
  refine Split.mk (fun c=>?_) (fun c=>?_)
  ·have c2:=dh c
   conv=>whnf
   repeat (first | (refine Split.mk (fun _=>?_) (fun e=>jv e);conv=>whnf) | (refine bH.mk ⟨by kernel_rfl,by kernel_rfl⟩ ?_;conv=>whnf))
   exact aG.mk ⟨rfl,rfl⟩ ⟨rfl,rfl⟩ ⟨bv (nN hk2 (by unfold qc;rw [c1,c2];rfl)),trivial⟩
  have c2:=dB c
  clear c
  conv=>whnf
  refine Need.mk (idx hk2) ?_
  conv=>whnf
  refine aA.mk _ (Ib (gK l k).f2 0 2) ?_
  conv=>whnf
  refine Split.mk (fun c=>?_) (fun c=>?_)
  ·have c3:=dh c
   conv=>whnf
   repeat (first | (refine Split.mk (fun _=>?_) (fun e=>jv e);conv=>whnf) | (refine bH.mk ⟨by kernel_rfl,by kernel_rfl⟩ ?_;conv=>whnf))
   exact aG.mk ⟨rfl,rfl⟩ ⟨rfl,rfl⟩ ⟨bv (nN hk2 (by unfold qc;rw [c1,c2,c3];rfl)),trivial⟩
  have c3:=dB c
  clear c
  conv=>whnf
  refine Split.mk (fun c=>?_) (fun c=>?_)
  ·have c4:0<k:=kF c
   clear c
   have hpr:=Ei c4 (by omega)
   have hpt:(wrap64 ((k:Int) - 1)).toNat=k - 1:=by rw [hpr];rfl
   conv=>whnf
   refine Need.mk (by rw [hpr];exact idx (show k - 1<l.length by omega)) ?_
   conv=>whnf
   refine Need.mk (idx hk2) ?_
   conv=>whnf
   refine bH.mk ⟨by kernel_rfl,by kernel_rfl⟩ ?_
   conv=>whnf
   refine Split.mk (fun c=>?_) (fun c=>?_)
   ·have c5:Op.bytesLess (gK l (k - 1)).f0.toList (gK l k).f0.toList=false:=(congrArg (fun j=>Op.bytesLess (gK l j).f0.toList (gK l k).f0.toList) hpt.symm).trans (dh c)
    conv=>whnf
    exact aG.mk ⟨rfl,rfl⟩ ⟨rfl,rfl⟩ ⟨bv (nN hk2 (by unfold qc;rw [c1,c2,c3,c5,decide_eq_true c4];rfl)),trivial⟩
   ·have c5:Op.bytesLess (gK l (k - 1)).f0.toList (gK l k).f0.toList=true:=(congrArg (fun j=>Op.bytesLess (gK l j).f0.toList (gK l k).f0.toList) hpt.symm).trans (dB c)
    conv=>whnf
    exact bI.mk ⟨⟨k+1,hk2,zF hok (by unfold qc;rw [c1,c2,c3,c5];simp)⟩,Nat.sub_lt_sub_left hk2 (Nat.lt_succ_self k),aC [] rfl rfl rfl ⟨⟨rfl,congrArg i64 (dY hk2 (by omega))⟩,⟨rfl,rfl⟩,trivial⟩ trivial⟩
  ·have c4:k=0:=kG c
   clear c
   subst c4
   conv=>whnf
   refine bH.mk ⟨by kernel_rfl,by kernel_rfl⟩ ?_
   conv=>whnf
   refine Split.mk (fun e=>jH e) (fun _=>?_)
   conv=>whnf
   exact bI.mk ⟨⟨0+1,hk2,zF hok (by unfold qc;rw [c1,c2,c3];rfl)⟩,Nat.sub_lt_sub_left hk2 (Nat.lt_succ_self 0),aC [] rfl rfl rfl ⟨⟨rfl,congrArg i64 (dY hk2 (by omega))⟩,⟨rfl,rfl⟩,trivial⟩ trivial⟩
 ·have hk2:k=l.length:=Nat.le_antisymm hk (iy c)
  clear c
  conv=>whnf
  subst hk2
  exact aG.mk ⟨rfl,rfl⟩ ⟨rfl,rfl⟩ ⟨bv (LW hok),trivial⟩
end Go.Proofs.YtcnfgfomholheaaGreatDoor.Q
end
section
namespace Go.Proofs.YtcnfgfomholheaaGreatDoor.Q
open Go.RowKit Go.Proofs.YtcnfgfomholheaaGreatDoor.Z Go.Proofs.YtcnfgfomholheaaGreatDoor.Pure
set_option linter.unusedVariables false
set_option linter.unusedSimpArgs false
set_option maxRecDepth 100000
set_option maxHeartbeats 4000000
def xB (c:ByteArray) (n:SN):SN:=bif gI n then gX c n else n
theorem YV (c:ByteArray) (n:SN) (h:Bd n):Bd (xB c n)∧cnt (xB c n)≤cnt n:=by
 unfold xB
 cases gI n with
 | true=>exact⟨JQ c n h,SX c n⟩
 | false=>exact⟨h,Nat.le_refl _⟩
theorem adu {n:Nat} (h:decide ((n:Int)>1048576)=false):n≤1048576:=by simp at h;omega
end Go.Proofs.YtcnfgfomholheaaGreatDoor.Q
end
section
namespace Go.Proofs.YtcnfgfomholheaaGreatDoor.Q
open Go.RowKit Go.Proofs.YtcnfgfomholheaaGreatDoor.Z Go.Proofs.YtcnfgfomholheaaGreatDoor.Pure
set_option linter.unusedVariables false
set_option linter.unusedSimpArgs false
set_option maxRecDepth 100000
set_option maxHeartbeats 4000000
theorem OY (r:RT) (hr:H9 r):ay T Tryz.prog 122 [.ag (cR r)] (YP r):=by
 refine aH hT Tryz.func122 (by kernel_rfl) rfl rfl (fun A=>?_)
 conv=>whnf
 refine aA.mk _ (vK r.t hr.t) ?_
 conv=>whnf
 refine aA.mk _ (OW r.k hr.k hr.b) ?_
 conv=>whnf
 refine bH.mk ⟨by kernel_rfl,by kernel_rfl⟩ ?_
 conv=>whnf
 exact aG.mk ⟨rfl,rfl⟩ ⟨rfl,rfl⟩ ⟨rfl,rfl,rfl,rfl,rfl,trivial⟩
theorem OZ (r:RT) (hr:H9 r):ay T Tryz.prog 120 [.ag (cR r)] (YP r):=by
 refine aH hT Tryz.func120 (by kernel_rfl) rfl rfl (fun A=>?_)
 conv=>whnf
 refine aA.mk _ (zA r.t hr.t) ?_
 conv=>whnf
 refine aA.mk _ (OX r.k hr.k hr.b) ?_
 conv=>whnf
 refine bH.mk ⟨by kernel_rfl,by kernel_rfl⟩ ?_
 conv=>whnf
 exact aG.mk ⟨rfl,rfl⟩ ⟨rfl,rfl⟩ ⟨rfl,rfl,rfl,rfl,rfl,trivial⟩
structure GR (r:RT):Prop where
 bd:H9 r
 c:cnt r.t≤2097000
 t:∀y∈r.k,(y:SK).f0.size≤1048576
theorem GR.el {r:RT} (h:GR r):(fZ r.t).length≤4194304:=Nat.le_trans (YW r.t) (by have:=h.c;omega)
def uF (r:RT):Bool:=(decide (0≤r.v) && decide (r.v≤1000000)) && (gI r.t && (decide (((fZ r.t).length:Int)≤14) && xA r.k))
theorem O1 (r:RT):uF r=((decide (0≤r.v) && decide (r.v≤1000000)) && (gI r.t && (decide (((fZ r.t).length:Int)≤14) && xA r.k))):=rfl
theorem UF (r:RT) (h:GR r):ay T Tryz.prog 85 [.ag (cR r)] (.c (.sc (.bool (uF r)))):=by
 have he:=Fg r.t h.bd.t uy h.el
 have hn:=Hy r.t h.bd.t
 have hk:=UD r.k h.bd.k h.t
 have hR:=O1 r
 generalize uF r=R at hR⊢
 replace hR:=hR.symm
 refine aH hT Tryz.func85 (by kernel_rfl) rfl rfl (fun A=>?_)
 conv=>whnf
 refine aA.mk _ (zG _ _ _) ?_
 conv=>whnf
 refine Split.mk (fun c1=>?_) (fun c1=>?_)
 ·replace hR:=dV c1 hR
  clear c1
  conv=>whnf
  refine aA.mk _ hn ?_
  conv=>whnf
  refine Split.mk (fun c1=>?_) (fun c1=>?_)
  ·replace hR:=dV c1 hR
   clear c1
   conv=>whnf
   refine aA.mk _ he ?_
   conv=>whnf
   refine Split.mk (fun c1=>?_) (fun c1=>?_)
   ·replace hR:=dV c1 hR
    clear c1
    conv=>whnf
    refine aA.mk _ hk ?_
    conv=>whnf
    exact aG.mk ⟨rfl,rfl⟩ ⟨rfl,rfl⟩ ⟨bv hR.symm,trivial⟩
   ·conv=>whnf
    repeat (first | (refine Split.mk (fun e=>jH e) (fun _=>?_);conv=>whnf) | (refine bH.mk ⟨by kernel_rfl,by kernel_rfl⟩ ?_;conv=>whnf))
    exact aG.mk ⟨rfl,rfl⟩ ⟨rfl,rfl⟩ ⟨bv (eY c1 hR),trivial⟩
  ·conv=>whnf
   repeat (first | (refine Split.mk (fun e=>jH e) (fun _=>?_);conv=>whnf) | (refine bH.mk ⟨by kernel_rfl,by kernel_rfl⟩ ?_;conv=>whnf))
   exact aG.mk ⟨rfl,rfl⟩ ⟨rfl,rfl⟩ ⟨bv (eY c1 hR),trivial⟩
 ·conv=>whnf
  repeat (first | (refine Split.mk (fun e=>jH e) (fun _=>?_);conv=>whnf) | (refine bH.mk ⟨by kernel_rfl,by kernel_rfl⟩ ?_;conv=>whnf))
  exact aG.mk ⟨rfl,rfl⟩ ⟨rfl,rfl⟩ ⟨bv (eY c1 hR),trivial⟩
theorem UG (r:RT) (h:GR r):ay T Tryz.prog 84 [.ag (cR r)] (.c (.sc (.bool (uF r)))):=by
 have he:=specEntries r.t h.bd.t uy h.el
 have hn:=zB r.t h.bd.t
 have hk:=UE r.k h.bd.k h.t
 have hR:=O1 r
 generalize uF r=R at hR⊢
 replace hR:=hR.symm
 refine aH hT Tryz.func84 (by kernel_rfl) rfl rfl (fun A=>?_)
 conv=>whnf
 refine aA.mk _ (Ib _ _ _) ?_
 conv=>whnf
 refine Split.mk (fun c1=>?_) (fun c1=>?_)
 ·replace hR:=dV c1 hR
  clear c1
  conv=>whnf
  refine aA.mk _ hn ?_
  conv=>whnf
  refine Split.mk (fun c1=>?_) (fun c1=>?_)
  ·replace hR:=dV c1 hR
   clear c1
   conv=>whnf
   refine aA.mk _ he ?_
   conv=>whnf
   refine Split.mk (fun c1=>?_) (fun c1=>?_)
   ·replace hR:=dV c1 hR
    clear c1
    conv=>whnf
    refine aA.mk _ hk ?_
    conv=>whnf
    exact aG.mk ⟨rfl,rfl⟩ ⟨rfl,rfl⟩ ⟨bv hR.symm,trivial⟩
   ·conv=>whnf
    repeat (first | (refine Split.mk (fun e=>jH e) (fun _=>?_);conv=>whnf) | (refine bH.mk ⟨by kernel_rfl,by kernel_rfl⟩ ?_;conv=>whnf))
    exact aG.mk ⟨rfl,rfl⟩ ⟨rfl,rfl⟩ ⟨bv (eY c1 hR),trivial⟩
  ·conv=>whnf
   repeat (first | (refine Split.mk (fun e=>jH e) (fun _=>?_);conv=>whnf) | (refine bH.mk ⟨by kernel_rfl,by kernel_rfl⟩ ?_;conv=>whnf))
   exact aG.mk ⟨rfl,rfl⟩ ⟨rfl,rfl⟩ ⟨bv (eY c1 hR),trivial⟩
 ·conv=>whnf
  repeat (first | (refine Split.mk (fun e=>jH e) (fun _=>?_);conv=>whnf) | (refine bH.mk ⟨by kernel_rfl,by kernel_rfl⟩ ?_;conv=>whnf))
  exact aG.mk ⟨rfl,rfl⟩ ⟨rfl,rfl⟩ ⟨bv (eY c1 hR),trivial⟩
def nO (r:RT):Bool:=uF r && decide (r.v<1000000)
theorem Ru (r:RT) (h:GR r):ay T Tryz.prog 123 [.ag (cR r)] (.c (.sc (.bool (nO r)))):=by
 refine aH hT Tryz.func123 (by kernel_rfl) rfl rfl (fun A=>?_)
 conv=>whnf
 refine aA.mk _ (UF r h) ?_
 conv=>whnf
 refine Split.mk (fun c1=>?_) (fun c1=>?_)
 ·conv=>whnf
  exact aG.mk ⟨rfl,rfl⟩ ⟨rfl,rfl⟩ ⟨bv (by unfold nO;rw [c1];rfl),trivial⟩
 ·conv=>whnf
  exact aG.mk ⟨rfl,rfl⟩ ⟨rfl,rfl⟩ ⟨bv (by unfold nO;rw [c1];rfl),trivial⟩
abbrev NH (r:RT) (b:Bool):RS T.Tb:= .tu [(true,[.sc (.int .i64 r.v), .ow 9 r.t.f0, .ow eN r.t.f1, .ow eS r.t.f2, .ow eK r.k]),(false,[.sc (.bool b)])]
def upR (r:RT) (t:SN):RT:=⟨wrap64 (r.v+1),t,r.k⟩
theorem O4 (r:RT) (c:ByteArray) (h:GR r) {t:SN} (ht:ay T Tryz.prog 21 [.ag (T.cells eN r.t), .c (.sc (.string c))] (qw t)):ay T Tryz.prog 39 [.ag (cR r), .c (.sc (.string c))] (NH (bif nO r then upR r t else r) (nO r)):=by
 have hm:=Ru r h
 generalize nO r=m at hm⊢
 refine aH hT Tryz.func39 (by kernel_rfl) rfl rfl (fun A=>?_)
 conv=>whnf
 refine aA.mk _ (OY r h.bd) ?_
 conv=>whnf
 refine aA.mk _ hm ?_
 conv=>whnf
 refine Split.mk (fun c1=>?_) (fun c1=>?_)
 ·have h0:m=false:=dh c1
  subst h0
  conv=>whnf
  exact aG.mk ⟨rfl,rfl⟩ ⟨rfl,rfl⟩ ⟨rfl,rfl,rfl,rfl,rfl,rfl,trivial⟩
 ·have h0:m=true:=dB c1
  subst h0
  conv=>whnf
  refine aA.mk _ ht ?_
  conv=>whnf
  exact aG.mk ⟨rfl,rfl⟩ ⟨rfl,rfl⟩ ⟨rfl,rfl,rfl,rfl,rfl,rfl,trivial⟩
theorem aaR {r:RT} (h:uF r=true):nO r=!(r.v==1000000):=by
 have h2:=h
 unfold uF at h2
 simp only [Bool.and_eq_true,decide_eq_true_eq] at h2
 unfold nO
 rw [h,Bool.true_and]
 rw [Bool.eq_iff_iff]
 simp
 omega
theorem abW {r:RT} (h:uF r=false):nO r=false:=by unfold nO;rw [h];rfl
theorem O5 (r:RT) (c:ByteArray) (h:GR r) {t:SN} (ht:ay T Tryz.prog 19 [.ag (T.cells eN r.t), .c (.sc (.string c))] (qw t)):ay T Tryz.prog 37 [.ag (cR r), .c (.sc (.string c))] (NH (bif nO r then upR r t else r) (nO r)):=by
 have hm:=UG r h
 refine aH hT Tryz.func37 (by kernel_rfl) rfl rfl (fun A=>?_)
 conv=>whnf
 refine aA.mk _ (OZ r h.bd) ?_
 conv=>whnf
 refine aA.mk _ hm ?_
 conv=>whnf
 refine Split.mk (fun c1=>?_) (fun c1=>?_)
 ·have h0:=abW (dh c1)
  rw [h0]
  conv=>whnf
  repeat (first | (refine Split.mk (fun _=>?_) (fun e=>jv e);conv=>whnf) | (refine bH.mk ⟨by kernel_rfl,by kernel_rfl⟩ ?_;conv=>whnf))
  exact aG.mk ⟨rfl,rfl⟩ ⟨rfl,rfl⟩ ⟨rfl,rfl,rfl,rfl,rfl,rfl,trivial⟩
 ·have h0:=aaR (dB c1)
  rw [h0]
  clear h0 c1
  generalize hq:(r.v==1000000)=q
  conv=>whnf
  refine Split.mk (fun c1=>?_) (fun c1=>?_)
  ·rw [show q=true from hq.symm.trans c1]
   conv=>whnf
   exact aG.mk ⟨rfl,rfl⟩ ⟨rfl,rfl⟩ ⟨rfl,rfl,rfl,rfl,rfl,rfl,trivial⟩
  ·rw [show q=false from hq.symm.trans c1]
   conv=>whnf
   refine aA.mk _ ht ?_
   conv=>whnf
   exact aG.mk ⟨rfl,rfl⟩ ⟨rfl,rfl⟩ ⟨rfl,rfl,rfl,rfl,rfl,rfl,trivial⟩
def zH (r:RT) (t:SN):RT:=bif nO r then upR r t else r
theorem YX {r:RT} {t:SN} {n:Nat} (hB:Bd r.t) (hc:cnt r.t≤n) (ht:Bd t) (htc:cnt t≤n) (hk:BK r.k):Bd (zH r t).t∧cnt (zH r t).t≤n∧BK (zH r t).k:=by
 unfold zH
 cases nO r with
 | true=>exact⟨ht,htc,hk⟩
 | false=>exact⟨hB,hc,hk⟩
theorem GR.of {r:RT} (hB:Bd r.t) (hc:cnt r.t≤2097000) (hk:BK r.k):GR r:=⟨hk.bdr hB,hc,hk.t⟩
end Go.Proofs.YtcnfgfomholheaaGreatDoor.Q
end
section
namespace Go.Proofs.YtcnfgfomholheaaGreatDoor.Q
open Go.RowKit Go.Proofs.YtcnfgfomholheaaGreatDoor.Z Go.Proofs.YtcnfgfomholheaaGreatDoor.X Go.Proofs.YtcnfgfomholheaaGreatDoor.Pure
set_option linter.unusedVariables false
set_option linter.unusedSimpArgs false
set_option maxRecDepth 100000
set_option maxHeartbeats 4000000
theorem Rj (a:RL) (c:ByteArray) (ha:abI a):ay T Tryz.prog 7 [.ag (WA a), .c (.sc (.string c))] (.c (.sc (.bool true))):=by
 refine kP hT Tryz.func7 (by kernel_rfl) rfl rfl (fun A=>?_)
 refine Vc.seq 0 hT ?_
 conv=>whnf
 refine Vc.seq 1 hT ?_
 conv=>whnf
 refine Split.mk (fun c1=>?_) (fun c1=>?_)
 ·conv=>whnf
  exact aG.mk ⟨rfl,rfl⟩ ⟨rfl,rfl⟩ ⟨rfl,trivial⟩
 have hf:c.size≤1048576:=adu c1
 clear c1
 conv=>whnf
 refine Vc.seq 1 hT ?_
 conv=>whnf
 refine Vc.seq 1 hT ?_
 conv=>whnf
 refine aA.mk _ (abS a _ ha.1 ha.2 (by decide) (by decide)) ?_
 conv=>whnf
 refine Vc.seq 2 hT ?_
 conv=>whnf
 refine Split.mk (fun c1=>?_) (fun c1=>?_)
 ·conv=>whnf
  exact aG.mk ⟨rfl,rfl⟩ ⟨rfl,rfl⟩ ⟨rfl,trivial⟩
 have hsz:0≤SY a 1048576:=UH c1
 clear c1
 obtain⟨hL,hB,hcB,hkB,hk1,hk2,_⟩:=abV (by decide) (by decide) hsz
 have hto:=abT a hL hk1 hk2
 generalize tR a=B at hcB hB hkB hto
 have YZ:cnt B.t≤1048576:=by omega
 clear hcB hsz hL hk1 hk2
 have hG:=GR.of hB (Nat.le_trans YZ (by decide)) hkB
 have him:=F5 B.t c hB uy hG.el (fun e he=>WH he)
 have hsp:=F6 B.t c hB (fun h=>(uy h).1)
 rw [E5] at him
 obtain⟨hD,hcD⟩:=YV c B.t hB
 change ay T Tryz.prog 21 [.ag (T.cells eN B.t), .c (.sc (.string c))] (qw (xB c B.t)) at him
 change ay T Tryz.prog 19 [.ag (T.cells eN B.t), .c (.sc (.string c))] (qw (xB c B.t)) at hsp
 replace him:=O4 B c hG him
 replace hsp:=O5 B c hG hsp
 obtain⟨hR,hcR,hkR⟩:=YX hB YZ hD (Nat.le_trans hcD YZ) hkB
 change ay T Tryz.prog 39 [.ag (cR B), .c (.sc (.string c))] (NH (zH B (xB c B.t)) (nO B)) at him
 change ay T Tryz.prog 37 [.ag (cR B), .c (.sc (.string c))] (NH (zH B (xB c B.t)) (nO B)) at hsp
 generalize zH B (xB c B.t)=R at him hsp hR hcR hkR
 generalize nO B=w at him hsp
 have hbB:H9 B:=hG.bd
 have hbR:H9 R:=hkR.bdr hR
 have hmB:=OU B 1 hbB (by decide) (JZ B hkB (by omega))
 have hmR:=OU R 1 hbR (by decide) (JZ R hkR (by omega))
 have hhR:=YT R 1 hbR (by decide) (JZ R hkR (by omega))
 have heR:=WR R R hbR
 have heB:=WR B B hbB
 conv=>whnf
 refine Vc.cut (α:=Unit) 60 (fun _=>True) (fun _=>[(7, .c (.sc (.bool w))),(6, .c (.px 1 0)),(2, .c (.px 0 0)),(1, .c (.sc (.string c)))]) (fun _=>[(1, .bx eG [.sc (.int .i64 R.v), .hd 2, .hd 3, .hd 4, .hd 5]),(2, .row 2 9 R.t.f0),(3, .row 3 eN R.t.f1),(4, .row 4 eS R.t.f2),(5, .row 5 eK R.k),(0,JV a)]) hT ?_ (fun _ _=>?_)
 ·conv=>whnf
  refine aA.mk _ hto ?_
  conv=>whnf
  refine aA.mk _ hsp ?_
  conv=>whnf
  exact lu.mk ⟨(),trivial,aC [(1,71),(2,66),(3,67),(4,68),(5,69),(0,0)] rfl rfl rfl ⟨⟨rfl,rfl⟩,⟨rfl,rfl⟩,⟨rfl,rfl⟩,⟨rfl,rfl⟩,trivial⟩ ⟨⟨rfl,rfl⟩,kW rfl,kN rfl,jX rfl,qA rfl,⟨rfl,rfl⟩,trivial⟩⟩
 refine Vc.cut (α:=Unit) 60 (fun _=>True) (fun _=>[(8, .c (.px 6 0)),(7, .c (.sc (.bool w))),(6, .c (.px 1 0)),(2, .c (.px 0 0)),(1, .c (.sc (.string c)))]) (fun _=>[(6, .bx eG [.sc (.int .i64 B.v), .hd 7, .hd 8, .hd 9, .hd 10]),(7, .row 7 9 B.t.f0),(8, .row 8 eN B.t.f1),(9, .row 9 eS B.t.f2),(10, .row 10 eK B.k),(1, .bx eG [.sc (.int .i64 R.v), .hd 2, .hd 3, .hd 4, .hd 5]),(2, .row 2 9 R.t.f0),(3, .row 3 eN R.t.f1),(4, .row 4 eS R.t.f2),(5, .row 5 eK R.k),(0,JV a)]) hT ?_ (fun _ _=>?_)
 ·conv=>whnf
  refine aA.mk _ hto ?_
  conv=>whnf
  exact lu.mk ⟨(),trivial,aC [(6,65),(7,61),(8,62),(9,63),(10,64),(1,1),(2,2),(3,3),(4,4),(5,5),(0,0)] rfl rfl rfl ⟨⟨rfl,rfl⟩,⟨rfl,rfl⟩,⟨rfl,rfl⟩,⟨rfl,rfl⟩,⟨rfl,rfl⟩,trivial⟩ ⟨⟨rfl,rfl⟩,kW rfl,kN rfl,jX rfl,qA rfl,⟨rfl,rfl⟩,kW rfl,kN rfl,jX rfl,qA rfl,⟨rfl,rfl⟩,trivial⟩⟩
 refine Vc.cut (α:=Unit) 60 (fun _=>True) (fun _=>[(10, .c (.sc (.bool w))),(9, .c (.px 11 0)),(8, .c (.px 6 0)),(7, .c (.sc (.bool w))),(6, .c (.px 1 0)),(2, .c (.px 0 0)),(1, .c (.sc (.string c)))]) (fun _=>[(11, .bx eG [.sc (.int .i64 R.v), .hd 12, .hd 13, .hd 14, .hd 15]),(12, .row 12 9 R.t.f0),(13, .row 13 eN R.t.f1),(14, .row 14 eS R.t.f2),(15, .row 15 eK R.k),(6, .bx eG [.sc (.int .i64 B.v), .hd 7, .hd 8, .hd 9, .hd 10]),(7, .row 7 9 B.t.f0),(8, .row 8 eN B.t.f1),(9, .row 9 eS B.t.f2),(10, .row 10 eK B.k),(1, .bx eG [.sc (.int .i64 R.v), .hd 2, .hd 3, .hd 4, .hd 5]),(2, .row 2 9 R.t.f0),(3, .row 3 eN R.t.f1),(4, .row 4 eS R.t.f2),(5, .row 5 eK R.k),(0,JV a)]) hT ?_ (fun _ _=>?_)
 ·conv=>whnf
  refine aA.mk _ him ?_
  conv=>whnf
  exact lu.mk ⟨(),trivial,aC [(11,66),(12,61),(13,62),(14,63),(15,64),(6,6),(7,7),(8,8),(9,9),(10,10),(1,1),(2,2),(3,3),(4,4),(5,5),(0,0)] rfl rfl rfl ⟨⟨rfl,rfl⟩,⟨rfl,rfl⟩,⟨rfl,rfl⟩,⟨rfl,rfl⟩,⟨rfl,rfl⟩,⟨rfl,rfl⟩,⟨rfl,rfl⟩,trivial⟩ ⟨⟨rfl,rfl⟩,kW rfl,kN rfl,jX rfl,qA rfl,⟨rfl,rfl⟩,kW rfl,kN rfl,jX rfl,qA rfl,⟨rfl,rfl⟩,kW rfl,kN rfl,jX rfl,qA rfl,⟨rfl,rfl⟩,trivial⟩⟩
 refine Vc.seq 60 hT ?_
 conv=>whnf
 refine aA.mk _ heR ?_
 conv=>whnf
 refine Split.mk (fun c1=>(jd (dh c1) rfl).elim) (fun c1=>?_)
 clear c1
 conv=>whnf
 refine Need.mk (by kernel_rfl) ?_
 conv=>whnf
 refine Split.mk (fun c1=>(Y0 c1 rfl).elim) (fun c1=>?_)
 clear c1
 conv=>whnf
 refine Vc.seq 60 hT ?_
 conv=>whnf
 refine aA.mk _ hto ?_
 conv=>whnf
 refine aA.mk _ heB ?_
 conv=>whnf
 refine bH.mk ⟨by kernel_rfl,by kernel_rfl⟩ ?_
 conv=>whnf
 refine Split.mk (fun c1=>(jd (dh c1) rfl).elim) (fun c1=>?_)
 clear c1
 conv=>whnf
 refine Vc.seq 100 hT ?_
 conv=>whnf
 refine Vc.cut (α:=Unit) 100 (fun _=>True) (fun _=>[(11,i64 (((jJ B 1).2:Nat):Int)),(10, .c (.sc (.bool w))),(9, .c (.px 11 0)),(7, .c (.sc (.bool w))),(6, .c (.px 1 0)),(2, .c (.px 0 0)),(1, .c (.sc (.string c)))]) (fun _=>[(11, .bx eG [.sc (.int .i64 R.v), .hd 12, .hd 13, .hd 14, .hd 15]),(12, .row 12 9 R.t.f0),(13, .row 13 eN R.t.f1),(14, .row 14 eS R.t.f2),(15, .row 15 eK R.k),(1, .bx eG [.sc (.int .i64 R.v), .hd 2, .hd 3, .hd 4, .hd 5]),(2, .row 2 9 R.t.f0),(3, .row 3 eN R.t.f1),(4, .row 4 eS R.t.f2),(5, .row 5 eK R.k),(0,JV a)]) hT ?_ (fun _ _=>?_)
 ·conv=>whnf
  refine aA.wr [[NW.rd,NW.wr 9 (jJ B 1).1.t.f0,NW.wr eN (jJ B 1).1.t.f1,NW.wr eS (jJ B 1).1.t.f2,NW.wr eK (jJ B 1).1.k],[NW.rd]] (.c (.sc (.int .i64 (((jJ B 1).2:Nat):Int)))) ?_
  conv=>whnf
  refine jW.mk hmB ?_
  conv=>whnf
  exact lu.mk ⟨(),trivial,aC [(11,11),(12,12),(13,13),(14,14),(15,15),(1,1),(2,2),(3,3),(4,4),(5,5),(0,0)] rfl rfl rfl ⟨⟨rfl,rfl⟩,⟨rfl,rfl⟩,⟨rfl,rfl⟩,⟨rfl,rfl⟩,⟨rfl,rfl⟩,⟨rfl,rfl⟩,⟨rfl,rfl⟩,trivial⟩ ⟨⟨rfl,rfl⟩,kW rfl,kN rfl,jX rfl,qA rfl,⟨rfl,rfl⟩,kW rfl,kN rfl,jX rfl,qA rfl,⟨rfl,rfl⟩,trivial⟩⟩
 refine Vc.seq 60 hT ?_
 conv=>whnf
 refine Split.mk (fun c1=>AZ c1) (fun c1=>?_)
 clear c1
 conv=>whnf
 refine aA.mk _ heR ?_
 conv=>whnf
 refine Split.mk (fun c1=>(jd (dh c1) rfl).elim) (fun c1=>?_)
 clear c1
 conv=>whnf
 refine Need.mk (by kernel_rfl) ?_
 conv=>whnf
 refine Split.mk (fun c1=>(Y0 c1 rfl).elim) (fun c1=>?_)
 clear c1
 conv=>whnf
 refine Vc.seq 100 hT ?_
 conv=>whnf
 refine Vc.cut (α:=Unit) 100 (fun _=>True) (fun _=>[(12,i64 (((jJ R 1).2:Nat):Int)),(9, .c (.px 11 0)),(7, .c (.sc (.bool w))),(6, .c (.px 1 0)),(2, .c (.px 0 0)),(1, .c (.sc (.string c)))]) (fun _=>[(11, .bx eG [.sc (.int .i64 (jJ R 1).1.v), .hd 12, .hd 13, .hd 14, .hd 15]),(12, .row 12 9 ((jJ R 1).1.t.f0)),(13, .row 13 eN ((jJ R 1).1.t.f1)),(14, .row 14 eS ((jJ R 1).1.t.f2)),(15, .row 15 eK ((jJ R 1).1.k)),(1, .bx eG [.sc (.int .i64 R.v), .hd 2, .hd 3, .hd 4, .hd 5]),(2, .row 2 9 R.t.f0),(3, .row 3 eN R.t.f1),(4, .row 4 eS R.t.f2),(5, .row 5 eK R.k),(0,JV a)]) hT ?_ (fun _ _=>?_)
 ·conv=>whnf
  refine aA.wr [[NW.rd,NW.wr 9 (jJ R 1).1.t.f0,NW.wr eN (jJ R 1).1.t.f1,NW.wr eS (jJ R 1).1.t.f2,NW.wr eK (jJ R 1).1.k],[NW.rd]] (.c (.sc (.int .i64 (((jJ R 1).2:Nat):Int)))) ?_
  conv=>whnf
  refine jW.mk hmR ?_
  conv=>whnf
  exact lu.mk ⟨(),trivial,aC [(11,11),(12,12),(13,13),(14,14),(15,15),(1,1),(2,2),(3,3),(4,4),(5,5),(0,0)] rfl rfl rfl ⟨⟨rfl,rfl⟩,⟨rfl,rfl⟩,⟨rfl,rfl⟩,⟨rfl,rfl⟩,⟨rfl,rfl⟩,⟨rfl,rfl⟩,trivial⟩ ⟨⟨rfl,rfl⟩,kW rfl,kN rfl,jX rfl,qA rfl,⟨rfl,rfl⟩,kW rfl,kN rfl,jX rfl,qA rfl,⟨rfl,rfl⟩,trivial⟩⟩
 refine Vc.seq 60 hT ?_
 conv=>whnf
 refine Vc.seq 60 hT ?_
 conv=>whnf
 refine aA.mk (.c (.sc (.int .i64 (((jJ R 1).2:Nat):Int)))) hhR ?_
 conv=>whnf
 refine Vc.seq 60 hT ?_
 conv=>whnf
 refine Split.mk (fun c1=>AZ c1) (fun c1=>?_)
 clear c1
 conv=>whnf
 refine Vc.seq 60 hT ?_
 conv=>whnf
 refine Split.mk (fun c1=>(vP c1 rfl).elim) (fun c1=>?_)
 clear c1
 conv=>whnf
 refine Vc.cut (α:=Unit) 60 (fun _=>True) (fun _=>[(15, .c (.sc (.bool w))),(14, .c (.px 16 0)),(12,i64 (((jJ R 1).2:Nat):Int)),(9, .c (.px 11 0)),(7, .c (.sc (.bool w))),(6, .c (.px 1 0)),(2, .c (.px 0 0)),(1, .c (.sc (.string c)))]) (fun _=>[(16, .bx eG [.sc (.int .i64 R.v), .hd 17, .hd 18, .hd 19, .hd 20]),(17, .row 17 9 R.t.f0),(18, .row 18 eN R.t.f1),(19, .row 19 eS R.t.f2),(20, .row 20 eK R.k),(11, .bx eG [.sc (.int .i64 (jJ R 1).1.v), .hd 12, .hd 13, .hd 14, .hd 15]),(12, .row 12 9 ((jJ R 1).1.t.f0)),(13, .row 13 eN ((jJ R 1).1.t.f1)),(14, .row 14 eS ((jJ R 1).1.t.f2)),(15, .row 15 eK ((jJ R 1).1.k)),(1, .bx eG [.sc (.int .i64 R.v), .hd 2, .hd 3, .hd 4, .hd 5]),(2, .row 2 9 R.t.f0),(3, .row 3 eN R.t.f1),(4, .row 4 eS R.t.f2),(5, .row 5 eK R.k),(0,JV a)]) hT ?_ (fun _ _=>?_)
 ·conv=>whnf
  refine aA.mk _ hto ?_
  conv=>whnf
  refine aA.mk _ him ?_
  conv=>whnf
  exact lu.mk ⟨(),trivial,aC [(16,71),(17,66),(18,67),(19,68),(20,69),(11,11),(12,12),(13,13),(14,14),(15,15),(1,1),(2,2),(3,3),(4,4),(5,5),(0,0)] rfl rfl rfl ⟨⟨rfl,rfl⟩,⟨rfl,rfl⟩,⟨rfl,rfl⟩,⟨rfl,rfl⟩,⟨rfl,rfl⟩,⟨rfl,rfl⟩,⟨rfl,rfl⟩,⟨rfl,rfl⟩,trivial⟩ ⟨⟨rfl,rfl⟩,kW rfl,kN rfl,jX rfl,qA rfl,⟨rfl,rfl⟩,kW rfl,kN rfl,jX rfl,qA rfl,⟨rfl,rfl⟩,kW rfl,kN rfl,jX rfl,qA rfl,⟨rfl,rfl⟩,trivial⟩⟩
 refine Vc.seq 60 hT ?_
 conv=>whnf
 refine aA.mk _ heR ?_
 conv=>whnf
 refine Split.mk (fun c1=>(jd (dh c1) rfl).elim) (fun c1=>?_)
 clear c1
 conv=>whnf
 refine Need.mk (by kernel_rfl) ?_
 conv=>whnf
 refine Split.mk (fun c1=>(Y0 c1 rfl).elim) (fun c1=>?_)
 clear c1
 conv=>whnf
 refine Vc.seq 60 hT ?_
 conv=>whnf
 refine Vc.seq 60 hT ?_
 conv=>whnf
 refine aA.mk (.c (.sc (.int .i64 (((jJ R 1).2:Nat):Int)))) hhR ?_
 conv=>whnf
 refine Vc.seq 60 hT ?_
 conv=>whnf
 refine Split.mk (fun c1=>AZ c1) (fun c1=>?_)
 clear c1
 conv=>whnf
 refine Vc.seq 60 hT ?_
 conv=>whnf
 refine Split.mk (fun c1=>(vP c1 rfl).elim) (fun c1=>?_)
 clear c1
 conv=>whnf
 refine Vc.of 60 hT ?_
 conv=>whnf
 exact aG.mk ⟨rfl,rfl⟩ ⟨rfl,rfl⟩ ⟨rfl,trivial⟩
end Go.Proofs.YtcnfgfomholheaaGreatDoor.Q
end
