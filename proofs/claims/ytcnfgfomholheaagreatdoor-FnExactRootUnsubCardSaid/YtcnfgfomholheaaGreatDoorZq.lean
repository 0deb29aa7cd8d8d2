/- Several texts of this claim in one (a claim holds at most 60 files). -/
import Derived.Test.YtcnfgfomholheaaGreatDoorZy
import Derived.Test.YtcnfgfomholheaaGreatDoorZp
section
namespace Go.Proofs.YtcnfgfomholheaaGreatDoor.Q
open Go.RowKit Go.Proofs.YtcnfgfomholheaaGreatDoor.Z Go.Proofs.YtcnfgfomholheaaGreatDoor.Pure
set_option linter.unusedVariables false
set_option linter.unusedSimpArgs false
set_option maxRecDepth 100000
set_option maxHeartbeats 4000000
def ng (t:ByteArray) (l:List SS):List SS:=l.filter fun s=>!(s.f0.toList==t.toList)
theorem xu (t:ByteArray) (l:List SS):(ng t l).length≤l.length:=List.length_filter_le _ _
theorem Ua (l:List SS) (client:ByteArray) (hl:l.length≤8388608):aC T Tryz.prog 171 [.c (.sl eS l), .c (.sc (.string client))] (.c (.ow eS (ng client l))):=by
 refine aH hT Tryz.func171 (by kernel_rfl) rfl rfl (fun A=>?_)
 conv=>whnf
 refine aA.mk _ (Oc l hl) ?_
 conv=>whnf
 refine aA.wr [[.gv eS],[.rd]] (.c (.ow eS (ng client l))) ?_
 conv=>whnf
 refine jS.mk (Ub l client) ?_
 conv=>whnf
 exact aG.mk ⟨rfl,rfl⟩ ⟨rfl,rfl⟩ ⟨rfl,trivial⟩
theorem Uc {α:Type} {p:α→Bool} {d:α}:∀{l:List α} {i:Nat},i≤l.length→(∀j,j<i→p (l.getD j d)=true)→(i=l.length∨p (l.getD i d)=false)→l.take i=l.takeWhile p∧l.drop i=l.dropWhile p
 | [],i,hi,_,_=>by simp
 | a::l,0,_,_,h=>by
   rcases h with h | h
   ·simp at h
   ·have h:p a=false:=h
    simp [List.takeWhile_cons,List.dropWhile_cons,h]
 | a::l,i+1,hi,h1,h2=>by
   have ha:p a=true:=h1 0 (Nat.succ_pos i)
   have ih:=Uc (p:=p) (d:=d) (l:=l) (i:=i) (by simpa using hi) (fun j hj=>h1 (j+1) (by omega)) (by simpa using h2)
   simp [List.takeWhile_cons,List.dropWhile_cons,ha,ih.1,ih.2]
theorem gX {l l':List SS} (h:l=l'):bY (T:=T) eS l eS l':=gu h
theorem iF {l l':List SN} (h:l=l'):bY (T:=T) eN l eN l':=gu h
theorem qo {l l':List SE} (h:l=l'):bY (T:=T) eE l eE l':=gu h
theorem gZ {l l':List ByteArray} (h:l=l'):bY (T:=T) 9 l 9 l':=gu h
end Go.Proofs.YtcnfgfomholheaaGreatDoor.Q
end
section
namespace Go.Proofs.YtcnfgfomholheaaGreatDoor.Q
open Go.RowKit Go.Proofs.YtcnfgfomholheaaGreatDoor.Z Go.Proofs.YtcnfgfomholheaaGreatDoor.Pure
set_option linter.unusedVariables false
set_option linter.unusedSimpArgs false
set_option maxRecDepth 100000
set_option maxHeartbeats 4000000
theorem isNaN1 (a:ByteArray):aC T Tryz.prog 206 [.c (.sc (.string a))] (.c (.sc (.bool false))):=by
 refine aH hT Tryz.func206 (by kernel_rfl) rfl rfl (fun A=>?_)
 conv=>whnf
 exact aG.mk ⟨rfl,rfl⟩ ⟨rfl,rfl⟩ ⟨bv (by simp),trivial⟩
theorem isNaN2 (a:ByteArray):aC T Tryz.prog 222 [.c (.sc (.string a))] (.c (.sc (.bool false))):=by
 refine aH hT Tryz.func222 (by kernel_rfl) rfl rfl (fun A=>?_)
 conv=>whnf
 exact aG.mk ⟨rfl,rfl⟩ ⟨rfl,rfl⟩ ⟨bv (by simp),trivial⟩
theorem aax (a b:ByteArray):aC T Tryz.prog 205 [.c (.sc (.string a)), .c (.sc (.string b))] (.c (.sc (.bool (Op.bytesLess a.toList b.toList)))):=by
 refine aH hT Tryz.func205 (by kernel_rfl) rfl rfl (fun A=>?_)
 conv=>whnf
 refine aA.mk _ (isNaN2 a) ?_
 conv=>whnf
 refine Split.mk (fun e=>jy e) (fun _=>?_)
 conv=>whnf
 refine Split.mk (fun e=>jy e) (fun _=>?_)
 conv=>whnf
 exact aG.mk ⟨rfl,rfl⟩ ⟨rfl,rfl⟩ ⟨rfl,trivial⟩
def xw (t s:ByteArray):Bool:=Op.bytesLess s.toList t.toList
def g9 (l:List ByteArray) (k:Nat):ByteArray:=l.getD k (T.df 9)
structure Bs (l:List ByteArray) (t:ByteArray) (i j:Nat):Prop where
 le:i≤j
 hi:j≤l.length
 lo:∀k,k<i→xw t (g9 l k)=true
 up:∀k,j≤k→k<l.length→xw t (g9 l k)=false
theorem aee {i j:Nat} (h:i+j≤140737488351232):IntKind.i64.wrap ((IntKind.u64.wrap (wrap64 ((i:Int)+(j:Int)))).fdiv (2 ^ min (Int.toNat 1) IntKind.u64.bits))=(((i+j) / 2:Nat):Int):=by
 have h1:wrap64 ((i:Int)+(j:Int))=((i+j:Nat):Int):=by simp only [wrap64];omega
 have h2:IntKind.u64.wrap (((i+j:Nat):Int))=((i+j:Nat):Int):=by
  simp only [IntKind.wrap,IntKind.bits,IntKind.signed]
  simp
  omega
 have h3:((2:Int) ^ min (Int.toNat 1) IntKind.u64.bits)=2:=by decide
 rw [h1,h2,h3]
 have h4:(((i+j:Nat):Int)).fdiv 2=(((i+j) / 2:Nat):Int):=by
  rw [Int.fdiv_eq_ediv_of_nonneg _ (by decide)]
  omega
 rw [h4]
 simp only [IntKind.wrap_i64]
 omega
def dN (t:ByteArray) (l:List ByteArray):Nat:=(l.takeWhile (xw t)).length
def kS (t:ByteArray) (l:List ByteArray):Bool:=decide (dN t l<l.length) && ((g9 l (dN t l)).toList==t.toList)
theorem Bs.pos {l:List ByteArray} {t:ByteArray} {i:Nat} (h:Bs l t i i):dN t l=i:=by
 have h1:=h.hi
 have:=(Uc (p:=xw t) (d:=T.df 9) (l:=l) (i:=i) h1 h.lo (by
  rcases Nat.lt_or_ge i l.length with h2 | h2
  ·exact .inr (h.up i (Nat.le_refl _) h2)
  ·exact .inl (by omega))).1
 unfold dN
 rw [←this,List.length_take]
 omega
theorem bsearch (l:List ByteArray) (t:ByteArray) (hl:l.length≤8388608) (hm:∀a b,a≤b→b<l.length→xw t (g9 l b)=true→xw t (g9 l a)=true):aC T Tryz.prog 172 [.c (.sl 9 l), .c (.sc (.string t))] (.tu [(false,[.sc (.int .i64 (dN t l:Int))]),(false,[.sc (.bool (kS t l))])]):=by
 refine aH hT Tryz.func172 (by kernel_rfl) rfl rfl (fun A=>?_)
 conv=>whnf
 refine dJ.mk {p:Nat × Nat // Bs l t p.1 p.2} (fun p=>(0,[(7,i64 p.1.1),(8,i64 p.1.2),(6,i64 l.length),(0,im 9 l),(1, .c (.sc (.string t)))],[])) (fun p=>p.1.2 - p.1.1) ⟨(0,l.length),Nat.zero_le _,Nat.le_refl _,fun k hk=>absurd hk (Nat.not_lt_zero k),fun k h1 h2=>absurd h1 (Nat.not_le_of_lt h2)⟩ (ay [] rfl rfl rfl ⟨⟨rfl,rfl⟩,⟨rfl,rfl⟩,⟨rfl,rfl⟩,⟨rfl,rfl⟩,⟨rfl,rfl⟩,trivial⟩ trivial) ?_
 rintro⟨⟨i,j⟩,hb⟩
 conv=>whnf
 refine Split.mk (fun c=>?_) (fun c=>?_)
 ·have hk2:i<j:=gB c
  clear c
  have hi:=hb.hi
  have hM:=aee (i:=i) (j:=j) (by simp only at hi;omega)
  have hMt:(IntKind.i64.wrap ((IntKind.u64.wrap (wrap64 ((i:Int)+(j:Int)))).fdiv (2 ^ min (Int.toNat 1) IntKind.u64.bits))).toNat=(i+j) / 2:=by rw [hM];rfl
  have hlt:(i+j) / 2<l.length:=by simp only at hi;omega
  conv=>whnf
  refine Need.mk (by rw [hM];exact idx hlt) ?_
  conv=>whnf
  refine aA.mk _ (aax _ _) ?_
  conv=>whnf
  refine Split.mk (fun c=>?_) (fun c=>?_)
  ·have c1:xw t (g9 l ((i+j) / 2))=true:=(congrArg (fun k=>xw t (g9 l k)) hMt.symm).trans c
   conv=>whnf
   exact bn.mk ⟨⟨((i+j) / 2+1,j),by show(i+j) / 2+1≤j;omega,hi,fun k hk=>hm k ((i+j) / 2) (by omega) hlt c1,hb.up⟩,by show j - ((i+j) / 2+1)<j - i;omega,ay [] rfl rfl rfl ⟨⟨rfl,congrArg i64 (show(((i+j) / 2+1:Nat):Int)=wrap64 (IntKind.i64.wrap ((IntKind.u64.wrap (wrap64 ((i:Int)+(j:Int)))).fdiv (2 ^ min (Int.toNat 1) IntKind.u64.bits))+1) by rw [hM];exact dK hlt (by omega))⟩,⟨rfl,rfl⟩,⟨rfl,rfl⟩,⟨rfl,rfl⟩,⟨rfl,rfl⟩,trivial⟩ trivial⟩
  ·have c1:xw t (g9 l ((i+j) / 2))=false:=(congrArg (fun k=>xw t (g9 l k)) hMt.symm).trans c
   conv=>whnf
   exact bn.mk ⟨⟨(i,(i+j) / 2),by show i≤(i+j) / 2;omega,Nat.le_of_lt hlt,hb.lo,fun k h1 h2=>by
    cases hq:xw t (g9 l k) with
    | false=>rfl
    | true=>rw [hm ((i+j) / 2) k h1 h2 hq] at c1;cases c1⟩,by show(i+j) / 2 - i<j - i;omega,ay [] rfl rfl rfl ⟨⟨rfl,rfl⟩,⟨rfl,congrArg i64 hM.symm⟩,⟨rfl,rfl⟩,⟨rfl,rfl⟩,⟨rfl,rfl⟩,trivial⟩ trivial⟩
 ·have hk2:i=j:=Nat.le_antisymm hb.le (gG c)
  clear c
  subst hk2
  have hp:=hb.pos
  conv=>whnf
  refine Split.mk (fun c=>?_) (fun c=>?_)
  ·have hlt:i<l.length:=gB c
   clear c
   conv=>whnf
   refine Need.mk (idx hlt) ?_
   conv=>whnf
   refine Split.mk (fun c=>?_) (fun c=>?_)
   ·conv=>whnf
    exact aG.mk ⟨rfl,rfl⟩ ⟨rfl,rfl⟩ ⟨iv (by rw [hp]),bv (by unfold kS;rw [hp,show((g9 l i).toList==t.toList)=true from c];simp [hlt]),trivial⟩
   ·conv=>whnf
    refine Need.mk (idx hlt) ?_
    conv=>whnf
    refine aA.mk _ (isNaN1 _) ?_
    conv=>whnf
    refine Split.mk (fun e=>jy e) (fun _=>?_)
    conv=>whnf
    exact aG.mk ⟨rfl,rfl⟩ ⟨rfl,rfl⟩ ⟨iv (by rw [hp]),bv (by unfold kS;rw [hp,show((g9 l i).toList==t.toList)=false from c];simp),trivial⟩
  ·have hge:l.length≤i:=gG c
   clear c
   conv=>whnf
   exact aG.mk ⟨rfl,rfl⟩ ⟨rfl,rfl⟩ ⟨iv (by rw [hp]),bv (by unfold kS;rw [hp];simp;omega),trivial⟩
end Go.Proofs.YtcnfgfomholheaaGreatDoor.Q
end
section
namespace Go.Proofs.YtcnfgfomholheaaGreatDoor.Q
open Go.RowKit Go.Proofs.YtcnfgfomholheaaGreatDoor.Z Go.Proofs.YtcnfgfomholheaaGreatDoor.Pure
set_option linter.unusedVariables false
set_option linter.unusedSimpArgs false
set_option maxRecDepth 100000
set_option maxHeartbeats 4000000
theorem G9:∀(a b:List UInt8),Op.bytesLess a b=true→Op.bytesLess b a=false
 | [],[],h=>by simp [Op.bytesLess] at h
 | [],b::y,_=>rfl
 | a::x,[],h=>by simp [Op.bytesLess] at h
 | a::x,b::y,h=>by
   simp only [Op.bytesLess,Bool.or_eq_true,Bool.and_eq_true,decide_eq_true_eq,beq_iff_eq] at h
   simp only [Op.bytesLess,Bool.or_eq_false_iff,Bool.and_eq_false_iff,decide_eq_false_iff_not,beq_eq_false_iff_ne,ne_eq]
   rcases h with h | ⟨h1,h2⟩
   ·exact⟨fun h'=>absurd (UInt8.lt_trans h h') (UInt8.lt_irrefl _), .inl (fun e=>by subst e;exact UInt8.lt_irrefl _ h)⟩
   ·subst h1
    exact⟨UInt8.lt_irrefl _, .inr (G9 x y h2)⟩
theorem EX (a:List UInt8):Op.bytesLess a a=false:=by
 cases h:Op.bytesLess a a with
 | false=>rfl
 | true=>exact absurd (G9 a a h) (by rw [h];decide)
theorem zu:∀(a b c:List UInt8),Op.bytesLess a b=true→Op.bytesLess b c=true→Op.bytesLess a c=true
 | [],[],_,h,_=>by simp [Op.bytesLess] at h
 | a::x,[],_,h,_=>by simp [Op.bytesLess] at h
 | _,b::y,[],_,h=>by simp [Op.bytesLess] at h
 | [],b::y,c::z,_,_=>rfl
 | a::x,b::y,c::z,h,h2=>by
   simp only [Op.bytesLess,Bool.or_eq_true,Bool.and_eq_true,decide_eq_true_eq,beq_iff_eq] at h h2⊢
   rcases h with h | ⟨rfl,h⟩
   ·rcases h2 with h2 | ⟨rfl,h2⟩
    ·exact .inl (UInt8.lt_trans h h2)
    ·exact .inl h
   ·rcases h2 with h2 | ⟨rfl,h2⟩
    ·exact .inl h2
    ·exact .inr ⟨rfl,zu x y z h h2⟩
inductive Tr:SN→Prop
 | mk (n:SN) (hl:n.f0.length=n.f1.length) (hr:n.f0.Pairwise (fun a b=>Op.bytesLess a.toList b.toList=true)) (hk:∀k∈n.f1,Tr k):Tr n
theorem Tr.len {n:SN} (h:Tr n):n.f0.length=n.f1.length:=by cases h;assumption
theorem Tr.kid {n:SN} (h:Tr n):∀k∈n.f1,Tr k:=by cases h;assumption
theorem Tr.rise {n:SN} (h:Tr n):n.f0.Pairwise (fun a b=>Op.bytesLess a.toList b.toList=true):=by cases h;assumption
theorem Tr.up {n:SN} (h:Tr n) (t:ByteArray):∀a b,a≤b→b<n.f0.length→xw t (g9 n.f0 b)=true→xw t (g9 n.f0 a)=true:=by
 cases h with
 | mk _ _ hr _=>
   intro a b hab hb h
   rcases Nat.lt_or_eq_of_le hab with h1 | rfl
   ·have h2:=List.pairwise_iff_getElem.1 hr a b (by omega) hb h1
    rw [show g9 n.f0 b=n.f0[b] from getD_in _ _ _ hb] at h
    have e:=zu _ _ _ h2 h
    rw [←getD_in n.f0 a (T.df 9) (by omega)] at e
    exact e
   ·exact h
theorem vK {t:ByteArray} {l:List ByteArray} (h:kS t l=true):dN t l<l.length:=by
 unfold kS at h
 simp at h
 exact h.1
def dI:List ByteArray→ByteArray→SN→SN
 | [],c,n=>⟨n.f0,n.f1,ng c n.f2⟩
 | t::ts,c,n=>
   bif kS t n.f0 then
    bif (dI ts c (bH T eN n.f1 (dN t n.f0))).f1.length==0 && (dI ts c (bH T eN n.f1 (dN t n.f0))).f2.length==0 then
     ⟨n.f0.take (dN t n.f0)++n.f0.drop (dN t n.f0+1),n.f1.take (dN t n.f0)++n.f1.drop (dN t n.f0+1),n.f2⟩
    else ⟨n.f0,n.f1.set (dN t n.f0) (dI ts c (bH T eN n.f1 (dN t n.f0))),n.f2⟩
   else ⟨n.f0,n.f1,n.f2⟩
abbrev Bv (n:SN):RS T.Tb:= .ag [.ow 9 n.f0, .ow eN n.f1, .ow eS n.f2]
theorem QK (n:SN) (c:ByteArray) (hn:Bd n):aC T Tryz.prog 100 [.ag (T.cells eN n), .c (.sl 9 []), .c (.sc (.string c))] (Bv (dI [] c n)):=by
 refine aH hT Tryz.func100 (by kernel_rfl) rfl rfl (fun A=>?_)
 conv=>whnf
 refine aA.mk _ (vM n hn) ?_
 conv=>whnf
 refine Split.mk (fun _=>?_) (fun e=>jf e)
 conv=>whnf
 refine aA.mk _ (Ua n.f2 c (Nat.le_trans hn.l2 (by decide))) ?_
 conv=>whnf
 exact aG.mk ⟨rfl,rfl⟩ ⟨rfl,rfl⟩ ⟨rfl,rfl,rfl,trivial⟩
theorem tl_ {α:Type} (t:α) (ts:List α):((t::ts).drop 1).take ((t::ts).length - 1)=ts:=by simp
theorem abA {n:Nat} (h:((n:Int)==0)=true):n=0:=by simp at h;exact h
theorem abB {n:Nat} (h:((n:Int)==0)=false):¬n=0:=by simp at h;exact h
theorem Oe (n:SN) (t:ByteArray) (ts:List ByteArray) (c:ByteArray) (hn:Bd n) (htr:Tr n) (hts:(t::ts).length≤2097152) (ih:kS t n.f0=true→aC T Tryz.prog 100 [.ag (T.cells eN (bH T eN n.f1 (dN t n.f0))), .c (.sl 9 (((t::ts).drop 1).take ((t::ts).length - 1))), .c (.sc (.string c))] (Bv (dI ts c (bH T eN n.f1 (dN t n.f0))))):aC T Tryz.prog 100 [.ag (T.cells eN n), .c (.sl 9 (t::ts)), .c (.sc (.string c))] (Bv (dI (t::ts) c n)):=by
 have hl0:=hn.l0
 have hl1:=hn.l1
 generalize hK:dI ts c (bH T eN n.f1 (dN t n.f0))=K at ih
 refine aH hT Tryz.func100 (by kernel_rfl) rfl rfl (fun A=>?_)
 conv=>whnf
 refine aA.mk _ (vM n hn) ?_
 conv=>whnf
 refine Split.mk (fun e=>?_) (fun _=>?_)
 ·simp at e
 conv=>whnf
 refine Need.mk (idx (Nat.succ_pos _)) ?_
 conv=>whnf
 refine aA.mk _ (bsearch n.f0 t (Nat.le_trans hn.l0 (by decide)) (htr.up t)) ?_
 conv=>whnf
 refine aZ.mk ⟨by kernel_rfl,by kernel_rfl⟩ ?_
 conv=>whnf
 refine Split.mk (fun e=>?_) (fun e=>?_)
 ·have hf:kS t n.f0=false:=dh e
  conv=>whnf
  exact aG.mk ⟨rfl,rfl⟩ ⟨rfl,rfl⟩ ⟨gZ (by simp [dI,hf]),iF (by simp [dI,hf]),gX (by simp [dI,hf]),trivial⟩
 ·have hf:kS t n.f0=true:=dA e
  have ih:=ih hf
  have hp:=vK hf
  have hp1:dN t n.f0<n.f1.length:=by rw [←htr.len];exact hp
  conv=>whnf
  refine Need.mk (idx hp1) ?_
  conv=>whnf
  refine Need.mk ⟨by decide,Int.ofNat_le.2 (show 1≤ts.length+1 from Nat.succ_le_succ (Nat.zero_le _)),Int.le_refl _⟩ ?_
  conv=>whnf
  refine aA.mk _ ih ?_
  conv=>whnf
  refine aZ.mk ⟨by kernel_rfl,by kernel_rfl⟩ ?_
  conv=>whnf
  refine Split.mk (fun c1=>?_) (fun c1=>?_)
  ·have e1:K.f1.length=0:=abA c1
   conv=>whnf
   refine Split.mk (fun c2=>?_) (fun c2=>?_)
   ·have e2:K.f2.length=0:=abA c2
    have hw:wrap64 ((dN t n.f0:Int)+1)=((dN t n.f0+1:Nat):Int):=(dK hp (by omega)).symm
    have q0:=aef n.f0 (dN t n.f0) (dN t n.f0+1) (Nat.lt_succ_self _) hp
    have q1:=aeg n.f1 (dN t n.f0) (dN t n.f0+1) (Nat.lt_succ_self _) hp1
    rw [←hw] at q0 q1
    conv=>whnf
    refine aA.wr [[.gv 9],[.rd],[.rd]] (.c (.ow 9 (n.f0.take (dN t n.f0)++n.f0.drop (dN t n.f0+1)))) ?_
    conv=>whnf
    refine jS.mk q0 ?_
    conv=>whnf
    refine aA.wr [[.gv eN],[.rd],[.rd]] (.c (.ow eN (n.f1.take (dN t n.f0)++n.f1.drop (dN t n.f0+1)))) ?_
    conv=>whnf
    refine jS.mk q1 ?_
    conv=>whnf
    exact aG.mk ⟨rfl,rfl⟩ ⟨rfl,rfl⟩ ⟨gZ (by simp [dI,hf,hK,e1,e2]),iF (by simp [dI,hf,hK,e1,e2]),gX (by simp [dI,hf,hK,e1,e2]),trivial⟩
   ·have e2:¬K.f2.length=0:=abB c2
    conv=>whnf
    have b2:(K.f2.length==0)=false:=beq_eq_false_iff_ne.2 e2
    refine Need.mk (idx hp1) ?_
    conv=>whnf
    exact aG.mk ⟨rfl,rfl⟩ ⟨rfl,rfl⟩ ⟨gZ (by simp [dI,hf,hK,e1,b2]),iF (by rw [Bz];simp [dI,hf,hK,e1,b2];rfl),gX (by simp [dI,hf,hK,e1,b2]),trivial⟩
  ·have e1:¬K.f1.length=0:=abB c1
   conv=>whnf
   have b1:(K.f1.length==0)=false:=beq_eq_false_iff_ne.2 e1
   refine Split.mk (fun e=>jy e) (fun _=>?_)
   conv=>whnf
   refine Need.mk (idx hp1) ?_
   conv=>whnf
   exact aG.mk ⟨rfl,rfl⟩ ⟨rfl,rfl⟩ ⟨gZ (by simp [dI,hf,hK,b1]),iF (by rw [Bz];simp [dI,hf,hK,b1];rfl),gX (by simp [dI,hf,hK,b1]),trivial⟩
theorem removed:∀(ls:List ByteArray) (c:ByteArray) (n:SN),ls.length≤2097152→Bd n→Tr n→aC T Tryz.prog 100 [.ag (T.cells eN n), .c (.sl 9 ls), .c (.sc (.string c))] (Bv (dI ls c n))
 | [],c,n,_,hn,_=>QK n c hn
 | t::ts,c,n,hl,hn,ht=>by
   refine Oe n t ts c hn ht hl (fun hf=>?_)
   have hp1:dN t n.f0<n.f1.length:=by rw [←ht.len];exact vK hf
   have hm:bH T eN n.f1 (dN t n.f0)∈n.f1:=getD_mem (l:=n.f1) (d:=T.df eN) hp1
   exact Eq.mpr (congrArg (fun L:List ByteArray=>aC T Tryz.prog 100 [.ag (T.cells eN (bH T eN n.f1 (dN t n.f0))), .c (.sl 9 L), .c (.sc (.string c))] (Bv (dI ts c (bH T eN n.f1 (dN t n.f0))))) (tl_ t ts)) (removed ts c (bH T eN n.f1 (dN t n.f0)) (by simp at hl;omega) (hn.kid _ hm) (ht.kid _ hm))
end Go.Proofs.YtcnfgfomholheaaGreatDoor.Q
end
section
namespace Go.Proofs.YtcnfgfomholheaaGreatDoor.Q
open Go.RowKit Go.Proofs.YtcnfgfomholheaaGreatDoor.Z Go.Proofs.YtcnfgfomholheaaGreatDoor.Pure
set_option linter.unusedVariables false
set_option linter.unusedSimpArgs false
set_option maxRecDepth 100000
set_option maxHeartbeats 4000000
def oG (p:List ByteArray) (s:SS):SE:=⟨dB p,s.f0,s.f1,s.f2⟩
theorem FP (p:List ByteArray) (n:SN):iU p n=n.f2.map (oG p)++fA p n.f0 n.f1:=aay p n
theorem uy {p:List ByteArray} {d:ByteArray} {e:SN}:∀{ns:List ByteArray} {ks:List SN} {k:Nat},k<ns.length→k<ks.length→fA p (ns.take (k+1)) (ks.take (k+1))=fA p (ns.take k) (ks.take k)++iU (p++[ns.getD k d]) (ks.getD k e)
 | [],_,_,h,_=>by simp at h
 | _::_,[],_,_,h=>by simp at h
 | x::r,y::q,0,_,_=>by
   simp only [List.take_succ_cons,List.take_zero,fA,List.append_nil,List.nil_append]
   rfl
 | x::r,y::q,k+1,h,h2=>by
   have:=uy (p:=p) (d:=d) (e:=e) (ns:=r) (ks:=q) (k:=k) (by simpa using h) (by simpa using h2)
   simp only [List.take_succ_cons] at this⊢
   rw [fA,fA,this,List.append_assoc]
   rfl
theorem oO {p:List ByteArray}:∀{ns:List ByteArray} {ks:List SN} {k:Nat},(fA p (ns.take k) (ks.take k)).length≤(fA p ns ks).length
 | [],ks,k=>by rw [List.take_nil,fA];exact Nat.zero_le _
 | _::_,[],0=>by rw [List.take_zero,fA];exact Nat.zero_le _
 | _::_,[],k+1=>by rw [List.take_nil,List.take_succ_cons,fA];exact Nat.zero_le _
 | x::r,y::q,0=>by rw [List.take_zero,fA];exact Nat.zero_le _
 | x::r,y::q,k+1=>by
   have:=oO (p:=p) (ns:=r) (ks:=q) (k:=k)
   simp only [List.take_succ_cons,fA,List.length_append]
   omega
theorem AQ {l:List SS} {p:List ByteArray} {k:Nat} {d:SS} (h:k<l.length):(l.take k).map (oG p)++[oG p (l.getD k d)]=(l.take (k+1)).map (oG p):=by
 rw [List.take_succ_eq_append_getElem h,List.map_append,getD_in (α:=SS) l k d h];rfl
theorem Og (n:SN) (p:List ByteArray) (hn:Bd n) (hl:n.f0.length=n.f1.length) (hp:p.length≤7) (hz:∀x∈p,x.size≤1048576) (hc:(iU p n).length≤4194304)
  (ih:∀i,i<n.f1.length→aC T Tryz.prog 136 [.ag (T.cells eN (bH T eN n.f1 i)), .c (.sl 9 (p++[g9 n.f0 i]))] (.c (.ow eE (iU (p++[g9 n.f0 i]) (bH T eN n.f1 i))))):aC T Tryz.prog 136 [.ag (T.cells eN n), .c (.sl 9 p)] (.c (.ow eE (iU p n))):=by
 have hl2:=hn.l2
 rw [FP] at hc⊢
 rw [List.length_append,List.length_map] at hc
 refine aH hT Tryz.func136 (by kernel_rfl) rfl rfl (fun A=>?_)
 conv=>whnf
 refine dJ.mk {k:Nat // k≤n.f2.length} (fun q=>(2,[(14,i64 q.1),(13,i64 n.f2.length),(12,im eS n.f2),(5, .c (.hd 1)),(2, .c (.px 0 0)),(1,im 9 p)],[(1, .row 1 eE ((n.f2.take q.1).map (oG p))),(0,uj n)])) (fun q=>n.f2.length - q.1) ⟨0,Nat.zero_le _⟩ (ay [(1,1),(0,0)] rfl rfl rfl ⟨⟨rfl,rfl⟩,⟨rfl,rfl⟩,⟨rfl,rfl⟩,⟨rfl,rfl⟩,⟨rfl,rfl⟩,⟨rfl,rfl⟩,trivial⟩ ⟨qo rfl,⟨rfl,rfl⟩,trivial⟩) ?_
 rintro⟨k,hk⟩
 conv=>whnf
 refine Split.mk (fun c=>?_) (fun c=>?_)
 ·have hk2:k<n.f2.length:=gB c
  clear c
  conv=>whnf
  refine Need.mk (idx hk2) ?_
  conv=>whnf
  refine aA.mk _ (Oh p (Nat.le_trans hp (by decide)) (rU p hp hz)) ?_
  conv=>whnf
  refine Need.mk (bV (a:=((n.f2.take k).map (oG p)).length) (b:=1) (by rw [List.length_map,List.length_take];omega) (by decide)) ?_
  conv=>whnf
  refine aZ.mk ⟨by kernel_rfl,by kernel_rfl⟩ ?_
  conv=>whnf
  exact bn.mk ⟨⟨k+1,hk2⟩,Nat.sub_lt_sub_left hk2 (Nat.lt_succ_self k),ay [(1,5),(0,0)] rfl rfl rfl ⟨⟨rfl,congrArg i64 (dK hk2 (by omega))⟩,⟨rfl,rfl⟩,⟨rfl,rfl⟩,⟨rfl,rfl⟩,⟨rfl,rfl⟩,⟨rfl,rfl⟩,trivial⟩ ⟨qo (AQ (d:=T.df eS) hk2),⟨rfl,rfl⟩,trivial⟩⟩
 ·have hk2:k=n.f2.length:=Nat.le_antisymm hk (gG c)
  clear c
  subst hk2
  have hl1:=hn.l1
  conv=>whnf
  refine dJ.mk {k:Nat // k≤n.f1.length} (fun q=>(2,[(34,i64 q.1),(33,i64 n.f1.length),(32,im eN n.f1),(5, .c (.hd 1)),(2, .c (.px 0 0)),(1,im 9 p)],[(1, .row 1 eE (n.f2.map (oG p)++fA p (n.f0.take q.1) (n.f1.take q.1))),(0,uj n)])) (fun q=>n.f1.length - q.1) ⟨0,Nat.zero_le _⟩ (ay [(1,1),(0,0)] rfl rfl rfl ⟨⟨rfl,rfl⟩,⟨rfl,rfl⟩,⟨rfl,rfl⟩,⟨rfl,rfl⟩,⟨rfl,rfl⟩,⟨rfl,rfl⟩,trivial⟩ ⟨qo (by rw [List.take_length];simp [fA];rfl),⟨rfl,rfl⟩,trivial⟩) ?_
  rintro⟨k,hk⟩
  conv=>whnf
  refine Split.mk (fun c=>?_) (fun c=>?_)
  ·have hk2:k<n.f1.length:=gB c
   have hk3:k<n.f0.length:=by omega
   clear c
   conv=>whnf
   refine Need.mk (idx hk2) ?_
   conv=>whnf
   refine Need.mk ⟨zx,bV (a:=0) (b:=p.length) (by omega) (by decide)⟩ ?_
   conv=>whnf
   refine Need.mk (idx hk3) ?_
   conv=>whnf
   refine Need.mk (bV (a:=p.length) (b:=1) (by omega) (by decide)) ?_
   conv=>whnf
   refine aA.mk _ (ih k hk2) ?_
   conv=>whnf
   have hsn:=uy (p:=p) (d:=T.df 9) (e:=T.df eN) hk3 hk2
   have hle:=oO (p:=p) (ns:=n.f0) (ks:=n.f1) (k:=k+1)
   rw [hsn,List.length_append] at hle
   refine Need.mk (bV (a:=(n.f2.map (oG p)++fA p (n.f0.take k) (n.f1.take k)).length) (b:=(iU (p++[g9 n.f0 k]) (bH T eN n.f1 k)).length) (by rw [List.length_append,List.length_map];have hle':_+(iU (p++[g9 n.f0 k]) (bH T eN n.f1 k)).length≤_:=hle;omega) (by decide)) ?_
   conv=>whnf
   refine aZ.mk ⟨by kernel_rfl,by kernel_rfl⟩ ?_
   conv=>whnf
   exact bn.mk ⟨⟨k+1,hk2⟩,Nat.sub_lt_sub_left hk2 (Nat.lt_succ_self k),ay [(1,8),(0,0)] rfl rfl rfl ⟨⟨rfl,congrArg i64 (dK hk2 (by omega))⟩,⟨rfl,rfl⟩,⟨rfl,rfl⟩,⟨rfl,rfl⟩,⟨rfl,rfl⟩,⟨rfl,rfl⟩,trivial⟩ ⟨qo (show(n.f2.map (oG p)++fA p (n.f0.take k) (n.f1.take k))++iU (p++[g9 n.f0 k]) (bH T eN n.f1 k)=n.f2.map (oG p)++fA p (n.f0.take (k+1)) (n.f1.take (k+1)) by rw [hsn,List.append_assoc];rfl),⟨rfl,rfl⟩,trivial⟩⟩
  ·have hk2:k=n.f1.length:=Nat.le_antisymm hk (gG c)
   clear c
   conv=>whnf
   exact aG.mk ⟨rfl,rfl⟩ ⟨rfl,rfl⟩ ⟨qo (by show n.f2.map (oG p)++fA p (n.f0.take k) (n.f1.take k)=_;rw [hk2,List.take_length,←hl,List.take_length]),trivial⟩
theorem KZ {p:List ByteArray} {n:SN} {i:Nat} (h:i<n.f1.length) (hl:n.f0.length=n.f1.length):(iU (p++[g9 n.f0 i]) (bH T eN n.f1 i)).length≤(iU p n).length:=by
 have h3:i<n.f0.length:=by omega
 have hsn:=uy (p:=p) (d:=T.df 9) (e:=T.df eN) h3 h
 have hle:=oO (p:=p) (ns:=n.f0) (ks:=n.f1) (k:=i+1)
 rw [hsn,List.length_append] at hle
 rw [FP,List.length_append]
 have hle':_+(iU (p++[g9 n.f0 i]) (bH T eN n.f1 i)).length≤_:=hle
 omega
theorem BA {l:List ByteArray} {i:Nat} (h:i<l.length):g9 l i∈l:=getD_mem (l:=l) (d:=T.df 9) h
theorem vN {l:List SN} {i:Nat} (h:i<l.length):bH T eN l i∈l:=getD_mem (l:=l) (d:=T.df eN) h
inductive Dp:Nat→SN→Prop
 | mk (d:Nat) (n:SN) (h:n.f1≠[]→0<d) (hk:∀k∈n.f1,Dp (d - 1) k):Dp d n
theorem Dp.pos {d:Nat} {n:SN} (h:Dp d n) (hne:n.f1≠[]):0<d:=by cases h with | mk _ _ h _=>exact h hne
theorem Dp.kid {d:Nat} {n:SN} (h:Dp d n):∀k∈n.f1,Dp (d - 1) k:=by cases h with | mk _ _ _ h=>exact h
theorem entriesOf:∀(n:SN) (p:List ByteArray) (d:Nat),Bd n→Tr n→Dp d n→p.length+d≤7→(∀x∈p,x.size≤1048576)→(iU p n).length≤4194304→aC T Tryz.prog 136 [.ag (T.cells eN n), .c (.sl 9 p)] (.c (.ow eE (iU p n))):=fun n p d hn ht hd hp hz hc=>
 Og n p hn ht.len (by omega) hz hc (fun i hi=>by
  have hm:bH T eN n.f1 i∈n.f1:=vN hi
  have h9:g9 n.f0 i∈n.f0:=BA (by rw [ht.len];exact hi)
  have hpos:=hd.pos (fun e=>by rw [e] at hi;simp at hi)
  have hx:(bH T eN n.f1 i:SN)∈n.f1:=hm
  exact entriesOf (bH T eN n.f1 i) (p++[g9 n.f0 i]) (d - 1) (hn.kid _ hm) (ht.kid _ hm) (hd.kid _ hm) (by rw [List.length_append];show p.length+1+(d - 1)≤7;omega) (fun y hy=>(List.mem_append.1 hy).elim (hz y) (fun h=>by rw [List.mem_singleton.1 h];exact hn.z0 _ h9)) (Nat.le_trans (KZ hi ht.len) hc))
termination_by n=>SizeOf.sizeOf n
decreasing_by exact mF hm
theorem EY (n:SN) (hn:Bd n) (hg:gI n=true→Tr n∧Dp 7 n) (hc:(dZ n).length≤4194304):aC T Tryz.prog 71 [.ag (T.cells eN n)] (.c (.ow eE (dZ n))):=by
 refine aH hT Tryz.func71 (by kernel_rfl) rfl rfl (fun A=>?_)
 conv=>whnf
 refine aA.mk _ (He n hn) ?_
 conv=>whnf
 refine Split.mk (fun c=>?_) (fun c=>?_)
 ·have h0:gI n=false:=dh c
  conv=>whnf
  exact aG.mk ⟨rfl,rfl⟩ ⟨rfl,rfl⟩ ⟨⟨rfl,show dZ n=[] by unfold dZ;rw [h0];rfl⟩,trivial⟩
 ·have h0:gI n=true:=dA c
  have he:dZ n=iU [] n:=by unfold dZ;rw [if_pos h0]
  rw [he] at hc⊢
  conv=>whnf
  refine aA.mk _ (La (entriesOf n [] 7 hn (hg h0).1 (hg h0).2 (by decide) (fun x hx=>by cases hx) hc)) ?_
  conv=>whnf
  exact aG.mk ⟨rfl,rfl⟩ ⟨rfl,rfl⟩ ⟨rfl,trivial⟩
end Go.Proofs.YtcnfgfomholheaaGreatDoor.Q
end
section
namespace Go.Proofs.YtcnfgfomholheaaGreatDoor.Q
open Go.RowKit Go.Proofs.YtcnfgfomholheaaGreatDoor.Z Go.Proofs.YtcnfgfomholheaaGreatDoor.Pure
set_option linter.unusedVariables false
set_option linter.unusedSimpArgs false
set_option maxRecDepth 100000
set_option maxHeartbeats 4000000
theorem uX {α:Type} (l:List α) (i:Nat):(l.take i++l.drop (i+1)).Sublist l:=by
 have:=(List.drop_sublist_drop_left l (Nat.le_succ i)).append_left (l.take i)
 rwa [List.take_append_drop] at this
theorem Rz:∀(ls:List ByteArray) (c:ByteArray) (n:SN),Bd n→Tr n→Bd (dI ls c n)
 | [],c,n,h,_=> .mk _ h.l0 h.z0 h.l1 (Nat.le_trans (xu c n.f2) h.l2) (fun x hx=>h.z2 x (List.filter_sublist.subset hx)) h.kid
 | t::ts,c,n,h,ht=>by
   unfold dI
   cases hf:kS t n.f0 with
   | false=>exact .mk _ h.l0 h.z0 h.l1 h.l2 h.z2 h.kid
   | true=>
     have hp:dN t n.f0<n.f1.length:=by rw [←ht.len];exact vK hf
     have ih:=Rz ts c (bH T eN n.f1 (dN t n.f0)) (h.kid _ (vN hp)) (ht.kid _ (vN hp))
     generalize dI ts c (bH T eN n.f1 (dN t n.f0))=K at ih⊢
     cases K.f1.length==0 && K.f2.length==0 with
     | true=>exact .mk _ (Nat.le_trans (uX n.f0 _).length_le h.l0) (fun x hx=>h.z0 x ((uX n.f0 _).subset hx)) (Nat.le_trans (uX n.f1 _).length_le h.l1) h.l2 h.z2 (fun x hx=>h.kid x ((uX n.f1 _).subset hx))
     | false=>exact .mk _ h.l0 h.z0 (by show(n.f1.set _ _).length≤_;rw [List.length_set];exact h.l1) h.l2 h.z2 (fun x hx=>(List.mem_or_eq_of_mem_set hx).elim (h.kid x) (fun e=>e▸ih))
theorem D8:∀(ls:List ByteArray) (c:ByteArray) (n:SN),Tr n→Tr (dI ls c n)
 | [],c,n,h=> .mk _ h.len h.rise h.kid
 | t::ts,c,n,h=>by
   unfold dI
   cases hf:kS t n.f0 with
   | false=>exact .mk _ h.len h.rise h.kid
   | true=>
     have hp:dN t n.f0<n.f1.length:=by rw [←h.len];exact vK hf
     have ih:=D8 ts c (bH T eN n.f1 (dN t n.f0)) (h.kid _ (vN hp))
     generalize dI ts c (bH T eN n.f1 (dN t n.f0))=K at ih⊢
     have hlen:=h.len
     have hp0:=vK hf
     cases K.f1.length==0 && K.f2.length==0 with
     | true=>exact .mk _ (by show(n.f0.take _++n.f0.drop _).length=(n.f1.take _++n.f1.drop _).length;simp only [List.length_append,List.length_take,List.length_drop];omega) (h.rise.sublist (uX n.f0 _)) (fun x hx=>h.kid x ((uX n.f1 _).subset hx))
     | false=>exact .mk _ (by show n.f0.length=(n.f1.set _ _).length;rw [List.length_set];exact hlen) h.rise (fun x hx=>(List.mem_or_eq_of_mem_set hx).elim (h.kid x) (fun e=>e▸ih))
end Go.Proofs.YtcnfgfomholheaaGreatDoor.Q
end
section
namespace Go.Proofs.YtcnfgfomholheaaGreatDoor.Q
open Go.RowKit Go.Proofs.YtcnfgfomholheaaGreatDoor.Z Go.Proofs.YtcnfgfomholheaaGreatDoor.Pure
set_option linter.unusedVariables false
set_option linter.unusedSimpArgs false
set_option maxRecDepth 100000
set_option maxHeartbeats 4000000
theorem QL (n:SN) (hn:Bd n) (ih:∀k∈n.f1,aC T Tryz.prog 95 [.ag (T.cells eN k)] (Bv k)):aC T Tryz.prog 95 [.ag (T.cells eN n)] (Bv n):=by
 have hl0:=hn.l0
 have hl1:=hn.l1
 have hl2:=hn.l2
 refine kM hT Tryz.func95 (by kernel_rfl) rfl rfl (fun A=>?_)
 refine Vc.seq 0 hT ?_
 conv=>whnf
 refine Vc.seq 2 hT ?_
 conv=>whnf
 refine Need.mk ⟨zx,bV (a:=0) (b:=n.f0.length) (by omega) (by decide)⟩ ?_
 conv=>whnf
 refine Need.mk ⟨ZQ,bV (a:=0) (b:=n.f2.length) (by omega) (by decide)⟩ ?_
 conv=>whnf
 refine aZ.mk ⟨by kernel_rfl,by kernel_rfl⟩ ?_
 conv=>whnf
 refine Vc.of 10 hT ?_
 conv=>whnf
 refine dJ.mk {k:Nat // k≤n.f1.length} (fun p=>(8,[(4,i64 p.1),(3, .c (.px 6 0)),(2, .c (.px 1 0)),(1, .c (.px 0 0))],[(6, .bx eN [.hd 3, .hd 7, .hd 5]),(3, .row 3 9 n.f0),(7, .row 7 eN (n.f1.take p.1)),(5, .row 5 eS n.f2),(1,RD),(0,uj n)])) (fun p=>n.f1.length - p.1) ⟨0,Nat.zero_le _⟩ ((vO 6 1 20 eN (t:=eN) (cs:=[.hd 3, .sc (.slice none 0 0), .hd 5]) rfl rfl rfl).trans (ay [(6,6),(3,3),(7,20),(5,5),(1,1),(0,0)] rfl rfl rfl ⟨⟨rfl,rfl⟩,⟨rfl,rfl⟩,⟨rfl,rfl⟩,⟨rfl,rfl⟩,trivial⟩ ⟨⟨rfl,rfl⟩,gZ rfl,iF rfl,gX rfl,⟨rfl,rfl⟩,⟨rfl,rfl⟩,trivial⟩)) ?_
 rintro⟨k,hk⟩
 conv=>whnf
 refine Split.mk (fun c=>?_) (fun c=>?_)
 ·have hk2:k<n.f1.length:=gB c
  clear c
  conv=>whnf
  refine Need.mk (idx hk2) ?_
  conv=>whnf
  refine aA.mk _ (ih _ (vN hk2)) ?_
  conv=>whnf
  refine Need.mk (bV (a:=(n.f1.take k).length) (b:=1) (by rw [List.length_take];omega) (by decide)) ?_
  conv=>whnf
  exact bn.mk ⟨⟨k+1,hk2⟩,Nat.sub_lt_sub_left hk2 (Nat.lt_succ_self k),ay [(6,6),(3,3),(7,13),(5,5),(1,1),(0,0)] rfl rfl rfl ⟨⟨rfl,congrArg i64 (dK hk2 (by omega))⟩,⟨rfl,rfl⟩,⟨rfl,rfl⟩,⟨rfl,rfl⟩,trivial⟩ ⟨⟨rfl,rfl⟩,gZ rfl,iF (take_snoc hk2),gX rfl,⟨rfl,rfl⟩,⟨rfl,rfl⟩,trivial⟩⟩
 ·have hk2:k=n.f1.length:=Nat.le_antisymm hk (gG c)
  subst hk2
  conv=>whnf
  exact aG.mk ⟨rfl,rfl⟩ ⟨rfl,rfl⟩ ⟨rfl,iF (List.take_length),rfl,trivial⟩
theorem qQ:∀(n:SN),Bd n→aC T Tryz.prog 95 [.ag (T.cells eN n)] (Bv n):=fun n hn=>
 QL n hn (fun k hk=>qQ k (by cases hn with | mk _ _ _ _ _ _ h=>exact h k hk))
termination_by n=>SizeOf.sizeOf n
decreasing_by exact mF hk
end Go.Proofs.YtcnfgfomholheaaGreatDoor.Q
end
section
namespace Go.Proofs.YtcnfgfomholheaaGreatDoor.Q
open Go.RowKit Go.Proofs.YtcnfgfomholheaaGreatDoor.Z Go.Proofs.YtcnfgfomholheaaGreatDoor.Pure
set_option linter.unusedVariables false
set_option linter.unusedSimpArgs false
set_option maxRecDepth 100000
set_option maxHeartbeats 4000000
def gJ (n:SN):Bool:=decide (0<n.f0.length) || decide (0<n.f2.length)
theorem Hf {c:ByteArray} {l:List SS} {k:Nat} {d:SS} (h:k<l.length):ng c (l.take (k+1))=ng c (l.take k)++bif (l.getD k d).f0.toList==c.toList then [] else [l.getD k d]:=by
 unfold ng
 rw [List.take_succ_eq_append_getElem h,List.filter_append,getD_in l k d h]
 cases hq:l[k].f0.toList==c.toList<;>simp [hq]
abbrev Ud (n:SN):RS T.Tb:= .ag [.im 9 n.f0, .im eN n.f1, .im eS n.f2]
abbrev BD:Cell T:= .sc (.slice none 0 0)
def gS (l:List SS) (i:Nat):SS:=l.getD i (T.df eS)
def gN (l:List SN) (i:Nat):SN:=l.getD i (T.df eN)
theorem RF {l m:List (ByteArray × SN)} {x:ByteArray} {K:SN} (h:m=l++bif true then [(x,K)] else []):l.map (·.1)++[x]=m.map (·.1):=by rw [h];simp
theorem RG {l m:List (ByteArray × SN)} {x:ByteArray} {K:SN} (h:m=l++bif true then [(x,K)] else []):l.map (·.2)++[(⟨K.f0,K.f1,K.f2⟩:SN)]=m.map (·.2):=by rw [h,Bz];simp
theorem Yx {l m:List (ByteArray × SN)} {x:ByteArray} {K:SN} (h:m=l++bif false then [(x,K)] else []):l.map (·.1)=m.map (·.1):=by rw [h];simp
theorem Yy {l m:List (ByteArray × SN)} {x:ByteArray} {K:SN} (h:m=l++bif false then [(x,K)] else []):l.map (·.2)=m.map (·.2):=by rw [h];simp
theorem abC {b:Bool} (h:(!b)=true):b=false:=by cases b<;>simp_all
theorem abD {b:Bool} (h:(!b)=false):b=true:=by cases b<;>simp_all
end Go.Proofs.YtcnfgfomholheaaGreatDoor.Q
end
section
namespace Go.Proofs.YtcnfgfomholheaaGreatDoor.Q
open Go.RowKit Go.Proofs.YtcnfgfomholheaaGreatDoor.Z Go.Proofs.YtcnfgfomholheaaGreatDoor.Pure
set_option linter.unusedVariables false
set_option linter.unusedSimpArgs false
def lS (n:SN):List (ByteArray × SN):=n.f0.zip n.f1
abbrev RH (a b:ByteArray):Prop:=Op.bytesLess a.toList b.toList=true
theorem RI {a:ByteArray} (h:RH a a):False:=by unfold RH at h;rw [EX] at h;cases h
theorem uY {n:SN} (h:Tr n):(lS n).map (·.1)=n.f0:=by unfold lS;exact List.map_fst_zip (by rw [h.len];exact Nat.le_refl _)
theorem yM {n:SN} (h:Tr n):(lS n).map (·.2)=n.f1:=by unfold lS;exact List.map_snd_zip (by rw [h.len];exact Nat.le_refl _)
theorem Yz {n:SN} (h:Tr n):(lS n).Pairwise (fun a b=>RH a.1 b.1):=by
 have:=h.rise
 rw [←uY h] at this
 exact List.pairwise_map.1 this
theorem RJ {n:SN} {x:ByteArray × SN} (h:x∈lS n):x.2∈n.f1:=(List.of_mem_zip (a:=x.1) (b:=x.2) h).2
theorem pos_at {l:List ByteArray} {t:ByteArray} {i:Nat} (hr:l.Pairwise RH) (h:l[i]? =some t):dN t l=i∧kS t l=true:=by
 obtain⟨hi,rfl⟩:=List.getElem?_eq_some_iff.1 h
 have h1:=(Uc (p:=xw l[i]) (d:=T.df 9) (l:=l) (i:=i) (Nat.le_of_lt hi) (fun j hj=>by
  have e:l.getD j (T.df 9)=l[j]:=getD_in l j (T.df 9) (by omega)
  rw [e]
  exact List.pairwise_iff_getElem.1 hr j i (by omega) hi hj) (.inr (by
  have e:l.getD i (T.df 9)=l[i]:=getD_in l i (T.df 9) hi
  rw [e]
  exact EX _))).1
 have h2:dN l[i] l=i:=by
  unfold dN
  rw [←h1,List.length_take];omega
 refine⟨h2,?_⟩
 unfold kS
 rw [h2,show g9 l i=l[i] from getD_in l i (T.df 9) hi]
 simp [hi]
theorem abE {l:List ByteArray} {t:ByteArray} (h:kS t l=true):l[dN t l]? =some t:=by
 have hp:=vK h
 unfold kS at h
 simp only [Bool.and_eq_true,decide_eq_true_eq] at h
 have h2:=YA h.2
 rw [show g9 l (dN t l)=l[dN t l] from getD_in l _ (T.df 9) hp] at h2
 rw [List.getElem?_eq_getElem hp,h2]
theorem abG {n:SN} (ht:Tr n) {t:ByteArray} {k:SN} (h:(t,k)∈lS n):kS t n.f0=true∧gN n.f1 (dN t n.f0)=k:=by
 obtain⟨i,hi,e⟩:=List.mem_iff_getElem.1 h
 have hi':i<n.f0.length∧i<n.f1.length:=by unfold lS at hi;rw [List.length_zip] at hi;omega
 have e':(n.f0[i],n.f1[i])=(t,k):=by rw [←e];exact(List.getElem_zip (h:=hi)).symm
 cases e'
 obtain⟨h1,h2⟩:=pos_at (i:=i) ht.rise (List.getElem?_eq_getElem hi'.1)
 refine⟨h2,?_⟩
 rw [h1]
 exact getD_in n.f1 i (T.df eN) hi'.2
inductive Gd:SN→Prop
 | mk (n:SN) (ht:Tr n) (hf:∀k∈n.f1,k.f1≠[]∨k.f2≠[]) (hk:∀k∈n.f1,Gd k):Gd n
theorem Gd.tr {n:SN} (h:Gd n):Tr n:=by cases h;assumption
theorem Gd.full {n:SN} (h:Gd n):∀k∈n.f1,k.f1≠[]∨k.f2≠[]:=by cases h;assumption
theorem Gd.kid {n:SN} (h:Gd n):∀k∈n.f1,Gd k:=by cases h;assumption
end Go.Proofs.YtcnfgfomholheaaGreatDoor.Q
end
section
namespace Go.Proofs.YtcnfgfomholheaaGreatDoor.Q
open Go.RowKit Go.Proofs.YtcnfgfomholheaaGreatDoor.Z Go.Proofs.YtcnfgfomholheaaGreatDoor.X Go.Proofs.YtcnfgfomholheaaGreatDoor.Pure
set_option linter.unusedVariables false
set_option linter.unusedSimpArgs false
theorem Lc {p:List ByteArray}:∀{ns:List ByteArray} {y:Option ByteArray} {ks:List SN},ns.length=ks.length→lU p ns y ks=true→ns.Pairwise RH∧∀x∈ns,ni y x=true
 | [],y,ks,_,_=>⟨.nil,fun x hx=>by cases hx⟩
 | x::r,y,[],h,_=>by simp at h
 | x::r,y,k::q,h,ho=>by
   obtain⟨h1,_,_,_,h5⟩:=sN.1 ho
   obtain⟨a,b⟩:=Lc (by simpa using h) h5
   refine⟨List.pairwise_cons.2 ⟨fun z hz=>b z hz,a⟩,fun z hz=>?_⟩
   rcases List.mem_cons.1 hz with rfl | hz
   ·exact h1
   ·cases y with
    | none=>rfl
    | some y=>exact zu _ _ _ h1 (b z hz)
theorem RN {p:List ByteArray}:∀{ns:List ByteArray} {y:Option ByteArray} {ks:List SN},lU p ns y ks=true→∀x k,(x,k)∈ns.zip ks→JC x k=true∧(k.f1.length≠0∨k.f2.length≠0)∧okI (p++[x]) k=true
 | [],y,ks,_,x,k,h=>by simp at h
 | x::r,y,[],_,x',k',h=>by simp at h
 | x::r,y,k::q,ho,x',k',h=>by
   obtain⟨_,h2,h3,h4,h5⟩:=sN.1 ho
   rw [List.zip_cons_cons] at h
   rcases List.mem_cons.1 h with h | h
   ·cases h;exact⟨h2,h3,h4⟩
   ·exact RN h5 x' k' h
theorem aaz {n:SN} (hl:n.f0.length=n.f1.length) {k:SN} (hk:k∈n.f1):∃x,(x,k)∈lS n:=by
 have:k∈(lS n).map (·.2):=by unfold lS;rw [List.map_snd_zip (by omega)];exact hk
 obtain⟨⟨x,k'⟩,h,rfl⟩:=List.mem_map.1 this
 exact⟨x,h⟩
theorem Ue:∀(n:SN) (p:List ByteArray),okI p n=true→Gd n∧Dp (7 - p.length) n:=fun n p h=>by
 obtain⟨h1,h2,h3,h4,h5⟩:=sO.1 h
 have hk:∀k∈n.f1,(Gd k∧Dp (7 - (p.length+1)) k)∧(k.f1≠[]∨k.f2≠[])∧p.length+1≤6:=fun k hk=>by
  obtain⟨x,hx⟩:=aaz h1 hk
  obtain⟨_,a2,a3⟩:=RN h5 x k hx
  have:=Ue k (p++[x]) a3
  have h7:=(sO.1 a3).2.1
  rw [List.length_append] at this h7
  refine⟨this,a2.imp (fun h e=>h (by rw [e];rfl)) (fun h e=>h (by rw [e];rfl)),h7⟩
 refine⟨.mk n (.mk n h1 (Lc h1 h5).1 (fun k h=>(hk k h).1.1.tr)) (fun k h=>(hk k h).2.1) (fun k h=>(hk k h).1.1), .mk _ n (fun hne=>?_) (fun k h=>?_)⟩
 ·obtain⟨k,h⟩:=List.exists_mem_of_ne_nil _ hne
  have:=(hk k h).2.2
  omega
 ·have:=(hk k h).1.2
  rw [show 7 - p.length - 1=7 - (p.length+1) by omega]
  exact this
termination_by n=>SizeOf.sizeOf n
decreasing_by exact mF hk
theorem Ld {n:SN} (h:gI n=true):okI [] n=true∧n.f2=[]:=by
 unfold gI at h
 simp only [Bool.and_eq_true,decide_eq_true_eq] at h
 exact⟨h.2,List.length_eq_zero_iff.1 h.1⟩
theorem qp {n:SN} (h:gI n=true):Tr n∧Dp 7 n:=by
 have:=Ue n [] (Ld h).1
 exact⟨this.1.tr,this.2⟩
end Go.Proofs.YtcnfgfomholheaaGreatDoor.Q
end
section
namespace Go.Proofs.YtcnfgfomholheaaGreatDoor.Q
open Go.RowKit Go.Proofs.YtcnfgfomholheaaGreatDoor.Z Go.Proofs.YtcnfgfomholheaaGreatDoor.X Go.Proofs.YtcnfgfomholheaaGreatDoor.Pure
set_option linter.unusedVariables false
set_option linter.unusedSimpArgs false
theorem Wi {n:SN} (ht:Tr n) {i:Nat} (hi:i<n.f1.length) (K:SN):∃A B t k,lS n=A++(t,k)::B∧n.f0[i]? =some t∧n.f1[i]? =some k∧lS ⟨n.f0.take i++n.f0.drop (i+1),n.f1.take i++n.f1.drop (i+1),n.f2⟩=A++B∧lS ⟨n.f0,n.f1.set i K,n.f2⟩=A++(t,K)::B:=by
 have hi0:i<n.f0.length:=by rw [ht.len];exact hi
 have hl:(n.f0.take i).length=(n.f1.take i).length:=by rw [List.length_take,List.length_take,ht.len]
 have e0:n.f0=n.f0.take i++n.f0[i]::n.f0.drop (i+1):=by rw [←List.drop_eq_getElem_cons hi0,List.take_append_drop]
 have e1:n.f1=n.f1.take i++n.f1[i]::n.f1.drop (i+1):=by rw [←List.drop_eq_getElem_cons hi,List.take_append_drop]
 refine⟨(n.f0.take i).zip (n.f1.take i),(n.f0.drop (i+1)).zip (n.f1.drop (i+1)),n.f0[i],n.f1[i],?_,List.getElem?_eq_getElem hi0,List.getElem?_eq_getElem hi,?_,?_⟩
 ·unfold lS
  rw [←List.zip_cons_cons,←List.zip_append hl,←e0,←e1]
 ·unfold lS
  exact List.zip_append hl
 ·unfold lS
  rw [←List.zip_cons_cons,←List.zip_append hl,←e0]
  congr 1
  rw [List.set_eq_take_append_cons_drop,if_pos hi]
theorem Wj {A B:List (ByteArray × SN)} {t:ByteArray} {k:SN} (h:(A++(t,k)::B).Pairwise (fun a b=>RH a.1 b.1)):∀x,x∈A++B→x.1≠t:=fun x hx e=>by
 obtain⟨_,h1,h2⟩:=List.pairwise_append.1 h
 rcases List.mem_append.1 hx with hx | hx
 ·have:=h2 x hx (t,k) List.mem_cons_self
  rw [e] at this
  exact RI this
 ·have:=(List.pairwise_cons.1 h1).1 x hx
  rw [e] at this
  exact RI this
theorem Oi (t:ByteArray) (ts:List ByteArray) (c:ByteArray) (n:SN) (ht:Tr n) (hf:kS t n.f0=true):∃A B k,lS n=A++(t,k)::B∧k∈n.f1∧(((dI ts c k).f1.length=0∧(dI ts c k).f2.length=0)∧lS (dI (t::ts) c n)=A++B∨((dI ts c k).f1≠[]∨(dI ts c k).f2≠[])∧lS (dI (t::ts) c n)=A++(t,dI ts c k)::B)∧(dI (t::ts) c n).f2=n.f2:=by
 have hp:dN t n.f0<n.f1.length:=by rw [←ht.len];exact vK hf
 obtain⟨A,B,t',k,h1,h2,h3,h4,h5⟩:=Wi ht hp (dI ts c (gN n.f1 (dN t n.f0)))
 have e1:t'=t:=Option.some.inj (h2.symm.trans (abE hf))
 subst e1
 have e2:gN n.f1 (dN t' n.f0)=k:=by
  obtain⟨_,e⟩:=List.getElem?_eq_some_iff.1 h3
  rw [←e]
  exact getD_in n.f1 _ (T.df eN) hp
 rw [e2] at h5
 have hkm:k∈n.f1:=List.mem_of_getElem? h3
 have hR:dI (t'::ts) c n=bif (dI ts c k).f1.length==0 && (dI ts c k).f2.length==0 then ⟨n.f0.take (dN t' n.f0)++n.f0.drop (dN t' n.f0+1),n.f1.take (dN t' n.f0)++n.f1.drop (dN t' n.f0+1),n.f2⟩ else ⟨n.f0,n.f1.set (dN t' n.f0) (dI ts c k),n.f2⟩:=by
  rw [dI,hf]
  have e3:bH T eN n.f1 (dN t' n.f0)=k:=e2
  rw [e3]
  rfl
 refine⟨A,B,k,h1,hkm,?_,?_⟩
 ·rw [hR]
  by_cases hz:(dI ts c k).f1.length=0∧(dI ts c k).f2.length=0
  ·refine .inl ⟨hz,?_⟩
   simp only [hz.1,hz.2,beq_self_eq_true,Bool.and_self,cond_true]
   exact h4
  ·refine .inr ⟨?_,?_⟩
   ·by_cases h6:(dI ts c k).f1.length=0
    ·exact .inr (fun e=>hz ⟨h6,by rw [e];rfl⟩)
    ·exact .inl (fun e=>h6 (by rw [e];rfl))
   ·have:((dI ts c k).f1.length==0 && (dI ts c k).f2.length==0)=false:=by
     rw [Bool.and_eq_false_iff,beq_eq_false_iff_ne,beq_eq_false_iff_ne]
     by_cases h6:(dI ts c k).f1.length=0
     ·exact .inr (fun h7=>hz ⟨h6,h7⟩)
     ·exact .inl h6
    rw [this]
    exact h5
 ·rw [hR]
  cases (dI ts c k).f1.length==0 && (dI ts c k).f2.length==0<;>rfl
theorem Oj (t:ByteArray) (ts:List ByteArray) (c:ByteArray) (n:SN) (hf:kS t n.f0=false):dI (t::ts) c n=n:=by rw [dI,hf];exact Bz n
end Go.Proofs.YtcnfgfomholheaaGreatDoor.Q
end
section
namespace Go.Proofs.YtcnfgfomholheaaGreatDoor.Q
open Go.RowKit Go.Proofs.YtcnfgfomholheaaGreatDoor.Z Go.Proofs.YtcnfgfomholheaaGreatDoor.X Go.Proofs.YtcnfgfomholheaaGreatDoor.Pure
set_option linter.unusedVariables false
set_option linter.unusedSimpArgs false
theorem Ol:∀(l:List SS) (k:Nat),(aY dS l k).2=k+3*l.length
 | [],k=>rfl
 | p::l,k=>by
   show(aY dS l (k+3)).2=_
   rw [Ol l (k+3),List.length_cons];omega
mutual
theorem JD:∀(n:SN) (k:Nat),(bJ n k).2≤k+3*cnt n
 | ⟨a,b,c⟩,k=>by
   rw [bJ,cnt]
   show(aY dS c (qR b (k+1*a.length)).2).2≤_
   rw [Ol]
   have:=Om b (k+1*a.length)
   omega
theorem Om:∀(l:List SN) (k:Nat),(qR l k).2≤k+3*lg l
 | [],k=>by rw [qR,lg];exact Nat.le_refl _
 | p::l,k=>by
   rw [qR,lg]
   show(qR l (bJ p k).2).2≤_
   have h1:=JD p k
   have h2:=Om l (bJ p k).2
   omega
end
theorem mO {n:Nat} {x:Int} (h:0≤dX n x):dX n x+n≤x:=by unfold dX at*;split at h<;>(try split)<;>omega
def sumF {α:Type} (g:α→Nat):List α→Nat
 | []=>0
 | a::l=>g a+sumF g l
theorem RP {α:Type} {F:α→Int→Int} {g:α→Nat}:∀{l:List α} {x:Int},(∀a∈l,∀x,0≤x→0≤F a x→F a x+g a≤x)→0≤x→0≤iG F l x→iG F l x+sumF g l≤x
 | [],x,_,_,_=>by show x+((0:Nat):Int)≤x;omega
 | a::l,x,hF,h0,h=>by
   obtain⟨h1,h2⟩:=lq h
   have e:iG F (a::l) x=iG F l (F a x):=zy h1
   have h3:=hF a List.mem_cons_self x h0 h1
   have h4:=RP (g:=g) (l:=l) (fun b hb=>hF b (List.mem_cons_of_mem _ hb)) h1 h2
   rw [e]
   show _+((g a+sumF g l:Nat):Int)≤x
   omega
theorem uZ {α:Type} {F:α→Int→Int}:∀{l:List α} {x:Int},(∀a∈l,∀x,0≤x→F a x≤x)→0≤x→0≤iG F l x→∀a∈l,∃v,0≤v∧v≤x∧0≤F a v
 | [],x,_,_,_,a,ha=>by cases ha
 | b::l,x,hF,h0,h,a,ha=>by
   obtain⟨h1,h2⟩:=lq h
   rcases List.mem_cons.1 ha with rfl | ha
   ·exact⟨x,h0,Int.le_refl _,h1⟩
   ·have h3:=hF b List.mem_cons_self x h0
    obtain⟨v,v1,v2,v3⟩:=uZ (l:=l) (fun b hb=>hF b (List.mem_cons_of_mem _ hb)) h1 h2 a ha
    exact⟨v,v1,by omega,v3⟩
theorem RQ:∀l:List LN,sumF (fun a=>cnt (tN a)) l=lg (l.map tN)
 | []=>by rw [List.map_nil,lg];rfl
 | a::l=>by rw [List.map_cons,lg,←RQ l];rfl
theorem RU {l:List ByteArray} {x:Int} (h0:0≤x) (h:0≤EZ l x):EZ l x+l.length≤x:=by
 obtain⟨h1,h2⟩:=lq h
 have e:EZ l x=_:=zy h1
 have h3:=mO h1
 have h4:=qw (F:=fun y:ByteArray=>dX y.size) (l:=l) (fun a _ x hx=>jg hx) h1
 rw [e];omega
theorem RV {l:List LS} {x:Int} (h0:0≤x) (h:0≤AU l x):AU l x+l.length≤x:=by
 obtain⟨h1,h2⟩:=lq h
 have e:AU l x=_:=zy h1
 have h3:=mO h1
 have h4:=qw (F:=fun y:LS=>dX y.f0.size) (l:=l) (fun a _ x hx=>jg hx) h1
 rw [e];omega
theorem Le {a:LN} {x:Int} (h0:0≤x) (h:0≤mG a x):∃x1 x2 x3:Int,EZ a.f0 x=x1∧0≤x1∧x1≤x∧dX a.f1.length x1=x2∧0≤x2∧x2≤x1∧iG mG a.f1 x2=x3∧0≤x3∧x3≤x2∧0≤AU a.f2 x3∧mG a x=AU a.f2 x3:=by
 rw [Oo] at h⊢
 obtain⟨h1,h2⟩:=lq h
 obtain⟨h3,h4⟩:=lq h2
 obtain⟨h5,h6⟩:=lq h3
 have e1:=zy (K:=fun x=>thenS (thenS (dX a.f1.length x) (iG mG a.f1)) fun x=>AU a.f2 x) h1
 have e2:=zy (K:=fun x=>AU a.f2 x) h3
 have e3:=zy (K:=iG mG a.f1) h5
 refine⟨_,_,_,rfl,h1,Oq h0,rfl,h5,jg h1,rfl,h6,qw (fun b _ y hy=>vP b hy) h5,?_,?_⟩
 ·rw [←e3];exact h4
 ·rw [e1,e2,e3]
theorem RX:∀(a:LN) (x:Int),0≤x→0≤mG a x→mG a x+cnt (tN a)≤x:=fun a x h0 h=>by
 obtain⟨x1,x2,x3,e1,a1,b1,e2,a2,b2,e3,a3,b3,h4,e⟩:=Le h0 h
 have g1:=RU h0 (by rw [e1];exact a1)
 have g2:=RP (F:=mG) (g:=fun a=>cnt (tN a)) (l:=a.f1) (fun k hk y hy hz=>RX k y hy hz) a2 (by rw [e3];exact a3)
 have g3:=RV a3 h4
 rw [e1] at g1
 rw [e3,RQ] at g2
 rw [e,Uf,BF]
 show _+(((a.f0.length+(a.f2.map tS).length+lg (a.f1.map tN):Nat)):Int)≤x
 rw [List.length_map]
 omega
termination_by a=>SizeOf.sizeOf a
decreasing_by exact yN hk
theorem Wn:∀(a:LN) (x:Int),0≤x→x≤1048576→0≤mG a x→Bd (tN a)∧Ot a:=fun a x h0 hx h=>by
 obtain⟨x1,x2,x3,e1,a1,b1,e2,a2,b2,e3,a3,b3,h4,e⟩:=Le h0 h
 have h1:0≤EZ a.f0 x:=by rw [e1];exact a1
 have g1:=RU h0 h1
 have g3:=RV a3 h4
 have g2:=mO (n:=a.f1.length) (x:=x1) (by rw [e2];exact a2)
 rw [e1] at g1
 rw [e2] at g2
 have z0:∀y∈a.f0,y.size≤1048576:=fun y hy=>by
  obtain⟨q1,q2⟩:=lq h1
  obtain⟨v,v1,v2,v3⟩:=uZ (F:=fun y:ByteArray=>dX y.size) (fun a _ x hx=>jg hx) q1 q2 y hy
  have:=mO v3
  have:=jg (n:=a.f0.length) h0
  omega
 have z2:∀y∈a.f2,y.f0.size≤1048576:=fun y hy=>by
  obtain⟨q1,q2⟩:=lq h4
  obtain⟨v,v1,v2,v3⟩:=uZ (F:=fun y:LS=>dX y.f0.size) (fun a _ x hx=>jg hx) q1 q2 y hy
  have:=mO v3
  have:=jg (n:=a.f2.length) a3
  omega
 have hk:∀k∈a.f1,Bd (tN k)∧Ot k:=fun k hk=>by
  obtain⟨v,v1,v2,v3⟩:=uZ (F:=mG) (fun b _ y hy=>vP b hy) a2 (by rw [e3];exact a3) k hk
  exact Wn k v v1 (by omega) v3
 refine⟨?_, .mk a (by omega) (by omega) (by omega) (fun k h=>(hk k h).2)⟩
 rw [Uf]
 refine .mk _ (by show a.f0.length≤_;omega) z0 (by show(a.f1.map tN).length≤_;rw [List.length_map];omega) (by show(a.f2.map tS).length≤_;rw [List.length_map];omega) (fun y hy=>?_) (fun y hy=>?_)
 ·obtain⟨z,hz,rfl⟩:=List.mem_map.1 hy
  exact z2 z hz
 ·obtain⟨z,hz,rfl⟩:=List.mem_map.1 hy
  exact(hk z hz).1
termination_by a=>SizeOf.sizeOf a
decreasing_by exact yN hk
end Go.Proofs.YtcnfgfomholheaaGreatDoor.Q
end
section
namespace Go.Proofs.YtcnfgfomholheaaGreatDoor.Q
open Go.RowKit Go.Proofs.YtcnfgfomholheaaGreatDoor.Z Go.Proofs.YtcnfgfomholheaaGreatDoor.Pure
set_option linter.unusedVariables false
set_option linter.unusedSimpArgs false
set_option maxRecDepth 100000
set_option maxHeartbeats 4000000
structure RT where
 v:Int
 t:SN
 k:List SK
structure RL where
 v:Int
 t:LN
 k:List LK
abbrev eG:Nat:=56
abbrev eGL:Nat:=52
abbrev cR (r:RT):List (C0 T.Tb):=[.sc (.int .i64 r.v), .sl 9 r.t.f0, .sl eN r.t.f1, .sl eS r.t.f2, .sl eK r.k]
abbrev Wh (r:RL):List (C0 T.Tb):=[.sc (.int .i64 r.v), .sl 9 r.t.f0, .sl qN r.t.f1, .sl BG r.t.f2, .sl BH r.k]
abbrev YB (r:RT):RS T.Tb:= .ag [.sc (.int .i64 r.v), .ow 9 r.t.f0, .ow eN r.t.f1, .ow eS r.t.f2, .ow eK r.k]
abbrev bxG (r:RT):dG T:= .bx eG ((cR r).map (toCell none))
abbrev BI (r:RL):dG T:= .bx eGL ((Wh r).map (toCell none))
theorem lu {l l':List SK} (h:l=l'):bY (T:=T) eK l eK l':=gu h
def BJ (l:List LK) (x:Int):Int:=thenS (dX l.length x) (iG o7 l)
def RY (a:RL) (x:Int):Int:=thenS (mG a.t x) (BJ a.k)
def abH (l:List LK):Prop:=l.length≤140737488351232∧∀y∈l,(y:LK).f0.size≤140737488351232∧(y:LK).f1.length≤140737488351232
def abz (a:RL):Prop:=xZ a.t∧abH a.k
theorem YC (a:LK) (x:Int) (h0:0≤x) (h:o7 a x<0):o7 a x= -1:=by
 unfold o7 thenS at*
 split at h
 ·rename_i hc;rw [if_pos hc]
 ·rename_i hc;rw [if_neg hc];exact RZ h
theorem YD {l:List LK} {x:Int} (h0:0≤x) (h:BJ l x<0):BJ l x= -1:=by
 unfold BJ at*
 by_cases hc:dX l.length x<0
 ·unfold thenS;rw [if_pos hc]
 ·rw [zy (by omega)] at h⊢
  exact JE YC (by omega) h
theorem abI (a:RL) (x:Int) (ht:xZ a.t) (hk:abH a.k) (h0:0≤x) (h1:x≤1048576):aC T Tryz.prog 36 [.ag (Wh a), .c (.sc (.int .i64 x))] (.c (.sc (.int .i64 (RY a x)))):=by
 have hle:=vP a.t h0
 refine aH hT Tryz.func36 (by kernel_rfl) rfl rfl (fun A=>?_)
 conv=>whnf
 refine aA.mk _ (Wp a.t ht x h0 h1) ?_
 conv=>whnf
 refine Split.mk (fun c=>?_) (fun c=>?_)
 ·conv=>whnf
  exact aG.mk ⟨rfl,rfl⟩ ⟨rfl,rfl⟩ ⟨iv (D9 c),trivial⟩
 ·obtain⟨e1,e2⟩:=Ea (K:=BJ a.k) c
  have e3:RY a x=BJ a.k (mG a.t x):=e1
  conv=>whnf
  refine aA.mk _ (aaA a.k (mG a.t x) e2 (Int.le_trans hle h1) hk.1 hk.2) ?_
  conv=>whnf
  refine Split.mk (fun c=>?_) (fun c=>?_)
  ·conv=>whnf
   exact aG.mk ⟨rfl,rfl⟩ ⟨rfl,rfl⟩ ⟨iv (e3.trans (YD e2 (JF c))),trivial⟩
  ·conv=>whnf
   exact aG.mk ⟨rfl,rfl⟩ ⟨rfl,rfl⟩ ⟨iv e3,trivial⟩
def tR (a:RL):RT:=⟨a.v,tN a.t,a.k.map tK⟩
theorem abJ (a:RL) (ht:Ot a.t) (hk:a.k.length≤1048576) (hy:∀y∈a.k,(y:LK).f1.length≤1048576):aC T Tryz.prog 38 [.ag (Wh a)] (YB (tR a)):=by
 refine aH hT Tryz.func38 (by kernel_rfl) rfl rfl (fun A=>?_)
 conv=>whnf
 refine aA.mk _ (Wq a.t ht) ?_
 conv=>whnf
 refine aA.mk _ (aaB a.k hk hy) ?_
 conv=>whnf
 exact aG.mk ⟨rfl,rfl⟩ ⟨rfl,rfl⟩ ⟨rfl,rfl,rfl,rfl,rfl,trivial⟩
structure Hg (r:RT):Prop where
 t:Bd r.t
 k:r.k.length≤2097152
 b:∀y∈r.k,(y:SK).f1.length≤2097152
theorem abK {a b:RT} (h:a.v=b.v) (h2:a.t=b.t) (h3:a.k=b.k):a=b:=by cases a;cases b;cases h;cases h2;cases h3;rfl
theorem Ws (a b:RT) (ha:Hg a):aC T Tryz.prog 40 [.ag (cR a), .ag (cR b)] (.c (.sc (.bool (same a b)))):=by
 refine aH hT Tryz.func40 (by kernel_rfl) rfl rfl (fun A=>?_)
 conv=>whnf
 refine Split.mk (fun c=>?_) (fun c=>?_)
 ·conv=>whnf
  exact aG.mk ⟨rfl,rfl⟩ ⟨rfl,rfl⟩ ⟨bv (iQ (fun e=>vS c (congrArg RT.v e))),trivial⟩
 have h1:a.v=b.v:=Ou c
 conv=>whnf
 refine aA.mk _ (Wu a.t ha.t b.t) ?_
 conv=>whnf
 refine Split.mk (fun c=>?_) (fun c=>?_)
 ·conv=>whnf
  exact aG.mk ⟨rfl,rfl⟩ ⟨rfl,rfl⟩ ⟨bv (iQ (fun e=>iR (dh c) (congrArg RT.t e))),trivial⟩
 have h2:a.t=b.t:=of_same (dA c)
 conv=>whnf
 refine aA.mk _ (aaC a.k b.k (Nat.le_trans ha.k (by decide)) (fun y hy=>Nat.le_trans (ha.b y hy) (by decide))) ?_
 conv=>whnf
 refine Split.mk (fun c=>?_) (fun c=>?_)
 ·conv=>whnf
  exact aG.mk ⟨rfl,rfl⟩ ⟨rfl,rfl⟩ ⟨bv (iQ (fun e=>iR (dh c) (congrArg RT.k e))),trivial⟩
 have h3:a.k=b.k:=of_same (dA c)
 conv=>whnf
 exact aG.mk ⟨rfl,rfl⟩ ⟨rfl,rfl⟩ ⟨bv (qx (abK h1 h2 h3)),trivial⟩
def iV (r:RT) (k:Nat):RT × Nat:=(⟨r.v,(bJ r.t k).1,(aY (β:=SK) eH r.k (bJ r.t k).2).1⟩,(aY (β:=SK) eH r.k (bJ r.t k).2).2)
theorem Ov (r:RT) (k:Nat) (hr:Hg r) (h0:0<k) (hk:(iV r k).2≤4611686018427387904):CallWOb T Tryz.prog 41 [.ag [.c (.sc (.int .i64 r.v)), .ow 9 r.t.f0 9 (iV r k).1.t.f0, .ow eN r.t.f1 eN (iV r k).1.t.f1, .ow eS r.t.f2 eS (iV r k).1.t.f2, .ow eK r.k eK (iV r k).1.k], .c (.c (.sc (.int .i64 (k:Int))))] (.c (.sc (.int .i64 ((iV r k).2:Int)))):=by
 have g1:=kN r.t k
 have g2:=ig qU r.k (bJ r.t k).2
 have hk2:(aY (β:=SK) eH r.k (bJ r.t k).2).2≤4611686018427387904:=hk
 have h1:=YE r.t k hr.t h0 (Nat.le_trans g2 hk2)
 have h2:=Wv r.k (bJ r.t k).2 hr.k hr.b (by omega) hk2
 refine rV hT Tryz.func41 (by kernel_rfl) rfl rfl (fun A=>?_)
 conv=>whnf
 refine aA.wr [[NW.wr 9 (bJ r.t k).1.f0,NW.wr eN (bJ r.t k).1.f1,NW.wr eS (bJ r.t k).1.f2],[NW.rd]] (.c (.sc (.int .i64 ((bJ r.t k).2:Int)))) ?_
 conv=>whnf
 refine jS.mk h1 ?_
 conv=>whnf
 refine aA.wr [[NW.wr eK (aY (β:=SK) eH r.k (bJ r.t k).2).1],[NW.rd]] (.c (.sc (.int .i64 ((aY (β:=SK) eH r.k (bJ r.t k).2).2:Int)))) ?_
 conv=>whnf
 refine jS.mk h2 ?_
 conv=>whnf
 exact xA.mk ⟨rfl,rfl⟩ ⟨⟨rfl,rfl⟩,rfl⟩ ⟨rfl,trivial⟩ ⟨rfl,rfl,rfl,rfl,trivial⟩
theorem YF (r:RT) (k:Nat) (hr:Hg r) (h0:0<k) (hk:(iV r k).2≤4611686018427387904):aC T Tryz.prog 42 [.ag (cR (iV r k).1), .c (.sc (.int .i64 (k:Int)))] (.c (.sc (.int .i64 ((iV r k).2:Int)))):=by
 have g1:=kN r.t k
 have g2:=ig qU r.k (bJ r.t k).2
 have hk2:(aY (β:=SK) eH r.k (bJ r.t k).2).2≤4611686018427387904:=hk
 have h1:=YG r.t k hr.t h0 (Nat.le_trans g2 hk2)
 have h2:=Wx r.k (bJ r.t k).2 hr.k hr.b (by omega) hk2
 refine aH hT Tryz.func42 (by kernel_rfl) rfl rfl (fun A=>?_)
 conv=>whnf
 refine aA.mk _ h1 ?_
 conv=>whnf
 refine Split.mk (fun c=>AV c) (fun c=>?_)
 clear c
 conv=>whnf
 refine aA.mk _ h2 ?_
 conv=>whnf
 refine Split.mk (fun c=>AV c) (fun c=>?_)
 clear c
 conv=>whnf
 exact aG.mk ⟨rfl,rfl⟩ ⟨rfl,rfl⟩ ⟨rfl,trivial⟩
theorem FQ:∀(l:List SK) (k b:Nat),(∀y∈l,(y:SK).f1.length≤b)→(aY (β:=SK) eH l k).2≤k+(2+b)*l.length
 | [],k,b,_=>Nat.le_refl _
 | p::l,k,b,h=>by
   show(aY (β:=SK) eH l (k+1+1*p.f1.length+1)).2≤_
   have h1:=FQ l (k+1+1*p.f1.length+1) b (fun y hy=>h y (List.mem_cons_of_mem _ hy))
   have h2:=h p List.mem_cons_self
   rw [List.length_cons,Nat.mul_succ]
   omega
structure BK (l:List SK):Prop where
 k:l.length≤1048576
 b:∀y∈l,(y:SK).f1.length≤1048576
 t:∀y∈l,(y:SK).f0.size≤1048576
theorem aaD {l:List LK} {x:Int} (h0:0≤x) (hx:x≤1048576) (h:0≤BJ l x):BK (l.map tK)∧l.length≤1048576∧∀y∈l,(y:LK).f1.length≤1048576:=by
 obtain⟨h1,h2⟩:=lq h
 have h3:=mO h1
 have hl:l.length≤1048576:=by omega
 have each:∀y∈l,(y:LK).f1.length≤1048576∧(y:LK).f0.size≤1048576:=fun y hy=>by
  obtain⟨v,v1,v2,v3⟩:=uZ (F:=o7) (fun a _ x hx=>JG hx) h1 h2 y hy
  obtain⟨g1,g2⟩:=lq v3
  have g3:=mO g1
  have g4:=mO g2
  have:=jg (n:=l.length) h0
  omega
 refine⟨⟨by rw [List.length_map];exact hl,fun y hy=>?_,fun y hy=>?_⟩,hl,fun y hy=>(each y hy).1⟩
 ·obtain⟨z,hz,rfl⟩:=List.mem_map.1 hy
  exact(each z hz).1
 ·obtain⟨z,hz,rfl⟩:=List.mem_map.1 hy
  exact(each z hz).2
theorem abL {a:RL} {x:Int} (h0:0≤x) (hx:x≤1048576) (h:0≤RY a x):Ot a.t∧Bd (tR a).t∧(cnt (tR a).t:Int)≤x∧BK (tR a).k∧a.k.length≤1048576∧(∀y∈a.k,(y:LK).f1.length≤1048576)∧RY a x≤x:=by
 obtain⟨h1,h2⟩:=lq h
 obtain⟨b1,b2⟩:=Wn a.t x h0 hx h1
 have c1:=RX a.t x h0 h1
 have hle:=vP a.t h0
 obtain⟨k1,k2,k3⟩:=aaD h1 (by omega) h2
 refine⟨b2,b1,by show(cnt (tN a.t):Int)≤x;omega,k1,k2,k3,?_⟩
 unfold RY
 exact uz h0 hle (fun h=>by unfold BJ;exact uz h (jg h) (fun h=>qw (fun a _ x hx=>JG hx) h))
theorem BK.bdr {v:Int} {t:SN} {l:List SK} (h:BK l) (ht:Bd t):Hg ⟨v,t,l⟩:=⟨ht,Nat.le_trans h.k (by decide),fun y hy=>Nat.le_trans (h.b y hy) (by decide)⟩
theorem JH (r:RT) (h:BK r.k) (hc:cnt r.t≤2097152):(iV r 1).2≤4611686018427387904:=by
 have h1:=JD r.t 1
 have h2:=FQ r.k (bJ r.t 1).2 1048576 h.b
 have h3:(2+1048576)*r.k.length≤(2+1048576)*1048576:=Nat.mul_le_mul_left _ h.k
 show(aY (β:=SK) eH r.k (bJ r.t 1).2).2≤_
 omega
end Go.Proofs.YtcnfgfomholheaaGreatDoor.Q
end
section
namespace Go.Proofs.YtcnfgfomholheaaGreatDoor.Q
open Go.RowKit Go.Proofs.YtcnfgfomholheaaGreatDoor.Z Go.Proofs.YtcnfgfomholheaaGreatDoor.Pure
set_option linter.unusedVariables false
set_option linter.unusedSimpArgs false
set_option maxRecDepth 100000
set_option maxHeartbeats 4000000
def dL (f:ByteArray→SN→SN):List ByteArray→List SN→List (ByteArray × SN)
 | x::r,k::q=>(bif gJ (f x k) then [(x,f x k)] else [])++dL f r q
 | [],_=>[]
 | _::_,[]=>[]
def kG (g:SN→SN) (t:ByteArray) (x:ByteArray) (k:SN):SN:=bif x.toList==t.toList then g k else k
def jU (c:ByteArray):List ByteArray→SN→SN
 | [],n=>⟨(dL (fun _ k=>k) n.f0 n.f1).map (·.1),(dL (fun _ k=>k) n.f0 n.f1).map (·.2),ng c n.f2⟩
 | t::ts,n=>⟨(dL (kG (jU c ts) t) n.f0 n.f1).map (·.1),(dL (kG (jU c ts) t) n.f0 n.f1).map (·.2),n.f2⟩
theorem Hl {f:ByteArray→SN→SN} {d:ByteArray} {e:SN}:∀{ns:List ByteArray} {ks:List SN} {k:Nat},k<ns.length→k<ks.length→dL f (ns.take (k+1)) (ks.take (k+1))=dL f (ns.take k) (ks.take k)++bif gJ (f (ns.getD k d) (ks.getD k e)) then [(ns.getD k d,f (ns.getD k d) (ks.getD k e))] else []
 | [],_,_,h,_=>by simp at h
 | _::_,[],_,_,h=>by simp at h
 | x::r,y::q,0,_,_=>by
   simp only [List.take_succ_cons,List.take_zero,dL,List.append_nil,List.nil_append]
   rfl
 | x::r,y::q,k+1,h,h2=>by
   have:=Hl (f:=f) (d:=d) (e:=e) (ns:=r) (ks:=q) (k:=k) (by simpa using h) (by simpa using h2)
   simp only [List.take_succ_cons] at this⊢
   rw [dL,dL,this,List.append_assoc]
   rfl
theorem BL (f:ByteArray→SN→SN):∀(ns:List ByteArray) (ks:List SN),(dL f ns ks).length≤ns.length
 | x::r,k::q=>by
   have:=BL f r q
   rw [dL,List.length_append,List.length_cons]
   cases gJ (f x k)
   ·show 0+_≤_;omega
   ·show 1+_≤_;omega
 | [],_=>by rw [dL];exact Nat.zero_le _
 | _::_,[]=>by rw [dL];exact Nat.zero_le _
theorem abM {f:ByteArray→SN→SN} {n:SN} (hl:n.f0.length=n.f1.length):dL f (n.f0.take n.f0.length) (n.f1.take n.f0.length)=dL f n.f0 n.f1:=by rw [List.take_length,hl,List.take_length]
def jm (ls:List ByteArray) (c:ByteArray) (l:List SS):List SS:=bif decide (0<ls.length) then l else ng c l
theorem Wy (ls:List ByteArray) (c:ByteArray) (l:List SS):(jm ls c l).length≤l.length:=by
 unfold jm
 cases decide (0<ls.length) with
 | true=>exact Nat.le_refl _
 | false=>exact xu c l
theorem Lh {ls:List ByteArray} {c:ByteArray} {l:List SS} {k:Nat} (h:k<l.length) (hh:(((gS l k).f0.toList==c.toList) && !decide (0<ls.length))=false):jm ls c (l.take (k+1))=jm ls c (l.take k)++[gS l k]:=by
 have e:gS l k=l[k]:=getD_in l k (T.df eS) h
 unfold jm
 cases hd:decide (0<ls.length) with
 | true=>
   show l.take (k+1)=l.take k++[gS l k]
   rw [e,List.take_succ_eq_append_getElem h]
 | false=>
   rw [hd,Bool.not_false,Bool.and_true] at hh
   have:=Hf (c:=c) (d:=T.df eS) h
   show ng c _=ng c _++_
   rw [this,show((l.getD k (T.df eS)).f0.toList==c.toList)=false from hh];rfl
theorem Ug {ls:List ByteArray} {c:ByteArray} {l:List SS} {k:Nat} (h:k<l.length) (hh:(((gS l k).f0.toList==c.toList) && !decide (0<ls.length))=true):jm ls c (l.take (k+1))=jm ls c (l.take k):=by
 rw [Bool.and_eq_true,Bool.not_eq_true'] at hh
 unfold jm
 rw [hh.2]
 have:=Hf (c:=c) (d:=T.df eS) h
 show ng c _=ng c _
 rw [this,show((l.getD k (T.df eS)).f0.toList==c.toList)=true from hh.1]
 exact List.append_nil _
theorem abN {n:Nat} (h:decide ((n:Int)>0)=true):decide (0<n)=true:=decide_eq_true (jo h)
theorem abO {n:Nat} (h:decide ((n:Int)>0)=false):decide (0<n)=false:=decide_eq_false (Nat.not_lt_of_le (Nat.le_of_eq (jq h)))
structure Pk (ls:List ByteArray) (c:ByteArray) (f:ByteArray→SN→SN) (n:SN):Prop where
 no:ls.length=0→∀x k,f x k=k
 ne:0<ls.length→∀x k,(x.toList==(g9 ls 0).toList)=false→f x k=k
 eq:0<ls.length→∀x,∀k∈n.f1,(x.toList==(g9 ls 0).toList)=true→aC T Tryz.prog 96 [.ag (T.cells eN k), .c (.sl 9 ((ls.drop 1).take (ls.length - 1))), .c (.sc (.bool false)), .c (.sc (.string c))] (Ud (f x k))
theorem BM (n:SN) (ls:List ByteArray) (c:ByteArray) (f:ByteArray→SN→SN) (hn:Bd n) (hl:n.f0.length=n.f1.length) (hp:Pk ls c f n):aC T Tryz.prog 96 [.ag (T.cells eN n), .c (.sl 9 ls), .c (.sc (.bool false)), .c (.sc (.string c))] (Ud ⟨(dL f n.f0 n.f1).map (·.1),(dL f n.f0 n.f1).map (·.2),jm ls c n.f2⟩):=by
 have hl0:=hn.l0
 have hl1:=hn.l1
 have hl2:=hn.l2
 refine kM hT Tryz.func96 (by kernel_rfl) rfl rfl (fun A=>?_)
 refine Vc.of 0 hT ?_
 conv=>whnf
 refine dJ.mk {k:Nat // k≤n.f2.length} (fun p=>(6,[(10,i64 p.1),(9, .c (.px 2 0)),(8, .c (.px 1 0)),(4, .c (.px 0 0)),(1,im 9 ls),(2, .c (.sc (.bool false))),(3, .c (.sc (.string c)))],[(2, .bx eN [BD,BD, .hd 5]),(5, .row 5 eS (jm ls c (n.f2.take p.1))),(1,RD),(0,uj n)])) (fun p=>n.f2.length - p.1) ⟨0,Nat.zero_le _⟩ ((vO 2 2 20 eS (t:=eN) (cs:=[BD,BD,BD]) rfl rfl rfl).trans (ay [(2,2),(5,20),(1,1),(0,0)] rfl rfl rfl ⟨⟨rfl,rfl⟩,⟨rfl,rfl⟩,⟨rfl,rfl⟩,⟨rfl,rfl⟩,⟨rfl,rfl⟩,⟨rfl,rfl⟩,⟨rfl,rfl⟩,trivial⟩ ⟨⟨rfl,rfl⟩,gX (by show []=jm ls c (n.f2.take 0);unfold jm;cases decide (0<ls.length)<;>rfl),⟨rfl,rfl⟩,⟨rfl,rfl⟩,trivial⟩)) ?_
 rintro⟨k,hk⟩
 conv=>whnf
 refine Split.mk (fun c1=>?_) (fun c1=>?_)
 ·have hk2:k<n.f2.length:=gB c1
  clear c1
  have hdl:=Wy ls c (n.f2.take k)
  rw [List.length_take] at hdl
  conv=>whnf
  refine Need.mk (idx hk2) ?_
  conv=>whnf
  refine Split.mk (fun c1=>?_) (fun c1=>?_)
  ·have hq:jm ls c (n.f2.take (k+1))=jm ls c (n.f2.take k)++[gS n.f2 k]:=Lh hk2 (by rw [show((gS n.f2 k).f0.toList==c.toList)=false from abC c1];rfl)
   conv=>whnf
   refine Split.mk (fun _=>?_) (fun e=>jf e)
   conv=>whnf
   refine Need.mk (idx hk2) ?_
   conv=>whnf
   refine Need.mk (bV (a:=(jm ls c (n.f2.take k)).length) (b:=1) (by omega) (by decide)) ?_
   conv=>whnf
   refine aZ.mk ⟨by kernel_rfl,by kernel_rfl⟩ ?_
   conv=>whnf
   exact bn.mk ⟨⟨k+1,hk2⟩,Nat.sub_lt_sub_left hk2 (Nat.lt_succ_self k),ay [(2,2),(5,7),(1,1),(0,0)] rfl rfl rfl ⟨⟨rfl,congrArg i64 (dK hk2 (by omega))⟩,⟨rfl,rfl⟩,⟨rfl,rfl⟩,⟨rfl,rfl⟩,⟨rfl,rfl⟩,⟨rfl,rfl⟩,⟨rfl,rfl⟩,trivial⟩ ⟨⟨rfl,rfl⟩,gX hq.symm,⟨rfl,rfl⟩,⟨rfl,rfl⟩,trivial⟩⟩
  ·conv=>whnf
   refine Split.mk (fun _=>?_) (fun e=>jf e)
   conv=>whnf
   refine Split.mk (fun c2=>?_) (fun c2=>?_)
   ·have hq:jm ls c (n.f2.take (k+1))=jm ls c (n.f2.take k)++[gS n.f2 k]:=Lh hk2 (by have h9:decide (0<ls.length)=true:=abN c2;rw [h9,Bool.not_true,Bool.and_false])
    conv=>whnf
    refine Need.mk (idx hk2) ?_
    conv=>whnf
    refine Need.mk (bV (a:=(jm ls c (n.f2.take k)).length) (b:=1) (by omega) (by decide)) ?_
    conv=>whnf
    refine aZ.mk ⟨by kernel_rfl,by kernel_rfl⟩ ?_
    conv=>whnf
    exact bn.mk ⟨⟨k+1,hk2⟩,Nat.sub_lt_sub_left hk2 (Nat.lt_succ_self k),ay [(2,2),(5,7),(1,1),(0,0)] rfl rfl rfl ⟨⟨rfl,congrArg i64 (dK hk2 (by omega))⟩,⟨rfl,rfl⟩,⟨rfl,rfl⟩,⟨rfl,rfl⟩,⟨rfl,rfl⟩,⟨rfl,rfl⟩,⟨rfl,rfl⟩,trivial⟩ ⟨⟨rfl,rfl⟩,gX hq.symm,⟨rfl,rfl⟩,⟨rfl,rfl⟩,trivial⟩⟩
   ·have hq:jm ls c (n.f2.take (k+1))=jm ls c (n.f2.take k):=Ug hk2 (by have h9:decide (0<ls.length)=false:=abO c2;rw [h9,show((gS n.f2 k).f0.toList==c.toList)=true from abD c1];rfl)
    conv=>whnf
    exact bn.mk ⟨⟨k+1,hk2⟩,Nat.sub_lt_sub_left hk2 (Nat.lt_succ_self k),ay [(2,2),(5,5),(1,1),(0,0)] rfl rfl rfl ⟨⟨rfl,congrArg i64 (dK hk2 (by omega))⟩,⟨rfl,rfl⟩,⟨rfl,rfl⟩,⟨rfl,rfl⟩,⟨rfl,rfl⟩,⟨rfl,rfl⟩,⟨rfl,rfl⟩,trivial⟩ ⟨⟨rfl,rfl⟩,gX hq.symm,⟨rfl,rfl⟩,⟨rfl,rfl⟩,trivial⟩⟩
 ·have hk2:k=n.f2.length:=Nat.le_antisymm hk (gG c1)
  clear c1
  subst hk2
  conv=>whnf
  refine dJ.mk {k:Nat // k≤n.f0.length} (fun p=>(6,[(11,i64 p.1),(9, .c (.px 2 0)),(8, .c (.px 1 0)),(4, .c (.px 0 0)),(1,im 9 ls),(2, .c (.sc (.bool false))),(3, .c (.sc (.string c)))],[(2, .bx eN [.hd 3, .hd 4, .hd 5]),(3, .row 3 9 ((dL f (n.f0.take p.1) (n.f1.take p.1)).map (·.1))),(4, .sh 4 eN ((dL f (n.f0.take p.1) (n.f1.take p.1)).map (·.2))),(5, .row 5 eS (jm ls c n.f2)),(1,RD),(0,uj n)])) (fun p=>n.f0.length - p.1) ⟨0,Nat.zero_le _⟩ ((vO 2 0 20 9 (t:=eN) (cs:=[BD,BD, .hd 5]) rfl rfl rfl).trans ((vO 2 1 21 eN (t:=eN) (cs:=[.hd 20,BD, .hd 5]) rfl rfl rfl).trans (ay [(2,2),(3,20),(4,21),(5,5),(1,1),(0,0)] rfl rfl rfl ⟨⟨rfl,rfl⟩,⟨rfl,rfl⟩,⟨rfl,rfl⟩,⟨rfl,rfl⟩,⟨rfl,rfl⟩,⟨rfl,rfl⟩,⟨rfl,rfl⟩,trivial⟩ ⟨⟨rfl,rfl⟩,gZ rfl,iF rfl,gX (by rw [List.take_length]),⟨rfl,rfl⟩,⟨rfl,rfl⟩,trivial⟩))) ?_
  rintro⟨k,hk⟩
  conv=>whnf
  refine Split.mk (fun c1=>?_) (fun c1=>?_)
  ·have hk2:k<n.f0.length:=gB c1
   have hk3:k<n.f1.length:=by omega
   clear c1
   have hstep:=Hl (f:=f) (d:=T.df 9) (e:=T.df eN) hk2 hk3
   change _=_++bif gJ (f (g9 n.f0 k) (gN n.f1 k)) then [(g9 n.f0 k,f (g9 n.f0 k) (gN n.f1 k))] else [] at hstep
   have hkm:gN n.f1 k∈n.f1:=vN hk3
   have hdl:=BL f (n.f0.take k) (n.f1.take k)
   rw [List.length_take] at hdl
   conv=>whnf
   refine Need.mk (idx hk3) ?_
   conv=>whnf
   refine Split.mk (fun e=>jy e) (fun _=>?_)
   conv=>whnf
   refine Split.mk (fun c1=>?_) (fun c1=>?_)
   ·have h0:0<ls.length:=jo c1
    conv=>whnf
    refine Need.mk (idx hk2) ?_
    conv=>whnf
    refine Need.mk (idx h0) ?_
    conv=>whnf
    refine aZ.mk ⟨by kernel_rfl,by kernel_rfl⟩ ?_
    conv=>whnf
    refine Split.mk (fun c2=>?_) (fun c2=>?_)
    ·have ihk:=hp.eq h0 (g9 n.f0 k) _ hkm c2
     generalize f (g9 n.f0 k) (gN n.f1 k)=K at ihk hstep
     conv=>whnf
     refine Need.mk ⟨by decide,Int.ofNat_le.2 h0,Int.le_refl _⟩ ?_
     conv=>whnf
     refine aA.mk _ ihk ?_
     conv=>whnf
     refine aZ.mk ⟨by kernel_rfl,by kernel_rfl⟩ ?_
     conv=>whnf
     refine Split.mk (fun c1=>?_) (fun c1=>?_)
     ·have hf:gJ K=true:=by unfold gJ;rw [decide_eq_true (p:=0<K.f0.length) (jo c1)];rfl
      rw [hf] at hstep
      conv=>whnf
      refine Split.mk (fun _=>?_) (fun e=>jf e)
      conv=>whnf
      refine Need.mk (idx hk2) ?_
      conv=>whnf
      refine Need.mk (bV (a:=((dL f (n.f0.take k) (n.f1.take k)).map (·.1)).length) (b:=1) (by rw [List.length_map];omega) (by decide)) ?_
      conv=>whnf
      refine aZ.mk ⟨by kernel_rfl,by kernel_rfl⟩ ?_
      conv=>whnf
      refine Need.mk (bV (a:=((dL f (n.f0.take k) (n.f1.take k)).map (·.2)).length) (b:=1) (by rw [List.length_map];omega) (by decide)) ?_
      conv=>whnf
      exact bn.mk ⟨⟨k+1,hk2⟩,Nat.sub_lt_sub_left hk2 (Nat.lt_succ_self k),ay [(2,2),(3,11),(4,12),(5,5),(1,1),(0,0)] rfl rfl rfl ⟨⟨rfl,congrArg i64 (dK hk2 (by omega))⟩,⟨rfl,rfl⟩,⟨rfl,rfl⟩,⟨rfl,rfl⟩,⟨rfl,rfl⟩,⟨rfl,rfl⟩,⟨rfl,rfl⟩,trivial⟩ ⟨⟨rfl,rfl⟩,gZ (RF hstep),iF (RG hstep),gX rfl,⟨rfl,rfl⟩,⟨rfl,rfl⟩,trivial⟩⟩
     ·conv=>whnf
      refine Split.mk (fun c2=>?_) (fun c2=>?_)
      ·have hf:gJ K=true:=by unfold gJ;rw [decide_eq_true (p:=0<K.f2.length) (jo c2),Bool.or_true]
       rw [hf] at hstep
       conv=>whnf
       refine Need.mk (idx hk2) ?_
       conv=>whnf
       refine Need.mk (bV (a:=((dL f (n.f0.take k) (n.f1.take k)).map (·.1)).length) (b:=1) (by rw [List.length_map];omega) (by decide)) ?_
       conv=>whnf
       refine aZ.mk ⟨by kernel_rfl,by kernel_rfl⟩ ?_
       conv=>whnf
       refine Need.mk (bV (a:=((dL f (n.f0.take k) (n.f1.take k)).map (·.2)).length) (b:=1) (by rw [List.length_map];omega) (by decide)) ?_
       conv=>whnf
       exact bn.mk ⟨⟨k+1,hk2⟩,Nat.sub_lt_sub_left hk2 (Nat.lt_succ_self k),ay [(2,2),(3,11),(4,12),(5,5),(1,1),(0,0)] rfl rfl rfl ⟨⟨rfl,congrArg i64 (dK hk2 (by omega))⟩,⟨rfl,rfl⟩,⟨rfl,rfl⟩,⟨rfl,rfl⟩,⟨rfl,rfl⟩,⟨rfl,rfl⟩,⟨rfl,rfl⟩,trivial⟩ ⟨⟨rfl,rfl⟩,gZ (RF hstep),iF (RG hstep),gX rfl,⟨rfl,rfl⟩,⟨rfl,rfl⟩,trivial⟩⟩
      ·have hf:gJ K=false:=by unfold gJ;rw [decide_eq_false (p:=0<K.f0.length) (Nat.not_lt_of_le (Nat.le_of_eq (jq c1))),decide_eq_false (p:=0<K.f2.length) (Nat.not_lt_of_le (Nat.le_of_eq (jq c2)))];rfl
       rw [hf] at hstep
       conv=>whnf
       exact bn.mk ⟨⟨k+1,hk2⟩,Nat.sub_lt_sub_left hk2 (Nat.lt_succ_self k),ay [(2,2),(3,3),(4,4),(5,5),(1,1),(0,0)] rfl rfl rfl ⟨⟨rfl,congrArg i64 (dK hk2 (by omega))⟩,⟨rfl,rfl⟩,⟨rfl,rfl⟩,⟨rfl,rfl⟩,⟨rfl,rfl⟩,⟨rfl,rfl⟩,⟨rfl,rfl⟩,trivial⟩ ⟨⟨rfl,rfl⟩,gZ (Yx hstep),iF (Yy hstep),gX rfl,⟨rfl,rfl⟩,⟨rfl,rfl⟩,trivial⟩⟩
    ·have e:=hp.ne h0 (g9 n.f0 k) (gN n.f1 k) c2
     rw [e] at hstep
     conv=>whnf
     refine Split.mk (fun c1=>?_) (fun c1=>?_)
     ·have hf:gJ (gN n.f1 k)=true:=by unfold gJ;rw [decide_eq_true (p:=0<(gN n.f1 k).f0.length) (jo c1)];rfl
      rw [hf] at hstep
      conv=>whnf
      refine Split.mk (fun _=>?_) (fun e=>jf e)
      conv=>whnf
      refine Need.mk (idx hk2) ?_
      conv=>whnf
      refine Need.mk (bV (a:=((dL f (n.f0.take k) (n.f1.take k)).map (·.1)).length) (b:=1) (by rw [List.length_map];omega) (by decide)) ?_
      conv=>whnf
      refine aZ.mk ⟨by kernel_rfl,by kernel_rfl⟩ ?_
      conv=>whnf
      refine Need.mk (bV (a:=((dL f (n.f0.take k) (n.f1.take k)).map (·.2)).length) (b:=1) (by rw [List.length_map];omega) (by decide)) ?_
      conv=>whnf
      exact bn.mk ⟨⟨k+1,hk2⟩,Nat.sub_lt_sub_left hk2 (Nat.lt_succ_self k),ay [(2,2),(3,8),(4,9),(5,5),(1,1),(0,0)] rfl rfl rfl ⟨⟨rfl,congrArg i64 (dK hk2 (by omega))⟩,⟨rfl,rfl⟩,⟨rfl,rfl⟩,⟨rfl,rfl⟩,⟨rfl,rfl⟩,⟨rfl,rfl⟩,⟨rfl,rfl⟩,trivial⟩ ⟨⟨rfl,rfl⟩,gZ (RF hstep),iF (RG hstep),gX rfl,⟨rfl,rfl⟩,⟨rfl,rfl⟩,trivial⟩⟩
     ·conv=>whnf
      refine Split.mk (fun c2=>?_) (fun c2=>?_)
      ·have hf:gJ (gN n.f1 k)=true:=by unfold gJ;rw [decide_eq_true (p:=0<(gN n.f1 k).f2.length) (jo c2),Bool.or_true]
       rw [hf] at hstep
       conv=>whnf
       refine Need.mk (idx hk2) ?_
       conv=>whnf
       refine Need.mk (bV (a:=((dL f (n.f0.take k) (n.f1.take k)).map (·.1)).length) (b:=1) (by rw [List.length_map];omega) (by decide)) ?_
       conv=>whnf
       refine aZ.mk ⟨by kernel_rfl,by kernel_rfl⟩ ?_
       conv=>whnf
       refine Need.mk (bV (a:=((dL f (n.f0.take k) (n.f1.take k)).map (·.2)).length) (b:=1) (by rw [List.length_map];omega) (by decide)) ?_
       conv=>whnf
       exact bn.mk ⟨⟨k+1,hk2⟩,Nat.sub_lt_sub_left hk2 (Nat.lt_succ_self k),ay [(2,2),(3,8),(4,9),(5,5),(1,1),(0,0)] rfl rfl rfl ⟨⟨rfl,congrArg i64 (dK hk2 (by omega))⟩,⟨rfl,rfl⟩,⟨rfl,rfl⟩,⟨rfl,rfl⟩,⟨rfl,rfl⟩,⟨rfl,rfl⟩,⟨rfl,rfl⟩,trivial⟩ ⟨⟨rfl,rfl⟩,gZ (RF hstep),iF (RG hstep),gX rfl,⟨rfl,rfl⟩,⟨rfl,rfl⟩,trivial⟩⟩
      ·have hf:gJ (gN n.f1 k)=false:=by unfold gJ;rw [decide_eq_false (p:=0<(gN n.f1 k).f0.length) (Nat.not_lt_of_le (Nat.le_of_eq (jq c1))),decide_eq_false (p:=0<(gN n.f1 k).f2.length) (Nat.not_lt_of_le (Nat.le_of_eq (jq c2)))];rfl
       rw [hf] at hstep
       conv=>whnf
       exact bn.mk ⟨⟨k+1,hk2⟩,Nat.sub_lt_sub_left hk2 (Nat.lt_succ_self k),ay [(2,2),(3,3),(4,4),(5,5),(1,1),(0,0)] rfl rfl rfl ⟨⟨rfl,congrArg i64 (dK hk2 (by omega))⟩,⟨rfl,rfl⟩,⟨rfl,rfl⟩,⟨rfl,rfl⟩,⟨rfl,rfl⟩,⟨rfl,rfl⟩,⟨rfl,rfl⟩,trivial⟩ ⟨⟨rfl,rfl⟩,gZ (Yx hstep),iF (Yy hstep),gX rfl,⟨rfl,rfl⟩,⟨rfl,rfl⟩,trivial⟩⟩
   ·have h0:ls.length=0:=jq c1
    have e:=hp.no h0 (g9 n.f0 k) (gN n.f1 k)
    rw [e] at hstep
    conv=>whnf
    refine aZ.mk ⟨by kernel_rfl,by kernel_rfl⟩ ?_
    conv=>whnf
    refine Split.mk (fun e=>jy e) (fun _=>?_)
    conv=>whnf
    refine Split.mk (fun c1=>?_) (fun c1=>?_)
    ·have hf:gJ (gN n.f1 k)=true:=by unfold gJ;rw [decide_eq_true (p:=0<(gN n.f1 k).f0.length) (jo c1)];rfl
     rw [hf] at hstep
     conv=>whnf
     refine Split.mk (fun _=>?_) (fun e=>jf e)
     conv=>whnf
     refine Need.mk (idx hk2) ?_
     conv=>whnf
     refine Need.mk (bV (a:=((dL f (n.f0.take k) (n.f1.take k)).map (·.1)).length) (b:=1) (by rw [List.length_map];omega) (by decide)) ?_
     conv=>whnf
     refine aZ.mk ⟨by kernel_rfl,by kernel_rfl⟩ ?_
     conv=>whnf
     refine Need.mk (bV (a:=((dL f (n.f0.take k) (n.f1.take k)).map (·.2)).length) (b:=1) (by rw [List.length_map];omega) (by decide)) ?_
     conv=>whnf
     exact bn.mk ⟨⟨k+1,hk2⟩,Nat.sub_lt_sub_left hk2 (Nat.lt_succ_self k),ay [(2,2),(3,8),(4,9),(5,5),(1,1),(0,0)] rfl rfl rfl ⟨⟨rfl,congrArg i64 (dK hk2 (by omega))⟩,⟨rfl,rfl⟩,⟨rfl,rfl⟩,⟨rfl,rfl⟩,⟨rfl,rfl⟩,⟨rfl,rfl⟩,⟨rfl,rfl⟩,trivial⟩ ⟨⟨rfl,rfl⟩,gZ (RF hstep),iF (RG hstep),gX rfl,⟨rfl,rfl⟩,⟨rfl,rfl⟩,trivial⟩⟩
    ·conv=>whnf
     refine Split.mk (fun c2=>?_) (fun c2=>?_)
     ·have hf:gJ (gN n.f1 k)=true:=by unfold gJ;rw [decide_eq_true (p:=0<(gN n.f1 k).f2.length) (jo c2),Bool.or_true]
      rw [hf] at hstep
      conv=>whnf
      refine Need.mk (idx hk2) ?_
      conv=>whnf
      refine Need.mk (bV (a:=((dL f (n.f0.take k) (n.f1.take k)).map (·.1)).length) (b:=1) (by rw [List.length_map];omega) (by decide)) ?_
      conv=>whnf
      refine aZ.mk ⟨by kernel_rfl,by kernel_rfl⟩ ?_
      conv=>whnf
      refine Need.mk (bV (a:=((dL f (n.f0.take k) (n.f1.take k)).map (·.2)).length) (b:=1) (by rw [List.length_map];omega) (by decide)) ?_
      conv=>whnf
      exact bn.mk ⟨⟨k+1,hk2⟩,Nat.sub_lt_sub_left hk2 (Nat.lt_succ_self k),ay [(2,2),(3,8),(4,9),(5,5),(1,1),(0,0)] rfl rfl rfl ⟨⟨rfl,congrArg i64 (dK hk2 (by omega))⟩,⟨rfl,rfl⟩,⟨rfl,rfl⟩,⟨rfl,rfl⟩,⟨rfl,rfl⟩,⟨rfl,rfl⟩,⟨rfl,rfl⟩,trivial⟩ ⟨⟨rfl,rfl⟩,gZ (RF hstep),iF (RG hstep),gX rfl,⟨rfl,rfl⟩,⟨rfl,rfl⟩,trivial⟩⟩
     ·have hf:gJ (gN n.f1 k)=false:=by unfold gJ;rw [decide_eq_false (p:=0<(gN n.f1 k).f0.length) (Nat.not_lt_of_le (Nat.le_of_eq (jq c1))),decide_eq_false (p:=0<(gN n.f1 k).f2.length) (Nat.not_lt_of_le (Nat.le_of_eq (jq c2)))];rfl
      rw [hf] at hstep
      conv=>whnf
      exact bn.mk ⟨⟨k+1,hk2⟩,Nat.sub_lt_sub_left hk2 (Nat.lt_succ_self k),ay [(2,2),(3,3),(4,4),(5,5),(1,1),(0,0)] rfl rfl rfl ⟨⟨rfl,congrArg i64 (dK hk2 (by omega))⟩,⟨rfl,rfl⟩,⟨rfl,rfl⟩,⟨rfl,rfl⟩,⟨rfl,rfl⟩,⟨rfl,rfl⟩,⟨rfl,rfl⟩,trivial⟩ ⟨⟨rfl,rfl⟩,gZ (Yx hstep),iF (Yy hstep),gX rfl,⟨rfl,rfl⟩,⟨rfl,rfl⟩,trivial⟩⟩
  ·have hk2:k=n.f0.length:=Nat.le_antisymm hk (gG c1)
   subst hk2
   conv=>whnf
   exact aG.mk ⟨rfl,rfl⟩ ⟨rfl,rfl⟩ ⟨gZ (congrArg (List.map (fun x=>x.1)) (abM hl)),iF (congrArg (List.map (fun x=>x.2)) (abM hl)),gX rfl,trivial⟩
end Go.Proofs.YtcnfgfomholheaaGreatDoor.Q
end
section
namespace Go.Proofs.YtcnfgfomholheaaGreatDoor.Q
open Go.RowKit Go.Proofs.YtcnfgfomholheaaGreatDoor.Z Go.Proofs.YtcnfgfomholheaaGreatDoor.Pure
set_option linter.unusedVariables false
set_option linter.unusedSimpArgs false
set_option maxRecDepth 100000
set_option maxHeartbeats 4000000
theorem Lj:∀(ls:List ByteArray) (c:ByteArray) (n:SN),Bd n→Tr n→aC T Tryz.prog 96 [.ag (T.cells eN n), .c (.sl 9 ls), .c (.sc (.bool false)), .c (.sc (.string c))] (Ud (jU c ls n))
 | [],c,n,hn,ht=>BM n [] c (fun _ k=>k) hn ht.len ⟨fun _ _ _=>rfl,fun h=>absurd h (by decide),fun h=>absurd h (by decide)⟩
 | t::ts,c,n,hn,ht=>by
   have h1:∀x k,(x.toList==t.toList)=false→kG (jU c ts) t x k=k:=fun x k h=>by unfold kG;rw [h];rfl
   have h2:∀x k,(x.toList==t.toList)=true→kG (jU c ts) t x k=jU c ts k:=fun x k h=>by unfold kG;rw [h];rfl
   refine BM n (t::ts) c (kG (jU c ts) t) hn ht.len ⟨fun h=>absurd h (Nat.succ_ne_zero _),fun _ x k h=>h1 x k h,fun _ x k hk h=>?_⟩
   rw [h2 x k h]
   exact Eq.mpr (congrArg (fun L:List ByteArray=>aC T Tryz.prog 96 [.ag (T.cells eN k), .c (.sl 9 L), .c (.sc (.bool false)), .c (.sc (.string c))] (Ud (jU c ts k))) (tl_ t ts)) (Lj ts c k (hn.kid k hk) (ht.kid k hk))
theorem BN {f:ByteArray→SN→SN} {x:ByteArray × SN}:∀{ns:List ByteArray} {ks:List SN},x∈dL f ns ks↔∃k,(x.1,k)∈ns.zip ks∧x.2=f x.1 k∧gJ x.2=true
 | [],ks=>by rw [dL];simp
 | y::r,[]=>by rw [dL];simp
 | y::r,k::q=>by
   rw [dL,List.mem_append,BN (ns:=r) (ks:=q),List.zip_cons_cons]
   constructor
   ·rintro(h | ⟨k',h1,h2⟩)
    ·cases hf:gJ (f y k) with
     | false=>rw [hf] at h;cases h
     | true=>
       rw [hf] at h
       obtain rfl:=List.mem_singleton.1 h
       exact⟨k,List.mem_cons_self,rfl,hf⟩
    ·exact⟨k',List.mem_cons_of_mem _ h1,h2⟩
   ·rintro⟨k',h1,h2,h3⟩
    rcases List.mem_cons.1 h1 with h1 | h1
    ·cases h1
     refine .inl ?_
     rw [h2] at h3
     rw [h3]
     exact List.mem_singleton.2 (Prod.ext rfl h2)
    ·exact .inr ⟨k',h1,h2,h3⟩
theorem aaE:∀(ls:List ByteArray) (c:ByteArray) (n:SN),Bd n→Bd (jU c ls n):=fun ls=>by
 have key:∀(f:ByteArray→SN→SN) (n:SN) (ss:List SS),Bd n→(∀x,∀k∈n.f1,Bd (f x k))→ss.length≤n.f2.length→(∀s∈ss,s∈n.f2)→Bd ⟨(dL f n.f0 n.f1).map (·.1),(dL f n.f0 n.f1).map (·.2),ss⟩:=fun f n ss h hf hs hm=>by
  have hl:=BL f n.f0 n.f1
  refine .mk _ (by show(List.map _ _).length≤_;rw [List.length_map];exact Nat.le_trans hl h.l0) (fun x hx=>?_) (by show(List.map _ _).length≤_;rw [List.length_map];exact Nat.le_trans hl h.l0) (Nat.le_trans hs h.l2) (fun x hx=>h.z2 x (hm x hx)) (fun x hx=>?_)
  ·obtain⟨y,hy,rfl⟩:=List.mem_map.1 hx
   obtain⟨k,h1,_⟩:=BN.1 hy
   exact h.z0 _ (List.of_mem_zip h1).1
  ·obtain⟨y,hy,rfl⟩:=List.mem_map.1 hx
   obtain⟨k,h1,h2,_⟩:=BN.1 hy
   rw [h2]
   exact hf _ k (List.of_mem_zip h1).2
 induction ls with
 | nil=>exact fun c n h=>key _ n _ h (fun _ k hk=>h.kid k hk) (xu c n.f2) (fun s hs=>List.filter_sublist.subset hs)
 | cons t ts ih=>
   intro c n h
   refine key _ n _ h (fun x k hk=>?_) (Nat.le_refl _) (fun s hs=>hs)
   unfold kG
   cases x.toList==t.toList with
   | true=>exact ih c k (h.kid k hk)
   | false=>exact h.kid k hk
def jR (f c:ByteArray) (e:SE):Bool:=(e.f0.toList==f.toList) && (e.f1.toList==c.toList)
theorem Ox {E:List SE} {p:SE→Bool} {k:Nat} {d:SE} (h:k<E.length):(E.drop k).any p=(p (E.getD k d) || (E.drop (k+1)).any p):=by
 rw [List.drop_eq_getElem_cons h,List.any_cons,getD_in E k d h]
abbrev Nq (n:SN) (b:Bool):RS T.Tb:= .tu [(true,[.ow 9 n.f0, .ow eN n.f1, .ow eS n.f2]),(false,[.sc (.bool b)])]
theorem Uh (n:SN) (f c:ByteArray) (hn:Bd n) (hg:gI n=true→Tr n∧Dp 7 n) (hc:(dZ n).length≤4194304) (hf:f.size≤1048576) (hl:(um f).length≤1048577):aC T Tryz.prog 26 [.ag (T.cells eN n), .c (.sc (.string f)), .c (.sc (.string c))] (Nq (bif cO f && (dZ n).any (jR f c) then dI (um f) c n else n) (cO f && (dZ n).any (jR f c))):=by
 have Ui:=EY n hn hg hc
 have hok:0<(dZ n).length→Tr n:=fun h=>(hg (by
  cases hq:gI n with
  | true=>rfl
  | false=>rw [show dZ n=[] by unfold dZ;rw [hq];rfl] at h;exact absurd h (Nat.lt_irrefl 0))).1
 refine aH hT Tryz.func26 (by kernel_rfl) rfl rfl (fun A=>?_)
 conv=>whnf
 refine aA.mk _ Ui ?_
 conv=>whnf
 generalize dZ n=E at hc hok⊢
 generalize hR:(cO f && E.any (jR f c))=R
 refine dJ.mk {k:Nat // k≤E.length∧(cO f && (E.drop k).any (jR f c))=R} (fun q=>(3,[(13,i64 q.1),(12,i64 E.length),(11, .c (.hd 2)),(6, .c (.px 1 0)),(3, .c (.px 0 0)),(1, .c (.sc (.string f))),(2, .c (.sc (.string c)))],[(2, .row 2 eE E),(1,RD),(0,uj n)])) (fun q=>E.length - q.1) ⟨0,Nat.zero_le _,hR⟩ (ay [(2,2),(1,1),(0,0)] rfl rfl rfl ⟨⟨rfl,rfl⟩,⟨rfl,rfl⟩,⟨rfl,rfl⟩,⟨rfl,rfl⟩,⟨rfl,rfl⟩,⟨rfl,rfl⟩,⟨rfl,rfl⟩,trivial⟩ ⟨qo rfl,⟨rfl,rfl⟩,⟨rfl,rfl⟩,trivial⟩) ?_
 rintro⟨k,hk,hR⟩
 conv=>whnf
 refine Split.mk (fun c1=>?_) (fun c1=>?_)
 ·have hk2:k<E.length:=gB c1
  clear c1
  rw [Ox (d:=T.df eE) hk2] at hR
  conv=>whnf
  refine Need.mk (idx hk2) ?_
  conv=>whnf
  refine aA.mk _ (BO f (Nat.le_trans hf (by decide))) ?_
  conv=>whnf
  refine Split.mk (fun c1=>?_) (fun c1=>?_)
  ·have g1:cO f=true:=c1
   rw [g1,Bool.true_and] at hR
   conv=>whnf
   refine Split.mk (fun c2=>?_) (fun c2=>?_)
   ·conv=>whnf
    refine Split.mk (fun c3=>?_) (fun c3=>?_)
    ·have g2:R=true:=by rw [←hR];unfold jR;rw [show((E.getD k (T.df eE)).f0.toList==f.toList)=true from c2,show((E.getD k (T.df eE)).f1.toList==c.toList)=true from c3];rfl
     conv=>whnf
     refine aA.mk _ (zA f (Nat.le_trans hf (by decide))) ?_
     conv=>whnf
     refine aA.mk _ (removed (um f) c n (Nat.le_trans hl (by decide)) hn (hok (by omega))) ?_
     conv=>whnf
     refine aZ.mk ⟨by kernel_rfl,by kernel_rfl⟩ ?_
     conv=>whnf
     exact aG.mk ⟨rfl,rfl⟩ ⟨rfl,rfl⟩ ⟨gZ (by rw [g2];rfl),iF (by rw [g2];rfl),gX (by rw [g2];rfl),bv g2,trivial⟩
    ·have g2:jR f c (E.getD k (T.df eE))=false:=by unfold jR;rw [show((E.getD k (T.df eE)).f1.toList==c.toList)=false from c3,Bool.and_false]
     rw [g2,Bool.false_or,←Bool.true_and (List.any _ _),←g1] at hR
     conv=>whnf
     exact bn.mk ⟨⟨k+1,hk2,hR⟩,Nat.sub_lt_sub_left hk2 (Nat.lt_succ_self k),ay [(2,2),(1,1),(0,0)] rfl rfl rfl ⟨⟨rfl,congrArg i64 (dK hk2 (by omega))⟩,⟨rfl,rfl⟩,⟨rfl,rfl⟩,⟨rfl,rfl⟩,⟨rfl,rfl⟩,⟨rfl,rfl⟩,⟨rfl,rfl⟩,trivial⟩ ⟨qo rfl,⟨rfl,rfl⟩,⟨rfl,rfl⟩,trivial⟩⟩
   ·have g2:jR f c (E.getD k (T.df eE))=false:=by unfold jR;rw [show((E.getD k (T.df eE)).f0.toList==f.toList)=false from c2];rfl
    rw [g2,Bool.false_or,←Bool.true_and (List.any _ _),←g1] at hR
    conv=>whnf
    refine Split.mk (fun e=>jy e) (fun _=>?_)
    conv=>whnf
    exact bn.mk ⟨⟨k+1,hk2,hR⟩,Nat.sub_lt_sub_left hk2 (Nat.lt_succ_self k),ay [(2,2),(1,1),(0,0)] rfl rfl rfl ⟨⟨rfl,congrArg i64 (dK hk2 (by omega))⟩,⟨rfl,rfl⟩,⟨rfl,rfl⟩,⟨rfl,rfl⟩,⟨rfl,rfl⟩,⟨rfl,rfl⟩,⟨rfl,rfl⟩,trivial⟩ ⟨qo rfl,⟨rfl,rfl⟩,⟨rfl,rfl⟩,trivial⟩⟩
  ·have g1:cO f=false:=c1
   replace hR:(cO f && (E.drop (k+1)).any (jR f c))=R:=by rw [←hR,g1];rfl
   conv=>whnf
   refine Split.mk (fun e=>jy e) (fun _=>?_)
   conv=>whnf
   refine Split.mk (fun e=>jy e) (fun _=>?_)
   conv=>whnf
   exact bn.mk ⟨⟨k+1,hk2,hR⟩,Nat.sub_lt_sub_left hk2 (Nat.lt_succ_self k),ay [(2,2),(1,1),(0,0)] rfl rfl rfl ⟨⟨rfl,congrArg i64 (dK hk2 (by omega))⟩,⟨rfl,rfl⟩,⟨rfl,rfl⟩,⟨rfl,rfl⟩,⟨rfl,rfl⟩,⟨rfl,rfl⟩,⟨rfl,rfl⟩,trivial⟩ ⟨qo rfl,⟨rfl,rfl⟩,⟨rfl,rfl⟩,trivial⟩⟩
 ·have hk2:k=E.length:=Nat.le_antisymm hk (gG c1)
  clear c1
  have g2:R=false:=by rw [←hR,hk2,List.drop_length];simp
  conv=>whnf
  refine aA.mk _ (vM n hn) ?_
  conv=>whnf
  exact aG.mk ⟨rfl,rfl⟩ ⟨rfl,rfl⟩ ⟨gZ (by rw [g2];rfl),iF (by rw [g2];rfl),gX (by rw [g2];rfl),bv g2,trivial⟩
end Go.Proofs.YtcnfgfomholheaaGreatDoor.Q
end
section
namespace Go.Proofs.YtcnfgfomholheaaGreatDoor.Q
open Go.RowKit Go.Proofs.YtcnfgfomholheaaGreatDoor.Z Go.Proofs.YtcnfgfomholheaaGreatDoor.Pure
set_option linter.unusedVariables false
set_option linter.unusedSimpArgs false
set_option maxRecDepth 100000
set_option maxHeartbeats 4000000
theorem FT (n:SN) (p:List ByteArray) (hn:Bd n) (hl:n.f0.length=n.f1.length) (hp:p.length≤7) (hz:∀x∈p,x.size≤1048576) (hc:(iU p n).length≤4194304)
  (ih:∀i,i<n.f1.length→aC T Tryz.prog 178 [.ag (T.cells eN (bH T eN n.f1 i)), .c (.sc (.string (dB (p++[g9 n.f0 i])))), .c (.sc (.int .i64 ((p.length+1:Nat):Int)))] (.c (.ow eE (iU (p++[g9 n.f0 i]) (bH T eN n.f1 i))))):aC T Tryz.prog 178 [.ag (T.cells eN n), .c (.sc (.string (dB p))), .c (.sc (.int .i64 (p.length:Int)))] (.c (.ow eE (iU p n))):=by
 have hl2:=hn.l2
 have hjs:=rU p hp hz
 rw [FP] at hc⊢
 rw [List.length_append,List.length_map] at hc
 refine kM hT Tryz.func178 (by kernel_rfl) rfl rfl (fun A=>?_)
 refine Vc.of 0 hT ?_
 conv=>whnf
 refine dJ.mk {k:Nat // k≤n.f2.length} (fun q=>(2,[(8,i64 q.1),(7, .c (.hd 1)),(3, .c (.px 0 0)),(1, .c (.sc (.string (dB p)))),(2,i64 p.length)],[(1, .row 1 eE ((n.f2.take q.1).map (oG p))),(0,uj n)])) (fun q=>n.f2.length - q.1) ⟨0,Nat.zero_le _⟩ (ay [(1,1),(0,0)] rfl rfl rfl ⟨⟨rfl,rfl⟩,⟨rfl,rfl⟩,⟨rfl,rfl⟩,⟨rfl,rfl⟩,⟨rfl,rfl⟩,trivial⟩ ⟨qo rfl,⟨rfl,rfl⟩,trivial⟩) ?_
 rintro⟨k,hk⟩
 conv=>whnf
 refine Split.mk (fun c=>?_) (fun c=>?_)
 ·have hk2:k<n.f2.length:=gB c
  clear c
  conv=>whnf
  refine Need.mk (idx hk2) ?_
  conv=>whnf
  refine Need.mk (idx hk2) ?_
  conv=>whnf
  refine Need.mk (idx hk2) ?_
  conv=>whnf
  refine Need.mk (bV (a:=((n.f2.take k).map (oG p)).length) (b:=1) (by rw [List.length_map,List.length_take];omega) (by decide)) ?_
  conv=>whnf
  refine aZ.mk ⟨by kernel_rfl,by kernel_rfl⟩ ?_
  conv=>whnf
  exact bn.mk ⟨⟨k+1,hk2⟩,Nat.sub_lt_sub_left hk2 (Nat.lt_succ_self k),ay [(1,3),(0,0)] rfl rfl rfl ⟨⟨rfl,congrArg i64 (dK hk2 (by omega))⟩,⟨rfl,rfl⟩,⟨rfl,rfl⟩,⟨rfl,rfl⟩,⟨rfl,rfl⟩,trivial⟩ ⟨qo (AQ (d:=T.df eS) hk2),⟨rfl,rfl⟩,trivial⟩⟩
 ·have hk2:k=n.f2.length:=Nat.le_antisymm hk (gG c)
  clear c
  subst hk2
  have hl1:=hn.l1
  conv=>whnf
  refine dJ.mk {k:Nat // k≤n.f0.length} (fun q=>(2,[(9,i64 q.1),(7, .c (.hd 1)),(3, .c (.px 0 0)),(1, .c (.sc (.string (dB p)))),(2,i64 p.length)],[(1, .row 1 eE (n.f2.map (oG p)++fA p (n.f0.take q.1) (n.f1.take q.1))),(0,uj n)])) (fun q=>n.f0.length - q.1) ⟨0,Nat.zero_le _⟩ (ay [(1,1),(0,0)] rfl rfl rfl ⟨⟨rfl,rfl⟩,⟨rfl,rfl⟩,⟨rfl,rfl⟩,⟨rfl,rfl⟩,⟨rfl,rfl⟩,trivial⟩ ⟨qo (by rw [List.take_length];simp [fA];rfl),⟨rfl,rfl⟩,trivial⟩) ?_
  rintro⟨k,hk⟩
  conv=>whnf
  refine Split.mk (fun c=>?_) (fun c=>?_)
  ·have hk3:k<n.f0.length:=gB c
   have hk2:k<n.f1.length:=by omega
   clear c
   have ihk:=ih k hk2
   rw [show(((p.length+1:Nat)):Int)=wrap64 ((p.length:Int)+1) from d1_ (by omega)] at ihk
   have hsn:=uy (p:=p) (d:=T.df 9) (e:=T.df eN) hk3 hk2
   have hle:=oO (p:=p) (ns:=n.f0) (ks:=n.f1) (k:=k+1)
   rw [hsn,List.length_append] at hle
   have hap:(n.f2.map (oG p)++fA p (n.f0.take k) (n.f1.take k)).length+(iU (p++[g9 n.f0 k]) (bH T eN n.f1 k)).length≤8388608:=by
    rw [List.length_append,List.length_map]
    have hle':_+(iU (p++[g9 n.f0 k]) (bH T eN n.f1 k)).length≤_:=hle
    omega
   have hx:(g9 n.f0 k).size≤1048576:=hn.z0 _ (BA hk3)
   conv=>whnf
   refine Need.mk (idx hk3) ?_
   conv=>whnf
   refine Split.mk (fun c=>?_) (fun c=>?_)
   ·have h1:0<p.length:=jo c
    have e:(dB p++(⟨#[47]⟩:ByteArray))++g9 n.f0 k=dB (p++[g9 n.f0 k]):=(if_pos h1).symm.trans (BP p p.length rfl _)
    rw [←e] at ihk
    have hs1:(dB p++(⟨#[47]⟩:ByteArray)).size=(dB p).size+1:=rW _ _
    conv=>whnf
    refine Need.mk (show(dB p).size+1≤9223372036854775807 by omega) ?_
    conv=>whnf
    refine Need.mk (show(dB p++(⟨#[47]⟩:ByteArray)).size+(g9 n.f0 k).size≤9223372036854775807 by omega) ?_
    conv=>whnf
    refine Need.mk (idx hk2) ?_
    conv=>whnf
    refine aA.mk _ ihk ?_
    conv=>whnf
    refine Need.mk (bV (a:=(n.f2.map (oG p)++fA p (n.f0.take k) (n.f1.take k)).length) (b:=(iU (p++[g9 n.f0 k]) (bH T eN n.f1 k)).length) hap (by decide)) ?_
    conv=>whnf
    exact bn.mk ⟨⟨k+1,hk3⟩,Nat.sub_lt_sub_left hk3 (Nat.lt_succ_self k),ay [(1,3),(0,0)] rfl rfl rfl ⟨⟨rfl,congrArg i64 (dK hk3 (by omega))⟩,⟨rfl,rfl⟩,⟨rfl,rfl⟩,⟨rfl,rfl⟩,⟨rfl,rfl⟩,trivial⟩ ⟨qo (show(n.f2.map (oG p)++fA p (n.f0.take k) (n.f1.take k))++iU (p++[g9 n.f0 k]) (bH T eN n.f1 k)=n.f2.map (oG p)++fA p (n.f0.take (k+1)) (n.f1.take (k+1)) by rw [hsn,List.append_assoc];rfl),⟨rfl,rfl⟩,trivial⟩⟩
   ·have h1:p.length=0:=jq c
    have e:g9 n.f0 k=dB (p++[g9 n.f0 k]):=(if_neg (show ¬0<p.length by omega)).symm.trans (BP p p.length rfl _)
    rw [←e] at ihk
    conv=>whnf
    refine Need.mk (idx hk2) ?_
    conv=>whnf
    refine aA.mk _ ihk ?_
    conv=>whnf
    refine Need.mk (bV (a:=(n.f2.map (oG p)++fA p (n.f0.take k) (n.f1.take k)).length) (b:=(iU (p++[g9 n.f0 k]) (bH T eN n.f1 k)).length) hap (by decide)) ?_
    conv=>whnf
    exact bn.mk ⟨⟨k+1,hk3⟩,Nat.sub_lt_sub_left hk3 (Nat.lt_succ_self k),ay [(1,3),(0,0)] rfl rfl rfl ⟨⟨rfl,congrArg i64 (dK hk3 (by omega))⟩,⟨rfl,rfl⟩,⟨rfl,rfl⟩,⟨rfl,rfl⟩,⟨rfl,rfl⟩,trivial⟩ ⟨qo (show(n.f2.map (oG p)++fA p (n.f0.take k) (n.f1.take k))++iU (p++[g9 n.f0 k]) (bH T eN n.f1 k)=n.f2.map (oG p)++fA p (n.f0.take (k+1)) (n.f1.take (k+1)) by rw [hsn,List.append_assoc];rfl),⟨rfl,rfl⟩,trivial⟩⟩
  ·have hk2:k=n.f0.length:=Nat.le_antisymm hk (gG c)
   clear c
   conv=>whnf
   exact aG.mk ⟨rfl,rfl⟩ ⟨rfl,rfl⟩ ⟨qo (by show n.f2.map (oG p)++fA p (n.f0.take k) (n.f1.take k)=_;rw [hk2,List.take_length,hl,List.take_length]),trivial⟩
theorem AX:∀(n:SN) (p:List ByteArray) (d:Nat),Bd n→Tr n→Dp d n→p.length+d≤7→(∀x∈p,x.size≤1048576)→(iU p n).length≤4194304→aC T Tryz.prog 178 [.ag (T.cells eN n), .c (.sc (.string (dB p))), .c (.sc (.int .i64 (p.length:Int)))] (.c (.ow eE (iU p n))):=fun n p d hn ht hd hp hz hc=>
 FT n p hn ht.len (by omega) hz hc (fun i hi=>by
  have hm:bH T eN n.f1 i∈n.f1:=vN hi
  have h9:g9 n.f0 i∈n.f0:=BA (by rw [ht.len];exact hi)
  have hpos:=hd.pos (fun e=>by rw [e] at hi;simp at hi)
  have hx:(bH T eN n.f1 i:SN)∈n.f1:=hm
  have hlen:(p++[g9 n.f0 i]).length=p.length+1:=by rw [List.length_append];rfl
  have:=AX (bH T eN n.f1 i) (p++[g9 n.f0 i]) (d - 1) (hn.kid _ hm) (ht.kid _ hm) (hd.kid _ hm) (by rw [hlen];omega) (fun y hy=>(List.mem_append.1 hy).elim (hz y) (fun h=>by rw [List.mem_singleton.1 h];exact hn.z0 _ h9)) (Nat.le_trans (KZ hi ht.len) hc)
  rw [hlen] at this
  exact this)
termination_by n=>SizeOf.sizeOf n
decreasing_by exact mF hm
theorem specEntries (n:SN) (hn:Bd n) (hg:gI n=true→Tr n∧Dp 7 n) (hc:(dZ n).length≤4194304):aC T Tryz.prog 107 [.ag (T.cells eN n)] (.c (.ow eE (dZ n))):=by
 refine aH hT Tryz.func107 (by kernel_rfl) rfl rfl (fun A=>?_)
 conv=>whnf
 refine aA.mk _ (zB n hn) ?_
 conv=>whnf
 refine Split.mk (fun c=>?_) (fun c=>?_)
 ·have h0:gI n=false:=dh c
  conv=>whnf
  exact aG.mk ⟨rfl,rfl⟩ ⟨rfl,rfl⟩ ⟨qo (show []=dZ n by unfold dZ;rw [h0];rfl),trivial⟩
 ·have h0:gI n=true:=dA c
  have he:dZ n=iU [] n:=by unfold dZ;rw [if_pos h0]
  rw [he] at hc⊢
  conv=>whnf
  refine aA.mk _ (AX n [] 7 hn (hg h0).1 (hg h0).2 (by decide) (fun x hx=>by cases hx) hc) ?_
  conv=>whnf
  exact aG.mk ⟨rfl,rfl⟩ ⟨rfl,rfl⟩ ⟨rfl,trivial⟩
theorem Uj (n:SN) (f c:ByteArray) (hn:Bd n) (hg:gI n=true→Tr n∧Dp 7 n) (hc:(dZ n).length≤4194304) (hf:f.size≤1048576):aC T Tryz.prog 25 [.ag (T.cells eN n), .c (.sc (.string f)), .c (.sc (.string c))] (Nq (bif gI n && (cO f && (dZ n).any (jR f c)) then jU c (um f) n else n) (gI n && (cO f && (dZ n).any (jR f c)))):=by
 have Ui:=specEntries n hn hg hc
 generalize hR:(gI n && (cO f && (dZ n).any (jR f c)))=R
 refine aH hT Tryz.func25 (by kernel_rfl) rfl rfl (fun A=>?_)
 conv=>whnf
 refine aA.mk _ (zB n hn) ?_
 conv=>whnf
 refine Split.mk (fun c1=>?_) (fun c1=>?_)
 ·have h0:gI n=false:=dh c1
  have g2:R=false:=by rw [←hR,h0];rfl
  conv=>whnf
  refine Split.mk (fun _=>?_) (fun e=>jf e)
  conv=>whnf
  refine aA.mk _ (qQ n hn) ?_
  conv=>whnf
  exact aG.mk ⟨rfl,rfl⟩ ⟨rfl,rfl⟩ ⟨gZ (by rw [g2];rfl),iF (by rw [g2];rfl),gX (by rw [g2];rfl),bv g2,trivial⟩
 have h0:gI n=true:=dA c1
 rw [h0,Bool.true_and] at hR
 conv=>whnf
 refine aA.mk _ (vT f (Nat.le_trans hf (by decide))) ?_
 conv=>whnf
 refine Split.mk (fun c1=>?_) (fun c1=>?_)
 ·have h1:cO f=false:=dh c1
  have g2:R=false:=by rw [←hR,h1];rfl
  conv=>whnf
  refine aA.mk _ (qQ n hn) ?_
  conv=>whnf
  exact aG.mk ⟨rfl,rfl⟩ ⟨rfl,rfl⟩ ⟨gZ (by rw [g2];rfl),iF (by rw [g2];rfl),gX (by rw [g2];rfl),bv g2,trivial⟩
 have h1:cO f=true:=dA c1
 rw [h1,Bool.true_and] at hR
 conv=>whnf
 refine aA.mk _ Ui ?_
 conv=>whnf
 generalize dZ n=E at hc hR⊢
 refine dJ.mk {k:Nat // k≤E.length∧(E.drop k).any (jR f c)=R} (fun q=>(3,[(9,i64 q.1),(8, .c (.hd 2)),(6, .c (.px 1 0)),(3, .c (.px 0 0)),(1, .c (.sc (.string f))),(2, .c (.sc (.string c)))],[(2, .row 2 eE E),(1,RD),(0,uj n)])) (fun q=>E.length - q.1) ⟨0,Nat.zero_le _,hR⟩ (ay [(2,4),(1,1),(0,0)] rfl rfl rfl ⟨⟨rfl,rfl⟩,⟨rfl,rfl⟩,⟨rfl,rfl⟩,⟨rfl,rfl⟩,⟨rfl,rfl⟩,⟨rfl,rfl⟩,trivial⟩ ⟨qo rfl,⟨rfl,rfl⟩,⟨rfl,rfl⟩,trivial⟩) ?_
 rintro⟨k,hk,hR⟩
 conv=>whnf
 refine Split.mk (fun c1=>?_) (fun c1=>?_)
 ·have hk2:k<E.length:=gB c1
  clear c1
  rw [Ox (d:=T.df eE) hk2] at hR
  conv=>whnf
  refine Need.mk (idx hk2) ?_
  conv=>whnf
  refine Split.mk (fun c2=>?_) (fun c2=>?_)
  ·conv=>whnf
   refine Need.mk (idx hk2) ?_
   conv=>whnf
   refine Split.mk (fun c3=>?_) (fun c3=>?_)
   ·have g2:R=true:=by rw [←hR];unfold jR;rw [show((E.getD k (T.df eE)).f0.toList==f.toList)=true from c2,show((E.getD k (T.df eE)).f1.toList==c.toList)=true from c3];rfl
    conv=>whnf
    refine aA.mk _ (Uk f (Nat.le_trans hf (by decide))) ?_
    conv=>whnf
    refine aA.mk _ (Lj (um f) c n hn (hg h0).1) ?_
    conv=>whnf
    refine aZ.mk ⟨by kernel_rfl,by kernel_rfl⟩ ?_
    conv=>whnf
    refine aA.mk _ (qQ (jU c (um f) n) (aaE _ c n hn)) ?_
    conv=>whnf
    exact aG.mk ⟨rfl,rfl⟩ ⟨rfl,rfl⟩ ⟨gZ (by rw [g2];rfl),iF (by rw [g2];rfl),gX (by rw [g2];rfl),bv g2,trivial⟩
   ·have g2:jR f c (E.getD k (T.df eE))=false:=by unfold jR;rw [show((E.getD k (T.df eE)).f1.toList==c.toList)=false from c3,Bool.and_false]
    rw [g2,Bool.false_or] at hR
    conv=>whnf
    exact bn.mk ⟨⟨k+1,hk2,hR⟩,Nat.sub_lt_sub_left hk2 (Nat.lt_succ_self k),ay [(2,2),(1,1),(0,0)] rfl rfl rfl ⟨⟨rfl,congrArg i64 (dK hk2 (by omega))⟩,⟨rfl,rfl⟩,⟨rfl,rfl⟩,⟨rfl,rfl⟩,⟨rfl,rfl⟩,⟨rfl,rfl⟩,trivial⟩ ⟨qo rfl,⟨rfl,rfl⟩,⟨rfl,rfl⟩,trivial⟩⟩
  ·have g2:jR f c (E.getD k (T.df eE))=false:=by unfold jR;rw [show((E.getD k (T.df eE)).f0.toList==f.toList)=false from c2];rfl
   rw [g2,Bool.false_or] at hR
   conv=>whnf
   refine Split.mk (fun e=>jy e) (fun _=>?_)
   conv=>whnf
   exact bn.mk ⟨⟨k+1,hk2,hR⟩,Nat.sub_lt_sub_left hk2 (Nat.lt_succ_self k),ay [(2,2),(1,1),(0,0)] rfl rfl rfl ⟨⟨rfl,congrArg i64 (dK hk2 (by omega))⟩,⟨rfl,rfl⟩,⟨rfl,rfl⟩,⟨rfl,rfl⟩,⟨rfl,rfl⟩,⟨rfl,rfl⟩,trivial⟩ ⟨qo rfl,⟨rfl,rfl⟩,⟨rfl,rfl⟩,trivial⟩⟩
 ·have hk2:k=E.length:=Nat.le_antisymm hk (gG c1)
  clear c1
  have g2:R=false:=by rw [←hR,hk2,List.drop_length];rfl
  conv=>whnf
  refine aA.mk _ (qQ n hn) ?_
  conv=>whnf
  exact aG.mk ⟨rfl,rfl⟩ ⟨rfl,rfl⟩ ⟨gZ (by rw [g2];rfl),iF (by rw [g2];rfl),gX (by rw [g2];rfl),bv g2,trivial⟩
end Go.Proofs.YtcnfgfomholheaaGreatDoor.Q
end
section
namespace Go.Proofs.YtcnfgfomholheaaGreatDoor.Q
open Go.RowKit Go.Proofs.YtcnfgfomholheaaGreatDoor.Z Go.Proofs.YtcnfgfomholheaaGreatDoor.X Go.Proofs.YtcnfgfomholheaaGreatDoor.Pure
set_option linter.unusedVariables false
set_option linter.unusedSimpArgs false
theorem uD (f:ByteArray→SN→SN):∀(ns:List ByteArray) (ks:List SN),dL f ns ks=(ns.zip ks).flatMap (fun x=>bif gJ (f x.1 x.2) then [(x.1,f x.1 x.2)] else [])
 | [],ks=>by rw [dL];rfl
 | y::r,[]=>by rw [dL];rfl
 | y::r,k::q=>by rw [dL,List.zip_cons_cons,List.flatMap_cons,uD f r q]
theorem yO {α:Type} {F:α→List α}:∀{A:List α},(∀x∈A,F x=[x])→A.flatMap F=A
 | [],_=>rfl
 | a::A,h=>by
   rw [List.flatMap_cons,h a List.mem_cons_self,yO (fun x hx=>h x (List.mem_cons_of_mem _ hx))];rfl
theorem full_of {k:SN} (ht:Tr k) (h:k.f1≠[]∨k.f2≠[]):gJ k=true:=by
 unfold gJ
 rw [Bool.or_eq_true,decide_eq_true_eq,decide_eq_true_eq]
 rcases h with h | h
 ·exact .inl (by rw [ht.len];exact List.length_pos_iff.2 h)
 ·exact .inr (List.length_pos_iff.2 h)
theorem YH {k:SN} (ht:Tr k) (h1:k.f1.length=0) (h2:k.f2.length=0):gJ k=false:=by
 unfold gJ
 rw [Bool.or_eq_false_iff,decide_eq_false_iff_not,decide_eq_false_iff_not]
 exact⟨by rw [ht.len];omega,by omega⟩
theorem YI {a b:ByteArray} (h:a≠b):(a.toList==b.toList)=false:=by
 cases hq:a.toList==b.toList with
 | false=>rfl
 | true=>exact(h (YA hq)).elim
theorem Ul (a:ByteArray):(a.toList==a.toList)=true:=by simp
theorem Ll:∀(ls:List ByteArray) (c:ByteArray) (n:SN),Gd n→jU c ls n=dI ls c n
 | [],c,n,h=>by
   have e:dL (fun _ k=>k) n.f0 n.f1=lS n:=by
    rw [uD]
    refine yO (fun x hx=>?_)
    have hm:=RJ (n:=n) hx
    rw [full_of (h.kid _ hm).tr (h.full _ hm)]
    rfl
   rw [jU,e,uY h.tr,yM h.tr]
   rfl
 | t::ts,c,n,h=>by
   have rest:∀x∈lS n,x.1≠t→(bif gJ (kG (jU c ts) t x.1 x.2) then [(x.1,kG (jU c ts) t x.1 x.2)] else [])=[x]:=fun x hx hne=>by
    have hm:=RJ (n:=n) hx
    have e:kG (jU c ts) t x.1 x.2=x.2:=by unfold kG;rw [YI hne];rfl
    rw [e,full_of (h.kid _ hm).tr (h.full _ hm)]
    rfl
   cases hf:kS t n.f0 with
   | false=>
     have e:dL (kG (jU c ts) t) n.f0 n.f1=lS n:=by
      rw [uD]
      refine yO (fun x hx=>rest x hx (fun e=>?_))
      have:=(abG h.tr (t:=x.1) (k:=x.2) hx).1
      rw [e,hf] at this
      cases this
     rw [jU,e,uY h.tr,yM h.tr,Oj t ts c n hf]
     exact Bz n
   | true=>
     obtain⟨A,B,k,h1,hk,h2,h3⟩:=Oi t ts c n h.tr hf
     have hm:=D8 (t::ts) c n h.tr
     have hK:=D8 ts c k (h.kid k hk).tr
     have ih:=Ll ts c k (h.kid k hk)
     have hne:=Wj (h1▸Yz h.tr)
     have hA:∀x∈A,x∈lS n:=fun x hx=>by rw [h1];exact List.mem_append_left _ hx
     have hB:∀x∈B,x∈lS n:=fun x hx=>by rw [h1];exact List.mem_append_right _ (List.mem_cons_of_mem _ hx)
     have e:dL (kG (jU c ts) t) n.f0 n.f1=lS (dI (t::ts) c n):=by
      rw [uD,show n.f0.zip n.f1=A++(t,k)::B from h1,List.flatMap_append,List.flatMap_cons,yO (fun x hx=>rest x (hA x hx) (hne x (List.mem_append_left _ hx))),yO (fun x hx=>rest x (hB x hx) (hne x (List.mem_append_right _ hx)))]
      have e1:kG (jU c ts) t t k=dI ts c k:=by unfold kG;rw [Ul];exact ih
      show A++((bif gJ (kG (jU c ts) t t k) then [(t,kG (jU c ts) t t k)] else [])++B)=_
      rw [e1]
      rcases h2 with ⟨⟨z1,z2⟩,h2⟩ | ⟨z,h2⟩
      ·rw [YH hK z1 z2,h2];rfl
      ·rw [full_of hK z,h2];rfl
     rw [jU,e,uY hm,yM hm,←h3]
     exact Bz _
theorem E5 (n:SN) (f c:ByteArray):(gI n && (cO f && (dZ n).any (jR f c)))=(cO f && (dZ n).any (jR f c))∧(bif gI n && (cO f && (dZ n).any (jR f c)) then jU c (um f) n else n)=bif cO f && (dZ n).any (jR f c) then dI (um f) c n else n:=by
 cases h:gI n with
 | false=>
   have e:dZ n=[]:=by unfold dZ;rw [h];rfl
   rw [e]
   simp
 | true=>
   rw [Ll _ c n (Ue n [] (Ld h).1).1,Bool.true_and]
   exact⟨rfl,rfl⟩
theorem Si:∀(ls:List ByteArray) (c:ByteArray) (n:SN),Tr n→cnt (dI ls c n)≤cnt n
 | [],c,n,_=>by
   rw [BF,BF]
   have:=xu c n.f2
   show n.f0.length+(ng c n.f2).length+lg n.f1≤_
   omega
 | t::ts,c,n,ht=>by
   cases hf:kS t n.f0 with
   | false=>rw [Oj t ts c n hf];exact Nat.le_refl _
   | true=>
     obtain⟨A,B,k,h1,hk,h2,h3⟩:=Oi t ts c n ht hf
     have hm:=D8 (t::ts) c n ht
     have ih:=Si ts c k (ht.kid k hk)
     have app:∀l m:List SN,lg (l++m)=lg l+lg m:=fun l m=>by
      induction l with
      | nil=>simp [lg]
      | cons a l ih=>rw [List.cons_append,lg,lg,ih];omega
     rw [BF,BF n,h3,←uY hm,←yM hm,←uY ht,←yM ht,h1]
     rcases h2 with ⟨_,h2⟩ | ⟨_,h2⟩<;>rw [h2]<;>simp only [List.map_append,List.map_cons,List.length_append,List.length_map,List.length_cons,app,lg]<;>omega
end Go.Proofs.YtcnfgfomholheaaGreatDoor.Q
end
section
namespace Go.Proofs.YtcnfgfomholheaaGreatDoor.Q
open Go.RowKit Go.Proofs.YtcnfgfomholheaaGreatDoor.Z Go.Proofs.YtcnfgfomholheaaGreatDoor.X Go.Proofs.YtcnfgfomholheaaGreatDoor.Pure
set_option linter.unusedVariables false
set_option linter.unusedSimpArgs false
inductive Tx:SN→Prop
 | mk (n:SN) (z0:∀x∈n.f0,ByteArray.size x≤1048576) (z2:∀x∈n.f2,(x:SS).f0.size≤1048576) (hk:∀k∈n.f1,Tx k):Tx n
theorem Tx.z0 {n:SN} (h:Tx n):∀x∈n.f0,ByteArray.size x≤1048576:=by cases h;assumption
theorem Tx.z2 {n:SN} (h:Tx n):∀x∈n.f2,(x:SS).f0.size≤1048576:=by cases h;assumption
theorem Tx.kid {n:SN} (h:Tx n):∀k∈n.f1,Tx k:=by cases h;assumption
end Go.Proofs.YtcnfgfomholheaaGreatDoor.Q
end
section
namespace Go.Proofs.YtcnfgfomholheaaGreatDoor.Q
open Go.RowKit Go.Proofs.YtcnfgfomholheaaGreatDoor.Z Go.Proofs.YtcnfgfomholheaaGreatDoor.X Go.Proofs.YtcnfgfomholheaaGreatDoor.Pure
set_option linter.unusedVariables false
set_option linter.unusedSimpArgs false
set_option maxRecDepth 100000
set_option maxHeartbeats 4000000
end Go.Proofs.YtcnfgfomholheaaGreatDoor.Q
end
section
namespace Go.Proofs.YtcnfgfomholheaaGreatDoor.Q
open Go.RowKit Go.Proofs.YtcnfgfomholheaaGreatDoor.Z Go.Proofs.YtcnfgfomholheaaGreatDoor.X Go.Proofs.YtcnfgfomholheaaGreatDoor.Pure
set_option linter.unusedVariables false
set_option linter.unusedSimpArgs false
set_option maxRecDepth 100000
set_option maxHeartbeats 4000000
end Go.Proofs.YtcnfgfomholheaaGreatDoor.Q
end
section
namespace Go.Proofs.YtcnfgfomholheaaGreatDoor.Q
open Go.RowKit Go.Proofs.YtcnfgfomholheaaGreatDoor.Z Go.Proofs.YtcnfgfomholheaaGreatDoor.X Go.Proofs.YtcnfgfomholheaaGreatDoor.Pure
set_option linter.unusedVariables false
set_option linter.unusedSimpArgs false
set_option maxRecDepth 100000
set_option maxHeartbeats 4000000
end Go.Proofs.YtcnfgfomholheaaGreatDoor.Q
end
section
namespace Go.Proofs.YtcnfgfomholheaaGreatDoor.Q
open Go.RowKit Go.Proofs.YtcnfgfomholheaaGreatDoor.Z Go.Proofs.YtcnfgfomholheaaGreatDoor.X Go.Proofs.YtcnfgfomholheaaGreatDoor.Pure
set_option linter.unusedVariables false
set_option linter.unusedSimpArgs false
set_option maxRecDepth 100000
set_option maxHeartbeats 4000000
end Go.Proofs.YtcnfgfomholheaaGreatDoor.Q
end
section
namespace Go.Proofs.YtcnfgfomholheaaGreatDoor.Q
open Go.RowKit Go.Proofs.YtcnfgfomholheaaGreatDoor.Z Go.Proofs.YtcnfgfomholheaaGreatDoor.Pure
set_option linter.unusedVariables false
set_option linter.unusedSimpArgs false
set_option maxRecDepth 100000
set_option maxHeartbeats 4000000
theorem flat5:qV T 5:=fun _=>rfl
abbrev gK (l:List SK) (i:Nat):SK:=bH T eK l i
theorem aeh (k:SK):(⟨k.f0,k.f1,k.f2⟩:SK)=k:=by cases k;rfl
theorem aaF {l:List (List Int)} {M:Nat} (h:∀x∈l,x.length≤M):l.flatten.length≤l.length*M:=by
 induction l with
 | nil=>simp
 | cons x l ih=>
   have:=h x List.mem_cons_self
   have:=ih (fun y hy=>h y (List.mem_cons_of_mem _ hy))
   simp only [List.flatten_cons,List.length_append,List.length_cons,Nat.succ_mul]
   omega
theorem WA {l:List (List Int)} {k:Nat} (hk:k<l.length):(l.take k).flatten++l.getD k []=(l.take (k+1)).flatten:=by
 rw [List.take_succ_eq_append_getElem hk]
 have:l.getD k []=l[k]:=by simp [hk]
 rw [this,List.flatten_append];simp
theorem ap_ {m n:Nat} (h:m+n≤100000000000):m+n≤maxLen∧(m+n)*1≤140737488355328:=by simp only [maxLen];omega
theorem joined (ps:List (List Int)) (hn:ps.length≤16) (hs:∀x∈ps,x.length≤4194304):aC T Tryz.prog 169 [.c (.sl 68 ps)] (.c (.ow 5 ps.flatten)):=by
 refine aH hT Tryz.func169 (by kernel_rfl) rfl rfl (fun A=>?_)
 conv=>whnf
 refine dJ.mk {k:Nat // k≤ps.length} (fun p=>(2,[(9,i64 p.1),(8,i64 ps.length),(7,im 68 ps),(3, .c (.hd 0))],[(0, .row 1 5 (ps.take p.1).flatten)])) (fun p=>ps.length - p.1) ⟨0,Nat.zero_le _⟩ (ay [(0,0)] rfl rfl rfl ⟨⟨rfl,rfl⟩,⟨rfl,rfl⟩,⟨rfl,rfl⟩,⟨rfl,rfl⟩,trivial⟩ ⟨show bY (T:=T) 5 [] 5 (ps.take 0).flatten from gu rfl,trivial⟩) ?_
 rintro⟨k,hk⟩
 conv=>whnf
 refine Split.mk (fun c=>?_) (fun c=>?_)
 ·have hk2:k<ps.length:=gB c
  clear c
  have hm:(ps.getD k []).length≤4194304:=hs _ (getD_mem (d:=[]) hk2)
  have hf:(ps.take k).flatten.length≤67108864:=by
   have h1:=aaF (l:=ps.take k) (M:=4194304) (fun x hx=>hs x (List.mem_of_mem_take hx))
   have h2:(ps.take k).length≤16:=by rw [List.length_take];omega
   have h3:=Nat.mul_le_mul_right 4194304 h2
   omega
  conv=>whnf
  refine Need.mk (idx hk2) ?_
  conv=>whnf
  refine Need.mk ⟨flat5,ap_ (show(ps.take k).flatten.length+(ps.getD k []).length≤100000000000 by omega)⟩ ?_
  conv=>whnf
  exact bn.mk ⟨⟨k+1,hk2⟩,Nat.sub_lt_sub_left hk2 (Nat.lt_succ_self k),ay [(0,2)] rfl rfl rfl ⟨⟨rfl,congrArg i64 (dK hk2 (by omega))⟩,⟨rfl,rfl⟩,⟨rfl,rfl⟩,⟨rfl,rfl⟩,trivial⟩ ⟨show bY (T:=T) 5 ((ps.take k).flatten++ps.getD k []) 5 (ps.take (k+1)).flatten from gu (WA hk2),trivial⟩⟩
 ·have hk2:k=ps.length:=Nat.le_antisymm hk (gG c)
  clear c
  conv=>whnf
  subst hk2
  exact aG.mk ⟨rfl,rfl⟩ ⟨rfl,rfl⟩ ⟨show bY (T:=T) 5 (ps.take ps.length).flatten 5 ps.flatten from gu (by rw [List.take_length]),trivial⟩
theorem all1 {M:Nat} {b:List Int} (h:b.length≤M):∀x∈[b],x.length≤M:=by intro x hx;simp at hx;subst hx;exact h
theorem aaG (b:List Int) (hs:b.length≤4194304):aC T Tryz.prog 169 [.c (.sl 68 ([b]:List (List Int)))] (.c (.ow 5 b)):=by
 have h:=joined [b] (by simp) (all1 hs)
 rwa [show([b]:List (List Int)).flatten=b by simp] at h
theorem ZR {l:List SK} {k:Nat} (h:k<l.length):l.take k++[(⟨(gK l k).f0,(gK l k).f1,(gK l k).f2⟩:SK)]=l.take (k+1):=by
 rw [aeh,show gK l k=l[k] from getD_in (α:=SK) l k (T.df eK) h,List.take_succ_eq_append_getElem h]
theorem Ho {l:List SK} {i:Nat} (h:i<l.length):gK l i∈l:=getD_mem (l:=l) (d:=T.df eK) h
theorem Oy (l:List SK) (hl:l.length≤2097152) (hb:∀y∈l,(y:SK).f1.length≤2097152):aC T Tryz.prog 165 [.c (.sl eK l)] (.c (.ow eK l)):=by
 refine aH hT Tryz.func165 (by kernel_rfl) rfl rfl (fun A=>?_)
 conv=>whnf
 refine dJ.mk {k:Nat // k≤l.length} (fun p=>(3,[(9,i64 p.1),(8,i64 l.length),(7,im eK l),(3, .c (.hd 0))],[(0, .row 1 eK (l.take p.1))])) (fun p=>l.length - p.1) ⟨0,Nat.zero_le _⟩ (ay [(0,0)] rfl rfl rfl ⟨⟨rfl,rfl⟩,⟨rfl,rfl⟩,⟨rfl,rfl⟩,⟨rfl,rfl⟩,trivial⟩ ⟨lu rfl,trivial⟩) ?_
 rintro⟨k,hk⟩
 conv=>whnf
 refine Split.mk (fun c=>?_) (fun c=>?_)
 ·have hk2:k<l.length:=gB c
  clear c
  have h1:=hb _ (Ho hk2)
  conv=>whnf
  refine Need.mk (idx hk2) ?_
  conv=>whnf
  refine aA.mk _ (aaG (gK l k).f1 (by omega)) ?_
  conv=>whnf
  refine Need.mk (bV (a:=(l.take k).length) (b:=1) (by rw [List.length_take];omega) (by decide)) ?_
  conv=>whnf
  refine aZ.mk ⟨by kernel_rfl,by kernel_rfl⟩ ?_
  conv=>whnf
  exact bn.mk ⟨⟨k+1,hk2⟩,Nat.sub_lt_sub_left hk2 (Nat.lt_succ_self k),ay [(0,6)] rfl rfl rfl ⟨⟨rfl,congrArg i64 (dK hk2 (by omega))⟩,⟨rfl,rfl⟩,⟨rfl,rfl⟩,⟨rfl,rfl⟩,trivial⟩ ⟨lu (ZR hk2),trivial⟩⟩
 ·have hk2:k=l.length:=Nat.le_antisymm hk (gG c)
  clear c
  conv=>whnf
  subst hk2
  exact aG.mk ⟨rfl,rfl⟩ ⟨rfl,rfl⟩ ⟨lu (List.take_length),trivial⟩
theorem Oz (l:List SK) (hl:l.length≤2097152) (hb:∀y∈l,(y:SK).f1.length≤2097152):aC T Tryz.prog 187 [.c (.sl eK l)] (.c (.ow eK l)):=by
 refine aH hT Tryz.func187 (by kernel_rfl) rfl rfl (fun A=>?_)
 conv=>whnf
 refine dJ.mk {k:Nat // k≤l.length} (fun p=>(3,[(4,i64 p.1),(0,im eK l),(3, .c (.hd 0))],[(0, .row 1 eK (l.take p.1))])) (fun p=>l.length - p.1) ⟨0,Nat.zero_le _⟩ (ay [(0,0)] rfl rfl rfl ⟨⟨rfl,rfl⟩,⟨rfl,rfl⟩,⟨rfl,rfl⟩,trivial⟩ ⟨lu rfl,trivial⟩) ?_
 rintro⟨k,hk⟩
 conv=>whnf
 refine Split.mk (fun c=>?_) (fun c=>?_)
 ·have hk2:k<l.length:=gB c
  clear c
  have h1:=hb _ (Ho hk2)
  conv=>whnf
  refine Need.mk (idx hk2) ?_
  conv=>whnf
  refine Need.mk (idx hk2) ?_
  conv=>whnf
  refine Need.mk ⟨flat5,bV (a:=0) (b:=(gK l k).f1.length) (by omega) (by decide)⟩ ?_
  conv=>whnf
  refine Need.mk (idx hk2) ?_
  conv=>whnf
  refine Need.mk (bV (a:=(l.take k).length) (b:=1) (by rw [List.length_take];omega) (by decide)) ?_
  conv=>whnf
  refine aZ.mk ⟨by kernel_rfl,by kernel_rfl⟩ ?_
  conv=>whnf
  exact bn.mk ⟨⟨k+1,hk2⟩,Nat.sub_lt_sub_left hk2 (Nat.lt_succ_self k),ay [(0,6)] rfl rfl rfl ⟨⟨rfl,congrArg i64 (dK hk2 (by omega))⟩,⟨rfl,rfl⟩,⟨rfl,rfl⟩,trivial⟩ ⟨lu (ZR hk2),trivial⟩⟩
 ·have hk2:k=l.length:=Nat.le_antisymm hk (gG c)
  clear c
  conv=>whnf
  subst hk2
  exact aG.mk ⟨rfl,rfl⟩ ⟨rfl,rfl⟩ ⟨lu (List.take_length),trivial⟩
def pW (l:List SK) (i:Nat):Bool:=nK (gK l i).f0 && ((decide (1≤((gK l i).f1.length:Int)) && decide (((gK l i).f1.length:Int)≤40)) && ((decide (0≤(gK l i).f2) && decide ((gK l i).f2≤2)) && !(decide (0<i) && !(Op.bytesLess (gK l (i - 1)).f0.toList (gK l i).f0.toList))))
def xB (l:List SK):Bool:=(List.range l.length).all (pW l) && decide ((l.length:Int)≤8)
theorem nM {l:List SK} {i:Nat} (h:i<l.length) (h2:pW l i=false):xB l=false:=by
 unfold xB
 rw [List.all_eq_false.2 ⟨i,List.mem_range.2 h,by rw [h2];simp⟩];rfl
theorem Lm {l:List SK} (h:∀i,i<l.length→pW l i=true):xB l=decide ((l.length:Int)≤8):=by
 unfold xB
 rw [List.all_eq_true.2 (fun i hi=>h i (List.mem_range.1 hi)),Bool.true_and]
theorem zC {l:List SK} {k:Nat} (h:∀i,i<k→pW l i=true) (h2:pW l k=true):∀i,i<k+1→pW l i=true:=fun i hi=>by
 rcases Nat.lt_or_ge i k with h3 | h3
 ·exact h i h3
 ·have:i=k:=by omega
  subst this;exact h2
theorem Um (l:List SK) (hl:l.length≤2097152) (hb:∀y∈l,(y:SK).f0.size≤1048576):aC T Tryz.prog 162 [.c (.sl eK l)] (.c (.sc (.bool (xB l)))):=by
 refine aH hT Tryz.func162 (by kernel_rfl) rfl rfl (fun A=>?_)
 conv=>whnf
 refine dJ.mk {k:Nat // k≤l.length∧∀i,i<k→pW l i=true} (fun p=>(0,[(7,i64 p.1),(6,i64 l.length),(5,im eK l),(0,im eK l)],[])) (fun p=>l.length - p.1) ⟨0,Nat.zero_le _,fun i hi=>absurd hi (Nat.not_lt_zero i)⟩ (ay [] rfl rfl rfl ⟨⟨rfl,rfl⟩,⟨rfl,rfl⟩,⟨rfl,rfl⟩,⟨rfl,rfl⟩,trivial⟩ trivial) ?_
 rintro⟨k,hk,hok⟩
 conv=>whnf
 refine Split.mk (fun c=>?_) (fun c=>?_)
 ·have hk2:k<l.length:=gB c
  clear c
  have h1:=hb _ (Ho hk2)
  conv=>whnf
  refine Need.mk (idx hk2) ?_
  conv=>whnf
  refine aA.mk _ (QM (gK l k).f0 (Nat.le_trans h1 (by decide))) ?_
  conv=>whnf
  refine Split.mk (fun c=>?_) (fun c=>?_)
  ·have c1:nK (gK l k).f0=false:=dh c
   conv=>whnf
   repeat (first | (refine Split.mk (fun _=>?_) (fun e=>jf e);conv=>whnf) | (refine aZ.mk ⟨by kernel_rfl,by kernel_rfl⟩ ?_;conv=>whnf))
   exact aG.mk ⟨rfl,rfl⟩ ⟨rfl,rfl⟩ ⟨bv (nM hk2 (by unfold pW;rw [c1];rfl)),trivial⟩
  have c1:nK (gK l k).f0=true:=dA c
  clear c
  conv=>whnf
  refine aA.mk _ (zD ((gK l k).f1.length:Int) 1 40) ?_
  conv=>whnf
  refine Split.mk (fun c=>?_) (fun c=>?_)
  ·have c2:=dh c
   conv=>whnf
   repeat (first | (refine Split.mk (fun _=>?_) (fun e=>jf e);conv=>whnf) | (refine aZ.mk ⟨by kernel_rfl,by kernel_rfl⟩ ?_;conv=>whnf))
   exact aG.mk ⟨rfl,rfl⟩ ⟨rfl,rfl⟩ ⟨bv (nM hk2 (by unfold pW;rw [c1,c2];rfl)),trivial⟩
  have c2:=dA c
  clear c
  conv=>whnf
  refine aA.mk _ (Lp (gK l k).f2) ?_
  conv=>whnf
  refine Split.mk (fun c=>?_) (fun c=>?_)
  ·have c3:=dh c
   conv=>whnf
   repeat (first | (refine Split.mk (fun _=>?_) (fun e=>jf e);conv=>whnf) | (refine aZ.mk ⟨by kernel_rfl,by kernel_rfl⟩ ?_;conv=>whnf))
   exact aG.mk ⟨rfl,rfl⟩ ⟨rfl,rfl⟩ ⟨bv (nM hk2 (by unfold pW;rw [c1,c2,c3];rfl)),trivial⟩
  have c3:=dA c
  clear c
  conv=>whnf
  refine Split.mk (fun c=>?_) (fun c=>?_)
  ·have c4:0<k:=jo c
   clear c
   have hpr:=Eb c4 (by omega)
   have hpt:(wrap64 ((k:Int) - 1)).toNat=k - 1:=by rw [hpr];rfl
   conv=>whnf
   refine Need.mk (by rw [hpr];exact idx (show k - 1<l.length by omega)) ?_
   conv=>whnf
   refine aZ.mk ⟨by kernel_rfl,by kernel_rfl⟩ ?_
   conv=>whnf
   refine Split.mk (fun c=>?_) (fun c=>?_)
   ·have c5:Op.bytesLess (gK l (k - 1)).f0.toList (gK l k).f0.toList=false:=(congrArg (fun j=>Op.bytesLess (gK l j).f0.toList (gK l k).f0.toList) hpt.symm).trans (dh c)
    conv=>whnf
    exact aG.mk ⟨rfl,rfl⟩ ⟨rfl,rfl⟩ ⟨bv (nM hk2 (by unfold pW;rw [c1,c2,c3,c5,decide_eq_true c4];rfl)),trivial⟩
   ·have c5:Op.bytesLess (gK l (k - 1)).f0.toList (gK l k).f0.toList=true:=(congrArg (fun j=>Op.bytesLess (gK l j).f0.toList (gK l k).f0.toList) hpt.symm).trans (dA c)
    conv=>whnf
    exact bn.mk ⟨⟨k+1,hk2,zC hok (by unfold pW;rw [c1,c2,c3,c5];simp)⟩,Nat.sub_lt_sub_left hk2 (Nat.lt_succ_self k),ay [] rfl rfl rfl ⟨⟨rfl,congrArg i64 (dK hk2 (by omega))⟩,⟨rfl,rfl⟩,⟨rfl,rfl⟩,⟨rfl,rfl⟩,trivial⟩ trivial⟩
  ·have c4:k=0:=jq c
   clear c
   subst c4
   conv=>whnf
   refine aZ.mk ⟨by kernel_rfl,by kernel_rfl⟩ ?_
   conv=>whnf
   refine Split.mk (fun e=>jy e) (fun _=>?_)
   conv=>whnf
   exact bn.mk ⟨⟨0+1,hk2,zC hok (by unfold pW;rw [c1,c2,c3];rfl)⟩,Nat.sub_lt_sub_left hk2 (Nat.lt_succ_self 0),ay [] rfl rfl rfl ⟨⟨rfl,congrArg i64 (dK hk2 (by omega))⟩,⟨rfl,rfl⟩,⟨rfl,rfl⟩,⟨rfl,rfl⟩,trivial⟩ trivial⟩
 ·have hk2:k=l.length:=Nat.le_antisymm hk (gG c)
  clear c
  conv=>whnf
  subst hk2
  exact aG.mk ⟨rfl,rfl⟩ ⟨rfl,rfl⟩ ⟨bv (Lm hok),trivial⟩
theorem Un (l:List SK) (hl:l.length≤2097152) (hb:∀y∈l,(y:SK).f0.size≤1048576):aC T Tryz.prog 160 [.c (.sl eK l)] (.c (.sc (.bool (xB l)))):=by
 refine aH hT Tryz.func160 (by kernel_rfl) rfl rfl (fun A=>?_)
 conv=>whnf
 refine dJ.mk {k:Nat // k≤l.length∧∀i,i<k→pW l i=true} (fun p=>(0,[(3,i64 p.1),(0,im eK l)],[])) (fun p=>l.length - p.1) ⟨0,Nat.zero_le _,fun i hi=>absurd hi (Nat.not_lt_zero i)⟩ (ay [] rfl rfl rfl ⟨⟨rfl,rfl⟩,⟨rfl,rfl⟩,trivial⟩ trivial) ?_
 rintro⟨k,hk,hok⟩
 conv=>whnf
 refine Split.mk (fun c=>?_) (fun c=>?_)
 ·have hk2:k<l.length:=gB c
  clear c
  have h1:=hb _ (Ho hk2)
  conv=>whnf
  refine Need.mk (idx hk2) ?_
  conv=>whnf
  refine aA.mk _ (QN (gK l k).f0 (Nat.le_trans h1 (by decide))) ?_
  conv=>whnf
  refine Split.mk (fun c=>?_) (fun c=>?_)
  ·have c1:nK (gK l k).f0=false:=dh c
   conv=>whnf
   repeat (first | (refine Split.mk (fun _=>?_) (fun e=>jf e);conv=>whnf) | (refine aZ.mk ⟨by kernel_rfl,by kernel_rfl⟩ ?_;conv=>whnf))
   exact aG.mk ⟨rfl,rfl⟩ ⟨rfl,rfl⟩ ⟨bv (nM hk2 (by unfold pW;rw [c1];rfl)),trivial⟩
  have c1:nK (gK l k).f0=true:=dA c
  clear c
  conv=>whnf
  refine Need.mk (idx hk2) ?_
  conv=>whnf
  refine aA.mk _ (Hq ((gK l k).f1.length:Int) 1 40) ?_
  conv=>whnf
  refine Split.mk (fun c=>?_) (fun c=>?_)
  ·have c2:=dh c
   conv=>whnf
   repeat (first | (refine Split.mk (fun _=>?_) (fun e=>jf e);conv=>whnf) | (refine aZ.mk ⟨by kernel_rfl,by kernel_rfl⟩ ?_;conv=>whnf))
   exact aG.mk ⟨rfl,rfl⟩ ⟨rfl,rfl⟩ ⟨bv (nM hk2 (by unfold pW;rw [c1,c2];rfl)),trivial⟩
  have c2:=dA c
  clear c
  conv=>whnf
  refine Need.mk (idx hk2) ?_
  conv=>whnf
  refine aA.mk _ (Hq (gK l k).f2 0 2) ?_
  conv=>whnf
  refine Split.mk (fun c=>?_) (fun c=>?_)
  ·have c3:=dh c
   conv=>whnf
   repeat (first | (refine Split.mk (fun _=>?_) (fun e=>jf e);conv=>whnf) | (refine aZ.mk ⟨by kernel_rfl,by kernel_rfl⟩ ?_;conv=>whnf))
   exact aG.mk ⟨rfl,rfl⟩ ⟨rfl,rfl⟩ ⟨bv (nM hk2 (by unfold pW;rw [c1,c2,c3];rfl)),trivial⟩
  have c3:=dA c
  clear c
  conv=>whnf
  refine Split.mk (fun c=>?_) (fun c=>?_)
  ·have c4:0<k:=jo c
   clear c
   have hpr:=Eb c4 (by omega)
   have hpt:(wrap64 ((k:Int) - 1)).toNat=k - 1:=by rw [hpr];rfl
   conv=>whnf
   refine Need.mk (by rw [hpr];exact idx (show k - 1<l.length by omega)) ?_
   conv=>whnf
   refine Need.mk (idx hk2) ?_
   conv=>whnf
   refine aZ.mk ⟨by kernel_rfl,by kernel_rfl⟩ ?_
   conv=>whnf
   refine Split.mk (fun c=>?_) (fun c=>?_)
   ·have c5:Op.bytesLess (gK l (k - 1)).f0.toList (gK l k).f0.toList=false:=(congrArg (fun j=>Op.bytesLess (gK l j).f0.toList (gK l k).f0.toList) hpt.symm).trans (dh c)
    conv=>whnf
    exact aG.mk ⟨rfl,rfl⟩ ⟨rfl,rfl⟩ ⟨bv (nM hk2 (by unfold pW;rw [c1,c2,c3,c5,decide_eq_true c4];rfl)),trivial⟩
   ·have c5:Op.bytesLess (gK l (k - 1)).f0.toList (gK l k).f0.toList=true:=(congrArg (fun j=>Op.bytesLess (gK l j).f0.toList (gK l k).f0.toList) hpt.symm).trans (dA c)
    conv=>whnf
    exact bn.mk ⟨⟨k+1,hk2,zC hok (by unfold pW;rw [c1,c2,c3,c5];simp)⟩,Nat.sub_lt_sub_left hk2 (Nat.lt_succ_self k),ay [] rfl rfl rfl ⟨⟨rfl,congrArg i64 (dK hk2 (by omega))⟩,⟨rfl,rfl⟩,trivial⟩ trivial⟩
  ·have c4:k=0:=jq c
   clear c
   subst c4
   conv=>whnf
   refine aZ.mk ⟨by kernel_rfl,by kernel_rfl⟩ ?_
   conv=>whnf
   refine Split.mk (fun e=>jy e) (fun _=>?_)
   conv=>whnf
   exact bn.mk ⟨⟨0+1,hk2,zC hok (by unfold pW;rw [c1,c2,c3];rfl)⟩,Nat.sub_lt_sub_left hk2 (Nat.lt_succ_self 0),ay [] rfl rfl rfl ⟨⟨rfl,congrArg i64 (dK hk2 (by omega))⟩,⟨rfl,rfl⟩,trivial⟩ trivial⟩
 ·have hk2:k=l.length:=Nat.le_antisymm hk (gG c)
  clear c
  conv=>whnf
  subst hk2
  exact aG.mk ⟨rfl,rfl⟩ ⟨rfl,rfl⟩ ⟨bv (Lm hok),trivial⟩
end Go.Proofs.YtcnfgfomholheaaGreatDoor.Q
end
section
namespace Go.Proofs.YtcnfgfomholheaaGreatDoor.Q
open Go.RowKit Go.Proofs.YtcnfgfomholheaaGreatDoor.Z Go.Proofs.YtcnfgfomholheaaGreatDoor.Pure
set_option linter.unusedVariables false
set_option linter.unusedSimpArgs false
set_option maxRecDepth 100000
set_option maxHeartbeats 4000000
theorem adl {n:Nat} (h:decide ((n:Int)>1048576)=false):n≤1048576:=by simp at h;omega
end Go.Proofs.YtcnfgfomholheaaGreatDoor.Q
end
section
namespace Go.Proofs.YtcnfgfomholheaaGreatDoor.Q
open Go.RowKit Go.Proofs.YtcnfgfomholheaaGreatDoor.Z Go.Proofs.YtcnfgfomholheaaGreatDoor.Pure
set_option linter.unusedVariables false
set_option linter.unusedSimpArgs false
set_option maxRecDepth 100000
set_option maxHeartbeats 4000000
theorem OA (r:RT) (hr:Hg r):aC T Tryz.prog 122 [.ag (cR r)] (YB r):=by
 refine aH hT Tryz.func122 (by kernel_rfl) rfl rfl (fun A=>?_)
 conv=>whnf
 refine aA.mk _ (vM r.t hr.t) ?_
 conv=>whnf
 refine aA.mk _ (Oy r.k hr.k hr.b) ?_
 conv=>whnf
 refine aZ.mk ⟨by kernel_rfl,by kernel_rfl⟩ ?_
 conv=>whnf
 exact aG.mk ⟨rfl,rfl⟩ ⟨rfl,rfl⟩ ⟨rfl,rfl,rfl,rfl,rfl,trivial⟩
theorem OB (r:RT) (hr:Hg r):aC T Tryz.prog 120 [.ag (cR r)] (YB r):=by
 refine aH hT Tryz.func120 (by kernel_rfl) rfl rfl (fun A=>?_)
 conv=>whnf
 refine aA.mk _ (qQ r.t hr.t) ?_
 conv=>whnf
 refine aA.mk _ (Oz r.k hr.k hr.b) ?_
 conv=>whnf
 refine aZ.mk ⟨by kernel_rfl,by kernel_rfl⟩ ?_
 conv=>whnf
 exact aG.mk ⟨rfl,rfl⟩ ⟨rfl,rfl⟩ ⟨rfl,rfl,rfl,rfl,rfl,trivial⟩
structure GR (r:RT):Prop where
 bd:Hg r
 c:cnt r.t≤2097000
 t:∀y∈r.k,(y:SK).f0.size≤1048576
theorem GR.el {r:RT} (h:GR r):(dZ r.t).length≤4194304:=Nat.le_trans (FU r.t) (by have:=h.c;omega)
def uF (r:RT):Bool:=(decide (0≤r.v) && decide (r.v≤1000000)) && (gI r.t && (decide (((dZ r.t).length:Int)≤14) && xB r.k))
theorem OD (r:RT):uF r=((decide (0≤r.v) && decide (r.v≤1000000)) && (gI r.t && (decide (((dZ r.t).length:Int)≤14) && xB r.k))):=rfl
theorem Uo (r:RT) (h:GR r):aC T Tryz.prog 85 [.ag (cR r)] (.c (.sc (.bool (uF r)))):=by
 have he:=EY r.t h.bd.t qp h.el
 have hn:=He r.t h.bd.t
 have hk:=Um r.k h.bd.k h.t
 have hR:=OD r
 generalize uF r=R at hR⊢
 replace hR:=hR.symm
 refine aH hT Tryz.func85 (by kernel_rfl) rfl rfl (fun A=>?_)
 conv=>whnf
 refine aA.mk _ (zD _ _ _) ?_
 conv=>whnf
 refine Split.mk (fun c1=>?_) (fun c1=>?_)
 ·replace hR:=dV c1 hR
  clear c1
  conv=>whnf
  refine aA.mk _ hn ?_
  conv=>whnf
  refine Split.mk (fun c1=>?_) (fun c1=>?_)
  ·replace hR:=dV c1 hR
   clear c1
   conv=>whnf
   refine aA.mk _ he ?_
   conv=>whnf
   refine Split.mk (fun c1=>?_) (fun c1=>?_)
   ·replace hR:=dV c1 hR
    clear c1
    conv=>whnf
    refine aA.mk _ hk ?_
    conv=>whnf
    exact aG.mk ⟨rfl,rfl⟩ ⟨rfl,rfl⟩ ⟨bv hR.symm,trivial⟩
   ·conv=>whnf
    repeat (first | (refine Split.mk (fun e=>jy e) (fun _=>?_);conv=>whnf) | (refine aZ.mk ⟨by kernel_rfl,by kernel_rfl⟩ ?_;conv=>whnf))
    exact aG.mk ⟨rfl,rfl⟩ ⟨rfl,rfl⟩ ⟨bv (fD c1 hR),trivial⟩
  ·conv=>whnf
   repeat (first | (refine Split.mk (fun e=>jy e) (fun _=>?_);conv=>whnf) | (refine aZ.mk ⟨by kernel_rfl,by kernel_rfl⟩ ?_;conv=>whnf))
   exact aG.mk ⟨rfl,rfl⟩ ⟨rfl,rfl⟩ ⟨bv (fD c1 hR),trivial⟩
 ·conv=>whnf
  repeat (first | (refine Split.mk (fun e=>jy e) (fun _=>?_);conv=>whnf) | (refine aZ.mk ⟨by kernel_rfl,by kernel_rfl⟩ ?_;conv=>whnf))
  exact aG.mk ⟨rfl,rfl⟩ ⟨rfl,rfl⟩ ⟨bv (fD c1 hR),trivial⟩
theorem Ur (r:RT) (h:GR r):aC T Tryz.prog 84 [.ag (cR r)] (.c (.sc (.bool (uF r)))):=by
 have he:=specEntries r.t h.bd.t qp h.el
 have hn:=zB r.t h.bd.t
 have hk:=Un r.k h.bd.k h.t
 have hR:=OD r
 generalize uF r=R at hR⊢
 replace hR:=hR.symm
 refine aH hT Tryz.func84 (by kernel_rfl) rfl rfl (fun A=>?_)
 conv=>whnf
 refine aA.mk _ (Hq _ _ _) ?_
 conv=>whnf
 refine Split.mk (fun c1=>?_) (fun c1=>?_)
 ·replace hR:=dV c1 hR
  clear c1
  conv=>whnf
  refine aA.mk _ hn ?_
  conv=>whnf
  refine Split.mk (fun c1=>?_) (fun c1=>?_)
  ·replace hR:=dV c1 hR
   clear c1
   conv=>whnf
   refine aA.mk _ he ?_
   conv=>whnf
   refine Split.mk (fun c1=>?_) (fun c1=>?_)
   ·replace hR:=dV c1 hR
    clear c1
    conv=>whnf
    refine aA.mk _ hk ?_
    conv=>whnf
    exact aG.mk ⟨rfl,rfl⟩ ⟨rfl,rfl⟩ ⟨bv hR.symm,trivial⟩
   ·conv=>whnf
    repeat (first | (refine Split.mk (fun e=>jy e) (fun _=>?_);conv=>whnf) | (refine aZ.mk ⟨by kernel_rfl,by kernel_rfl⟩ ?_;conv=>whnf))
    exact aG.mk ⟨rfl,rfl⟩ ⟨rfl,rfl⟩ ⟨bv (fD c1 hR),trivial⟩
  ·conv=>whnf
   repeat (first | (refine Split.mk (fun e=>jy e) (fun _=>?_);conv=>whnf) | (refine aZ.mk ⟨by kernel_rfl,by kernel_rfl⟩ ?_;conv=>whnf))
   exact aG.mk ⟨rfl,rfl⟩ ⟨rfl,rfl⟩ ⟨bv (fD c1 hR),trivial⟩
 ·conv=>whnf
  repeat (first | (refine Split.mk (fun e=>jy e) (fun _=>?_);conv=>whnf) | (refine aZ.mk ⟨by kernel_rfl,by kernel_rfl⟩ ?_;conv=>whnf))
  exact aG.mk ⟨rfl,rfl⟩ ⟨rfl,rfl⟩ ⟨bv (fD c1 hR),trivial⟩
def qW (r:RT):Bool:=uF r && decide (r.v<1000000)
theorem QO (r:RT) (h:GR r):aC T Tryz.prog 123 [.ag (cR r)] (.c (.sc (.bool (qW r)))):=by
 refine aH hT Tryz.func123 (by kernel_rfl) rfl rfl (fun A=>?_)
 conv=>whnf
 refine aA.mk _ (Uo r h) ?_
 conv=>whnf
 refine Split.mk (fun c1=>?_) (fun c1=>?_)
 ·conv=>whnf
  exact aG.mk ⟨rfl,rfl⟩ ⟨rfl,rfl⟩ ⟨bv (by unfold qW;rw [c1];rfl),trivial⟩
 ·conv=>whnf
  exact aG.mk ⟨rfl,rfl⟩ ⟨rfl,rfl⟩ ⟨bv (by unfold qW;rw [c1];rfl),trivial⟩
abbrev ZT (r:RT) (b:Bool):RS T.Tb:= .tu [(true,[.sc (.int .i64 r.v), .ow 9 r.t.f0, .ow eN r.t.f1, .ow eS r.t.f2, .ow eK r.k]),(false,[.sc (.bool b)])]
def upR (r:RT) (t:SN):RT:=⟨wrap64 (r.v+1),t,r.k⟩
theorem aaH {r:RT} (h:uF r=true):qW r=!(r.v==1000000):=by
 have h2:=h
 unfold uF at h2
 simp only [Bool.and_eq_true,decide_eq_true_eq] at h2
 unfold qW
 rw [h,Bool.true_and]
 rw [Bool.eq_iff_iff]
 simp
 omega
theorem abP {r:RT} (h:uF r=false):qW r=false:=by unfold qW;rw [h];rfl
def uG (r:RT) (t:SN):RT:=bif qW r then upR r t else r
theorem YJ {r:RT} {t:SN} {n:Nat} (hB:Bd r.t) (hc:cnt r.t≤n) (ht:Bd t) (htc:cnt t≤n) (hk:BK r.k):Bd (uG r t).t∧cnt (uG r t).t≤n∧BK (uG r t).k:=by
 unfold uG
 cases qW r with
 | true=>exact⟨ht,htc,hk⟩
 | false=>exact⟨hB,hc,hk⟩
theorem GR.of {r:RT} (hB:Bd r.t) (hc:cnt r.t≤2097000) (hk:BK r.k):GR r:=⟨hk.bdr hB,hc,hk.t⟩
theorem WB (r:RT) (h:BK r.k) (hc:cnt r.t≤2097152):(iV r 1).2≤2305843009213693952:=by
 have h1:=JD r.t 1
 have h2:=FQ r.k (bJ r.t 1).2 1048576 h.b
 have h3:(2+1048576)*r.k.length≤(2+1048576)*1048576:=Nat.mul_le_mul_left _ h.k
 show(aY (β:=SK) eH r.k (bJ r.t 1).2).2≤_
 omega
theorem aaI (r:RT):0<(iV r 1).2:=by
 have g1:=kN r.t 1
 have g2:(bJ r.t 1).2≤(iV r 1).2:=ig qU r.k (bJ r.t 1).2
 omega
end Go.Proofs.YtcnfgfomholheaaGreatDoor.Q
end
section
namespace Go.Proofs.YtcnfgfomholheaaGreatDoor.Q
open Go.RowKit Go.Proofs.YtcnfgfomholheaaGreatDoor.Z Go.Proofs.YtcnfgfomholheaaGreatDoor.Pure
set_option linter.unusedVariables false
set_option linter.unusedSimpArgs false
set_option maxRecDepth 100000
set_option maxHeartbeats 4000000
noncomputable def qX (f c:ByteArray) (n:SN):SN:=bif cO f && (dZ n).any (jR f c) then dI (um f) c n else n
noncomputable def jF (c:ByteArray) (l:List ByteArray) (n:SN):SN:=l.foldl (fun n f=>qX f c n) n
theorem Ut {f c:ByteArray} {n:SN} (h:Bd n):Bd (qX f c n)∧cnt (qX f c n)≤cnt n:=by
 unfold qX
 cases hq:cO f && (dZ n).any (jR f c) with
 | false=>exact⟨h,Nat.le_refl _⟩
 | true=>
   have ht:Tr n:=by
    cases hn:gI n with
    | true=>exact(qp hn).1
    | false=>rw [show dZ n=[] by unfold dZ;rw [hn];rfl] at hq;simp at hq
   exact⟨Rz _ c n h ht,Si _ c n ht⟩
theorem xC {c:ByteArray}:∀(l:List ByteArray) (n:SN),Bd n→Bd (jF c l n)∧cnt (jF c l n)≤cnt n
 | [],n,h=>⟨h,Nat.le_refl _⟩
 | f::l,n,h=>by
   obtain⟨h1,h2⟩:=Ut (f:=f) (c:=c) h
   obtain⟨h3,h4⟩:=xC (c:=c) l _ h1
   exact⟨h3,Nat.le_trans h4 h2⟩
theorem E8 {c:ByteArray} {l:List ByteArray} {n:SN} {k:Nat} (h:k<l.length):jF c (l.take (k+1)) n=qX (g9 l k) c (jF c (l.take k) n):=by
 unfold jF
 rw [List.take_succ_eq_append_getElem h,List.foldl_append,show g9 l k=l[k] from getD_in (α:=ByteArray) l k (T.df 9) h]
 rfl
theorem QS (n:SN) (f c:ByteArray) (hn:Bd n) (hc:cnt n≤4194304) (hf:f.size≤1048576):∃b,aC T Tryz.prog 26 [.ag (T.cells eN n), .c (.sc (.string f)), .c (.sc (.string c))] (Nq (qX f c n) b):=
 ⟨_,Uh n f c hn qp (Nat.le_trans (FU n) hc) hf (Nat.le_trans (tX f) (by omega))⟩
theorem QT (n:SN) (f c:ByteArray) (hn:Bd n) (hc:cnt n≤4194304) (hf:f.size≤1048576):∃b,aC T Tryz.prog 25 [.ag (T.cells eN n), .c (.sc (.string f)), .c (.sc (.string c))] (Nq (qX f c n) b):=by
 have h:=Uj n f c hn qp (Nat.le_trans (FU n) hc) hf
 rw [(E5 n f c).2,(E5 n f c).1] at h
 exact⟨_,h⟩
abbrev abQ:dG T:= .bx eG [.sc (.int .i64 0), .sc (.slice none 0 0), .sc (.slice none 0 0), .sc (.slice none 0 0), .sc (.slice none 0 0)]
theorem MZ (r:RT) (c:ByteArray) (l:List ByteArray) (h:GR r) (hl:l.length≤1048576) (hz:∀x∈l,x.size≤1048576):aC T Tryz.prog 46 [.ag (cR r), .c (.sc (.string c)), .c (.sl 9 l)] (ZT (uG r (jF c l r.t)) (qW r)):=by
 have hm:=QO r h
 unfold uG
 generalize qW r=m at hm⊢
 refine aH hT Tryz.func46 (by kernel_rfl) rfl rfl (fun A=>?_)
 conv=>whnf
 refine aA.mk _ (OA r h.bd) ?_
 conv=>whnf
 refine aA.mk _ hm ?_
 conv=>whnf
 refine Split.mk (fun c1=>?_) (fun c1=>?_)
 ·have h0:m=false:=dh c1
  subst h0
  conv=>whnf
  exact aG.mk ⟨rfl,rfl⟩ ⟨rfl,rfl⟩ ⟨rfl,rfl,rfl,rfl,rfl,rfl,trivial⟩
 ·have h0:m=true:=dA c1
  subst h0
  conv=>whnf
  refine dJ.mk {k:Nat // k≤l.length} (fun p=>(20,[(19,i64 p.1),(18,i64 l.length),(17,im 9 l),(8, .c (.px 7 0)),(6, .c (.px 1 0)),(1, .c (.sc (.string c)))],[(7, .bx eG [.sc (.int .i64 r.v), .hd 10, .hd 11, .hd 12, .hd 13]),(1,abQ),(10, .row 10 9 (jF c (l.take p.1) r.t).f0),(11, .row 11 eN (jF c (l.take p.1) r.t).f1),(12, .row 12 eS (jF c (l.take p.1) r.t).f2),(13, .row 13 eK r.k)])) (fun p=>l.length - p.1) ⟨0,Nat.zero_le _⟩ (ay [(7,7),(1,1),(10,3),(11,4),(12,5),(13,6)] rfl rfl rfl ⟨⟨rfl,rfl⟩,⟨rfl,rfl⟩,⟨rfl,rfl⟩,⟨rfl,rfl⟩,⟨rfl,rfl⟩,⟨rfl,rfl⟩,trivial⟩ ⟨⟨rfl,rfl⟩,⟨rfl,rfl⟩,gZ rfl,iF rfl,gX rfl,lu rfl,trivial⟩) ?_
  rintro⟨k,hk⟩
  conv=>whnf
  refine Split.mk (fun c1=>?_) (fun c1=>?_)
  ·have hk2:k<l.length:=gB c1
   clear c1
   obtain⟨hu,WC⟩:=xC (c:=c) (l.take k) r.t h.bd.t
   have hst:=E8 (c:=c) (n:=r.t) hk2
   obtain⟨b,hrm⟩:=QS (jF c (l.take k) r.t) (g9 l k) c hu (Nat.le_trans WC (Nat.le_trans h.c (by decide))) (hz _ (BA hk2))
   generalize jF c (l.take k) r.t=t at hst hrm hu WC
   rw [←hst] at hrm
   conv=>whnf
   refine Need.mk (idx hk2) ?_
   conv=>whnf
   refine aA.mk _ hrm ?_
   conv=>whnf
   exact bn.mk ⟨⟨k+1,hk2⟩,Nat.sub_lt_sub_left hk2 (Nat.lt_succ_self k),ay [(7,7),(1,1),(10,20),(11,21),(12,22),(13,13)] rfl rfl rfl ⟨⟨rfl,congrArg i64 (dK hk2 (by omega))⟩,⟨rfl,rfl⟩,⟨rfl,rfl⟩,⟨rfl,rfl⟩,⟨rfl,rfl⟩,⟨rfl,rfl⟩,trivial⟩ ⟨⟨rfl,rfl⟩,⟨rfl,rfl⟩,gZ rfl,iF rfl,gX rfl,lu rfl,trivial⟩⟩
  ·have hk2:k=l.length:=Nat.le_antisymm hk (gG c1)
   clear c1
   conv=>whnf
   subst hk2
   exact aG.mk ⟨rfl,rfl⟩ ⟨rfl,rfl⟩ ⟨rfl,gZ (by rw [List.take_length];rfl),iF (by rw [List.take_length];rfl),gX (by rw [List.take_length];rfl),rfl,rfl,trivial⟩
theorem Na (r:RT) (c:ByteArray) (l:List ByteArray) (h:GR r) (hl:l.length≤1048576) (hz:∀x∈l,x.size≤1048576):aC T Tryz.prog 44 [.ag (cR r), .c (.sc (.string c)), .c (.sl 9 l)] (ZT (uG r (jF c l r.t)) (qW r)):=by
 have hm:=Ur r h
 unfold uG
 refine aH hT Tryz.func44 (by kernel_rfl) rfl rfl (fun A=>?_)
 conv=>whnf
 refine aA.mk _ (OB r h.bd) ?_
 conv=>whnf
 refine aA.mk _ hm ?_
 conv=>whnf
 refine Split.mk (fun c1=>?_) (fun c1=>?_)
 ·have h0:=abP (dh c1)
  rw [h0]
  conv=>whnf
  repeat (first | (refine Split.mk (fun _=>?_) (fun e=>jf e);conv=>whnf) | (refine aZ.mk ⟨by kernel_rfl,by kernel_rfl⟩ ?_;conv=>whnf))
  exact aG.mk ⟨rfl,rfl⟩ ⟨rfl,rfl⟩ ⟨rfl,rfl,rfl,rfl,rfl,rfl,trivial⟩
 ·have h0:=aaH (dA c1)
  rw [h0]
  clear h0 c1
  generalize hq:(r.v==1000000)=q
  conv=>whnf
  refine Split.mk (fun c1=>?_) (fun c1=>?_)
  ·rw [show q=true from hq.symm.trans c1]
   conv=>whnf
   exact aG.mk ⟨rfl,rfl⟩ ⟨rfl,rfl⟩ ⟨rfl,rfl,rfl,rfl,rfl,rfl,trivial⟩
  ·rw [show q=false from hq.symm.trans c1]
   clear c1 hq
   conv=>whnf
   refine dJ.mk {k:Nat // k≤l.length} (fun p=>(20,[(9,i64 p.1),(2,im 9 l),(8, .c (.px 7 0)),(6, .c (.px 1 0)),(3, .c (.px 0 0)),(1, .c (.sc (.string c)))],[(7, .bx eG [.sc (.int .i64 r.v), .hd 10, .hd 11, .hd 12, .hd 13]),(1,abQ),(0,bxG r),(10, .row 10 9 (jF c (l.take p.1) r.t).f0),(11, .row 11 eN (jF c (l.take p.1) r.t).f1),(12, .row 12 eS (jF c (l.take p.1) r.t).f2),(13, .row 13 eK r.k)])) (fun p=>l.length - p.1) ⟨0,Nat.zero_le _⟩ (ay [(7,7),(1,1),(0,0),(10,3),(11,4),(12,5),(13,6)] rfl rfl rfl ⟨⟨rfl,rfl⟩,⟨rfl,rfl⟩,⟨rfl,rfl⟩,⟨rfl,rfl⟩,⟨rfl,rfl⟩,⟨rfl,rfl⟩,trivial⟩ ⟨⟨rfl,rfl⟩,⟨rfl,rfl⟩,⟨rfl,rfl⟩,gZ rfl,iF rfl,gX rfl,lu rfl,trivial⟩) ?_
   rintro⟨k,hk⟩
   conv=>whnf
   refine Split.mk (fun c1=>?_) (fun c1=>?_)
   ·have hk2:k<l.length:=gB c1
    clear c1
    obtain⟨hu,WC⟩:=xC (c:=c) (l.take k) r.t h.bd.t
    have hst:=E8 (c:=c) (n:=r.t) hk2
    obtain⟨b,hrm⟩:=QT (jF c (l.take k) r.t) (g9 l k) c hu (Nat.le_trans WC (Nat.le_trans h.c (by decide))) (hz _ (BA hk2))
    generalize jF c (l.take k) r.t=t at hst hrm hu WC
    rw [←hst] at hrm
    conv=>whnf
    refine Need.mk (idx hk2) ?_
    conv=>whnf
    refine aA.mk _ hrm ?_
    conv=>whnf
    refine aZ.mk ⟨by kernel_rfl,by kernel_rfl⟩ ?_
    conv=>whnf
    exact bn.mk ⟨⟨k+1,hk2⟩,Nat.sub_lt_sub_left hk2 (Nat.lt_succ_self k),ay [(7,7),(1,1),(0,0),(10,20),(11,21),(12,22),(13,13)] rfl rfl rfl ⟨⟨rfl,congrArg i64 (dK hk2 (by omega))⟩,⟨rfl,rfl⟩,⟨rfl,rfl⟩,⟨rfl,rfl⟩,⟨rfl,rfl⟩,⟨rfl,rfl⟩,trivial⟩ ⟨⟨rfl,rfl⟩,⟨rfl,rfl⟩,⟨rfl,rfl⟩,gZ rfl,iF rfl,gX rfl,lu rfl,trivial⟩⟩
   ·have hk2:k=l.length:=Nat.le_antisymm hk (gG c1)
    clear c1
    conv=>whnf
    subst hk2
    exact aG.mk ⟨rfl,rfl⟩ ⟨rfl,rfl⟩ ⟨rfl,gZ (by rw [List.take_length];rfl),iF (by rw [List.take_length];rfl),gX (by rw [List.take_length];rfl),rfl,rfl,trivial⟩
end Go.Proofs.YtcnfgfomholheaaGreatDoor.Q
end
section
namespace Go.Proofs.YtcnfgfomholheaaGreatDoor.Q
open Go.RowKit Go.Proofs.YtcnfgfomholheaaGreatDoor.Z Go.Proofs.YtcnfgfomholheaaGreatDoor.X Go.Proofs.YtcnfgfomholheaaGreatDoor.Pure
set_option linter.unusedVariables false
set_option linter.unusedSimpArgs false
set_option maxRecDepth 100000
set_option maxHeartbeats 4000000
theorem aaJ {l:List ByteArray} {x:Int} (h0:0≤x) (hx:x≤1048576) (h:0≤thenS (dX l.length x) (iG (fun y:ByteArray=>dX y.size) l)):l.length≤1048576∧∀y∈l,(y:ByteArray).size≤1048576:=by
 obtain⟨h1,h2⟩:=lq h
 have h3:=mO h1
 refine⟨by omega,fun y hy=>?_⟩
 obtain⟨v,v1,v2,v3⟩:=uZ (F:=fun y:ByteArray=>dX y.size) (fun a _ x hx=>jg hx) h1 h2 y hy
 have g3:=mO v3
 have:=jg (n:=l.length) h0
 omega
theorem Ob (a:RL) (c:ByteArray) (l:List ByteArray) (ha:abz a) (hl1:l.length≤140737488351232) (hl2:∀x∈l,(x:ByteArray).size≤140737488351232):aC T Tryz.prog 8 [.ag (Wh a), .c (.sc (.string c)), .c (.sl 9 l)] (.c (.sc (.bool true))):=by
 refine kM hT Tryz.func8 (by kernel_rfl) rfl rfl (fun A=>?_)
 refine Vc.seq 0 hT ?_
 conv=>whnf
 refine Vc.seq 1 hT ?_
 conv=>whnf
 refine Split.mk (fun c1=>?_) (fun c1=>?_)
 ·conv=>whnf
  exact aG.mk ⟨rfl,rfl⟩ ⟨rfl,rfl⟩ ⟨rfl,trivial⟩
 have hf:c.size≤1048576:=adl c1
 clear c1
 conv=>whnf
 refine Vc.seq 1 hT ?_
 conv=>whnf
 refine Vc.seq 1 hT ?_
 conv=>whnf
 refine aA.mk _ (abI a _ ha.1 ha.2 (by decide) (by decide)) ?_
 conv=>whnf
 refine Vc.seq 2 hT ?_
 conv=>whnf
 refine Split.mk (fun c1=>?_) (fun c1=>?_)
 ·conv=>whnf
  exact aG.mk ⟨rfl,rfl⟩ ⟨rfl,rfl⟩ ⟨rfl,trivial⟩
 have hsz:0≤RY a 1048576:=OE c1
 clear c1
 obtain⟨hL,hB,hcB,hkB,hk1,hk2,hle⟩:=abL (by decide) (by decide) hsz
 conv=>whnf
 refine Vc.seq 2 hT ?_
 conv=>whnf
 refine aA.mk _ (Lr l _ hsz hle hl1 hl2) ?_
 conv=>whnf
 refine Vc.seq 2 hT ?_
 conv=>whnf
 refine Split.mk (fun c1=>?_) (fun c1=>?_)
 ·conv=>whnf
  exact aG.mk ⟨rfl,rfl⟩ ⟨rfl,rfl⟩ ⟨rfl,trivial⟩
 obtain⟨hll,hlz⟩:=aaJ hsz hle (OE c1)
 clear c1
 have hto:=abJ a hL hk1 hk2
 have htl:=Ls l hll
 generalize tR a=B at hcB hB hkB hto
 have YK:cnt B.t≤1048576:=by omega
 clear hcB hsz hL hk1 hk2 hle
 have hG:=GR.of hB (Nat.le_trans YK (by decide)) hkB
 have him:=MZ B c l hG hll hlz
 have hsp:=Na B c l hG hll hlz
 obtain⟨hD,hcD⟩:=xC (c:=c) l B.t hB
 obtain⟨hR,hcR,hkR⟩:=YJ hB YK hD (Nat.le_trans hcD YK) hkB
 generalize uG B (jF c l B.t)=R at him hsp hR hcR hkR
 generalize qW B=w at him hsp
 have hbB:Hg B:=hG.bd
 have hbR:Hg R:=hkR.bdr hR
 have hmB:=Ov B 1 hbB (by decide) (JH B hkB (by omega))
 have hmR:=Ov R 1 hbR (by decide) (JH R hkR (by omega))
 have hhR:=YF R 1 hbR (by decide) (JH R hkR (by omega))
 have heR:=Ws R R hbR
 have heB:=Ws B B hbB
 have hel:=Lu l l (by omega)
 have afz:=WB B hkB (by omega)
 have hml:=yc l (iV B 1).2 (by omega) (aaI B) (by omega)
 conv=>whnf
 refine Vc.cut (α:=Unit) 60 (fun _=>True) (fun _=>[(9, .c (.sc (.bool w))),(8, .c (.px 1 0)),(3, .c (.px 0 0)),(1, .c (.sc (.string c))),(2,im 9 l)]) (fun _=>[(1, .bx eG [.sc (.int .i64 R.v), .hd 2, .hd 3, .hd 4, .hd 5]),(2, .row 2 9 R.t.f0),(3, .row 3 eN R.t.f1),(4, .row 4 eS R.t.f2),(5, .row 5 eK R.k),(0,BI a)]) hT ?_ (fun _ _=>?_)
 ·conv=>whnf
  refine aA.mk _ hto ?_
  conv=>whnf
  refine aA.mk _ htl ?_
  conv=>whnf
  refine aA.mk _ hsp ?_
  conv=>whnf
  exact kJ.mk ⟨(),trivial,ay [(1,72),(2,67),(3,68),(4,69),(5,70),(0,0)] rfl rfl rfl ⟨⟨rfl,rfl⟩,⟨rfl,rfl⟩,⟨rfl,rfl⟩,⟨rfl,rfl⟩,⟨rfl,rfl⟩,trivial⟩ ⟨⟨rfl,rfl⟩,gZ rfl,iF rfl,gX rfl,lu rfl,⟨rfl,rfl⟩,trivial⟩⟩
 refine Vc.cut (α:=Unit) 60 (fun _=>True) (fun _=>[(10, .c (.px 6 0)),(9, .c (.sc (.bool w))),(8, .c (.px 1 0)),(3, .c (.px 0 0)),(1, .c (.sc (.string c))),(2,im 9 l)]) (fun _=>[(6, .bx eG [.sc (.int .i64 B.v), .hd 7, .hd 8, .hd 9, .hd 10]),(7, .row 7 9 B.t.f0),(8, .row 8 eN B.t.f1),(9, .row 9 eS B.t.f2),(10, .row 10 eK B.k),(1, .bx eG [.sc (.int .i64 R.v), .hd 2, .hd 3, .hd 4, .hd 5]),(2, .row 2 9 R.t.f0),(3, .row 3 eN R.t.f1),(4, .row 4 eS R.t.f2),(5, .row 5 eK R.k),(0,BI a)]) hT ?_ (fun _ _=>?_)
 ·conv=>whnf
  refine aA.mk _ hto ?_
  conv=>whnf
  exact kJ.mk ⟨(),trivial,ay [(6,65),(7,61),(8,62),(9,63),(10,64),(1,1),(2,2),(3,3),(4,4),(5,5),(0,0)] rfl rfl rfl ⟨⟨rfl,rfl⟩,⟨rfl,rfl⟩,⟨rfl,rfl⟩,⟨rfl,rfl⟩,⟨rfl,rfl⟩,⟨rfl,rfl⟩,trivial⟩ ⟨⟨rfl,rfl⟩,gZ rfl,iF rfl,gX rfl,lu rfl,⟨rfl,rfl⟩,gZ rfl,iF rfl,gX rfl,lu rfl,⟨rfl,rfl⟩,trivial⟩⟩
 refine Vc.cut (α:=Unit) 60 (fun _=>True) (fun _=>[(11, .c (.hd 11)),(10, .c (.px 6 0)),(9, .c (.sc (.bool w))),(8, .c (.px 1 0)),(3, .c (.px 0 0)),(1, .c (.sc (.string c))),(2,im 9 l)]) (fun _=>[(11, .row 11 9 l),(6, .bx eG [.sc (.int .i64 B.v), .hd 7, .hd 8, .hd 9, .hd 10]),(7, .row 7 9 B.t.f0),(8, .row 8 eN B.t.f1),(9, .row 9 eS B.t.f2),(10, .row 10 eK B.k),(1, .bx eG [.sc (.int .i64 R.v), .hd 2, .hd 3, .hd 4, .hd 5]),(2, .row 2 9 R.t.f0),(3, .row 3 eN R.t.f1),(4, .row 4 eS R.t.f2),(5, .row 5 eK R.k),(0,BI a)]) hT ?_ (fun _ _=>?_)
 ·conv=>whnf
  refine aA.mk _ htl ?_
  conv=>whnf
  exact kJ.mk ⟨(),trivial,ay [(11,60),(6,6),(7,7),(8,8),(9,9),(10,10),(1,1),(2,2),(3,3),(4,4),(5,5),(0,0)] rfl rfl rfl ⟨⟨rfl,rfl⟩,⟨rfl,rfl⟩,⟨rfl,rfl⟩,⟨rfl,rfl⟩,⟨rfl,rfl⟩,⟨rfl,rfl⟩,⟨rfl,rfl⟩,trivial⟩ ⟨gZ rfl,⟨rfl,rfl⟩,gZ rfl,iF rfl,gX rfl,lu rfl,⟨rfl,rfl⟩,gZ rfl,iF rfl,gX rfl,lu rfl,⟨rfl,rfl⟩,trivial⟩⟩
 refine Vc.cut (α:=Unit) 60 (fun _=>True) (fun _=>[(13, .c (.sc (.bool w))),(12, .c (.px 12 0)),(11, .c (.hd 11)),(10, .c (.px 6 0)),(9, .c (.sc (.bool w))),(8, .c (.px 1 0)),(3, .c (.px 0 0)),(1, .c (.sc (.string c))),(2,im 9 l)]) (fun _=>[(12, .bx eG [.sc (.int .i64 R.v), .hd 13, .hd 14, .hd 15, .hd 16]),(13, .row 13 9 R.t.f0),(14, .row 14 eN R.t.f1),(15, .row 15 eS R.t.f2),(16, .row 16 eK R.k),(11, .row 11 9 l),(6, .bx eG [.sc (.int .i64 B.v), .hd 7, .hd 8, .hd 9, .hd 10]),(7, .row 7 9 B.t.f0),(8, .row 8 eN B.t.f1),(9, .row 9 eS B.t.f2),(10, .row 10 eK B.k),(1, .bx eG [.sc (.int .i64 R.v), .hd 2, .hd 3, .hd 4, .hd 5]),(2, .row 2 9 R.t.f0),(3, .row 3 eN R.t.f1),(4, .row 4 eS R.t.f2),(5, .row 5 eK R.k),(0,BI a)]) hT ?_ (fun _ _=>?_)
 ·conv=>whnf
  refine aA.mk _ him ?_
  conv=>whnf
  exact kJ.mk ⟨(),trivial,ay [(12,66),(13,61),(14,62),(15,63),(16,64),(11,11),(6,6),(7,7),(8,8),(9,9),(10,10),(1,1),(2,2),(3,3),(4,4),(5,5),(0,0)] rfl rfl rfl ⟨⟨rfl,rfl⟩,⟨rfl,rfl⟩,⟨rfl,rfl⟩,⟨rfl,rfl⟩,⟨rfl,rfl⟩,⟨rfl,rfl⟩,⟨rfl,rfl⟩,⟨rfl,rfl⟩,⟨rfl,rfl⟩,trivial⟩ ⟨⟨rfl,rfl⟩,gZ rfl,iF rfl,gX rfl,lu rfl,gZ rfl,⟨rfl,rfl⟩,gZ rfl,iF rfl,gX rfl,lu rfl,⟨rfl,rfl⟩,gZ rfl,iF rfl,gX rfl,lu rfl,⟨rfl,rfl⟩,trivial⟩⟩
 refine Vc.seq 60 hT ?_
 conv=>whnf
 refine aA.mk _ heR ?_
 conv=>whnf
 refine Split.mk (fun c1=>(iR (dh c1) rfl).elim) (fun c1=>?_)
 clear c1
 conv=>whnf
 refine Need.mk (by kernel_rfl) ?_
 conv=>whnf
 refine Split.mk (fun c1=>(YL c1 rfl).elim) (fun c1=>?_)
 clear c1
 conv=>whnf
 refine Vc.seq 60 hT ?_
 conv=>whnf
 refine aA.mk _ hto ?_
 conv=>whnf
 refine aA.mk _ heB ?_
 conv=>whnf
 refine aZ.mk ⟨by kernel_rfl,by kernel_rfl⟩ ?_
 conv=>whnf
 refine Split.mk (fun c1=>(iR (dh c1) rfl).elim) (fun c1=>?_)
 clear c1
 conv=>whnf
 refine Vc.seq 70 hT ?_
 conv=>whnf
 refine aA.mk _ htl ?_
 conv=>whnf
 refine aA.mk _ hel ?_
 conv=>whnf
 refine Split.mk (fun c1=>(iR (dh c1) rfl).elim) (fun c1=>?_)
 clear c1
 conv=>whnf
 refine Vc.seq 120 hT ?_
 conv=>whnf
 refine Vc.cut (α:=Unit) 100 (fun _=>True) (fun _=>[(14,i64 (((iV B 1).2:Nat):Int)),(13, .c (.sc (.bool w))),(12, .c (.px 12 0)),(11, .c (.hd 11)),(9, .c (.sc (.bool w))),(8, .c (.px 1 0)),(3, .c (.px 0 0)),(1, .c (.sc (.string c))),(2,im 9 l)]) (fun _=>[(12, .bx eG [.sc (.int .i64 R.v), .hd 13, .hd 14, .hd 15, .hd 16]),(13, .row 13 9 R.t.f0),(14, .row 14 eN R.t.f1),(15, .row 15 eS R.t.f2),(16, .row 16 eK R.k),(11, .row 11 9 l),(1, .bx eG [.sc (.int .i64 R.v), .hd 2, .hd 3, .hd 4, .hd 5]),(2, .row 2 9 R.t.f0),(3, .row 3 eN R.t.f1),(4, .row 4 eS R.t.f2),(5, .row 5 eK R.k),(0,BI a)]) hT ?_ (fun _ _=>?_)
 ·conv=>whnf
  refine aA.wr [[NW.rd,NW.wr 9 (iV B 1).1.t.f0,NW.wr eN (iV B 1).1.t.f1,NW.wr eS (iV B 1).1.t.f2,NW.wr eK (iV B 1).1.k],[NW.rd]] (.c (.sc (.int .i64 (((iV B 1).2:Nat):Int)))) ?_
  conv=>whnf
  refine jS.mk hmB ?_
  conv=>whnf
  exact kJ.mk ⟨(),trivial,ay [(12,12),(13,13),(14,14),(15,15),(16,16),(11,11),(1,1),(2,2),(3,3),(4,4),(5,5),(0,0)] rfl rfl rfl ⟨⟨rfl,rfl⟩,⟨rfl,rfl⟩,⟨rfl,rfl⟩,⟨rfl,rfl⟩,⟨rfl,rfl⟩,⟨rfl,rfl⟩,⟨rfl,rfl⟩,⟨rfl,rfl⟩,⟨rfl,rfl⟩,trivial⟩ ⟨⟨rfl,rfl⟩,gZ rfl,iF rfl,gX rfl,lu rfl,gZ rfl,⟨rfl,rfl⟩,gZ rfl,iF rfl,gX rfl,lu rfl,⟨rfl,rfl⟩,trivial⟩⟩
 refine Vc.cut (α:=Unit) 100 (fun _=>True) (fun _=>[(14,i64 ((((iV B 1).2+1*l.length):Nat):Int)),(13, .c (.sc (.bool w))),(12, .c (.px 12 0)),(9, .c (.sc (.bool w))),(8, .c (.px 1 0)),(3, .c (.px 0 0)),(1, .c (.sc (.string c))),(2,im 9 l)]) (fun _=>[(12, .bx eG [.sc (.int .i64 R.v), .hd 13, .hd 14, .hd 15, .hd 16]),(13, .row 13 9 R.t.f0),(14, .row 14 eN R.t.f1),(15, .row 15 eS R.t.f2),(16, .row 16 eK R.k),(1, .bx eG [.sc (.int .i64 R.v), .hd 2, .hd 3, .hd 4, .hd 5]),(2, .row 2 9 R.t.f0),(3, .row 3 eN R.t.f1),(4, .row 4 eS R.t.f2),(5, .row 5 eK R.k),(0,BI a)]) hT ?_ (fun _ _=>?_)
 ·conv=>whnf
  refine aA.wr [[NW.wr 9 (jL 1 fS (iV B 1).2 l.length)],[NW.rd]] (.c (.sc (.int .i64 ((((iV B 1).2+1*l.length):Nat):Int)))) ?_
  conv=>whnf
  refine jS.mk hml ?_
  conv=>whnf
  exact kJ.mk ⟨(),trivial,ay [(12,12),(13,13),(14,14),(15,15),(16,16),(1,1),(2,2),(3,3),(4,4),(5,5),(0,0)] rfl rfl rfl ⟨⟨rfl,rfl⟩,⟨rfl,rfl⟩,⟨rfl,rfl⟩,⟨rfl,rfl⟩,⟨rfl,rfl⟩,⟨rfl,rfl⟩,⟨rfl,rfl⟩,⟨rfl,rfl⟩,trivial⟩ ⟨⟨rfl,rfl⟩,gZ rfl,iF rfl,gX rfl,lu rfl,⟨rfl,rfl⟩,gZ rfl,iF rfl,gX rfl,lu rfl,⟨rfl,rfl⟩,trivial⟩⟩
 refine Vc.seq 60 hT ?_
 conv=>whnf
 refine Split.mk (fun c1=>AV c1) (fun c1=>?_)
 clear c1
 conv=>whnf
 refine aA.mk _ heR ?_
 conv=>whnf
 refine Split.mk (fun c1=>(iR (dh c1) rfl).elim) (fun c1=>?_)
 clear c1
 conv=>whnf
 refine Need.mk (by kernel_rfl) ?_
 conv=>whnf
 refine Split.mk (fun c1=>(YL c1 rfl).elim) (fun c1=>?_)
 clear c1
 conv=>whnf
 refine Vc.seq 100 hT ?_
 conv=>whnf
 refine Vc.cut (α:=Unit) 100 (fun _=>True) (fun _=>[(15,i64 (((iV R 1).2:Nat):Int)),(12, .c (.px 12 0)),(9, .c (.sc (.bool w))),(8, .c (.px 1 0)),(3, .c (.px 0 0)),(1, .c (.sc (.string c))),(2,im 9 l)]) (fun _=>[(12, .bx eG [.sc (.int .i64 (iV R 1).1.v), .hd 13, .hd 14, .hd 15, .hd 16]),(13, .row 13 9 ((iV R 1).1.t.f0)),(14, .row 14 eN ((iV R 1).1.t.f1)),(15, .row 15 eS ((iV R 1).1.t.f2)),(16, .row 16 eK ((iV R 1).1.k)),(1, .bx eG [.sc (.int .i64 R.v), .hd 2, .hd 3, .hd 4, .hd 5]),(2, .row 2 9 R.t.f0),(3, .row 3 eN R.t.f1),(4, .row 4 eS R.t.f2),(5, .row 5 eK R.k),(0,BI a)]) hT ?_ (fun _ _=>?_)
 ·conv=>whnf
  refine aA.wr [[NW.rd,NW.wr 9 (iV R 1).1.t.f0,NW.wr eN (iV R 1).1.t.f1,NW.wr eS (iV R 1).1.t.f2,NW.wr eK (iV R 1).1.k],[NW.rd]] (.c (.sc (.int .i64 (((iV R 1).2:Nat):Int)))) ?_
  conv=>whnf
  refine jS.mk hmR ?_
  conv=>whnf
  exact kJ.mk ⟨(),trivial,ay [(12,12),(13,13),(14,14),(15,15),(16,16),(1,1),(2,2),(3,3),(4,4),(5,5),(0,0)] rfl rfl rfl ⟨⟨rfl,rfl⟩,⟨rfl,rfl⟩,⟨rfl,rfl⟩,⟨rfl,rfl⟩,⟨rfl,rfl⟩,⟨rfl,rfl⟩,⟨rfl,rfl⟩,trivial⟩ ⟨⟨rfl,rfl⟩,gZ rfl,iF rfl,gX rfl,lu rfl,⟨rfl,rfl⟩,gZ rfl,iF rfl,gX rfl,lu rfl,⟨rfl,rfl⟩,trivial⟩⟩
 refine Vc.seq 60 hT ?_
 conv=>whnf
 refine Vc.seq 60 hT ?_
 conv=>whnf
 refine aA.mk (.c (.sc (.int .i64 (((iV R 1).2:Nat):Int)))) hhR ?_
 conv=>whnf
 refine Vc.seq 60 hT ?_
 conv=>whnf
 refine Split.mk (fun c1=>AV c1) (fun c1=>?_)
 clear c1
 conv=>whnf
 refine Vc.seq 60 hT ?_
 conv=>whnf
 refine Split.mk (fun c1=>(vS c1 rfl).elim) (fun c1=>?_)
 clear c1
 conv=>whnf
 refine Vc.cut (α:=Unit) 60 (fun _=>True) (fun _=>[(18, .c (.sc (.bool w))),(17, .c (.px 17 0)),(15,i64 (((iV R 1).2:Nat):Int)),(12, .c (.px 12 0)),(9, .c (.sc (.bool w))),(8, .c (.px 1 0)),(3, .c (.px 0 0)),(1, .c (.sc (.string c))),(2,im 9 l)]) (fun _=>[(17, .bx eG [.sc (.int .i64 R.v), .hd 18, .hd 19, .hd 20, .hd 21]),(18, .row 18 9 R.t.f0),(19, .row 19 eN R.t.f1),(20, .row 20 eS R.t.f2),(21, .row 21 eK R.k),(12, .bx eG [.sc (.int .i64 (iV R 1).1.v), .hd 13, .hd 14, .hd 15, .hd 16]),(13, .row 13 9 ((iV R 1).1.t.f0)),(14, .row 14 eN ((iV R 1).1.t.f1)),(15, .row 15 eS ((iV R 1).1.t.f2)),(16, .row 16 eK ((iV R 1).1.k)),(1, .bx eG [.sc (.int .i64 R.v), .hd 2, .hd 3, .hd 4, .hd 5]),(2, .row 2 9 R.t.f0),(3, .row 3 eN R.t.f1),(4, .row 4 eS R.t.f2),(5, .row 5 eK R.k),(0,BI a)]) hT ?_ (fun _ _=>?_)
 ·conv=>whnf
  refine aA.mk _ hto ?_
  conv=>whnf
  refine aA.mk _ htl ?_
  conv=>whnf
  refine aA.mk _ him ?_
  conv=>whnf
  exact kJ.mk ⟨(),trivial,ay [(17,72),(18,67),(19,68),(20,69),(21,70),(12,12),(13,13),(14,14),(15,15),(16,16),(1,1),(2,2),(3,3),(4,4),(5,5),(0,0)] rfl rfl rfl ⟨⟨rfl,rfl⟩,⟨rfl,rfl⟩,⟨rfl,rfl⟩,⟨rfl,rfl⟩,⟨rfl,rfl⟩,⟨rfl,rfl⟩,⟨rfl,rfl⟩,⟨rfl,rfl⟩,⟨rfl,rfl⟩,trivial⟩ ⟨⟨rfl,rfl⟩,gZ rfl,iF rfl,gX rfl,lu rfl,⟨rfl,rfl⟩,gZ rfl,iF rfl,gX rfl,lu rfl,⟨rfl,rfl⟩,gZ rfl,iF rfl,gX rfl,lu rfl,⟨rfl,rfl⟩,trivial⟩⟩
 refine Vc.seq 60 hT ?_
 conv=>whnf
 refine aA.mk _ heR ?_
 conv=>whnf
 refine Split.mk (fun c1=>(iR (dh c1) rfl).elim) (fun c1=>?_)
 clear c1
 conv=>whnf
 refine Need.mk (by kernel_rfl) ?_
 conv=>whnf
 refine Split.mk (fun c1=>(YL c1 rfl).elim) (fun c1=>?_)
 clear c1
 conv=>whnf
 refine Vc.seq 60 hT ?_
 conv=>whnf
 refine Vc.seq 60 hT ?_
 conv=>whnf
 refine aA.mk (.c (.sc (.int .i64 (((iV R 1).2:Nat):Int)))) hhR ?_
 conv=>whnf
 refine Vc.seq 60 hT ?_
 conv=>whnf
 refine Split.mk (fun c1=>AV c1) (fun c1=>?_)
 clear c1
 conv=>whnf
 refine Vc.seq 60 hT ?_
 conv=>whnf
 refine Split.mk (fun c1=>(vS c1 rfl).elim) (fun c1=>?_)
 clear c1
 conv=>whnf
 refine Vc.of 60 hT ?_
 conv=>whnf
 exact aG.mk ⟨rfl,rfl⟩ ⟨rfl,rfl⟩ ⟨rfl,trivial⟩
end Go.Proofs.YtcnfgfomholheaaGreatDoor.Q
end
