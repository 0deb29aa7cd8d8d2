/- Several texts of this claim in one (a claim holds at most 60 files). -/
import Derived.Test.YtcnfgfomholheaaGreatDoorZy
import Derived.Test.YtcnfgfomholheaaGreatDoorZp
section
namespace Go.Proofs.YtcnfgfomholheaaGreatDoor.Q
open Go.RowKit Go.Proofs.YtcnfgfomholheaaGreatDoor.Z Go.Proofs.YtcnfgfomholheaaGreatDoor.Pure
set_option linter.unusedVariables false
set_option linter.unusedSimpArgs false
set_option maxRecDepth 100000
set_option maxHeartbeats 4000000
def mD (t:ByteArray) (l:List SS):List SS:=l.filter fun s=>!(s.f0.toList==t.toList)
theorem vP (t:ByteArray) (l:List SS):(mD t l).length≤l.length:=List.length_filter_le _ _
theorem TT (l:List SS) (client:ByteArray) (hl:l.length≤8388608):aA T Tryz.prog 171 [.c (.sl eS l), .c (.sc (.string client))] (.c (.ow eS (mD client l))):=by
 refine aT hT Tryz.func171 (by kernel_rfl) rfl rfl (fun A=>?_)
 conv=>whnf
 refine aC.mk _ (MP l hl) ?_
 conv=>whnf
 refine aC.wr [[.gv eS],[.rd]] (.c (.ow eS (mD client l))) ?_
 conv=>whnf
 refine lN.mk (TU l client) ?_
 conv=>whnf
 exact aG.mk ⟨rfl,rfl⟩ ⟨rfl,rfl⟩ ⟨rfl,trivial⟩
theorem TV {α:Type} {p:α→Bool} {d:α}:∀{l:List α} {i:Nat},i≤l.length→(∀j,j<i→p (l.getD j d)=true)→(i=l.length∨p (l.getD i d)=false)→l.take i=l.takeWhile p∧l.drop i=l.dropWhile p
 | [],i,hi,_,_=>by simp
 | a::l,0,_,_,h=>by
   rcases h with h | h
   ·simp at h
   ·have h:p a=false:=h
    simp [List.takeWhile_cons,List.dropWhile_cons,h]
 | a::l,i+1,hi,h1,h2=>by
   have ha:p a=true:=h1 0 (Nat.succ_pos i)
   have ih:=TV (p:=p) (d:=d) (l:=l) (i:=i) (by simpa using hi) (fun j hj=>h1 (j+1) (by omega)) (by simpa using h2)
   simp [List.takeWhile_cons,List.dropWhile_cons,ha,ih.1,ih.2]
theorem iR {l l':List SS} (h:l=l'):dw (T:=T) eS l eS l':=jr h
theorem jh {l l':List SN} (h:l=l'):dw (T:=T) eN l eN l':=jr h
theorem pU {l l':List SE} (h:l=l'):dw (T:=T) eE l eE l':=jr h
theorem jo {l l':List ByteArray} (h:l=l'):dw (T:=T) 9 l 9 l':=jr h
end Go.Proofs.YtcnfgfomholheaaGreatDoor.Q
end
section
namespace Go.Proofs.YtcnfgfomholheaaGreatDoor.Q
open Go.RowKit Go.Proofs.YtcnfgfomholheaaGreatDoor.Z Go.Proofs.YtcnfgfomholheaaGreatDoor.Pure
set_option linter.unusedVariables false
set_option linter.unusedSimpArgs false
set_option maxRecDepth 100000
set_option maxHeartbeats 4000000
theorem isNaN1 (a:ByteArray):aA T Tryz.prog 206 [.c (.sc (.string a))] (.c (.sc (.bool false))):=by
 refine aT hT Tryz.func206 (by kernel_rfl) rfl rfl (fun A=>?_)
 conv=>whnf
 exact aG.mk ⟨rfl,rfl⟩ ⟨rfl,rfl⟩ ⟨bv (by simp),trivial⟩
theorem isNaN2 (a:ByteArray):aA T Tryz.prog 222 [.c (.sc (.string a))] (.c (.sc (.bool false))):=by
 refine aT hT Tryz.func222 (by kernel_rfl) rfl rfl (fun A=>?_)
 conv=>whnf
 exact aG.mk ⟨rfl,rfl⟩ ⟨rfl,rfl⟩ ⟨bv (by simp),trivial⟩
theorem ZE (a b:ByteArray):aA T Tryz.prog 205 [.c (.sc (.string a)), .c (.sc (.string b))] (.c (.sc (.bool (Op.bytesLess a.toList b.toList)))):=by
 refine aT hT Tryz.func205 (by kernel_rfl) rfl rfl (fun A=>?_)
 conv=>whnf
 refine aC.mk _ (isNaN2 a) ?_
 conv=>whnf
 refine Split.mk (fun e=>jI e) (fun _=>?_)
 conv=>whnf
 refine Split.mk (fun e=>jI e) (fun _=>?_)
 conv=>whnf
 exact aG.mk ⟨rfl,rfl⟩ ⟨rfl,rfl⟩ ⟨rfl,trivial⟩
def vS (t s:ByteArray):Bool:=Op.bytesLess s.toList t.toList
def g9 (l:List ByteArray) (k:Nat):ByteArray:=l.getD k (T.df 9)
structure Bs (l:List ByteArray) (t:ByteArray) (i j:Nat):Prop where
 le:i≤j
 hi:j≤l.length
 lo:∀k,k<i→vS t (g9 l k)=true
 up:∀k,j≤k→k<l.length→vS t (g9 l k)=false
theorem adz {i j:Nat} (h:i+j≤140737488351232):IntKind.i64.wrap ((IntKind.u64.wrap (wrap64 ((i:Int)+(j:Int)))).fdiv (2 ^ min (Int.toNat 1) IntKind.u64.bits))=(((i+j) / 2:Nat):Int):=by
 have h1:wrap64 ((i:Int)+(j:Int))=((i+j:Nat):Int):=by simp only [wrap64];omega
 have h2:IntKind.u64.wrap (((i+j:Nat):Int))=((i+j:Nat):Int):=by
  simp only [IntKind.wrap,IntKind.bits,IntKind.signed]
  simp
  omega
 have h3:((2:Int) ^ min (Int.toNat 1) IntKind.u64.bits)=2:=by decide
 rw [h1,h2,h3]
 have h4:(((i+j:Nat):Int)).fdiv 2=(((i+j) / 2:Nat):Int):=by
  rw [Int.fdiv_eq_ediv_of_nonneg _ (by decide)]
  omega
 rw [h4]
 simp only [IntKind.wrap_i64]
 omega
def dI (t:ByteArray) (l:List ByteArray):Nat:=(l.takeWhile (vS t)).length
def kF (t:ByteArray) (l:List ByteArray):Bool:=decide (dI t l<l.length) && ((g9 l (dI t l)).toList==t.toList)
theorem Bs.pos {l:List ByteArray} {t:ByteArray} {i:Nat} (h:Bs l t i i):dI t l=i:=by
 have h1:=h.hi
 have:=(TV (p:=vS t) (d:=T.df 9) (l:=l) (i:=i) h1 h.lo (by
  rcases Nat.lt_or_ge i l.length with h2 | h2
  ·exact .inr (h.up i (Nat.le_refl _) h2)
  ·exact .inl (by omega))).1
 unfold dI
 rw [←this,List.length_take]
 omega
theorem bsearch (l:List ByteArray) (t:ByteArray) (hl:l.length≤8388608) (hm:∀a b,a≤b→b<l.length→vS t (g9 l b)=true→vS t (g9 l a)=true):aA T Tryz.prog 172 [.c (.sl 9 l), .c (.sc (.string t))] (.tu [(false,[.sc (.int .i64 (dI t l:Int))]),(false,[.sc (.bool (kF t l))])]):=by
 refine aT hT Tryz.func172 (by kernel_rfl) rfl rfl (fun A=>?_)
 conv=>whnf
 refine fK.mk {p:Nat × Nat // Bs l t p.1 p.2} (fun p=>(0,[(7,i64 p.1.1),(8,i64 p.1.2),(6,i64 l.length),(0,im 9 l),(1, .c (.sc (.string t)))],[])) (fun p=>p.1.2 - p.1.1) ⟨(0,l.length),Nat.zero_le _,Nat.le_refl _,fun k hk=>absurd hk (Nat.not_lt_zero k),fun k h1 h2=>absurd h1 (Nat.not_le_of_lt h2)⟩ (ay [] rfl rfl rfl ⟨⟨rfl,rfl⟩,⟨rfl,rfl⟩,⟨rfl,rfl⟩,⟨rfl,rfl⟩,⟨rfl,rfl⟩,trivial⟩ trivial) ?_
 rintro⟨⟨i,j⟩,hb⟩
 conv=>whnf
 refine Split.mk (fun c=>?_) (fun c=>?_)
 ·have hk2:i<j:=jl c
  clear c
  have hi:=hb.hi
  have hM:=adz (i:=i) (j:=j) (by simp only at hi;omega)
  have hMt:(IntKind.i64.wrap ((IntKind.u64.wrap (wrap64 ((i:Int)+(j:Int)))).fdiv (2 ^ min (Int.toNat 1) IntKind.u64.bits))).toNat=(i+j) / 2:=by rw [hM];rfl
  have hlt:(i+j) / 2<l.length:=by simp only at hi;omega
  conv=>whnf
  refine Need.mk (by rw [hM];exact idx hlt) ?_
  conv=>whnf
  refine aC.mk _ (ZE _ _) ?_
  conv=>whnf
  refine Split.mk (fun c=>?_) (fun c=>?_)
  ·have c1:vS t (g9 l ((i+j) / 2))=true:=(congrArg (fun k=>vS t (g9 l k)) hMt.symm).trans c
   conv=>whnf
   exact bI.mk ⟨⟨((i+j) / 2+1,j),by show(i+j) / 2+1≤j;omega,hi,fun k hk=>hm k ((i+j) / 2) (by omega) hlt c1,hb.up⟩,by show j - ((i+j) / 2+1)<j - i;omega,ay [] rfl rfl rfl ⟨⟨rfl,congrArg i64 (show(((i+j) / 2+1:Nat):Int)=wrap64 (IntKind.i64.wrap ((IntKind.u64.wrap (wrap64 ((i:Int)+(j:Int)))).fdiv (2 ^ min (Int.toNat 1) IntKind.u64.bits))+1) by rw [hM];exact eG hlt (by omega))⟩,⟨rfl,rfl⟩,⟨rfl,rfl⟩,⟨rfl,rfl⟩,⟨rfl,rfl⟩,trivial⟩ trivial⟩
  ·have c1:vS t (g9 l ((i+j) / 2))=false:=(congrArg (fun k=>vS t (g9 l k)) hMt.symm).trans c
   conv=>whnf
   exact bI.mk ⟨⟨(i,(i+j) / 2),by show i≤(i+j) / 2;omega,Nat.le_of_lt hlt,hb.lo,fun k h1 h2=>by
    cases hq:vS t (g9 l k) with
    | false=>rfl
    | true=>rw [hm ((i+j) / 2) k h1 h2 hq] at c1;cases c1⟩,by show(i+j) / 2 - i<j - i;omega,ay [] rfl rfl rfl ⟨⟨rfl,rfl⟩,⟨rfl,congrArg i64 hM.symm⟩,⟨rfl,rfl⟩,⟨rfl,rfl⟩,⟨rfl,rfl⟩,trivial⟩ trivial⟩
 ·have hk2:i=j:=Nat.le_antisymm hb.le (jm c)
  clear c
  subst hk2
  have hp:=hb.pos
  conv=>whnf
  refine Split.mk (fun c=>?_) (fun c=>?_)
  ·have hlt:i<l.length:=jl c
   clear c
   conv=>whnf
   refine Need.mk (idx hlt) ?_
   conv=>whnf
   refine Split.mk (fun c=>?_) (fun c=>?_)
   ·conv=>whnf
    exact aG.mk ⟨rfl,rfl⟩ ⟨rfl,rfl⟩ ⟨iv (by rw [hp]),bv (by unfold kF;rw [hp,show((g9 l i).toList==t.toList)=true from c];simp [hlt]),trivial⟩
   ·conv=>whnf
    refine Need.mk (idx hlt) ?_
    conv=>whnf
    refine aC.mk _ (isNaN1 _) ?_
    conv=>whnf
    refine Split.mk (fun e=>jI e) (fun _=>?_)
    conv=>whnf
    exact aG.mk ⟨rfl,rfl⟩ ⟨rfl,rfl⟩ ⟨iv (by rw [hp]),bv (by unfold kF;rw [hp,show((g9 l i).toList==t.toList)=false from c];simp),trivial⟩
  ·have hge:l.length≤i:=jm c
   clear c
   conv=>whnf
   exact aG.mk ⟨rfl,rfl⟩ ⟨rfl,rfl⟩ ⟨iv (by rw [hp]),bv (by unfold kF;rw [hp];simp;omega),trivial⟩
end Go.Proofs.YtcnfgfomholheaaGreatDoor.Q
end
section
namespace Go.Proofs.YtcnfgfomholheaaGreatDoor.Q
open Go.RowKit Go.Proofs.YtcnfgfomholheaaGreatDoor.Z Go.Proofs.YtcnfgfomholheaaGreatDoor.Pure
set_option linter.unusedVariables false
set_option linter.unusedSimpArgs false
set_option maxRecDepth 100000
set_option maxHeartbeats 4000000
theorem Hz:∀(a b:List UInt8),Op.bytesLess a b=true→Op.bytesLess b a=false
 | [],[],h=>by simp [Op.bytesLess] at h
 | [],b::y,_=>rfl
 | a::x,[],h=>by simp [Op.bytesLess] at h
 | a::x,b::y,h=>by
   simp only [Op.bytesLess,Bool.or_eq_true,Bool.and_eq_true,decide_eq_true_eq,beq_iff_eq] at h
   simp only [Op.bytesLess,Bool.or_eq_false_iff,Bool.and_eq_false_iff,decide_eq_false_iff_not,beq_eq_false_iff_ne,ne_eq]
   rcases h with h | ⟨h1,h2⟩
   ·exact⟨fun h'=>absurd (UInt8.lt_trans h h') (UInt8.lt_irrefl _), .inl (fun e=>by subst e;exact UInt8.lt_irrefl _ h)⟩
   ·subst h1
    exact⟨UInt8.lt_irrefl _, .inr (Hz x y h2)⟩
theorem D7 (a:List UInt8):Op.bytesLess a a=false:=by
 cases h:Op.bytesLess a a with
 | false=>rfl
 | true=>exact absurd (Hz a a h) (by rw [h];decide)
theorem yS:∀(a b c:List UInt8),Op.bytesLess a b=true→Op.bytesLess b c=true→Op.bytesLess a c=true
 | [],[],_,h,_=>by simp [Op.bytesLess] at h
 | a::x,[],_,h,_=>by simp [Op.bytesLess] at h
 | _,b::y,[],_,h=>by simp [Op.bytesLess] at h
 | [],b::y,c::z,_,_=>rfl
 | a::x,b::y,c::z,h,h2=>by
   simp only [Op.bytesLess,Bool.or_eq_true,Bool.and_eq_true,decide_eq_true_eq,beq_iff_eq] at h h2⊢
   rcases h with h | ⟨rfl,h⟩
   ·rcases h2 with h2 | ⟨rfl,h2⟩
    ·exact .inl (UInt8.lt_trans h h2)
    ·exact .inl h
   ·rcases h2 with h2 | ⟨rfl,h2⟩
    ·exact .inl h2
    ·exact .inr ⟨rfl,yS x y z h h2⟩
inductive Tr:SN→Prop
 | mk (n:SN) (hl:n.f0.length=n.f1.length) (hr:n.f0.Pairwise (fun a b=>Op.bytesLess a.toList b.toList=true)) (hk:∀k∈n.f1,Tr k):Tr n
theorem Tr.len {n:SN} (h:Tr n):n.f0.length=n.f1.length:=by cases h;assumption
theorem Tr.kid {n:SN} (h:Tr n):∀k∈n.f1,Tr k:=by cases h;assumption
theorem Tr.rise {n:SN} (h:Tr n):n.f0.Pairwise (fun a b=>Op.bytesLess a.toList b.toList=true):=by cases h;assumption
theorem Tr.up {n:SN} (h:Tr n) (t:ByteArray):∀a b,a≤b→b<n.f0.length→vS t (g9 n.f0 b)=true→vS t (g9 n.f0 a)=true:=by
 cases h with
 | mk _ _ hr _=>
   intro a b hab hb h
   rcases Nat.lt_or_eq_of_le hab with h1 | rfl
   ·have h2:=List.pairwise_iff_getElem.1 hr a b (by omega) hb h1
    rw [show g9 n.f0 b=n.f0[b] from getD_in _ _ _ hb] at h
    have e:=yS _ _ _ h2 h
    rw [←getD_in n.f0 a (T.df 9) (by omega)] at e
    exact e
   ·exact h
theorem uN {t:ByteArray} {l:List ByteArray} (h:kF t l=true):dI t l<l.length:=by
 unfold kF at h
 simp at h
 exact h.1
def dA:List ByteArray→ByteArray→SN→SN
 | [],c,n=>⟨n.f0,n.f1,mD c n.f2⟩
 | t::ts,c,n=>
   bif kF t n.f0 then
    bif (dA ts c (bn T eN n.f1 (dI t n.f0))).f1.length==0 && (dA ts c (bn T eN n.f1 (dI t n.f0))).f2.length==0 then
     ⟨n.f0.take (dI t n.f0)++n.f0.drop (dI t n.f0+1),n.f1.take (dI t n.f0)++n.f1.drop (dI t n.f0+1),n.f2⟩
    else ⟨n.f0,n.f1.set (dI t n.f0) (dA ts c (bn T eN n.f1 (dI t n.f0))),n.f2⟩
   else ⟨n.f0,n.f1,n.f2⟩
abbrev BK (n:SN):RS T.Tb:= .ag [.ow 9 n.f0, .ow eN n.f1, .ow eS n.f2]
theorem PG (n:SN) (c:ByteArray) (hn:Bd n):aA T Tryz.prog 100 [.ag (T.cells eN n), .c (.sl 9 []), .c (.sc (.string c))] (BK (dA [] c n)):=by
 refine aT hT Tryz.func100 (by kernel_rfl) rfl rfl (fun A=>?_)
 conv=>whnf
 refine aC.mk _ (xQ n hn) ?_
 conv=>whnf
 refine Split.mk (fun _=>?_) (fun e=>jC e)
 conv=>whnf
 refine aC.mk _ (TT n.f2 c (Nat.le_trans hn.l2 (by decide))) ?_
 conv=>whnf
 exact aG.mk ⟨rfl,rfl⟩ ⟨rfl,rfl⟩ ⟨rfl,rfl,rfl,trivial⟩
theorem tl_ {α:Type} (t:α) (ts:List α):((t::ts).drop 1).take ((t::ts).length - 1)=ts:=by simp
theorem abh {n:Nat} (h:((n:Int)==0)=true):n=0:=by simp at h;exact h
theorem abj {n:Nat} (h:((n:Int)==0)=false):¬n=0:=by simp at h;exact h
theorem OA (n:SN) (t:ByteArray) (ts:List ByteArray) (c:ByteArray) (hn:Bd n) (htr:Tr n) (hts:(t::ts).length≤2097152) (ih:kF t n.f0=true→aA T Tryz.prog 100 [.ag (T.cells eN (bn T eN n.f1 (dI t n.f0))), .c (.sl 9 (((t::ts).drop 1).take ((t::ts).length - 1))), .c (.sc (.string c))] (BK (dA ts c (bn T eN n.f1 (dI t n.f0))))):aA T Tryz.prog 100 [.ag (T.cells eN n), .c (.sl 9 (t::ts)), .c (.sc (.string c))] (BK (dA (t::ts) c n)):=by
 have hl0:=hn.l0
 have hl1:=hn.l1
 generalize hK:dA ts c (bn T eN n.f1 (dI t n.f0))=K at ih
 refine aT hT Tryz.func100 (by kernel_rfl) rfl rfl (fun A=>?_)
 conv=>whnf
 refine aC.mk _ (xQ n hn) ?_
 conv=>whnf
 refine Split.mk (fun e=>?_) (fun _=>?_)
 ·simp at e
 conv=>whnf
 refine Need.mk (idx (Nat.succ_pos _)) ?_
 conv=>whnf
 refine aC.mk _ (bsearch n.f0 t (Nat.le_trans hn.l0 (by decide)) (htr.up t)) ?_
 conv=>whnf
 refine bY.mk ⟨by kernel_rfl,by kernel_rfl⟩ ?_
 conv=>whnf
 refine Split.mk (fun e=>?_) (fun e=>?_)
 ·have hf:kF t n.f0=false:=dP e
  conv=>whnf
  exact aG.mk ⟨rfl,rfl⟩ ⟨rfl,rfl⟩ ⟨jo (by simp [dA,hf]),jh (by simp [dA,hf]),iR (by simp [dA,hf]),trivial⟩
 ·have hf:kF t n.f0=true:=dX e
  have ih:=ih hf
  have hp:=uN hf
  have hp1:dI t n.f0<n.f1.length:=by rw [←htr.len];exact hp
  conv=>whnf
  refine Need.mk (idx hp1) ?_
  conv=>whnf
  refine Need.mk ⟨by decide,Int.ofNat_le.2 (show 1≤ts.length+1 from Nat.succ_le_succ (Nat.zero_le _)),Int.le_refl _⟩ ?_
  conv=>whnf
  refine aC.mk _ ih ?_
  conv=>whnf
  refine bY.mk ⟨by kernel_rfl,by kernel_rfl⟩ ?_
  conv=>whnf
  refine Split.mk (fun c1=>?_) (fun c1=>?_)
  ·have e1:K.f1.length=0:=abh c1
   conv=>whnf
   refine Split.mk (fun c2=>?_) (fun c2=>?_)
   ·have e2:K.f2.length=0:=abh c2
    have hw:wrap64 ((dI t n.f0:Int)+1)=((dI t n.f0+1:Nat):Int):=(eG hp (by omega)).symm
    have q0:=adA n.f0 (dI t n.f0) (dI t n.f0+1) (Nat.lt_succ_self _) hp
    have q1:=adB n.f1 (dI t n.f0) (dI t n.f0+1) (Nat.lt_succ_self _) hp1
    rw [←hw] at q0 q1
    conv=>whnf
    refine aC.wr [[.gv 9],[.rd],[.rd]] (.c (.ow 9 (n.f0.take (dI t n.f0)++n.f0.drop (dI t n.f0+1)))) ?_
    conv=>whnf
    refine lN.mk q0 ?_
    conv=>whnf
    refine aC.wr [[.gv eN],[.rd],[.rd]] (.c (.ow eN (n.f1.take (dI t n.f0)++n.f1.drop (dI t n.f0+1)))) ?_
    conv=>whnf
    refine lN.mk q1 ?_
    conv=>whnf
    exact aG.mk ⟨rfl,rfl⟩ ⟨rfl,rfl⟩ ⟨jo (by simp [dA,hf,hK,e1,e2]),jh (by simp [dA,hf,hK,e1,e2]),iR (by simp [dA,hf,hK,e1,e2]),trivial⟩
   ·have e2:¬K.f2.length=0:=abj c2
    conv=>whnf
    have b2:(K.f2.length==0)=false:=beq_eq_false_iff_ne.2 e2
    refine Need.mk (idx hp1) ?_
    conv=>whnf
    exact aG.mk ⟨rfl,rfl⟩ ⟨rfl,rfl⟩ ⟨jo (by simp [dA,hf,hK,e1,b2]),jh (by rw [zI];simp [dA,hf,hK,e1,b2];rfl),iR (by simp [dA,hf,hK,e1,b2]),trivial⟩
  ·have e1:¬K.f1.length=0:=abj c1
   conv=>whnf
   have b1:(K.f1.length==0)=false:=beq_eq_false_iff_ne.2 e1
   refine Split.mk (fun e=>jI e) (fun _=>?_)
   conv=>whnf
   refine Need.mk (idx hp1) ?_
   conv=>whnf
   exact aG.mk ⟨rfl,rfl⟩ ⟨rfl,rfl⟩ ⟨jo (by simp [dA,hf,hK,b1]),jh (by rw [zI];simp [dA,hf,hK,b1];rfl),iR (by simp [dA,hf,hK,b1]),trivial⟩
theorem removed:∀(ls:List ByteArray) (c:ByteArray) (n:SN),ls.length≤2097152→Bd n→Tr n→aA T Tryz.prog 100 [.ag (T.cells eN n), .c (.sl 9 ls), .c (.sc (.string c))] (BK (dA ls c n))
 | [],c,n,_,hn,_=>PG n c hn
 | t::ts,c,n,hl,hn,ht=>by
   refine OA n t ts c hn ht hl (fun hf=>?_)
   have hp1:dI t n.f0<n.f1.length:=by rw [←ht.len];exact uN hf
   have hm:bn T eN n.f1 (dI t n.f0)∈n.f1:=getD_mem (l:=n.f1) (d:=T.df eN) hp1
   exact Eq.mpr (congrArg (fun L:List ByteArray=>aA T Tryz.prog 100 [.ag (T.cells eN (bn T eN n.f1 (dI t n.f0))), .c (.sl 9 L), .c (.sc (.string c))] (BK (dA ts c (bn T eN n.f1 (dI t n.f0))))) (tl_ t ts)) (removed ts c (bn T eN n.f1 (dI t n.f0)) (by simp at hl;omega) (hn.kid _ hm) (ht.kid _ hm))
end Go.Proofs.YtcnfgfomholheaaGreatDoor.Q
end
section
namespace Go.Proofs.YtcnfgfomholheaaGreatDoor.Q
open Go.RowKit Go.Proofs.YtcnfgfomholheaaGreatDoor.Z Go.Proofs.YtcnfgfomholheaaGreatDoor.Pure
set_option linter.unusedVariables false
set_option linter.unusedSimpArgs false
set_option maxRecDepth 100000
set_option maxHeartbeats 4000000
def nN (p:List ByteArray) (s:SS):SE:=⟨cZ p,s.f0,s.f1,s.f2⟩
theorem EZ (p:List ByteArray) (n:SN):iy p n=n.f2.map (nN p)++dY p n.f0 n.f1:=Y8 p n
theorem rZ {p:List ByteArray} {d:ByteArray} {e:SN}:∀{ns:List ByteArray} {ks:List SN} {k:Nat},k<ns.length→k<ks.length→dY p (ns.take (k+1)) (ks.take (k+1))=dY p (ns.take k) (ks.take k)++iy (p++[ns.getD k d]) (ks.getD k e)
 | [],_,_,h,_=>by simp at h
 | _::_,[],_,_,h=>by simp at h
 | x::r,y::q,0,_,_=>by
   simp only [List.take_succ_cons,List.take_zero,dY,List.append_nil,List.nil_append]
   rfl
 | x::r,y::q,k+1,h,h2=>by
   have:=rZ (p:=p) (d:=d) (e:=e) (ns:=r) (ks:=q) (k:=k) (by simpa using h) (by simpa using h2)
   simp only [List.take_succ_cons] at this⊢
   rw [dY,dY,this,List.append_assoc]
   rfl
theorem oh {p:List ByteArray}:∀{ns:List ByteArray} {ks:List SN} {k:Nat},(dY p (ns.take k) (ks.take k)).length≤(dY p ns ks).length
 | [],ks,k=>by rw [List.take_nil,dY];exact Nat.zero_le _
 | _::_,[],0=>by rw [List.take_zero,dY];exact Nat.zero_le _
 | _::_,[],k+1=>by rw [List.take_nil,List.take_succ_cons,dY];exact Nat.zero_le _
 | x::r,y::q,0=>by rw [List.take_zero,dY];exact Nat.zero_le _
 | x::r,y::q,k+1=>by
   have:=oh (p:=p) (ns:=r) (ks:=q) (k:=k)
   simp only [List.take_succ_cons,dY,List.length_append]
   omega
theorem zo {l:List SS} {p:List ByteArray} {k:Nat} {d:SS} (h:k<l.length):(l.take k).map (nN p)++[nN p (l.getD k d)]=(l.take (k+1)).map (nN p):=by
 rw [List.take_succ_eq_append_getElem h,List.map_append,getD_in (α:=SS) l k d h];rfl
theorem OB (n:SN) (p:List ByteArray) (hn:Bd n) (hl:n.f0.length=n.f1.length) (hp:p.length≤7) (hz:∀x∈p,x.size≤1048576) (hc:(iy p n).length≤4194304)
  (ih:∀i,i<n.f1.length→aA T Tryz.prog 136 [.ag (T.cells eN (bn T eN n.f1 i)), .c (.sl 9 (p++[g9 n.f0 i]))] (.c (.ow eE (iy (p++[g9 n.f0 i]) (bn T eN n.f1 i))))):aA T Tryz.prog 136 [.ag (T.cells eN n), .c (.sl 9 p)] (.c (.ow eE (iy p n))):=by
 have hl2:=hn.l2
 rw [EZ] at hc⊢
 rw [List.length_append,List.length_map] at hc
 refine aT hT Tryz.func136 (by kernel_rfl) rfl rfl (fun A=>?_)
 conv=>whnf
 refine fK.mk {k:Nat // k≤n.f2.length} (fun q=>(2,[(14,i64 q.1),(13,i64 n.f2.length),(12,im eS n.f2),(5, .c (.hd 1)),(2, .c (.px 0 0)),(1,im 9 p)],[(1, .row 1 eE ((n.f2.take q.1).map (nN p))),(0,rD n)])) (fun q=>n.f2.length - q.1) ⟨0,Nat.zero_le _⟩ (ay [(1,1),(0,0)] rfl rfl rfl ⟨⟨rfl,rfl⟩,⟨rfl,rfl⟩,⟨rfl,rfl⟩,⟨rfl,rfl⟩,⟨rfl,rfl⟩,⟨rfl,rfl⟩,trivial⟩ ⟨pU rfl,⟨rfl,rfl⟩,trivial⟩) ?_
 rintro⟨k,hk⟩
 conv=>whnf
 refine Split.mk (fun c=>?_) (fun c=>?_)
 ·have hk2:k<n.f2.length:=jl c
  clear c
  conv=>whnf
  refine Need.mk (idx hk2) ?_
  conv=>whnf
  refine aC.mk _ (MN p (Nat.le_trans hp (by decide)) (qE p hp hz)) ?_
  conv=>whnf
  refine Need.mk (bW (a:=((n.f2.take k).map (nN p)).length) (b:=1) (by rw [List.length_map,List.length_take];omega) (by decide)) ?_
  conv=>whnf
  refine bY.mk ⟨by kernel_rfl,by kernel_rfl⟩ ?_
  conv=>whnf
  exact bI.mk ⟨⟨k+1,hk2⟩,Nat.sub_lt_sub_left hk2 (Nat.lt_succ_self k),ay [(1,5),(0,0)] rfl rfl rfl ⟨⟨rfl,congrArg i64 (eG hk2 (by omega))⟩,⟨rfl,rfl⟩,⟨rfl,rfl⟩,⟨rfl,rfl⟩,⟨rfl,rfl⟩,⟨rfl,rfl⟩,trivial⟩ ⟨pU (zo (d:=T.df eS) hk2),⟨rfl,rfl⟩,trivial⟩⟩
 ·have hk2:k=n.f2.length:=Nat.le_antisymm hk (jm c)
  clear c
  subst hk2
  have hl1:=hn.l1
  conv=>whnf
  refine fK.mk {k:Nat // k≤n.f1.length} (fun q=>(2,[(34,i64 q.1),(33,i64 n.f1.length),(32,im eN n.f1),(5, .c (.hd 1)),(2, .c (.px 0 0)),(1,im 9 p)],[(1, .row 1 eE (n.f2.map (nN p)++dY p (n.f0.take q.1) (n.f1.take q.1))),(0,rD n)])) (fun q=>n.f1.length - q.1) ⟨0,Nat.zero_le _⟩ (ay [(1,1),(0,0)] rfl rfl rfl ⟨⟨rfl,rfl⟩,⟨rfl,rfl⟩,⟨rfl,rfl⟩,⟨rfl,rfl⟩,⟨rfl,rfl⟩,⟨rfl,rfl⟩,trivial⟩ ⟨pU (by rw [List.take_length];simp [dY];rfl),⟨rfl,rfl⟩,trivial⟩) ?_
  rintro⟨k,hk⟩
  conv=>whnf
  refine Split.mk (fun c=>?_) (fun c=>?_)
  ·have hk2:k<n.f1.length:=jl c
   have hk3:k<n.f0.length:=by omega
   clear c
   conv=>whnf
   refine Need.mk (idx hk2) ?_
   conv=>whnf
   refine Need.mk ⟨xP,bW (a:=0) (b:=p.length) (by omega) (by decide)⟩ ?_
   conv=>whnf
   refine Need.mk (idx hk3) ?_
   conv=>whnf
   refine Need.mk (bW (a:=p.length) (b:=1) (by omega) (by decide)) ?_
   conv=>whnf
   refine aC.mk _ (ih k hk2) ?_
   conv=>whnf
   have hsn:=rZ (p:=p) (d:=T.df 9) (e:=T.df eN) hk3 hk2
   have hle:=oh (p:=p) (ns:=n.f0) (ks:=n.f1) (k:=k+1)
   rw [hsn,List.length_append] at hle
   refine Need.mk (bW (a:=(n.f2.map (nN p)++dY p (n.f0.take k) (n.f1.take k)).length) (b:=(iy (p++[g9 n.f0 k]) (bn T eN n.f1 k)).length) (by rw [List.length_append,List.length_map];have hle':_+(iy (p++[g9 n.f0 k]) (bn T eN n.f1 k)).length≤_:=hle;omega) (by decide)) ?_
   conv=>whnf
   refine bY.mk ⟨by kernel_rfl,by kernel_rfl⟩ ?_
   conv=>whnf
   exact bI.mk ⟨⟨k+1,hk2⟩,Nat.sub_lt_sub_left hk2 (Nat.lt_succ_self k),ay [(1,8),(0,0)] rfl rfl rfl ⟨⟨rfl,congrArg i64 (eG hk2 (by omega))⟩,⟨rfl,rfl⟩,⟨rfl,rfl⟩,⟨rfl,rfl⟩,⟨rfl,rfl⟩,⟨rfl,rfl⟩,trivial⟩ ⟨pU (show(n.f2.map (nN p)++dY p (n.f0.take k) (n.f1.take k))++iy (p++[g9 n.f0 k]) (bn T eN n.f1 k)=n.f2.map (nN p)++dY p (n.f0.take (k+1)) (n.f1.take (k+1)) by rw [hsn,List.append_assoc];rfl),⟨rfl,rfl⟩,trivial⟩⟩
  ·have hk2:k=n.f1.length:=Nat.le_antisymm hk (jm c)
   clear c
   conv=>whnf
   exact aG.mk ⟨rfl,rfl⟩ ⟨rfl,rfl⟩ ⟨pU (by show n.f2.map (nN p)++dY p (n.f0.take k) (n.f1.take k)=_;rw [hk2,List.take_length,←hl,List.take_length]),trivial⟩
theorem J8 {p:List ByteArray} {n:SN} {i:Nat} (h:i<n.f1.length) (hl:n.f0.length=n.f1.length):(iy (p++[g9 n.f0 i]) (bn T eN n.f1 i)).length≤(iy p n).length:=by
 have h3:i<n.f0.length:=by omega
 have hsn:=rZ (p:=p) (d:=T.df 9) (e:=T.df eN) h3 h
 have hle:=oh (p:=p) (ns:=n.f0) (ks:=n.f1) (k:=i+1)
 rw [hsn,List.length_append] at hle
 rw [EZ,List.length_append]
 have hle':_+(iy (p++[g9 n.f0 i]) (bn T eN n.f1 i)).length≤_:=hle
 omega
theorem OD {l:List ByteArray} {i:Nat} (h:i<l.length):g9 l i∈l:=getD_mem (l:=l) (d:=T.df 9) h
theorem uO {l:List SN} {i:Nat} (h:i<l.length):bn T eN l i∈l:=getD_mem (l:=l) (d:=T.df eN) h
inductive Dp:Nat→SN→Prop
 | mk (d:Nat) (n:SN) (h:n.f1≠[]→0<d) (hk:∀k∈n.f1,Dp (d - 1) k):Dp d n
theorem Dp.pos {d:Nat} {n:SN} (h:Dp d n) (hne:n.f1≠[]):0<d:=by cases h with | mk _ _ h _=>exact h hne
theorem Dp.kid {d:Nat} {n:SN} (h:Dp d n):∀k∈n.f1,Dp (d - 1) k:=by cases h with | mk _ _ _ h=>exact h
theorem entriesOf:∀(n:SN) (p:List ByteArray) (d:Nat),Bd n→Tr n→Dp d n→p.length+d≤7→(∀x∈p,x.size≤1048576)→(iy p n).length≤4194304→aA T Tryz.prog 136 [.ag (T.cells eN n), .c (.sl 9 p)] (.c (.ow eE (iy p n))):=fun n p d hn ht hd hp hz hc=>
 OB n p hn ht.len (by omega) hz hc (fun i hi=>by
  have hm:bn T eN n.f1 i∈n.f1:=uO hi
  have h9:g9 n.f0 i∈n.f0:=OD (by rw [ht.len];exact hi)
  have hpos:=hd.pos (fun e=>by rw [e] at hi;simp at hi)
  have hx:(bn T eN n.f1 i:SN)∈n.f1:=hm
  exact entriesOf (bn T eN n.f1 i) (p++[g9 n.f0 i]) (d - 1) (hn.kid _ hm) (ht.kid _ hm) (hd.kid _ hm) (by rw [List.length_append];show p.length+1+(d - 1)≤7;omega) (fun y hy=>(List.mem_append.1 hy).elim (hz y) (fun h=>by rw [List.mem_singleton.1 h];exact hn.z0 _ h9)) (Nat.le_trans (J8 hi ht.len) hc))
termination_by n=>SizeOf.sizeOf n
decreasing_by exact lM hm
theorem PI (n:SN) (hn:Bd n) (hg:gB n=true→Tr n∧Dp 7 n) (hc:(dR n).length≤4194304):aA T Tryz.prog 71 [.ag (T.cells eN n)] (.c (.ow eE (dR n))):=by
 refine aT hT Tryz.func71 (by kernel_rfl) rfl rfl (fun A=>?_)
 conv=>whnf
 refine aC.mk _ (RG n hn) ?_
 conv=>whnf
 refine Split.mk (fun c=>?_) (fun c=>?_)
 ·have h0:gB n=false:=dP c
  conv=>whnf
  exact aG.mk ⟨rfl,rfl⟩ ⟨rfl,rfl⟩ ⟨⟨rfl,show dR n=[] by unfold dR;rw [h0];rfl⟩,trivial⟩
 ·have h0:gB n=true:=dX c
  have he:dR n=iy [] n:=by unfold dR;rw [if_pos h0]
  rw [he] at hc⊢
  conv=>whnf
  refine aC.mk _ (JD (entriesOf n [] 7 hn (hg h0).1 (hg h0).2 (by decide) (fun x hx=>by cases hx) hc)) ?_
  conv=>whnf
  exact aG.mk ⟨rfl,rfl⟩ ⟨rfl,rfl⟩ ⟨rfl,trivial⟩
end Go.Proofs.YtcnfgfomholheaaGreatDoor.Q
end
section
namespace Go.Proofs.YtcnfgfomholheaaGreatDoor.Q
open Go.RowKit Go.Proofs.YtcnfgfomholheaaGreatDoor.Z Go.Proofs.YtcnfgfomholheaaGreatDoor.Pure
set_option linter.unusedVariables false
set_option linter.unusedSimpArgs false
set_option maxRecDepth 100000
set_option maxHeartbeats 4000000
theorem sN {α:Type} (l:List α) (i:Nat):(l.take i++l.drop (i+1)).Sublist l:=by
 have:=(List.drop_sublist_drop_left l (Nat.le_succ i)).append_left (l.take i)
 rwa [List.take_append_drop] at this
theorem QG:∀(ls:List ByteArray) (c:ByteArray) (n:SN),Bd n→Tr n→Bd (dA ls c n)
 | [],c,n,h,_=> .mk _ h.l0 h.z0 h.l1 (Nat.le_trans (vP c n.f2) h.l2) (fun x hx=>h.z2 x (List.filter_sublist.subset hx)) h.kid
 | t::ts,c,n,h,ht=>by
   unfold dA
   cases hf:kF t n.f0 with
   | false=>exact .mk _ h.l0 h.z0 h.l1 h.l2 h.z2 h.kid
   | true=>
     have hp:dI t n.f0<n.f1.length:=by rw [←ht.len];exact uN hf
     have ih:=QG ts c (bn T eN n.f1 (dI t n.f0)) (h.kid _ (uO hp)) (ht.kid _ (uO hp))
     generalize dA ts c (bn T eN n.f1 (dI t n.f0))=K at ih⊢
     cases K.f1.length==0 && K.f2.length==0 with
     | true=>exact .mk _ (Nat.le_trans (sN n.f0 _).length_le h.l0) (fun x hx=>h.z0 x ((sN n.f0 _).subset hx)) (Nat.le_trans (sN n.f1 _).length_le h.l1) h.l2 h.z2 (fun x hx=>h.kid x ((sN n.f1 _).subset hx))
     | false=>exact .mk _ h.l0 h.z0 (by show(n.f1.set _ _).length≤_;rw [List.length_set];exact h.l1) h.l2 h.z2 (fun x hx=>(List.mem_or_eq_of_mem_set hx).elim (h.kid x) (fun e=>e▸ih))
theorem Dv:∀(ls:List ByteArray) (c:ByteArray) (n:SN),Tr n→Tr (dA ls c n)
 | [],c,n,h=> .mk _ h.len h.rise h.kid
 | t::ts,c,n,h=>by
   unfold dA
   cases hf:kF t n.f0 with
   | false=>exact .mk _ h.len h.rise h.kid
   | true=>
     have hp:dI t n.f0<n.f1.length:=by rw [←h.len];exact uN hf
     have ih:=Dv ts c (bn T eN n.f1 (dI t n.f0)) (h.kid _ (uO hp))
     generalize dA ts c (bn T eN n.f1 (dI t n.f0))=K at ih⊢
     have hlen:=h.len
     have hp0:=uN hf
     cases K.f1.length==0 && K.f2.length==0 with
     | true=>exact .mk _ (by show(n.f0.take _++n.f0.drop _).length=(n.f1.take _++n.f1.drop _).length;simp only [List.length_append,List.length_take,List.length_drop];omega) (h.rise.sublist (sN n.f0 _)) (fun x hx=>h.kid x ((sN n.f1 _).subset hx))
     | false=>exact .mk _ (by show n.f0.length=(n.f1.set _ _).length;rw [List.length_set];exact hlen) h.rise (fun x hx=>(List.mem_or_eq_of_mem_set hx).elim (h.kid x) (fun e=>e▸ih))
end Go.Proofs.YtcnfgfomholheaaGreatDoor.Q
end
section
namespace Go.Proofs.YtcnfgfomholheaaGreatDoor.Q
open Go.RowKit Go.Proofs.YtcnfgfomholheaaGreatDoor.Z Go.Proofs.YtcnfgfomholheaaGreatDoor.Pure
set_option linter.unusedVariables false
set_option linter.unusedSimpArgs false
set_option maxRecDepth 100000
set_option maxHeartbeats 4000000
theorem PK (n:SN) (hn:Bd n) (ih:∀k∈n.f1,aA T Tryz.prog 95 [.ag (T.cells eN k)] (BK k)):aA T Tryz.prog 95 [.ag (T.cells eN n)] (BK n):=by
 have hl0:=hn.l0
 have hl1:=hn.l1
 have hl2:=hn.l2
 refine jZ hT Tryz.func95 (by kernel_rfl) rfl rfl (fun A=>?_)
 refine Vc.seq 0 hT ?_
 conv=>whnf
 refine Vc.seq 2 hT ?_
 conv=>whnf
 refine Need.mk ⟨xP,bW (a:=0) (b:=n.f0.length) (by omega) (by decide)⟩ ?_
 conv=>whnf
 refine Need.mk ⟨Yk,bW (a:=0) (b:=n.f2.length) (by omega) (by decide)⟩ ?_
 conv=>whnf
 refine bY.mk ⟨by kernel_rfl,by kernel_rfl⟩ ?_
 conv=>whnf
 refine Vc.of 10 hT ?_
 conv=>whnf
 refine fK.mk {k:Nat // k≤n.f1.length} (fun p=>(8,[(4,i64 p.1),(3, .c (.px 6 0)),(2, .c (.px 1 0)),(1, .c (.px 0 0))],[(6, .bx eN [.hd 3, .hd 7, .hd 5]),(3, .row 3 9 n.f0),(7, .row 7 eN (n.f1.take p.1)),(5, .row 5 eS n.f2),(1,Qc),(0,rD n)])) (fun p=>n.f1.length - p.1) ⟨0,Nat.zero_le _⟩ ((sZ 6 1 20 eN (t:=eN) (cs:=[.hd 3, .sc (.slice none 0 0), .hd 5]) rfl rfl rfl).trans (ay [(6,6),(3,3),(7,20),(5,5),(1,1),(0,0)] rfl rfl rfl ⟨⟨rfl,rfl⟩,⟨rfl,rfl⟩,⟨rfl,rfl⟩,⟨rfl,rfl⟩,trivial⟩ ⟨⟨rfl,rfl⟩,jo rfl,jh rfl,iR rfl,⟨rfl,rfl⟩,⟨rfl,rfl⟩,trivial⟩)) ?_
 rintro⟨k,hk⟩
 conv=>whnf
 refine Split.mk (fun c=>?_) (fun c=>?_)
 ·have hk2:k<n.f1.length:=jl c
  clear c
  conv=>whnf
  refine Need.mk (idx hk2) ?_
  conv=>whnf
  refine aC.mk _ (ih _ (uO hk2)) ?_
  conv=>whnf
  refine Need.mk (bW (a:=(n.f1.take k).length) (b:=1) (by rw [List.length_take];omega) (by decide)) ?_
  conv=>whnf
  exact bI.mk ⟨⟨k+1,hk2⟩,Nat.sub_lt_sub_left hk2 (Nat.lt_succ_self k),ay [(6,6),(3,3),(7,13),(5,5),(1,1),(0,0)] rfl rfl rfl ⟨⟨rfl,congrArg i64 (eG hk2 (by omega))⟩,⟨rfl,rfl⟩,⟨rfl,rfl⟩,⟨rfl,rfl⟩,trivial⟩ ⟨⟨rfl,rfl⟩,jo rfl,jh (take_snoc hk2),iR rfl,⟨rfl,rfl⟩,⟨rfl,rfl⟩,trivial⟩⟩
 ·have hk2:k=n.f1.length:=Nat.le_antisymm hk (jm c)
  subst hk2
  conv=>whnf
  exact aG.mk ⟨rfl,rfl⟩ ⟨rfl,rfl⟩ ⟨rfl,jh (List.take_length),rfl,trivial⟩
theorem uP:∀(n:SN),Bd n→aA T Tryz.prog 95 [.ag (T.cells eN n)] (BK n):=fun n hn=>
 PK n hn (fun k hk=>uP k (by cases hn with | mk _ _ _ _ _ _ h=>exact h k hk))
termination_by n=>SizeOf.sizeOf n
decreasing_by exact lM hk
end Go.Proofs.YtcnfgfomholheaaGreatDoor.Q
end
section
namespace Go.Proofs.YtcnfgfomholheaaGreatDoor.Q
open Go.RowKit Go.Proofs.YtcnfgfomholheaaGreatDoor.Z Go.Proofs.YtcnfgfomholheaaGreatDoor.Pure
set_option linter.unusedVariables false
set_option linter.unusedSimpArgs false
set_option maxRecDepth 100000
set_option maxHeartbeats 4000000
def fP (n:SN):Bool:=decide (0<n.f0.length) || decide (0<n.f2.length)
theorem HY {c:ByteArray} {l:List SS} {k:Nat} {d:SS} (h:k<l.length):mD c (l.take (k+1))=mD c (l.take k)++bif (l.getD k d).f0.toList==c.toList then [] else [l.getD k d]:=by
 unfold mD
 rw [List.take_succ_eq_append_getElem h,List.filter_append,getD_in l k d h]
 cases hq:l[k].f0.toList==c.toList<;>simp [hq]
abbrev TW (n:SN):RS T.Tb:= .ag [.im 9 n.f0, .im eN n.f1, .im eS n.f2]
abbrev BL:Cell T:= .sc (.slice none 0 0)
def gS (l:List SS) (i:Nat):SS:=l.getD i (T.df eS)
def gN (l:List SN) (i:Nat):SN:=l.getD i (T.df eN)
theorem QH {l m:List (ByteArray × SN)} {x:ByteArray} {K:SN} (h:m=l++bif true then [(x,K)] else []):l.map (·.1)++[x]=m.map (·.1):=by rw [h];simp
theorem QI {l m:List (ByteArray × SN)} {x:ByteArray} {K:SN} (h:m=l++bif true then [(x,K)] else []):l.map (·.2)++[(⟨K.f0,K.f1,K.f2⟩:SN)]=m.map (·.2):=by rw [h,zI];simp
theorem X5 {l m:List (ByteArray × SN)} {x:ByteArray} {K:SN} (h:m=l++bif false then [(x,K)] else []):l.map (·.1)=m.map (·.1):=by rw [h];simp
theorem X6 {l m:List (ByteArray × SN)} {x:ByteArray} {K:SN} (h:m=l++bif false then [(x,K)] else []):l.map (·.2)=m.map (·.2):=by rw [h];simp
theorem abk {b:Bool} (h:(!b)=true):b=false:=by cases b<;>simp_all
theorem abl {b:Bool} (h:(!b)=false):b=true:=by cases b<;>simp_all
end Go.Proofs.YtcnfgfomholheaaGreatDoor.Q
end
section
namespace Go.Proofs.YtcnfgfomholheaaGreatDoor.Q
open Go.RowKit Go.Proofs.YtcnfgfomholheaaGreatDoor.Z Go.Proofs.YtcnfgfomholheaaGreatDoor.Pure
set_option linter.unusedVariables false
set_option linter.unusedSimpArgs false
set_option maxRecDepth 100000
set_option maxHeartbeats 4000000
def dH (f:ByteArray→SN→SN):List ByteArray→List SN→List (ByteArray × SN)
 | x::r,k::q=>(bif fP (f x k) then [(x,f x k)] else [])++dH f r q
 | [],_=>[]
 | _::_,[]=>[]
def jU (g:SN→SN) (t:ByteArray) (x:ByteArray) (k:SN):SN:=bif x.toList==t.toList then g k else k
def jG (c:ByteArray):List ByteArray→SN→SN
 | [],n=>⟨(dH (fun _ k=>k) n.f0 n.f1).map (·.1),(dH (fun _ k=>k) n.f0 n.f1).map (·.2),mD c n.f2⟩
 | t::ts,n=>⟨(dH (jU (jG c ts) t) n.f0 n.f1).map (·.1),(dH (jU (jG c ts) t) n.f0 n.f1).map (·.2),n.f2⟩
theorem H6 {f:ByteArray→SN→SN} {d:ByteArray} {e:SN}:∀{ns:List ByteArray} {ks:List SN} {k:Nat},k<ns.length→k<ks.length→dH f (ns.take (k+1)) (ks.take (k+1))=dH f (ns.take k) (ks.take k)++bif fP (f (ns.getD k d) (ks.getD k e)) then [(ns.getD k d,f (ns.getD k d) (ks.getD k e))] else []
 | [],_,_,h,_=>by simp at h
 | _::_,[],_,_,h=>by simp at h
 | x::r,y::q,0,_,_=>by
   simp only [List.take_succ_cons,List.take_zero,dH,List.append_nil,List.nil_append]
   rfl
 | x::r,y::q,k+1,h,h2=>by
   have:=H6 (f:=f) (d:=d) (e:=e) (ns:=r) (ks:=q) (k:=k) (by simpa using h) (by simpa using h2)
   simp only [List.take_succ_cons] at this⊢
   rw [dH,dH,this,List.append_assoc]
   rfl
theorem BM (f:ByteArray→SN→SN):∀(ns:List ByteArray) (ks:List SN),(dH f ns ks).length≤ns.length
 | x::r,k::q=>by
   have:=BM f r q
   rw [dH,List.length_append,List.length_cons]
   cases fP (f x k)
   ·show 0+_≤_;omega
   ·show 1+_≤_;omega
 | [],_=>by rw [dH];exact Nat.zero_le _
 | _::_,[]=>by rw [dH];exact Nat.zero_le _
theorem abm {f:ByteArray→SN→SN} {n:SN} (hl:n.f0.length=n.f1.length):dH f (n.f0.take n.f0.length) (n.f1.take n.f0.length)=dH f n.f0 n.f1:=by rw [List.take_length,hl,List.take_length]
def iO (ls:List ByteArray) (c:ByteArray) (l:List SS):List SS:=bif decide (0<ls.length) then l else mD c l
theorem WB (ls:List ByteArray) (c:ByteArray) (l:List SS):(iO ls c l).length≤l.length:=by
 unfold iO
 cases decide (0<ls.length) with
 | true=>exact Nat.le_refl _
 | false=>exact vP c l
theorem J9 {ls:List ByteArray} {c:ByteArray} {l:List SS} {k:Nat} (h:k<l.length) (hh:(((gS l k).f0.toList==c.toList) && !decide (0<ls.length))=false):iO ls c (l.take (k+1))=iO ls c (l.take k)++[gS l k]:=by
 have e:gS l k=l[k]:=getD_in l k (T.df eS) h
 unfold iO
 cases hd:decide (0<ls.length) with
 | true=>
   show l.take (k+1)=l.take k++[gS l k]
   rw [e,List.take_succ_eq_append_getElem h]
 | false=>
   rw [hd,Bool.not_false,Bool.and_true] at hh
   have:=HY (c:=c) (d:=T.df eS) h
   show mD c _=mD c _++_
   rw [this,show((l.getD k (T.df eS)).f0.toList==c.toList)=false from hh];rfl
theorem TY {ls:List ByteArray} {c:ByteArray} {l:List SS} {k:Nat} (h:k<l.length) (hh:(((gS l k).f0.toList==c.toList) && !decide (0<ls.length))=true):iO ls c (l.take (k+1))=iO ls c (l.take k):=by
 rw [Bool.and_eq_true,Bool.not_eq_true'] at hh
 unfold iO
 rw [hh.2]
 have:=HY (c:=c) (d:=T.df eS) h
 show mD c _=mD c _
 rw [this,show((l.getD k (T.df eS)).f0.toList==c.toList)=true from hh.1]
 exact List.append_nil _
theorem abn {n:Nat} (h:decide ((n:Int)>0)=true):decide (0<n)=true:=decide_eq_true (je h)
theorem abo {n:Nat} (h:decide ((n:Int)>0)=false):decide (0<n)=false:=decide_eq_false (Nat.not_lt_of_le (Nat.le_of_eq (jf h)))
structure Pk (ls:List ByteArray) (c:ByteArray) (f:ByteArray→SN→SN) (n:SN):Prop where
 no:ls.length=0→∀x k,f x k=k
 ne:0<ls.length→∀x k,(x.toList==(g9 ls 0).toList)=false→f x k=k
 eq:0<ls.length→∀x,∀k∈n.f1,(x.toList==(g9 ls 0).toList)=true→aA T Tryz.prog 96 [.ag (T.cells eN k), .c (.sl 9 ((ls.drop 1).take (ls.length - 1))), .c (.sc (.bool false)), .c (.sc (.string c))] (TW (f x k))
theorem BN (n:SN) (ls:List ByteArray) (c:ByteArray) (f:ByteArray→SN→SN) (hn:Bd n) (hl:n.f0.length=n.f1.length) (hp:Pk ls c f n):aA T Tryz.prog 96 [.ag (T.cells eN n), .c (.sl 9 ls), .c (.sc (.bool false)), .c (.sc (.string c))] (TW ⟨(dH f n.f0 n.f1).map (·.1),(dH f n.f0 n.f1).map (·.2),iO ls c n.f2⟩):=by
 have hl0:=hn.l0
 have hl1:=hn.l1
 have hl2:=hn.l2
 refine jZ hT Tryz.func96 (by kernel_rfl) rfl rfl (fun A=>?_)
 refine Vc.of 0 hT ?_
 conv=>whnf
 refine fK.mk {k:Nat // k≤n.f2.length} (fun p=>(6,[(10,i64 p.1),(9, .c (.px 2 0)),(8, .c (.px 1 0)),(4, .c (.px 0 0)),(1,im 9 ls),(2, .c (.sc (.bool false))),(3, .c (.sc (.string c)))],[(2, .bx eN [BL,BL, .hd 5]),(5, .row 5 eS (iO ls c (n.f2.take p.1))),(1,Qc),(0,rD n)])) (fun p=>n.f2.length - p.1) ⟨0,Nat.zero_le _⟩ ((sZ 2 2 20 eS (t:=eN) (cs:=[BL,BL,BL]) rfl rfl rfl).trans (ay [(2,2),(5,20),(1,1),(0,0)] rfl rfl rfl ⟨⟨rfl,rfl⟩,⟨rfl,rfl⟩,⟨rfl,rfl⟩,⟨rfl,rfl⟩,⟨rfl,rfl⟩,⟨rfl,rfl⟩,⟨rfl,rfl⟩,trivial⟩ ⟨⟨rfl,rfl⟩,iR (by show []=iO ls c (n.f2.take 0);unfold iO;cases decide (0<ls.length)<;>rfl),⟨rfl,rfl⟩,⟨rfl,rfl⟩,trivial⟩)) ?_
 rintro⟨k,hk⟩
 conv=>whnf
 refine Split.mk (fun c1=>?_) (fun c1=>?_)
 ·have hk2:k<n.f2.length:=jl c1
  clear c1
  have hdl:=WB ls c (n.f2.take k)
  rw [List.length_take] at hdl
  conv=>whnf
  refine Need.mk (idx hk2) ?_
  conv=>whnf
  refine Split.mk (fun c1=>?_) (fun c1=>?_)
  ·have hq:iO ls c (n.f2.take (k+1))=iO ls c (n.f2.take k)++[gS n.f2 k]:=J9 hk2 (by rw [show((gS n.f2 k).f0.toList==c.toList)=false from abk c1];rfl)
   conv=>whnf
   refine Split.mk (fun _=>?_) (fun e=>jC e)
   conv=>whnf
   refine Need.mk (idx hk2) ?_
   conv=>whnf
   refine Need.mk (bW (a:=(iO ls c (n.f2.take k)).length) (b:=1) (by omega) (by decide)) ?_
   conv=>whnf
   refine bY.mk ⟨by kernel_rfl,by kernel_rfl⟩ ?_
   conv=>whnf
   exact bI.mk ⟨⟨k+1,hk2⟩,Nat.sub_lt_sub_left hk2 (Nat.lt_succ_self k),ay [(2,2),(5,7),(1,1),(0,0)] rfl rfl rfl ⟨⟨rfl,congrArg i64 (eG hk2 (by omega))⟩,⟨rfl,rfl⟩,⟨rfl,rfl⟩,⟨rfl,rfl⟩,⟨rfl,rfl⟩,⟨rfl,rfl⟩,⟨rfl,rfl⟩,trivial⟩ ⟨⟨rfl,rfl⟩,iR hq.symm,⟨rfl,rfl⟩,⟨rfl,rfl⟩,trivial⟩⟩
  ·conv=>whnf
   refine Split.mk (fun _=>?_) (fun e=>jC e)
   conv=>whnf
   refine Split.mk (fun c2=>?_) (fun c2=>?_)
   ·have hq:iO ls c (n.f2.take (k+1))=iO ls c (n.f2.take k)++[gS n.f2 k]:=J9 hk2 (by have h9:decide (0<ls.length)=true:=abn c2;rw [h9,Bool.not_true,Bool.and_false])
    conv=>whnf
    refine Need.mk (idx hk2) ?_
    conv=>whnf
    refine Need.mk (bW (a:=(iO ls c (n.f2.take k)).length) (b:=1) (by omega) (by decide)) ?_
    conv=>whnf
    refine bY.mk ⟨by kernel_rfl,by kernel_rfl⟩ ?_
    conv=>whnf
    exact bI.mk ⟨⟨k+1,hk2⟩,Nat.sub_lt_sub_left hk2 (Nat.lt_succ_self k),ay [(2,2),(5,7),(1,1),(0,0)] rfl rfl rfl ⟨⟨rfl,congrArg i64 (eG hk2 (by omega))⟩,⟨rfl,rfl⟩,⟨rfl,rfl⟩,⟨rfl,rfl⟩,⟨rfl,rfl⟩,⟨rfl,rfl⟩,⟨rfl,rfl⟩,trivial⟩ ⟨⟨rfl,rfl⟩,iR hq.symm,⟨rfl,rfl⟩,⟨rfl,rfl⟩,trivial⟩⟩
   ·have hq:iO ls c (n.f2.take (k+1))=iO ls c (n.f2.take k):=TY hk2 (by have h9:decide (0<ls.length)=false:=abo c2;rw [h9,show((gS n.f2 k).f0.toList==c.toList)=true from abl c1];rfl)
    conv=>whnf
    exact bI.mk ⟨⟨k+1,hk2⟩,Nat.sub_lt_sub_left hk2 (Nat.lt_succ_self k),ay [(2,2),(5,5),(1,1),(0,0)] rfl rfl rfl ⟨⟨rfl,congrArg i64 (eG hk2 (by omega))⟩,⟨rfl,rfl⟩,⟨rfl,rfl⟩,⟨rfl,rfl⟩,⟨rfl,rfl⟩,⟨rfl,rfl⟩,⟨rfl,rfl⟩,trivial⟩ ⟨⟨rfl,rfl⟩,iR hq.symm,⟨rfl,rfl⟩,⟨rfl,rfl⟩,trivial⟩⟩
 ·have hk2:k=n.f2.length:=Nat.le_antisymm hk (jm c1)
  clear c1
  subst hk2
  conv=>whnf
  refine fK.mk {k:Nat // k≤n.f0.length} (fun p=>(6,[(11,i64 p.1),(9, .c (.px 2 0)),(8, .c (.px 1 0)),(4, .c (.px 0 0)),(1,im 9 ls),(2, .c (.sc (.bool false))),(3, .c (.sc (.string c)))],[(2, .bx eN [.hd 3, .hd 4, .hd 5]),(3, .row 3 9 ((dH f (n.f0.take p.1) (n.f1.take p.1)).map (·.1))),(4, .sh 4 eN ((dH f (n.f0.take p.1) (n.f1.take p.1)).map (·.2))),(5, .row 5 eS (iO ls c n.f2)),(1,Qc),(0,rD n)])) (fun p=>n.f0.length - p.1) ⟨0,Nat.zero_le _⟩ ((sZ 2 0 20 9 (t:=eN) (cs:=[BL,BL, .hd 5]) rfl rfl rfl).trans ((sZ 2 1 21 eN (t:=eN) (cs:=[.hd 20,BL, .hd 5]) rfl rfl rfl).trans (ay [(2,2),(3,20),(4,21),(5,5),(1,1),(0,0)] rfl rfl rfl ⟨⟨rfl,rfl⟩,⟨rfl,rfl⟩,⟨rfl,rfl⟩,⟨rfl,rfl⟩,⟨rfl,rfl⟩,⟨rfl,rfl⟩,⟨rfl,rfl⟩,trivial⟩ ⟨⟨rfl,rfl⟩,jo rfl,jh rfl,iR (by rw [List.take_length]),⟨rfl,rfl⟩,⟨rfl,rfl⟩,trivial⟩))) ?_
  rintro⟨k,hk⟩
  conv=>whnf
  refine Split.mk (fun c1=>?_) (fun c1=>?_)
  ·have hk2:k<n.f0.length:=jl c1
   have hk3:k<n.f1.length:=by omega
   clear c1
   have hstep:=H6 (f:=f) (d:=T.df 9) (e:=T.df eN) hk2 hk3
   change _=_++bif fP (f (g9 n.f0 k) (gN n.f1 k)) then [(g9 n.f0 k,f (g9 n.f0 k) (gN n.f1 k))] else [] at hstep
   have hkm:gN n.f1 k∈n.f1:=uO hk3
   have hdl:=BM f (n.f0.take k) (n.f1.take k)
   rw [List.length_take] at hdl
   conv=>whnf
   refine Need.mk (idx hk3) ?_
   conv=>whnf
   refine Split.mk (fun e=>jI e) (fun _=>?_)
   conv=>whnf
   refine Split.mk (fun c1=>?_) (fun c1=>?_)
   ·have h0:0<ls.length:=je c1
    conv=>whnf
    refine Need.mk (idx hk2) ?_
    conv=>whnf
    refine Need.mk (idx h0) ?_
    conv=>whnf
    refine bY.mk ⟨by kernel_rfl,by kernel_rfl⟩ ?_
    conv=>whnf
    refine Split.mk (fun c2=>?_) (fun c2=>?_)
    ·have ihk:=hp.eq h0 (g9 n.f0 k) _ hkm c2
     generalize f (g9 n.f0 k) (gN n.f1 k)=K at ihk hstep
     conv=>whnf
     refine Need.mk ⟨by decide,Int.ofNat_le.2 h0,Int.le_refl _⟩ ?_
     conv=>whnf
     refine aC.mk _ ihk ?_
     conv=>whnf
     refine bY.mk ⟨by kernel_rfl,by kernel_rfl⟩ ?_
     conv=>whnf
     refine Split.mk (fun c1=>?_) (fun c1=>?_)
     ·have hf:fP K=true:=by unfold fP;rw [decide_eq_true (p:=0<K.f0.length) (je c1)];rfl
      rw [hf] at hstep
      conv=>whnf
      refine Split.mk (fun _=>?_) (fun e=>jC e)
      conv=>whnf
      refine Need.mk (idx hk2) ?_
      conv=>whnf
      refine Need.mk (bW (a:=((dH f (n.f0.take k) (n.f1.take k)).map (·.1)).length) (b:=1) (by rw [List.length_map];omega) (by decide)) ?_
      conv=>whnf
      refine bY.mk ⟨by kernel_rfl,by kernel_rfl⟩ ?_
      conv=>whnf
      refine Need.mk (bW (a:=((dH f (n.f0.take k) (n.f1.take k)).map (·.2)).length) (b:=1) (by rw [List.length_map];omega) (by decide)) ?_
      conv=>whnf
      exact bI.mk ⟨⟨k+1,hk2⟩,Nat.sub_lt_sub_left hk2 (Nat.lt_succ_self k),ay [(2,2),(3,11),(4,12),(5,5),(1,1),(0,0)] rfl rfl rfl ⟨⟨rfl,congrArg i64 (eG hk2 (by omega))⟩,⟨rfl,rfl⟩,⟨rfl,rfl⟩,⟨rfl,rfl⟩,⟨rfl,rfl⟩,⟨rfl,rfl⟩,⟨rfl,rfl⟩,trivial⟩ ⟨⟨rfl,rfl⟩,jo (QH hstep),jh (QI hstep),iR rfl,⟨rfl,rfl⟩,⟨rfl,rfl⟩,trivial⟩⟩
     ·conv=>whnf
      refine Split.mk (fun c2=>?_) (fun c2=>?_)
      ·have hf:fP K=true:=by unfold fP;rw [decide_eq_true (p:=0<K.f2.length) (je c2),Bool.or_true]
       rw [hf] at hstep
       conv=>whnf
       refine Need.mk (idx hk2) ?_
       conv=>whnf
       refine Need.mk (bW (a:=((dH f (n.f0.take k) (n.f1.take k)).map (·.1)).length) (b:=1) (by rw [List.length_map];omega) (by decide)) ?_
       conv=>whnf
       refine bY.mk ⟨by kernel_rfl,by kernel_rfl⟩ ?_
       conv=>whnf
       refine Need.mk (bW (a:=((dH f (n.f0.take k) (n.f1.take k)).map (·.2)).length) (b:=1) (by rw [List.length_map];omega) (by decide)) ?_
       conv=>whnf
       exact bI.mk ⟨⟨k+1,hk2⟩,Nat.sub_lt_sub_left hk2 (Nat.lt_succ_self k),ay [(2,2),(3,11),(4,12),(5,5),(1,1),(0,0)] rfl rfl rfl ⟨⟨rfl,congrArg i64 (eG hk2 (by omega))⟩,⟨rfl,rfl⟩,⟨rfl,rfl⟩,⟨rfl,rfl⟩,⟨rfl,rfl⟩,⟨rfl,rfl⟩,⟨rfl,rfl⟩,trivial⟩ ⟨⟨rfl,rfl⟩,jo (QH hstep),jh (QI hstep),iR rfl,⟨rfl,rfl⟩,⟨rfl,rfl⟩,trivial⟩⟩
      ·have hf:fP K=false:=by unfold fP;rw [decide_eq_false (p:=0<K.f0.length) (Nat.not_lt_of_le (Nat.le_of_eq (jf c1))),decide_eq_false (p:=0<K.f2.length) (Nat.not_lt_of_le (Nat.le_of_eq (jf c2)))];rfl
       rw [hf] at hstep
       conv=>whnf
       exact bI.mk ⟨⟨k+1,hk2⟩,Nat.sub_lt_sub_left hk2 (Nat.lt_succ_self k),ay [(2,2),(3,3),(4,4),(5,5),(1,1),(0,0)] rfl rfl rfl ⟨⟨rfl,congrArg i64 (eG hk2 (by omega))⟩,⟨rfl,rfl⟩,⟨rfl,rfl⟩,⟨rfl,rfl⟩,⟨rfl,rfl⟩,⟨rfl,rfl⟩,⟨rfl,rfl⟩,trivial⟩ ⟨⟨rfl,rfl⟩,jo (X5 hstep),jh (X6 hstep),iR rfl,⟨rfl,rfl⟩,⟨rfl,rfl⟩,trivial⟩⟩
    ·have e:=hp.ne h0 (g9 n.f0 k) (gN n.f1 k) c2
     rw [e] at hstep
     conv=>whnf
     refine Split.mk (fun c1=>?_) (fun c1=>?_)
     ·have hf:fP (gN n.f1 k)=true:=by unfold fP;rw [decide_eq_true (p:=0<(gN n.f1 k).f0.length) (je c1)];rfl
      rw [hf] at hstep
      conv=>whnf
      refine Split.mk (fun _=>?_) (fun e=>jC e)
      conv=>whnf
      refine Need.mk (idx hk2) ?_
      conv=>whnf
      refine Need.mk (bW (a:=((dH f (n.f0.take k) (n.f1.take k)).map (·.1)).length) (b:=1) (by rw [List.length_map];omega) (by decide)) ?_
      conv=>whnf
      refine bY.mk ⟨by kernel_rfl,by kernel_rfl⟩ ?_
      conv=>whnf
      refine Need.mk (bW (a:=((dH f (n.f0.take k) (n.f1.take k)).map (·.2)).length) (b:=1) (by rw [List.length_map];omega) (by decide)) ?_
      conv=>whnf
      exact bI.mk ⟨⟨k+1,hk2⟩,Nat.sub_lt_sub_left hk2 (Nat.lt_succ_self k),ay [(2,2),(3,8),(4,9),(5,5),(1,1),(0,0)] rfl rfl rfl ⟨⟨rfl,congrArg i64 (eG hk2 (by omega))⟩,⟨rfl,rfl⟩,⟨rfl,rfl⟩,⟨rfl,rfl⟩,⟨rfl,rfl⟩,⟨rfl,rfl⟩,⟨rfl,rfl⟩,trivial⟩ ⟨⟨rfl,rfl⟩,jo (QH hstep),jh (QI hstep),iR rfl,⟨rfl,rfl⟩,⟨rfl,rfl⟩,trivial⟩⟩
     ·conv=>whnf
      refine Split.mk (fun c2=>?_) (fun c2=>?_)
      ·have hf:fP (gN n.f1 k)=true:=by unfold fP;rw [decide_eq_true (p:=0<(gN n.f1 k).f2.length) (je c2),Bool.or_true]
       rw [hf] at hstep
       conv=>whnf
       refine Need.mk (idx hk2) ?_
       conv=>whnf
       refine Need.mk (bW (a:=((dH f (n.f0.take k) (n.f1.take k)).map (·.1)).length) (b:=1) (by rw [List.length_map];omega) (by decide)) ?_
       conv=>whnf
       refine bY.mk ⟨by kernel_rfl,by kernel_rfl⟩ ?_
       conv=>whnf
       refine Need.mk (bW (a:=((dH f (n.f0.take k) (n.f1.take k)).map (·.2)).length) (b:=1) (by rw [List.length_map];omega) (by decide)) ?_
       conv=>whnf
       exact bI.mk ⟨⟨k+1,hk2⟩,Nat.sub_lt_sub_left hk2 (Nat.lt_succ_self k),ay [(2,2),(3,8),(4,9),(5,5),(1,1),(0,0)] rfl rfl rfl ⟨⟨rfl,congrArg i64 (eG hk2 (by omega))⟩,⟨rfl,rfl⟩,⟨rfl,rfl⟩,⟨rfl,rfl⟩,⟨rfl,rfl⟩,⟨rfl,rfl⟩,⟨rfl,rfl⟩,trivial⟩ ⟨⟨rfl,rfl⟩,jo (QH hstep),jh (QI hstep),iR rfl,⟨rfl,rfl⟩,⟨rfl,rfl⟩,trivial⟩⟩
      ·have hf:fP (gN n.f1 k)=false:=by unfold fP;rw [decide_eq_false (p:=0<(gN n.f1 k).f0.length) (Nat.not_lt_of_le (Nat.le_of_eq (jf c1))),decide_eq_false (p:=0<(gN n.f1 k).f2.length) (Nat.not_lt_of_le (Nat.le_of_eq (jf c2)))];rfl
       rw [hf] at hstep
       conv=>whnf
       exact bI.mk ⟨⟨k+1,hk2⟩,Nat.sub_lt_sub_left hk2 (Nat.lt_succ_self k),ay [(2,2),(3,3),(4,4),(5,5),(1,1),(0,0)] rfl rfl rfl ⟨⟨rfl,congrArg i64 (eG hk2 (by omega))⟩,⟨rfl,rfl⟩,⟨rfl,rfl⟩,⟨rfl,rfl⟩,⟨rfl,rfl⟩,⟨rfl,rfl⟩,⟨rfl,rfl⟩,trivial⟩ ⟨⟨rfl,rfl⟩,jo (X5 hstep),jh (X6 hstep),iR rfl,⟨rfl,rfl⟩,⟨rfl,rfl⟩,trivial⟩⟩
   ·have h0:ls.length=0:=jf c1
    have e:=hp.no h0 (g9 n.f0 k) (gN n.f1 k)
    rw [e] at hstep
    conv=>whnf
    refine bY.mk ⟨by kernel_rfl,by kernel_rfl⟩ ?_
    conv=>whnf
    refine Split.mk (fun e=>jI e) (fun _=>?_)
    conv=>whnf
    refine Split.mk (fun c1=>?_) (fun c1=>?_)
    ·have hf:fP (gN n.f1 k)=true:=by unfold fP;rw [decide_eq_true (p:=0<(gN n.f1 k).f0.length) (je c1)];rfl
     rw [hf] at hstep
     conv=>whnf
     refine Split.mk (fun _=>?_) (fun e=>jC e)
     conv=>whnf
     refine Need.mk (idx hk2) ?_
     conv=>whnf
     refine Need.mk (bW (a:=((dH f (n.f0.take k) (n.f1.take k)).map (·.1)).length) (b:=1) (by rw [List.length_map];omega) (by decide)) ?_
     conv=>whnf
     refine bY.mk ⟨by kernel_rfl,by kernel_rfl⟩ ?_
     conv=>whnf
     refine Need.mk (bW (a:=((dH f (n.f0.take k) (n.f1.take k)).map (·.2)).length) (b:=1) (by rw [List.length_map];omega) (by decide)) ?_
     conv=>whnf
     exact bI.mk ⟨⟨k+1,hk2⟩,Nat.sub_lt_sub_left hk2 (Nat.lt_succ_self k),ay [(2,2),(3,8),(4,9),(5,5),(1,1),(0,0)] rfl rfl rfl ⟨⟨rfl,congrArg i64 (eG hk2 (by omega))⟩,⟨rfl,rfl⟩,⟨rfl,rfl⟩,⟨rfl,rfl⟩,⟨rfl,rfl⟩,⟨rfl,rfl⟩,⟨rfl,rfl⟩,trivial⟩ ⟨⟨rfl,rfl⟩,jo (QH hstep),jh (QI hstep),iR rfl,⟨rfl,rfl⟩,⟨rfl,rfl⟩,trivial⟩⟩
    ·conv=>whnf
     refine Split.mk (fun c2=>?_) (fun c2=>?_)
     ·have hf:fP (gN n.f1 k)=true:=by unfold fP;rw [decide_eq_true (p:=0<(gN n.f1 k).f2.length) (je c2),Bool.or_true]
      rw [hf] at hstep
      conv=>whnf
      refine Need.mk (idx hk2) ?_
      conv=>whnf
      refine Need.mk (bW (a:=((dH f (n.f0.take k) (n.f1.take k)).map (·.1)).length) (b:=1) (by rw [List.length_map];omega) (by decide)) ?_
      conv=>whnf
      refine bY.mk ⟨by kernel_rfl,by kernel_rfl⟩ ?_
      conv=>whnf
      refine Need.mk (bW (a:=((dH f (n.f0.take k) (n.f1.take k)).map (·.2)).length) (b:=1) (by rw [List.length_map];omega) (by decide)) ?_
      conv=>whnf
      exact bI.mk ⟨⟨k+1,hk2⟩,Nat.sub_lt_sub_left hk2 (Nat.lt_succ_self k),ay [(2,2),(3,8),(4,9),(5,5),(1,1),(0,0)] rfl rfl rfl ⟨⟨rfl,congrArg i64 (eG hk2 (by omega))⟩,⟨rfl,rfl⟩,⟨rfl,rfl⟩,⟨rfl,rfl⟩,⟨rfl,rfl⟩,⟨rfl,rfl⟩,⟨rfl,rfl⟩,trivial⟩ ⟨⟨rfl,rfl⟩,jo (QH hstep),jh (QI hstep),iR rfl,⟨rfl,rfl⟩,⟨rfl,rfl⟩,trivial⟩⟩
     ·have hf:fP (gN n.f1 k)=false:=by unfold fP;rw [decide_eq_false (p:=0<(gN n.f1 k).f0.length) (Nat.not_lt_of_le (Nat.le_of_eq (jf c1))),decide_eq_false (p:=0<(gN n.f1 k).f2.length) (Nat.not_lt_of_le (Nat.le_of_eq (jf c2)))];rfl
      rw [hf] at hstep
      conv=>whnf
      exact bI.mk ⟨⟨k+1,hk2⟩,Nat.sub_lt_sub_left hk2 (Nat.lt_succ_self k),ay [(2,2),(3,3),(4,4),(5,5),(1,1),(0,0)] rfl rfl rfl ⟨⟨rfl,congrArg i64 (eG hk2 (by omega))⟩,⟨rfl,rfl⟩,⟨rfl,rfl⟩,⟨rfl,rfl⟩,⟨rfl,rfl⟩,⟨rfl,rfl⟩,⟨rfl,rfl⟩,trivial⟩ ⟨⟨rfl,rfl⟩,jo (X5 hstep),jh (X6 hstep),iR rfl,⟨rfl,rfl⟩,⟨rfl,rfl⟩,trivial⟩⟩
  ·have hk2:k=n.f0.length:=Nat.le_antisymm hk (jm c1)
   subst hk2
   conv=>whnf
   exact aG.mk ⟨rfl,rfl⟩ ⟨rfl,rfl⟩ ⟨jo (congrArg (List.map (fun x=>x.1)) (abm hl)),jh (congrArg (List.map (fun x=>x.2)) (abm hl)),iR rfl,trivial⟩
end Go.Proofs.YtcnfgfomholheaaGreatDoor.Q
end
section
namespace Go.Proofs.YtcnfgfomholheaaGreatDoor.Q
open Go.RowKit Go.Proofs.YtcnfgfomholheaaGreatDoor.Z Go.Proofs.YtcnfgfomholheaaGreatDoor.Pure
set_option linter.unusedVariables false
set_option linter.unusedSimpArgs false
set_option maxRecDepth 100000
set_option maxHeartbeats 4000000
theorem Ko:∀(ls:List ByteArray) (c:ByteArray) (n:SN),Bd n→Tr n→aA T Tryz.prog 96 [.ag (T.cells eN n), .c (.sl 9 ls), .c (.sc (.bool false)), .c (.sc (.string c))] (TW (jG c ls n))
 | [],c,n,hn,ht=>BN n [] c (fun _ k=>k) hn ht.len ⟨fun _ _ _=>rfl,fun h=>absurd h (by decide),fun h=>absurd h (by decide)⟩
 | t::ts,c,n,hn,ht=>by
   have h1:∀x k,(x.toList==t.toList)=false→jU (jG c ts) t x k=k:=fun x k h=>by unfold jU;rw [h];rfl
   have h2:∀x k,(x.toList==t.toList)=true→jU (jG c ts) t x k=jG c ts k:=fun x k h=>by unfold jU;rw [h];rfl
   refine BN n (t::ts) c (jU (jG c ts) t) hn ht.len ⟨fun h=>absurd h (Nat.succ_ne_zero _),fun _ x k h=>h1 x k h,fun _ x k hk h=>?_⟩
   rw [h2 x k h]
   exact Eq.mpr (congrArg (fun L:List ByteArray=>aA T Tryz.prog 96 [.ag (T.cells eN k), .c (.sl 9 L), .c (.sc (.bool false)), .c (.sc (.string c))] (TW (jG c ts k))) (tl_ t ts)) (Ko ts c k (hn.kid k hk) (ht.kid k hk))
theorem BO {f:ByteArray→SN→SN} {x:ByteArray × SN}:∀{ns:List ByteArray} {ks:List SN},x∈dH f ns ks↔∃k,(x.1,k)∈ns.zip ks∧x.2=f x.1 k∧fP x.2=true
 | [],ks=>by rw [dH];simp
 | y::r,[]=>by rw [dH];simp
 | y::r,k::q=>by
   rw [dH,List.mem_append,BO (ns:=r) (ks:=q),List.zip_cons_cons]
   constructor
   ·rintro(h | ⟨k',h1,h2⟩)
    ·cases hf:fP (f y k) with
     | false=>rw [hf] at h;cases h
     | true=>
       rw [hf] at h
       obtain rfl:=List.mem_singleton.1 h
       exact⟨k,List.mem_cons_self,rfl,hf⟩
    ·exact⟨k',List.mem_cons_of_mem _ h1,h2⟩
   ·rintro⟨k',h1,h2,h3⟩
    rcases List.mem_cons.1 h1 with h1 | h1
    ·cases h1
     refine .inl ?_
     rw [h2] at h3
     rw [h3]
     exact List.mem_singleton.2 (Prod.ext rfl h2)
    ·exact .inr ⟨k',h1,h2,h3⟩
theorem ZF:∀(ls:List ByteArray) (c:ByteArray) (n:SN),Bd n→Bd (jG c ls n):=fun ls=>by
 have key:∀(f:ByteArray→SN→SN) (n:SN) (ss:List SS),Bd n→(∀x,∀k∈n.f1,Bd (f x k))→ss.length≤n.f2.length→(∀s∈ss,s∈n.f2)→Bd ⟨(dH f n.f0 n.f1).map (·.1),(dH f n.f0 n.f1).map (·.2),ss⟩:=fun f n ss h hf hs hm=>by
  have hl:=BM f n.f0 n.f1
  refine .mk _ (by show(List.map _ _).length≤_;rw [List.length_map];exact Nat.le_trans hl h.l0) (fun x hx=>?_) (by show(List.map _ _).length≤_;rw [List.length_map];exact Nat.le_trans hl h.l0) (Nat.le_trans hs h.l2) (fun x hx=>h.z2 x (hm x hx)) (fun x hx=>?_)
  ·obtain⟨y,hy,rfl⟩:=List.mem_map.1 hx
   obtain⟨k,h1,_⟩:=BO.1 hy
   exact h.z0 _ (List.of_mem_zip h1).1
  ·obtain⟨y,hy,rfl⟩:=List.mem_map.1 hx
   obtain⟨k,h1,h2,_⟩:=BO.1 hy
   rw [h2]
   exact hf _ k (List.of_mem_zip h1).2
 induction ls with
 | nil=>exact fun c n h=>key _ n _ h (fun _ k hk=>h.kid k hk) (vP c n.f2) (fun s hs=>List.filter_sublist.subset hs)
 | cons t ts ih=>
   intro c n h
   refine key _ n _ h (fun x k hk=>?_) (Nat.le_refl _) (fun s hs=>hs)
   unfold jU
   cases x.toList==t.toList with
   | true=>exact ih c k (h.kid k hk)
   | false=>exact h.kid k hk
def jd (f c:ByteArray) (e:SE):Bool:=(e.f0.toList==f.toList) && (e.f1.toList==c.toList)
theorem OE {E:List SE} {p:SE→Bool} {k:Nat} {d:SE} (h:k<E.length):(E.drop k).any p=(p (E.getD k d) || (E.drop (k+1)).any p):=by
 rw [List.drop_eq_getElem_cons h,List.any_cons,getD_in E k d h]
abbrev YN (n:SN) (b:Bool):RS T.Tb:= .tu [(true,[.ow 9 n.f0, .ow eN n.f1, .ow eS n.f2]),(false,[.sc (.bool b)])]
theorem Ua (n:SN) (f c:ByteArray) (hn:Bd n) (hg:gB n=true→Tr n∧Dp 7 n) (hc:(dR n).length≤4194304) (hf:f.size≤1048576) (hl:(pW f).length≤1048577):aA T Tryz.prog 26 [.ag (T.cells eN n), .c (.sc (.string f)), .c (.sc (.string c))] (YN (bif bJ f && (dR n).any (jd f c) then dA (pW f) c n else n) (bJ f && (dR n).any (jd f c))):=by
 have Ub:=PI n hn hg hc
 have hok:0<(dR n).length→Tr n:=fun h=>(hg (by
  cases hq:gB n with
  | true=>rfl
  | false=>rw [show dR n=[] by unfold dR;rw [hq];rfl] at h;exact absurd h (Nat.lt_irrefl 0))).1
 refine aT hT Tryz.func26 (by kernel_rfl) rfl rfl (fun A=>?_)
 conv=>whnf
 refine aC.mk _ Ub ?_
 conv=>whnf
 generalize dR n=E at hc hok⊢
 generalize hR:(bJ f && E.any (jd f c))=R
 refine fK.mk {k:Nat // k≤E.length∧(bJ f && (E.drop k).any (jd f c))=R} (fun q=>(3,[(13,i64 q.1),(12,i64 E.length),(11, .c (.hd 2)),(6, .c (.px 1 0)),(3, .c (.px 0 0)),(1, .c (.sc (.string f))),(2, .c (.sc (.string c)))],[(2, .row 2 eE E),(1,Qc),(0,rD n)])) (fun q=>E.length - q.1) ⟨0,Nat.zero_le _,hR⟩ (ay [(2,2),(1,1),(0,0)] rfl rfl rfl ⟨⟨rfl,rfl⟩,⟨rfl,rfl⟩,⟨rfl,rfl⟩,⟨rfl,rfl⟩,⟨rfl,rfl⟩,⟨rfl,rfl⟩,⟨rfl,rfl⟩,trivial⟩ ⟨pU rfl,⟨rfl,rfl⟩,⟨rfl,rfl⟩,trivial⟩) ?_
 rintro⟨k,hk,hR⟩
 conv=>whnf
 refine Split.mk (fun c1=>?_) (fun c1=>?_)
 ·have hk2:k<E.length:=jl c1
  clear c1
  rw [OE (d:=T.df eE) hk2] at hR
  conv=>whnf
  refine Need.mk (idx hk2) ?_
  conv=>whnf
  refine aC.mk _ (zQ f (Nat.le_trans hf (by decide))) ?_
  conv=>whnf
  refine Split.mk (fun c1=>?_) (fun c1=>?_)
  ·have g1:bJ f=true:=c1
   rw [g1,Bool.true_and] at hR
   conv=>whnf
   refine Split.mk (fun c2=>?_) (fun c2=>?_)
   ·conv=>whnf
    refine Split.mk (fun c3=>?_) (fun c3=>?_)
    ·have g2:R=true:=by rw [←hR];unfold jd;rw [show((E.getD k (T.df eE)).f0.toList==f.toList)=true from c2,show((E.getD k (T.df eE)).f1.toList==c.toList)=true from c3];rfl
     conv=>whnf
     refine aC.mk _ (xO f (Nat.le_trans hf (by decide))) ?_
     conv=>whnf
     refine aC.mk _ (removed (pW f) c n (Nat.le_trans hl (by decide)) hn (hok (by omega))) ?_
     conv=>whnf
     refine bY.mk ⟨by kernel_rfl,by kernel_rfl⟩ ?_
     conv=>whnf
     exact aG.mk ⟨rfl,rfl⟩ ⟨rfl,rfl⟩ ⟨jo (by rw [g2];rfl),jh (by rw [g2];rfl),iR (by rw [g2];rfl),bv g2,trivial⟩
    ·have g2:jd f c (E.getD k (T.df eE))=false:=by unfold jd;rw [show((E.getD k (T.df eE)).f1.toList==c.toList)=false from c3,Bool.and_false]
     rw [g2,Bool.false_or,←Bool.true_and (List.any _ _),←g1] at hR
     conv=>whnf
     exact bI.mk ⟨⟨k+1,hk2,hR⟩,Nat.sub_lt_sub_left hk2 (Nat.lt_succ_self k),ay [(2,2),(1,1),(0,0)] rfl rfl rfl ⟨⟨rfl,congrArg i64 (eG hk2 (by omega))⟩,⟨rfl,rfl⟩,⟨rfl,rfl⟩,⟨rfl,rfl⟩,⟨rfl,rfl⟩,⟨rfl,rfl⟩,⟨rfl,rfl⟩,trivial⟩ ⟨pU rfl,⟨rfl,rfl⟩,⟨rfl,rfl⟩,trivial⟩⟩
   ·have g2:jd f c (E.getD k (T.df eE))=false:=by unfold jd;rw [show((E.getD k (T.df eE)).f0.toList==f.toList)=false from c2];rfl
    rw [g2,Bool.false_or,←Bool.true_and (List.any _ _),←g1] at hR
    conv=>whnf
    refine Split.mk (fun e=>jI e) (fun _=>?_)
    conv=>whnf
    exact bI.mk ⟨⟨k+1,hk2,hR⟩,Nat.sub_lt_sub_left hk2 (Nat.lt_succ_self k),ay [(2,2),(1,1),(0,0)] rfl rfl rfl ⟨⟨rfl,congrArg i64 (eG hk2 (by omega))⟩,⟨rfl,rfl⟩,⟨rfl,rfl⟩,⟨rfl,rfl⟩,⟨rfl,rfl⟩,⟨rfl,rfl⟩,⟨rfl,rfl⟩,trivial⟩ ⟨pU rfl,⟨rfl,rfl⟩,⟨rfl,rfl⟩,trivial⟩⟩
  ·have g1:bJ f=false:=c1
   replace hR:(bJ f && (E.drop (k+1)).any (jd f c))=R:=by rw [←hR,g1];rfl
   conv=>whnf
   refine Split.mk (fun e=>jI e) (fun _=>?_)
   conv=>whnf
   refine Split.mk (fun e=>jI e) (fun _=>?_)
   conv=>whnf
   exact bI.mk ⟨⟨k+1,hk2,hR⟩,Nat.sub_lt_sub_left hk2 (Nat.lt_succ_self k),ay [(2,2),(1,1),(0,0)] rfl rfl rfl ⟨⟨rfl,congrArg i64 (eG hk2 (by omega))⟩,⟨rfl,rfl⟩,⟨rfl,rfl⟩,⟨rfl,rfl⟩,⟨rfl,rfl⟩,⟨rfl,rfl⟩,⟨rfl,rfl⟩,trivial⟩ ⟨pU rfl,⟨rfl,rfl⟩,⟨rfl,rfl⟩,trivial⟩⟩
 ·have hk2:k=E.length:=Nat.le_antisymm hk (jm c1)
  clear c1
  have g2:R=false:=by rw [←hR,hk2,List.drop_length];simp
  conv=>whnf
  refine aC.mk _ (xQ n hn) ?_
  conv=>whnf
  exact aG.mk ⟨rfl,rfl⟩ ⟨rfl,rfl⟩ ⟨jo (by rw [g2];rfl),jh (by rw [g2];rfl),iR (by rw [g2];rfl),bv g2,trivial⟩
end Go.Proofs.YtcnfgfomholheaaGreatDoor.Q
end
section
namespace Go.Proofs.YtcnfgfomholheaaGreatDoor.Q
open Go.RowKit Go.Proofs.YtcnfgfomholheaaGreatDoor.Z Go.Proofs.YtcnfgfomholheaaGreatDoor.Pure
set_option linter.unusedVariables false
set_option linter.unusedSimpArgs false
set_option maxRecDepth 100000
set_option maxHeartbeats 4000000
theorem E5 (n:SN) (p:List ByteArray) (hn:Bd n) (hl:n.f0.length=n.f1.length) (hp:p.length≤7) (hz:∀x∈p,x.size≤1048576) (hc:(iy p n).length≤4194304)
  (ih:∀i,i<n.f1.length→aA T Tryz.prog 178 [.ag (T.cells eN (bn T eN n.f1 i)), .c (.sc (.string (cZ (p++[g9 n.f0 i])))), .c (.sc (.int .i64 ((p.length+1:Nat):Int)))] (.c (.ow eE (iy (p++[g9 n.f0 i]) (bn T eN n.f1 i))))):aA T Tryz.prog 178 [.ag (T.cells eN n), .c (.sc (.string (cZ p))), .c (.sc (.int .i64 (p.length:Int)))] (.c (.ow eE (iy p n))):=by
 have hl2:=hn.l2
 have hjs:=qE p hp hz
 rw [EZ] at hc⊢
 rw [List.length_append,List.length_map] at hc
 refine jZ hT Tryz.func178 (by kernel_rfl) rfl rfl (fun A=>?_)
 refine Vc.of 0 hT ?_
 conv=>whnf
 refine fK.mk {k:Nat // k≤n.f2.length} (fun q=>(2,[(8,i64 q.1),(7, .c (.hd 1)),(3, .c (.px 0 0)),(1, .c (.sc (.string (cZ p)))),(2,i64 p.length)],[(1, .row 1 eE ((n.f2.take q.1).map (nN p))),(0,rD n)])) (fun q=>n.f2.length - q.1) ⟨0,Nat.zero_le _⟩ (ay [(1,1),(0,0)] rfl rfl rfl ⟨⟨rfl,rfl⟩,⟨rfl,rfl⟩,⟨rfl,rfl⟩,⟨rfl,rfl⟩,⟨rfl,rfl⟩,trivial⟩ ⟨pU rfl,⟨rfl,rfl⟩,trivial⟩) ?_
 rintro⟨k,hk⟩
 conv=>whnf
 refine Split.mk (fun c=>?_) (fun c=>?_)
 ·have hk2:k<n.f2.length:=jl c
  clear c
  conv=>whnf
  refine Need.mk (idx hk2) ?_
  conv=>whnf
  refine Need.mk (idx hk2) ?_
  conv=>whnf
  refine Need.mk (idx hk2) ?_
  conv=>whnf
  refine Need.mk (bW (a:=((n.f2.take k).map (nN p)).length) (b:=1) (by rw [List.length_map,List.length_take];omega) (by decide)) ?_
  conv=>whnf
  refine bY.mk ⟨by kernel_rfl,by kernel_rfl⟩ ?_
  conv=>whnf
  exact bI.mk ⟨⟨k+1,hk2⟩,Nat.sub_lt_sub_left hk2 (Nat.lt_succ_self k),ay [(1,3),(0,0)] rfl rfl rfl ⟨⟨rfl,congrArg i64 (eG hk2 (by omega))⟩,⟨rfl,rfl⟩,⟨rfl,rfl⟩,⟨rfl,rfl⟩,⟨rfl,rfl⟩,trivial⟩ ⟨pU (zo (d:=T.df eS) hk2),⟨rfl,rfl⟩,trivial⟩⟩
 ·have hk2:k=n.f2.length:=Nat.le_antisymm hk (jm c)
  clear c
  subst hk2
  have hl1:=hn.l1
  conv=>whnf
  refine fK.mk {k:Nat // k≤n.f0.length} (fun q=>(2,[(9,i64 q.1),(7, .c (.hd 1)),(3, .c (.px 0 0)),(1, .c (.sc (.string (cZ p)))),(2,i64 p.length)],[(1, .row 1 eE (n.f2.map (nN p)++dY p (n.f0.take q.1) (n.f1.take q.1))),(0,rD n)])) (fun q=>n.f0.length - q.1) ⟨0,Nat.zero_le _⟩ (ay [(1,1),(0,0)] rfl rfl rfl ⟨⟨rfl,rfl⟩,⟨rfl,rfl⟩,⟨rfl,rfl⟩,⟨rfl,rfl⟩,⟨rfl,rfl⟩,trivial⟩ ⟨pU (by rw [List.take_length];simp [dY];rfl),⟨rfl,rfl⟩,trivial⟩) ?_
  rintro⟨k,hk⟩
  conv=>whnf
  refine Split.mk (fun c=>?_) (fun c=>?_)
  ·have hk3:k<n.f0.length:=jl c
   have hk2:k<n.f1.length:=by omega
   clear c
   have ihk:=ih k hk2
   rw [show(((p.length+1:Nat)):Int)=wrap64 ((p.length:Int)+1) from d1_ (by omega)] at ihk
   have hsn:=rZ (p:=p) (d:=T.df 9) (e:=T.df eN) hk3 hk2
   have hle:=oh (p:=p) (ns:=n.f0) (ks:=n.f1) (k:=k+1)
   rw [hsn,List.length_append] at hle
   have hap:(n.f2.map (nN p)++dY p (n.f0.take k) (n.f1.take k)).length+(iy (p++[g9 n.f0 k]) (bn T eN n.f1 k)).length≤8388608:=by
    rw [List.length_append,List.length_map]
    have hle':_+(iy (p++[g9 n.f0 k]) (bn T eN n.f1 k)).length≤_:=hle
    omega
   have hx:(g9 n.f0 k).size≤1048576:=hn.z0 _ (OD hk3)
   conv=>whnf
   refine Need.mk (idx hk3) ?_
   conv=>whnf
   refine Split.mk (fun c=>?_) (fun c=>?_)
   ·have h1:0<p.length:=je c
    have e:(cZ p++(⟨#[47]⟩:ByteArray))++g9 n.f0 k=cZ (p++[g9 n.f0 k]):=(if_pos h1).symm.trans (zM p p.length rfl _)
    rw [←e] at ihk
    have hs1:(cZ p++(⟨#[47]⟩:ByteArray)).size=(cZ p).size+1:=qB _ _
    conv=>whnf
    refine Need.mk (show(cZ p).size+1≤9223372036854775807 by omega) ?_
    conv=>whnf
    refine Need.mk (show(cZ p++(⟨#[47]⟩:ByteArray)).size+(g9 n.f0 k).size≤9223372036854775807 by omega) ?_
    conv=>whnf
    refine Need.mk (idx hk2) ?_
    conv=>whnf
    refine aC.mk _ ihk ?_
    conv=>whnf
    refine Need.mk (bW (a:=(n.f2.map (nN p)++dY p (n.f0.take k) (n.f1.take k)).length) (b:=(iy (p++[g9 n.f0 k]) (bn T eN n.f1 k)).length) hap (by decide)) ?_
    conv=>whnf
    exact bI.mk ⟨⟨k+1,hk3⟩,Nat.sub_lt_sub_left hk3 (Nat.lt_succ_self k),ay [(1,3),(0,0)] rfl rfl rfl ⟨⟨rfl,congrArg i64 (eG hk3 (by omega))⟩,⟨rfl,rfl⟩,⟨rfl,rfl⟩,⟨rfl,rfl⟩,⟨rfl,rfl⟩,trivial⟩ ⟨pU (show(n.f2.map (nN p)++dY p (n.f0.take k) (n.f1.take k))++iy (p++[g9 n.f0 k]) (bn T eN n.f1 k)=n.f2.map (nN p)++dY p (n.f0.take (k+1)) (n.f1.take (k+1)) by rw [hsn,List.append_assoc];rfl),⟨rfl,rfl⟩,trivial⟩⟩
   ·have h1:p.length=0:=jf c
    have e:g9 n.f0 k=cZ (p++[g9 n.f0 k]):=(if_neg (show ¬0<p.length by omega)).symm.trans (zM p p.length rfl _)
    rw [←e] at ihk
    conv=>whnf
    refine Need.mk (idx hk2) ?_
    conv=>whnf
    refine aC.mk _ ihk ?_
    conv=>whnf
    refine Need.mk (bW (a:=(n.f2.map (nN p)++dY p (n.f0.take k) (n.f1.take k)).length) (b:=(iy (p++[g9 n.f0 k]) (bn T eN n.f1 k)).length) hap (by decide)) ?_
    conv=>whnf
    exact bI.mk ⟨⟨k+1,hk3⟩,Nat.sub_lt_sub_left hk3 (Nat.lt_succ_self k),ay [(1,3),(0,0)] rfl rfl rfl ⟨⟨rfl,congrArg i64 (eG hk3 (by omega))⟩,⟨rfl,rfl⟩,⟨rfl,rfl⟩,⟨rfl,rfl⟩,⟨rfl,rfl⟩,trivial⟩ ⟨pU (show(n.f2.map (nN p)++dY p (n.f0.take k) (n.f1.take k))++iy (p++[g9 n.f0 k]) (bn T eN n.f1 k)=n.f2.map (nN p)++dY p (n.f0.take (k+1)) (n.f1.take (k+1)) by rw [hsn,List.append_assoc];rfl),⟨rfl,rfl⟩,trivial⟩⟩
  ·have hk2:k=n.f0.length:=Nat.le_antisymm hk (jm c)
   clear c
   conv=>whnf
   exact aG.mk ⟨rfl,rfl⟩ ⟨rfl,rfl⟩ ⟨pU (by show n.f2.map (nN p)++dY p (n.f0.take k) (n.f1.take k)=_;rw [hk2,List.take_length,hl,List.take_length]),trivial⟩
theorem zq:∀(n:SN) (p:List ByteArray) (d:Nat),Bd n→Tr n→Dp d n→p.length+d≤7→(∀x∈p,x.size≤1048576)→(iy p n).length≤4194304→aA T Tryz.prog 178 [.ag (T.cells eN n), .c (.sc (.string (cZ p))), .c (.sc (.int .i64 (p.length:Int)))] (.c (.ow eE (iy p n))):=fun n p d hn ht hd hp hz hc=>
 E5 n p hn ht.len (by omega) hz hc (fun i hi=>by
  have hm:bn T eN n.f1 i∈n.f1:=uO hi
  have h9:g9 n.f0 i∈n.f0:=OD (by rw [ht.len];exact hi)
  have hpos:=hd.pos (fun e=>by rw [e] at hi;simp at hi)
  have hx:(bn T eN n.f1 i:SN)∈n.f1:=hm
  have hlen:(p++[g9 n.f0 i]).length=p.length+1:=by rw [List.length_append];rfl
  have:=zq (bn T eN n.f1 i) (p++[g9 n.f0 i]) (d - 1) (hn.kid _ hm) (ht.kid _ hm) (hd.kid _ hm) (by rw [hlen];omega) (fun y hy=>(List.mem_append.1 hy).elim (hz y) (fun h=>by rw [List.mem_singleton.1 h];exact hn.z0 _ h9)) (Nat.le_trans (J8 hi ht.len) hc)
  rw [hlen] at this
  exact this)
termination_by n=>SizeOf.sizeOf n
decreasing_by exact lM hm
theorem specEntries (n:SN) (hn:Bd n) (hg:gB n=true→Tr n∧Dp 7 n) (hc:(dR n).length≤4194304):aA T Tryz.prog 107 [.ag (T.cells eN n)] (.c (.ow eE (dR n))):=by
 refine aT hT Tryz.func107 (by kernel_rfl) rfl rfl (fun A=>?_)
 conv=>whnf
 refine aC.mk _ (FT n hn) ?_
 conv=>whnf
 refine Split.mk (fun c=>?_) (fun c=>?_)
 ·have h0:gB n=false:=dP c
  conv=>whnf
  exact aG.mk ⟨rfl,rfl⟩ ⟨rfl,rfl⟩ ⟨pU (show []=dR n by unfold dR;rw [h0];rfl),trivial⟩
 ·have h0:gB n=true:=dX c
  have he:dR n=iy [] n:=by unfold dR;rw [if_pos h0]
  rw [he] at hc⊢
  conv=>whnf
  refine aC.mk _ (zq n [] 7 hn (hg h0).1 (hg h0).2 (by decide) (fun x hx=>by cases hx) hc) ?_
  conv=>whnf
  exact aG.mk ⟨rfl,rfl⟩ ⟨rfl,rfl⟩ ⟨rfl,trivial⟩
theorem Uc (n:SN) (f c:ByteArray) (hn:Bd n) (hg:gB n=true→Tr n∧Dp 7 n) (hc:(dR n).length≤4194304) (hf:f.size≤1048576):aA T Tryz.prog 25 [.ag (T.cells eN n), .c (.sc (.string f)), .c (.sc (.string c))] (YN (bif gB n && (bJ f && (dR n).any (jd f c)) then jG c (pW f) n else n) (gB n && (bJ f && (dR n).any (jd f c)))):=by
 have Ub:=specEntries n hn hg hc
 generalize hR:(gB n && (bJ f && (dR n).any (jd f c)))=R
 refine aT hT Tryz.func25 (by kernel_rfl) rfl rfl (fun A=>?_)
 conv=>whnf
 refine aC.mk _ (FT n hn) ?_
 conv=>whnf
 refine Split.mk (fun c1=>?_) (fun c1=>?_)
 ·have h0:gB n=false:=dP c1
  have g2:R=false:=by rw [←hR,h0];rfl
  conv=>whnf
  refine Split.mk (fun _=>?_) (fun e=>jC e)
  conv=>whnf
  refine aC.mk _ (uP n hn) ?_
  conv=>whnf
  exact aG.mk ⟨rfl,rfl⟩ ⟨rfl,rfl⟩ ⟨jo (by rw [g2];rfl),jh (by rw [g2];rfl),iR (by rw [g2];rfl),bv g2,trivial⟩
 have h0:gB n=true:=dX c1
 rw [h0,Bool.true_and] at hR
 conv=>whnf
 refine aC.mk _ (sW f (Nat.le_trans hf (by decide))) ?_
 conv=>whnf
 refine Split.mk (fun c1=>?_) (fun c1=>?_)
 ·have h1:bJ f=false:=dP c1
  have g2:R=false:=by rw [←hR,h1];rfl
  conv=>whnf
  refine aC.mk _ (uP n hn) ?_
  conv=>whnf
  exact aG.mk ⟨rfl,rfl⟩ ⟨rfl,rfl⟩ ⟨jo (by rw [g2];rfl),jh (by rw [g2];rfl),iR (by rw [g2];rfl),bv g2,trivial⟩
 have h1:bJ f=true:=dX c1
 rw [h1,Bool.true_and] at hR
 conv=>whnf
 refine aC.mk _ Ub ?_
 conv=>whnf
 generalize dR n=E at hc hR⊢
 refine fK.mk {k:Nat // k≤E.length∧(E.drop k).any (jd f c)=R} (fun q=>(3,[(9,i64 q.1),(8, .c (.hd 2)),(6, .c (.px 1 0)),(3, .c (.px 0 0)),(1, .c (.sc (.string f))),(2, .c (.sc (.string c)))],[(2, .row 2 eE E),(1,Qc),(0,rD n)])) (fun q=>E.length - q.1) ⟨0,Nat.zero_le _,hR⟩ (ay [(2,4),(1,1),(0,0)] rfl rfl rfl ⟨⟨rfl,rfl⟩,⟨rfl,rfl⟩,⟨rfl,rfl⟩,⟨rfl,rfl⟩,⟨rfl,rfl⟩,⟨rfl,rfl⟩,trivial⟩ ⟨pU rfl,⟨rfl,rfl⟩,⟨rfl,rfl⟩,trivial⟩) ?_
 rintro⟨k,hk,hR⟩
 conv=>whnf
 refine Split.mk (fun c1=>?_) (fun c1=>?_)
 ·have hk2:k<E.length:=jl c1
  clear c1
  rw [OE (d:=T.df eE) hk2] at hR
  conv=>whnf
  refine Need.mk (idx hk2) ?_
  conv=>whnf
  refine Split.mk (fun c2=>?_) (fun c2=>?_)
  ·conv=>whnf
   refine Need.mk (idx hk2) ?_
   conv=>whnf
   refine Split.mk (fun c3=>?_) (fun c3=>?_)
   ·have g2:R=true:=by rw [←hR];unfold jd;rw [show((E.getD k (T.df eE)).f0.toList==f.toList)=true from c2,show((E.getD k (T.df eE)).f1.toList==c.toList)=true from c3];rfl
    conv=>whnf
    refine aC.mk _ (Rw f (Nat.le_trans hf (by decide))) ?_
    conv=>whnf
    refine aC.mk _ (Ko (pW f) c n hn (hg h0).1) ?_
    conv=>whnf
    refine bY.mk ⟨by kernel_rfl,by kernel_rfl⟩ ?_
    conv=>whnf
    refine aC.mk _ (uP (jG c (pW f) n) (ZF _ c n hn)) ?_
    conv=>whnf
    exact aG.mk ⟨rfl,rfl⟩ ⟨rfl,rfl⟩ ⟨jo (by rw [g2];rfl),jh (by rw [g2];rfl),iR (by rw [g2];rfl),bv g2,trivial⟩
   ·have g2:jd f c (E.getD k (T.df eE))=false:=by unfold jd;rw [show((E.getD k (T.df eE)).f1.toList==c.toList)=false from c3,Bool.and_false]
    rw [g2,Bool.false_or] at hR
    conv=>whnf
    exact bI.mk ⟨⟨k+1,hk2,hR⟩,Nat.sub_lt_sub_left hk2 (Nat.lt_succ_self k),ay [(2,2),(1,1),(0,0)] rfl rfl rfl ⟨⟨rfl,congrArg i64 (eG hk2 (by omega))⟩,⟨rfl,rfl⟩,⟨rfl,rfl⟩,⟨rfl,rfl⟩,⟨rfl,rfl⟩,⟨rfl,rfl⟩,trivial⟩ ⟨pU rfl,⟨rfl,rfl⟩,⟨rfl,rfl⟩,trivial⟩⟩
  ·have g2:jd f c (E.getD k (T.df eE))=false:=by unfold jd;rw [show((E.getD k (T.df eE)).f0.toList==f.toList)=false from c2];rfl
   rw [g2,Bool.false_or] at hR
   conv=>whnf
   refine Split.mk (fun e=>jI e) (fun _=>?_)
   conv=>whnf
   exact bI.mk ⟨⟨k+1,hk2,hR⟩,Nat.sub_lt_sub_left hk2 (Nat.lt_succ_self k),ay [(2,2),(1,1),(0,0)] rfl rfl rfl ⟨⟨rfl,congrArg i64 (eG hk2 (by omega))⟩,⟨rfl,rfl⟩,⟨rfl,rfl⟩,⟨rfl,rfl⟩,⟨rfl,rfl⟩,⟨rfl,rfl⟩,trivial⟩ ⟨pU rfl,⟨rfl,rfl⟩,⟨rfl,rfl⟩,trivial⟩⟩
 ·have hk2:k=E.length:=Nat.le_antisymm hk (jm c1)
  clear c1
  have g2:R=false:=by rw [←hR,hk2,List.drop_length];rfl
  conv=>whnf
  refine aC.mk _ (uP n hn) ?_
  conv=>whnf
  exact aG.mk ⟨rfl,rfl⟩ ⟨rfl,rfl⟩ ⟨jo (by rw [g2];rfl),jh (by rw [g2];rfl),iR (by rw [g2];rfl),bv g2,trivial⟩
end Go.Proofs.YtcnfgfomholheaaGreatDoor.Q
end
section
namespace Go.Proofs.YtcnfgfomholheaaGreatDoor.Q
open Go.RowKit Go.Proofs.YtcnfgfomholheaaGreatDoor.Z Go.Proofs.YtcnfgfomholheaaGreatDoor.Pure
set_option linter.unusedVariables false
set_option linter.unusedSimpArgs false
def kZ (n:SN):List (ByteArray × SN):=n.f0.zip n.f1
abbrev QJ (a b:ByteArray):Prop:=Op.bytesLess a.toList b.toList=true
theorem QK {a:ByteArray} (h:QJ a a):False:=by unfold QJ at h;rw [D7] at h;cases h
theorem sO {n:SN} (h:Tr n):(kZ n).map (·.1)=n.f0:=by unfold kZ;exact List.map_fst_zip (by rw [h.len];exact Nat.le_refl _)
theorem xB {n:SN} (h:Tr n):(kZ n).map (·.2)=n.f1:=by unfold kZ;exact List.map_snd_zip (by rw [h.len];exact Nat.le_refl _)
theorem X7 {n:SN} (h:Tr n):(kZ n).Pairwise (fun a b=>QJ a.1 b.1):=by
 have:=h.rise
 rw [←sO h] at this
 exact List.pairwise_map.1 this
theorem QL {n:SN} {x:ByteArray × SN} (h:x∈kZ n):x.2∈n.f1:=(List.of_mem_zip (a:=x.1) (b:=x.2) h).2
theorem pos_at {l:List ByteArray} {t:ByteArray} {i:Nat} (hr:l.Pairwise QJ) (h:l[i]? =some t):dI t l=i∧kF t l=true:=by
 obtain⟨hi,rfl⟩:=List.getElem?_eq_some_iff.1 h
 have h1:=(TV (p:=vS l[i]) (d:=T.df 9) (l:=l) (i:=i) (Nat.le_of_lt hi) (fun j hj=>by
  have e:l.getD j (T.df 9)=l[j]:=getD_in l j (T.df 9) (by omega)
  rw [e]
  exact List.pairwise_iff_getElem.1 hr j i (by omega) hi hj) (.inr (by
  have e:l.getD i (T.df 9)=l[i]:=getD_in l i (T.df 9) hi
  rw [e]
  exact D7 _))).1
 have h2:dI l[i] l=i:=by
  unfold dI
  rw [←h1,List.length_take];omega
 refine⟨h2,?_⟩
 unfold kF
 rw [h2,show g9 l i=l[i] from getD_in l i (T.df 9) hi]
 simp [hi]
theorem abp {l:List ByteArray} {t:ByteArray} (h:kF t l=true):l[dI t l]? =some t:=by
 have hp:=uN h
 unfold kF at h
 simp only [Bool.and_eq_true,decide_eq_true_eq] at h
 have h2:=Xw h.2
 rw [show g9 l (dI t l)=l[dI t l] from getD_in l _ (T.df 9) hp] at h2
 rw [List.getElem?_eq_getElem hp,h2]
theorem abq {n:SN} (ht:Tr n) {t:ByteArray} {k:SN} (h:(t,k)∈kZ n):kF t n.f0=true∧gN n.f1 (dI t n.f0)=k:=by
 obtain⟨i,hi,e⟩:=List.mem_iff_getElem.1 h
 have hi':i<n.f0.length∧i<n.f1.length:=by unfold kZ at hi;rw [List.length_zip] at hi;omega
 have e':(n.f0[i],n.f1[i])=(t,k):=by rw [←e];exact(List.getElem_zip (h:=hi)).symm
 cases e'
 obtain⟨h1,h2⟩:=pos_at (i:=i) ht.rise (List.getElem?_eq_getElem hi'.1)
 refine⟨h2,?_⟩
 rw [h1]
 exact getD_in n.f1 i (T.df eN) hi'.2
inductive Gd:SN→Prop
 | mk (n:SN) (ht:Tr n) (hf:∀k∈n.f1,k.f1≠[]∨k.f2≠[]) (hk:∀k∈n.f1,Gd k):Gd n
theorem Gd.tr {n:SN} (h:Gd n):Tr n:=by cases h;assumption
theorem Gd.full {n:SN} (h:Gd n):∀k∈n.f1,k.f1≠[]∨k.f2≠[]:=by cases h;assumption
theorem Gd.kid {n:SN} (h:Gd n):∀k∈n.f1,Gd k:=by cases h;assumption
end Go.Proofs.YtcnfgfomholheaaGreatDoor.Q
end
section
namespace Go.Proofs.YtcnfgfomholheaaGreatDoor.Q
open Go.RowKit Go.Proofs.YtcnfgfomholheaaGreatDoor.Z Go.Proofs.YtcnfgfomholheaaGreatDoor.X Go.Proofs.YtcnfgfomholheaaGreatDoor.Pure
set_option linter.unusedVariables false
set_option linter.unusedSimpArgs false
theorem Kq {p:List ByteArray}:∀{ns:List ByteArray} {y:Option ByteArray} {ks:List SN},ns.length=ks.length→lu p ns y ks=true→ns.Pairwise QJ∧∀x∈ns,l9 y x=true
 | [],y,ks,_,_=>⟨.nil,fun x hx=>by cases hx⟩
 | x::r,y,[],h,_=>by simp at h
 | x::r,y,k::q,h,ho=>by
   obtain⟨h1,_,_,_,h5⟩:=qR.1 ho
   obtain⟨a,b⟩:=Kq (by simpa using h) h5
   refine⟨List.pairwise_cons.2 ⟨fun z hz=>b z hz,a⟩,fun z hz=>?_⟩
   rcases List.mem_cons.1 hz with rfl | hz
   ·exact h1
   ·cases y with
    | none=>rfl
    | some y=>exact yS _ _ _ h1 (b z hz)
theorem QM {p:List ByteArray}:∀{ns:List ByteArray} {y:Option ByteArray} {ks:List SN},lu p ns y ks=true→∀x k,(x,k)∈ns.zip ks→Il x k=true∧(k.f1.length≠0∨k.f2.length≠0)∧okI (p++[x]) k=true
 | [],y,ks,_,x,k,h=>by simp at h
 | x::r,y,[],_,x',k',h=>by simp at h
 | x::r,y,k::q,ho,x',k',h=>by
   obtain⟨_,h2,h3,h4,h5⟩:=qR.1 ho
   rw [List.zip_cons_cons] at h
   rcases List.mem_cons.1 h with h | h
   ·cases h;exact⟨h2,h3,h4⟩
   ·exact QM h5 x' k' h
theorem ZG {n:SN} (hl:n.f0.length=n.f1.length) {k:SN} (hk:k∈n.f1):∃x,(x,k)∈kZ n:=by
 have:k∈(kZ n).map (·.2):=by unfold kZ;rw [List.map_snd_zip (by omega)];exact hk
 obtain⟨⟨x,k'⟩,h,rfl⟩:=List.mem_map.1 this
 exact⟨x,h⟩
theorem Ud:∀(n:SN) (p:List ByteArray),okI p n=true→Gd n∧Dp (7 - p.length) n:=fun n p h=>by
 obtain⟨h1,h2,h3,h4,h5⟩:=qQ.1 h
 have hk:∀k∈n.f1,(Gd k∧Dp (7 - (p.length+1)) k)∧(k.f1≠[]∨k.f2≠[])∧p.length+1≤6:=fun k hk=>by
  obtain⟨x,hx⟩:=ZG h1 hk
  obtain⟨_,a2,a3⟩:=QM h5 x k hx
  have:=Ud k (p++[x]) a3
  have h7:=(qQ.1 a3).2.1
  rw [List.length_append] at this h7
  refine⟨this,a2.imp (fun h e=>h (by rw [e];rfl)) (fun h e=>h (by rw [e];rfl)),h7⟩
 refine⟨.mk n (.mk n h1 (Kq h1 h5).1 (fun k h=>(hk k h).1.1.tr)) (fun k h=>(hk k h).2.1) (fun k h=>(hk k h).1.1), .mk _ n (fun hne=>?_) (fun k h=>?_)⟩
 ·obtain⟨k,h⟩:=List.exists_mem_of_ne_nil _ hne
  have:=(hk k h).2.2
  omega
 ·have:=(hk k h).1.2
  rw [show 7 - p.length - 1=7 - (p.length+1) by omega]
  exact this
termination_by n=>SizeOf.sizeOf n
decreasing_by exact lM hk
theorem Kr {n:SN} (h:gB n=true):okI [] n=true∧n.f2=[]:=by
 unfold gB at h
 simp only [Bool.and_eq_true,decide_eq_true_eq] at h
 exact⟨h.2,List.length_eq_zero_iff.1 h.1⟩
theorem yT {n:SN} (h:gB n=true):Tr n∧Dp 7 n:=by
 have:=Ud n [] (Kr h).1
 exact⟨this.1.tr,this.2⟩
end Go.Proofs.YtcnfgfomholheaaGreatDoor.Q
end
section
namespace Go.Proofs.YtcnfgfomholheaaGreatDoor.Q
open Go.RowKit Go.Proofs.YtcnfgfomholheaaGreatDoor.Z Go.Proofs.YtcnfgfomholheaaGreatDoor.X Go.Proofs.YtcnfgfomholheaaGreatDoor.Pure
set_option linter.unusedVariables false
set_option linter.unusedSimpArgs false
theorem WC {n:SN} (ht:Tr n) {i:Nat} (hi:i<n.f1.length) (K:SN):∃A B t k,kZ n=A++(t,k)::B∧n.f0[i]? =some t∧n.f1[i]? =some k∧kZ ⟨n.f0.take i++n.f0.drop (i+1),n.f1.take i++n.f1.drop (i+1),n.f2⟩=A++B∧kZ ⟨n.f0,n.f1.set i K,n.f2⟩=A++(t,K)::B:=by
 have hi0:i<n.f0.length:=by rw [ht.len];exact hi
 have hl:(n.f0.take i).length=(n.f1.take i).length:=by rw [List.length_take,List.length_take,ht.len]
 have e0:n.f0=n.f0.take i++n.f0[i]::n.f0.drop (i+1):=by rw [←List.drop_eq_getElem_cons hi0,List.take_append_drop]
 have e1:n.f1=n.f1.take i++n.f1[i]::n.f1.drop (i+1):=by rw [←List.drop_eq_getElem_cons hi,List.take_append_drop]
 refine⟨(n.f0.take i).zip (n.f1.take i),(n.f0.drop (i+1)).zip (n.f1.drop (i+1)),n.f0[i],n.f1[i],?_,List.getElem?_eq_getElem hi0,List.getElem?_eq_getElem hi,?_,?_⟩
 ·unfold kZ
  rw [←List.zip_cons_cons,←List.zip_append hl,←e0,←e1]
 ·unfold kZ
  exact List.zip_append hl
 ·unfold kZ
  rw [←List.zip_cons_cons,←List.zip_append hl,←e0]
  congr 1
  rw [List.set_eq_take_append_cons_drop,if_pos hi]
theorem WE {A B:List (ByteArray × SN)} {t:ByteArray} {k:SN} (h:(A++(t,k)::B).Pairwise (fun a b=>QJ a.1 b.1)):∀x,x∈A++B→x.1≠t:=fun x hx e=>by
 obtain⟨_,h1,h2⟩:=List.pairwise_append.1 h
 rcases List.mem_append.1 hx with hx | hx
 ·have:=h2 x hx (t,k) List.mem_cons_self
  rw [e] at this
  exact QK this
 ·have:=(List.pairwise_cons.1 h1).1 x hx
  rw [e] at this
  exact QK this
theorem OG (t:ByteArray) (ts:List ByteArray) (c:ByteArray) (n:SN) (ht:Tr n) (hf:kF t n.f0=true):∃A B k,kZ n=A++(t,k)::B∧k∈n.f1∧(((dA ts c k).f1.length=0∧(dA ts c k).f2.length=0)∧kZ (dA (t::ts) c n)=A++B∨((dA ts c k).f1≠[]∨(dA ts c k).f2≠[])∧kZ (dA (t::ts) c n)=A++(t,dA ts c k)::B)∧(dA (t::ts) c n).f2=n.f2:=by
 have hp:dI t n.f0<n.f1.length:=by rw [←ht.len];exact uN hf
 obtain⟨A,B,t',k,h1,h2,h3,h4,h5⟩:=WC ht hp (dA ts c (gN n.f1 (dI t n.f0)))
 have e1:t'=t:=Option.some.inj (h2.symm.trans (abp hf))
 subst e1
 have e2:gN n.f1 (dI t' n.f0)=k:=by
  obtain⟨_,e⟩:=List.getElem?_eq_some_iff.1 h3
  rw [←e]
  exact getD_in n.f1 _ (T.df eN) hp
 rw [e2] at h5
 have hkm:k∈n.f1:=List.mem_of_getElem? h3
 have hR:dA (t'::ts) c n=bif (dA ts c k).f1.length==0 && (dA ts c k).f2.length==0 then ⟨n.f0.take (dI t' n.f0)++n.f0.drop (dI t' n.f0+1),n.f1.take (dI t' n.f0)++n.f1.drop (dI t' n.f0+1),n.f2⟩ else ⟨n.f0,n.f1.set (dI t' n.f0) (dA ts c k),n.f2⟩:=by
  rw [dA,hf]
  have e3:bn T eN n.f1 (dI t' n.f0)=k:=e2
  rw [e3]
  rfl
 refine⟨A,B,k,h1,hkm,?_,?_⟩
 ·rw [hR]
  by_cases hz:(dA ts c k).f1.length=0∧(dA ts c k).f2.length=0
  ·refine .inl ⟨hz,?_⟩
   simp only [hz.1,hz.2,beq_self_eq_true,Bool.and_self,cond_true]
   exact h4
  ·refine .inr ⟨?_,?_⟩
   ·by_cases h6:(dA ts c k).f1.length=0
    ·exact .inr (fun e=>hz ⟨h6,by rw [e];rfl⟩)
    ·exact .inl (fun e=>h6 (by rw [e];rfl))
   ·have:((dA ts c k).f1.length==0 && (dA ts c k).f2.length==0)=false:=by
     rw [Bool.and_eq_false_iff,beq_eq_false_iff_ne,beq_eq_false_iff_ne]
     by_cases h6:(dA ts c k).f1.length=0
     ·exact .inr (fun h7=>hz ⟨h6,h7⟩)
     ·exact .inl h6
    rw [this]
    exact h5
 ·rw [hR]
  cases (dA ts c k).f1.length==0 && (dA ts c k).f2.length==0<;>rfl
theorem OH (t:ByteArray) (ts:List ByteArray) (c:ByteArray) (n:SN) (hf:kF t n.f0=false):dA (t::ts) c n=n:=by rw [dA,hf];exact zI n
end Go.Proofs.YtcnfgfomholheaaGreatDoor.Q
end
section
namespace Go.Proofs.YtcnfgfomholheaaGreatDoor.Q
open Go.RowKit Go.Proofs.YtcnfgfomholheaaGreatDoor.Z Go.Proofs.YtcnfgfomholheaaGreatDoor.X Go.Proofs.YtcnfgfomholheaaGreatDoor.Pure
set_option linter.unusedVariables false
set_option linter.unusedSimpArgs false
theorem OI:∀(l:List SS) (k:Nat),(bC dM l k).2=k+3*l.length
 | [],k=>rfl
 | p::l,k=>by
   show(bC dM l (k+3)).2=_
   rw [OI l (k+3),List.length_cons];omega
mutual
theorem Jk:∀(n:SN) (k:Nat),(bD n k).2≤k+3*cnt n
 | ⟨a,b,c⟩,k=>by
   rw [bD,cnt]
   show(bC dM c (qc b (k+1*a.length)).2).2≤_
   rw [OI]
   have:=OJ b (k+1*a.length)
   omega
theorem OJ:∀(l:List SN) (k:Nat),(qc l k).2≤k+3*kP l
 | [],k=>by rw [qc,kP];exact Nat.le_refl _
 | p::l,k=>by
   rw [qc,kP]
   show(qc l (bD p k).2).2≤_
   have h1:=Jk p k
   have h2:=OJ l (bD p k).2
   omega
end
theorem xC {n:Nat} {x:Int} (h:0≤fD n x):fD n x+n≤x:=by unfold fD at*;split at h<;>(try split)<;>omega
def sumF {α:Type} (g:α→Nat):List α→Nat
 | []=>0
 | a::l=>g a+sumF g l
theorem QN {α:Type} {F:α→Int→Int} {g:α→Nat}:∀{l:List α} {x:Int},(∀a∈l,∀x,0≤x→0≤F a x→F a x+g a≤x)→0≤x→0≤iQ F l x→iQ F l x+sumF g l≤x
 | [],x,_,_,_=>by show x+((0:Nat):Int)≤x;omega
 | a::l,x,hF,h0,h=>by
   obtain⟨h1,h2⟩:=pG h
   have e:iQ F (a::l) x=iQ F l (F a x):=CY h1
   have h3:=hF a List.mem_cons_self x h0 h1
   have h4:=QN (g:=g) (l:=l) (fun b hb=>hF b (List.mem_cons_of_mem _ hb)) h1 h2
   rw [e]
   show _+((g a+sumF g l:Nat):Int)≤x
   omega
theorem Dw {α:Type} {F:α→Int→Int}:∀{l:List α} {x:Int},(∀a∈l,∀x,0≤x→F a x≤x)→0≤x→0≤iQ F l x→∀a∈l,∃v,0≤v∧v≤x∧0≤F a v
 | [],x,_,_,_,a,ha=>by cases ha
 | b::l,x,hF,h0,h,a,ha=>by
   obtain⟨h1,h2⟩:=pG h
   rcases List.mem_cons.1 ha with rfl | ha
   ·exact⟨x,h0,Int.le_refl _,h1⟩
   ·have h3:=hF b List.mem_cons_self x h0
    obtain⟨v,v1,v2,v3⟩:=Dw (l:=l) (fun b hb=>hF b (List.mem_cons_of_mem _ hb)) h1 h2 a ha
    exact⟨v,v1,by omega,v3⟩
theorem QO:∀l:List LN,sumF (fun a=>cnt (tN a)) l=kP (l.map tN)
 | []=>by rw [List.map_nil,kP];rfl
 | a::l=>by rw [List.map_cons,kP,←QO l];rfl
theorem QS {l:List ByteArray} {x:Int} (h0:0≤x) (h:0≤DI l x):DI l x+l.length≤x:=by
 obtain⟨h1,h2⟩:=pG h
 have e:DI l x=_:=CY h1
 have h3:=xC h1
 have h4:=qN (F:=fun y:ByteArray=>fD y.size) (l:=l) (fun a _ x hx=>jX hx) h1
 rw [e];omega
theorem QT {l:List LS} {x:Int} (h0:0≤x) (h:0≤y7 l x):y7 l x+l.length≤x:=by
 obtain⟨h1,h2⟩:=pG h
 have e:y7 l x=_:=CY h1
 have h3:=xC h1
 have h4:=qN (F:=fun y:LS=>fD y.f0.size) (l:=l) (fun a _ x hx=>jX hx) h1
 rw [e];omega
theorem Kt {a:LN} {x:Int} (h0:0≤x) (h:0≤mQ a x):∃x1 x2 x3:Int,DI a.f0 x=x1∧0≤x1∧x1≤x∧fD a.f1.length x1=x2∧0≤x2∧x2≤x1∧iQ mQ a.f1 x2=x3∧0≤x3∧x3≤x2∧0≤y7 a.f2 x3∧mQ a x=y7 a.f2 x3:=by
 rw [LY] at h⊢
 obtain⟨h1,h2⟩:=pG h
 obtain⟨h3,h4⟩:=pG h2
 obtain⟨h5,h6⟩:=pG h3
 have e1:=CY (K:=fun x=>thenS (thenS (fD a.f1.length x) (iQ mQ a.f1)) fun x=>y7 a.f2 x) h1
 have e2:=CY (K:=fun x=>y7 a.f2 x) h3
 have e3:=CY (K:=iQ mQ a.f1) h5
 refine⟨_,_,_,rfl,h1,LW h0,rfl,h5,jX h1,rfl,h6,qN (fun b _ y hy=>zJ b hy) h5,?_,?_⟩
 ·rw [←e3];exact h4
 ·rw [e1,e2,e3]
theorem QU:∀(a:LN) (x:Int),0≤x→0≤mQ a x→mQ a x+cnt (tN a)≤x:=fun a x h0 h=>by
 obtain⟨x1,x2,x3,e1,a1,b1,e2,a2,b2,e3,a3,b3,h4,e⟩:=Kt h0 h
 have g1:=QS h0 (by rw [e1];exact a1)
 have g2:=QN (F:=mQ) (g:=fun a=>cnt (tN a)) (l:=a.f1) (fun k hk y hy hz=>QU k y hy hz) a2 (by rw [e3];exact a3)
 have g3:=QT a3 h4
 rw [e1] at g1
 rw [e3,QO] at g2
 rw [e,Rh,zL]
 show _+(((a.f0.length+(a.f2.map tS).length+kP (a.f1.map tN):Nat)):Int)≤x
 rw [List.length_map]
 omega
termination_by a=>SizeOf.sizeOf a
decreasing_by exact wM hk
theorem WG:∀(a:LN) (x:Int),0≤x→x≤1048576→0≤mQ a x→Bd (tN a)∧UH a:=fun a x h0 hx h=>by
 obtain⟨x1,x2,x3,e1,a1,b1,e2,a2,b2,e3,a3,b3,h4,e⟩:=Kt h0 h
 have h1:0≤DI a.f0 x:=by rw [e1];exact a1
 have g1:=QS h0 h1
 have g3:=QT a3 h4
 have g2:=xC (n:=a.f1.length) (x:=x1) (by rw [e2];exact a2)
 rw [e1] at g1
 rw [e2] at g2
 have z0:∀y∈a.f0,y.size≤1048576:=fun y hy=>by
  obtain⟨q1,q2⟩:=pG h1
  obtain⟨v,v1,v2,v3⟩:=Dw (F:=fun y:ByteArray=>fD y.size) (fun a _ x hx=>jX hx) q1 q2 y hy
  have:=xC v3
  have:=jX (n:=a.f0.length) h0
  omega
 have z2:∀y∈a.f2,y.f0.size≤1048576:=fun y hy=>by
  obtain⟨q1,q2⟩:=pG h4
  obtain⟨v,v1,v2,v3⟩:=Dw (F:=fun y:LS=>fD y.f0.size) (fun a _ x hx=>jX hx) q1 q2 y hy
  have:=xC v3
  have:=jX (n:=a.f2.length) a3
  omega
 have hk:∀k∈a.f1,Bd (tN k)∧UH k:=fun k hk=>by
  obtain⟨v,v1,v2,v3⟩:=Dw (F:=mQ) (fun b _ y hy=>zJ b hy) a2 (by rw [e3];exact a3) k hk
  exact WG k v v1 (by omega) v3
 refine⟨?_, .mk a (by omega) (by omega) (by omega) (fun k h=>(hk k h).2)⟩
 rw [Rh]
 refine .mk _ (by show a.f0.length≤_;omega) z0 (by show(a.f1.map tN).length≤_;rw [List.length_map];omega) (by show(a.f2.map tS).length≤_;rw [List.length_map];omega) (fun y hy=>?_) (fun y hy=>?_)
 ·obtain⟨z,hz,rfl⟩:=List.mem_map.1 hy
  exact z2 z hz
 ·obtain⟨z,hz,rfl⟩:=List.mem_map.1 hy
  exact(hk z hz).1
termination_by a=>SizeOf.sizeOf a
decreasing_by exact wM hk
end Go.Proofs.YtcnfgfomholheaaGreatDoor.Q
end
section
namespace Go.Proofs.YtcnfgfomholheaaGreatDoor.Q
open Go.RowKit Go.Proofs.YtcnfgfomholheaaGreatDoor.Z Go.Proofs.YtcnfgfomholheaaGreatDoor.X Go.Proofs.YtcnfgfomholheaaGreatDoor.Pure
set_option linter.unusedVariables false
set_option linter.unusedSimpArgs false
theorem su (f:ByteArray→SN→SN):∀(ns:List ByteArray) (ks:List SN),dH f ns ks=(ns.zip ks).flatMap (fun x=>bif fP (f x.1 x.2) then [(x.1,f x.1 x.2)] else [])
 | [],ks=>by rw [dH];rfl
 | y::r,[]=>by rw [dH];rfl
 | y::r,k::q=>by rw [dH,List.zip_cons_cons,List.flatMap_cons,su f r q]
theorem xE {α:Type} {F:α→List α}:∀{A:List α},(∀x∈A,F x=[x])→A.flatMap F=A
 | [],_=>rfl
 | a::A,h=>by
   rw [List.flatMap_cons,h a List.mem_cons_self,xE (fun x hx=>h x (List.mem_cons_of_mem _ hx))];rfl
theorem full_of {k:SN} (ht:Tr k) (h:k.f1≠[]∨k.f2≠[]):fP k=true:=by
 unfold fP
 rw [Bool.or_eq_true,decide_eq_true_eq,decide_eq_true_eq]
 rcases h with h | h
 ·exact .inl (by rw [ht.len];exact List.length_pos_iff.2 h)
 ·exact .inr (List.length_pos_iff.2 h)
theorem X8 {k:SN} (ht:Tr k) (h1:k.f1.length=0) (h2:k.f2.length=0):fP k=false:=by
 unfold fP
 rw [Bool.or_eq_false_iff,decide_eq_false_iff_not,decide_eq_false_iff_not]
 exact⟨by rw [ht.len];omega,by omega⟩
theorem X9 {a b:ByteArray} (h:a≠b):(a.toList==b.toList)=false:=by
 cases hq:a.toList==b.toList with
 | false=>rfl
 | true=>exact(h (Xw hq)).elim
theorem Ue (a:ByteArray):(a.toList==a.toList)=true:=by simp
theorem Ku:∀(ls:List ByteArray) (c:ByteArray) (n:SN),Gd n→jG c ls n=dA ls c n
 | [],c,n,h=>by
   have e:dH (fun _ k=>k) n.f0 n.f1=kZ n:=by
    rw [su]
    refine xE (fun x hx=>?_)
    have hm:=QL (n:=n) hx
    rw [full_of (h.kid _ hm).tr (h.full _ hm)]
    rfl
   rw [jG,e,sO h.tr,xB h.tr]
   rfl
 | t::ts,c,n,h=>by
   have rest:∀x∈kZ n,x.1≠t→(bif fP (jU (jG c ts) t x.1 x.2) then [(x.1,jU (jG c ts) t x.1 x.2)] else [])=[x]:=fun x hx hne=>by
    have hm:=QL (n:=n) hx
    have e:jU (jG c ts) t x.1 x.2=x.2:=by unfold jU;rw [X9 hne];rfl
    rw [e,full_of (h.kid _ hm).tr (h.full _ hm)]
    rfl
   cases hf:kF t n.f0 with
   | false=>
     have e:dH (jU (jG c ts) t) n.f0 n.f1=kZ n:=by
      rw [su]
      refine xE (fun x hx=>rest x hx (fun e=>?_))
      have:=(abq h.tr (t:=x.1) (k:=x.2) hx).1
      rw [e,hf] at this
      cases this
     rw [jG,e,sO h.tr,xB h.tr,OH t ts c n hf]
     exact zI n
   | true=>
     obtain⟨A,B,k,h1,hk,h2,h3⟩:=OG t ts c n h.tr hf
     have hm:=Dv (t::ts) c n h.tr
     have hK:=Dv ts c k (h.kid k hk).tr
     have ih:=Ku ts c k (h.kid k hk)
     have hne:=WE (h1▸X7 h.tr)
     have hA:∀x∈A,x∈kZ n:=fun x hx=>by rw [h1];exact List.mem_append_left _ hx
     have hB:∀x∈B,x∈kZ n:=fun x hx=>by rw [h1];exact List.mem_append_right _ (List.mem_cons_of_mem _ hx)
     have e:dH (jU (jG c ts) t) n.f0 n.f1=kZ (dA (t::ts) c n):=by
      rw [su,show n.f0.zip n.f1=A++(t,k)::B from h1,List.flatMap_append,List.flatMap_cons,xE (fun x hx=>rest x (hA x hx) (hne x (List.mem_append_left _ hx))),xE (fun x hx=>rest x (hB x hx) (hne x (List.mem_append_right _ hx)))]
      have e1:jU (jG c ts) t t k=dA ts c k:=by unfold jU;rw [Ue];exact ih
      show A++((bif fP (jU (jG c ts) t t k) then [(t,jU (jG c ts) t t k)] else [])++B)=_
      rw [e1]
      rcases h2 with ⟨⟨z1,z2⟩,h2⟩ | ⟨z,h2⟩
      ·rw [X8 hK z1 z2,h2];rfl
      ·rw [full_of hK z,h2];rfl
     rw [jG,e,sO hm,xB hm,←h3]
     exact zI _
theorem D8 (n:SN) (f c:ByteArray):(gB n && (bJ f && (dR n).any (jd f c)))=(bJ f && (dR n).any (jd f c))∧(bif gB n && (bJ f && (dR n).any (jd f c)) then jG c (pW f) n else n)=bif bJ f && (dR n).any (jd f c) then dA (pW f) c n else n:=by
 cases h:gB n with
 | false=>
   have e:dR n=[]:=by unfold dR;rw [h];rfl
   rw [e]
   simp
 | true=>
   rw [Ku _ c n (Ud n [] (Kr h).1).1,Bool.true_and]
   exact⟨rfl,rfl⟩
theorem QV:∀(ls:List ByteArray) (c:ByteArray) (n:SN),Tr n→cnt (dA ls c n)≤cnt n
 | [],c,n,_=>by
   rw [zL,zL]
   have:=vP c n.f2
   show n.f0.length+(mD c n.f2).length+kP n.f1≤_
   omega
 | t::ts,c,n,ht=>by
   cases hf:kF t n.f0 with
   | false=>rw [OH t ts c n hf];exact Nat.le_refl _
   | true=>
     obtain⟨A,B,k,h1,hk,h2,h3⟩:=OG t ts c n ht hf
     have hm:=Dv (t::ts) c n ht
     have ih:=QV ts c k (ht.kid k hk)
     have app:∀l m:List SN,kP (l++m)=kP l+kP m:=fun l m=>by
      induction l with
      | nil=>simp [kP]
      | cons a l ih=>rw [List.cons_append,kP,kP,ih];omega
     rw [zL,zL n,h3,←sO hm,←xB hm,←sO ht,←xB ht,h1]
     rcases h2 with ⟨_,h2⟩ | ⟨_,h2⟩<;>rw [h2]<;>simp only [List.map_append,List.map_cons,List.length_append,List.length_map,List.length_cons,app,kP]<;>omega
end Go.Proofs.YtcnfgfomholheaaGreatDoor.Q
end
section
namespace Go.Proofs.YtcnfgfomholheaaGreatDoor.Q
open Go.RowKit Go.Proofs.YtcnfgfomholheaaGreatDoor.Z Go.Proofs.YtcnfgfomholheaaGreatDoor.Pure
set_option linter.unusedVariables false
set_option linter.unusedSimpArgs false
set_option maxRecDepth 100000
set_option maxHeartbeats 4000000
abbrev QW (a:LN):dD T:= .bx oO ((T.cells oO a).map (toCell none))
theorem acz {n:Nat} (h:decide ((n:Int)>1048576)=false):n≤1048576:=by simp at h;omega
end Go.Proofs.YtcnfgfomholheaaGreatDoor.Q
end
section
namespace Go.Proofs.YtcnfgfomholheaaGreatDoor.Q
open Go.RowKit Go.Proofs.YtcnfgfomholheaaGreatDoor.Z Go.Proofs.YtcnfgfomholheaaGreatDoor.X Go.Proofs.YtcnfgfomholheaaGreatDoor.Pure
set_option linter.unusedVariables false
set_option linter.unusedSimpArgs false
set_option maxRecDepth 100000
set_option maxHeartbeats 4000000
theorem UC (a:LN) (f c:ByteArray) (ha:xI a):aA T Tryz.prog 4 [.ag (T.cells oO a), .c (.sc (.string f)), .c (.sc (.string c))] (.c (.sc (.bool true))):=by
 refine jZ hT Tryz.func4 (by kernel_rfl) rfl rfl (fun A=>?_)
 refine Vc.seq 0 hT ?_
 conv=>whnf
 refine Vc.seq 1 hT ?_
 conv=>whnf
 refine Split.mk (fun c1=>?_) (fun c1=>?_)
 ·conv=>whnf
  exact aG.mk ⟨rfl,rfl⟩ ⟨rfl,rfl⟩ ⟨rfl,trivial⟩
 have hf:f.size≤1048576:=acz c1
 clear c1
 conv=>whnf
 refine Vc.seq 1 hT ?_
 conv=>whnf
 refine Split.mk (fun c1=>?_) (fun c1=>?_)
 ·conv=>whnf
  exact aG.mk ⟨rfl,rfl⟩ ⟨rfl,rfl⟩ ⟨rfl,trivial⟩
 clear c1
 conv=>whnf
 refine Vc.seq 1 hT ?_
 conv=>whnf
 refine Vc.seq 1 hT ?_
 conv=>whnf
 refine aC.mk _ (UO a ha _ (by decide) (by decide)) ?_
 conv=>whnf
 refine Vc.seq 2 hT ?_
 conv=>whnf
 refine Split.mk (fun c1=>?_) (fun c1=>?_)
 ·conv=>whnf
  exact aG.mk ⟨rfl,rfl⟩ ⟨rfl,rfl⟩ ⟨rfl,trivial⟩
 have hsz:0≤mQ a 1048576:=SL c1
 clear c1
 have hcnt:=QU a 1048576 (by decide) hsz
 obtain⟨hB,hL⟩:=WG a 1048576 (by decide) (by decide) hsz
 have hto:=UJ a hL
 generalize tN a=B at hcnt hB hto
 have hcB:cnt B≤1048576:=by omega
 clear hcnt hsz hL
 have hlv:=rC f
 have him:=Ua B f c hB yT (Nat.le_trans (ML B) (by omega)) hf (Nat.le_trans hlv (by omega))
 have hsp:=Uc B f c hB yT (Nat.le_trans (ML B) (by omega)) hf
 rw [(D8 B f c).2,(D8 B f c).1] at hsp
 have hRc:Bd (bif bJ f && (dR B).any (jd f c) then dA (pW f) c B else B)∧cnt (bif bJ f && (dR B).any (jd f c) then dA (pW f) c B else B)≤cnt B:=by
  cases hq:bJ f && (dR B).any (jd f c) with
  | false=>exact⟨hB,Nat.le_refl _⟩
  | true=>
    have ht:Tr B:=by
     cases hn:gB B with
     | true=>exact(yT hn).1
     | false=>rw [show dR B=[] by unfold dR;rw [hn];rfl] at hq;simp at hq
    exact⟨QG _ c B hB ht,QV _ c B ht⟩
 generalize (bif bJ f && (dR B).any (jd f c) then dA (pW f) c B else B)=R at him hsp hRc
 generalize (bJ f && (dR B).any (jd f c))=b at him hsp
 obtain⟨hR,hcR⟩:=hRc
 have hkB:=Jk B 1
 have hkR:=Jk R 1
 have hmB:=Md B 1 hB (by decide) (by omega)
 have hmR:=Md R 1 hR (by decide) (by omega)
 have hhR:=WV R 1 hR (by decide) (by omega)
 have heR:=LV R hR R
 have heB:=LV B hB B
 conv=>whnf
 refine Vc.cut (α:=Unit) 5 (fun _=>True) (fun _=>[(8, .c (.px 1 0)),(9, .c (.sc (.bool b))),(3, .c (.px 0 0)),(1, .c (.sc (.string f))),(2, .c (.sc (.string c)))]) (fun _=>[(1, .bx eN [.hd 2, .hd 3, .hd 4]),(2, .row 2 9 R.f0),(3, .row 3 eN R.f1),(4, .row 4 eS R.f2),(0,QW a)]) hT ?_ (fun _ _=>?_)
 ·conv=>whnf
  refine aC.mk _ hto ?_
  conv=>whnf
  refine aC.mk _ hsp ?_
  conv=>whnf
  exact lX.mk ⟨(),trivial,ay [(1,12),(2,8),(3,9),(4,10),(0,0)] rfl rfl rfl ⟨⟨rfl,rfl⟩,⟨rfl,rfl⟩,⟨rfl,rfl⟩,⟨rfl,rfl⟩,⟨rfl,rfl⟩,trivial⟩ ⟨⟨rfl,rfl⟩,jo rfl,jh rfl,iR rfl,⟨rfl,rfl⟩,trivial⟩⟩
 refine Vc.cut (α:=Unit) 30 (fun _=>True) (fun _=>[(10, .c (.px 5 0)),(8, .c (.px 1 0)),(9, .c (.sc (.bool b))),(3, .c (.px 0 0)),(1, .c (.sc (.string f))),(2, .c (.sc (.string c)))]) (fun _=>[(5, .bx eN [.hd 6, .hd 7, .hd 8]),(6, .row 6 9 B.f0),(7, .row 7 eN B.f1),(8, .row 8 eS B.f2),(1, .bx eN [.hd 2, .hd 3, .hd 4]),(2, .row 2 9 R.f0),(3, .row 3 eN R.f1),(4, .row 4 eS R.f2),(0,QW a)]) hT ?_ (fun _ _=>?_)
 ·conv=>whnf
  refine aC.mk _ hto ?_
  conv=>whnf
  exact lX.mk ⟨(),trivial,ay [(5,33),(6,30),(7,31),(8,32),(1,1),(2,2),(3,3),(4,4),(0,0)] rfl rfl rfl ⟨⟨rfl,rfl⟩,⟨rfl,rfl⟩,⟨rfl,rfl⟩,⟨rfl,rfl⟩,⟨rfl,rfl⟩,⟨rfl,rfl⟩,trivial⟩ ⟨⟨rfl,rfl⟩,jo rfl,jh rfl,iR rfl,⟨rfl,rfl⟩,jo rfl,jh rfl,iR rfl,⟨rfl,rfl⟩,trivial⟩⟩
 refine Vc.cut (α:=Unit) 30 (fun _=>True) (fun _=>[(11, .c (.px 9 0)),(12, .c (.sc (.bool b))),(10, .c (.px 5 0)),(8, .c (.px 1 0)),(9, .c (.sc (.bool b))),(3, .c (.px 0 0)),(1, .c (.sc (.string f))),(2, .c (.sc (.string c)))]) (fun _=>[(9, .bx eN [.hd 10, .hd 11, .hd 12]),(10, .row 10 9 R.f0),(11, .row 11 eN R.f1),(12, .row 12 eS R.f2),(5, .bx eN [.hd 6, .hd 7, .hd 8]),(6, .row 6 9 B.f0),(7, .row 7 eN B.f1),(8, .row 8 eS B.f2),(1, .bx eN [.hd 2, .hd 3, .hd 4]),(2, .row 2 9 R.f0),(3, .row 3 eN R.f1),(4, .row 4 eS R.f2),(0,QW a)]) hT ?_ (fun _ _=>?_)
 ·conv=>whnf
  refine aC.mk _ him ?_
  conv=>whnf
  exact lX.mk ⟨(),trivial,ay [(9,34),(10,30),(11,31),(12,32),(5,5),(6,6),(7,7),(8,8),(1,1),(2,2),(3,3),(4,4),(0,0)] rfl rfl rfl ⟨⟨rfl,rfl⟩,⟨rfl,rfl⟩,⟨rfl,rfl⟩,⟨rfl,rfl⟩,⟨rfl,rfl⟩,⟨rfl,rfl⟩,⟨rfl,rfl⟩,⟨rfl,rfl⟩,trivial⟩ ⟨⟨rfl,rfl⟩,jo rfl,jh rfl,iR rfl,⟨rfl,rfl⟩,jo rfl,jh rfl,iR rfl,⟨rfl,rfl⟩,jo rfl,jh rfl,iR rfl,⟨rfl,rfl⟩,trivial⟩⟩
 refine Vc.seq 30 hT ?_
 conv=>whnf
 refine aC.mk _ heR ?_
 conv=>whnf
 refine Split.mk (fun c1=>(jW (dP c1) rfl).elim) (fun c1=>?_)
 clear c1
 conv=>whnf
 refine Need.mk (by kernel_rfl) ?_
 conv=>whnf
 refine Split.mk (fun c1=>(Xv c1 rfl).elim) (fun c1=>?_)
 clear c1
 conv=>whnf
 refine Vc.seq 30 hT ?_
 conv=>whnf
 refine aC.mk _ hto ?_
 conv=>whnf
 refine aC.mk _ heB ?_
 conv=>whnf
 refine bY.mk ⟨by kernel_rfl,by kernel_rfl⟩ ?_
 conv=>whnf
 refine Split.mk (fun c1=>(jW (dP c1) rfl).elim) (fun c1=>?_)
 clear c1
 conv=>whnf
 refine Vc.seq 100 hT ?_
 conv=>whnf
 refine Vc.cut (α:=Unit) 100 (fun _=>True) (fun _=>[(13,i64 ((bD B 1).2:Nat)),(11, .c (.px 9 0)),(12, .c (.sc (.bool b))),(8, .c (.px 1 0)),(9, .c (.sc (.bool b))),(3, .c (.px 0 0)),(1, .c (.sc (.string f))),(2, .c (.sc (.string c)))]) (fun _=>[(9, .bx eN [.hd 10, .hd 11, .hd 12]),(10, .row 10 9 R.f0),(11, .row 11 eN R.f1),(12, .row 12 eS R.f2),(1, .bx eN [.hd 2, .hd 3, .hd 4]),(2, .row 2 9 R.f0),(3, .row 3 eN R.f1),(4, .row 4 eS R.f2),(0,QW a)]) hT ?_ (fun _ _=>?_)
 ·conv=>whnf
  refine aC.wr [[NW.wr 9 (bD B 1).1.f0,NW.wr eN (bD B 1).1.f1,NW.wr eS (bD B 1).1.f2],[NW.rd]] (.c (.sc (.int .i64 ((bD B 1).2:Int)))) ?_
  conv=>whnf
  refine lN.mk hmB ?_
  conv=>whnf
  exact lX.mk ⟨(),trivial,ay [(9,9),(10,10),(11,11),(12,12),(1,1),(2,2),(3,3),(4,4),(0,0)] rfl rfl rfl ⟨⟨rfl,rfl⟩,⟨rfl,rfl⟩,⟨rfl,rfl⟩,⟨rfl,rfl⟩,⟨rfl,rfl⟩,⟨rfl,rfl⟩,⟨rfl,rfl⟩,⟨rfl,rfl⟩,trivial⟩ ⟨⟨rfl,rfl⟩,jo rfl,jh rfl,iR rfl,⟨rfl,rfl⟩,jo rfl,jh rfl,iR rfl,⟨rfl,rfl⟩,trivial⟩⟩
 refine Vc.seq 30 hT ?_
 conv=>whnf
 refine Split.mk (fun c1=>Fp c1) (fun c1=>?_)
 clear c1
 conv=>whnf
 refine aC.mk _ heR ?_
 conv=>whnf
 refine Split.mk (fun c1=>(jW (dP c1) rfl).elim) (fun c1=>?_)
 clear c1
 conv=>whnf
 refine Need.mk (by kernel_rfl) ?_
 conv=>whnf
 refine Split.mk (fun c1=>(Xv c1 rfl).elim) (fun c1=>?_)
 clear c1
 conv=>whnf
 refine Vc.seq 30 hT ?_
 conv=>whnf
 refine Vc.cut (α:=Unit) 30 (fun _=>True) (fun _=>[(14,i64 ((bD R 1).2:Nat)),(11, .c (.px 9 0)),(12, .c (.sc (.bool b))),(8, .c (.px 1 0)),(9, .c (.sc (.bool b))),(3, .c (.px 0 0)),(1, .c (.sc (.string f))),(2, .c (.sc (.string c)))]) (fun _=>[(9, .bx eN [.hd 10, .hd 11, .hd 12]),(10, .row 10 9 (bD R 1).1.f0),(11, .row 11 eN (bD R 1).1.f1),(12, .row 12 eS (bD R 1).1.f2),(1, .bx eN [.hd 2, .hd 3, .hd 4]),(2, .row 2 9 R.f0),(3, .row 3 eN R.f1),(4, .row 4 eS R.f2),(0,QW a)]) hT ?_ (fun _ _=>?_)
 ·conv=>whnf
  refine aC.wr [[NW.wr 9 (bD R 1).1.f0,NW.wr eN (bD R 1).1.f1,NW.wr eS (bD R 1).1.f2],[NW.rd]] (.c (.sc (.int .i64 ((bD R 1).2:Int)))) ?_
  conv=>whnf
  refine lN.mk hmR ?_
  conv=>whnf
  exact lX.mk ⟨(),trivial,ay [(9,9),(10,10),(11,11),(12,12),(1,1),(2,2),(3,3),(4,4),(0,0)] rfl rfl rfl ⟨⟨rfl,rfl⟩,⟨rfl,rfl⟩,⟨rfl,rfl⟩,⟨rfl,rfl⟩,⟨rfl,rfl⟩,⟨rfl,rfl⟩,⟨rfl,rfl⟩,⟨rfl,rfl⟩,trivial⟩ ⟨⟨rfl,rfl⟩,jo rfl,jh rfl,iR rfl,⟨rfl,rfl⟩,jo rfl,jh rfl,iR rfl,⟨rfl,rfl⟩,trivial⟩⟩
 refine Vc.seq 30 hT ?_
 conv=>whnf
 refine Vc.seq 30 hT ?_
 conv=>whnf
 refine aC.mk (.c (.sc (.int .i64 ((bD R 1).2:Int)))) hhR ?_
 conv=>whnf
 refine Vc.seq 30 hT ?_
 conv=>whnf
 refine Split.mk (fun c1=>Fp c1) (fun c1=>?_)
 clear c1
 conv=>whnf
 refine Vc.seq 30 hT ?_
 conv=>whnf
 refine Split.mk (fun c1=>(Ih c1 rfl).elim) (fun c1=>?_)
 clear c1
 conv=>whnf
 refine Vc.cut (α:=Unit) 30 (fun _=>True) (fun _=>[(16, .c (.px 13 0)),(17, .c (.sc (.bool b))),(14,i64 ((bD R 1).2:Nat)),(11, .c (.px 9 0)),(12, .c (.sc (.bool b))),(8, .c (.px 1 0)),(9, .c (.sc (.bool b))),(3, .c (.px 0 0)),(1, .c (.sc (.string f))),(2, .c (.sc (.string c)))]) (fun _=>[(13, .bx eN [.hd 14, .hd 15, .hd 16]),(14, .row 14 9 R.f0),(15, .row 15 eN R.f1),(16, .row 16 eS R.f2),(9, .bx eN [.hd 10, .hd 11, .hd 12]),(10, .row 10 9 (bD R 1).1.f0),(11, .row 11 eN (bD R 1).1.f1),(12, .row 12 eS (bD R 1).1.f2),(1, .bx eN [.hd 2, .hd 3, .hd 4]),(2, .row 2 9 R.f0),(3, .row 3 eN R.f1),(4, .row 4 eS R.f2),(0,QW a)]) hT ?_ (fun _ _=>?_)
 ·conv=>whnf
  refine aC.mk _ hto ?_
  conv=>whnf
  refine aC.mk _ him ?_
  conv=>whnf
  exact lX.mk ⟨(),trivial,ay [(13,37),(14,33),(15,34),(16,35),(9,9),(10,10),(11,11),(12,12),(1,1),(2,2),(3,3),(4,4),(0,0)] rfl rfl rfl ⟨⟨rfl,rfl⟩,⟨rfl,rfl⟩,⟨rfl,rfl⟩,⟨rfl,rfl⟩,⟨rfl,rfl⟩,⟨rfl,rfl⟩,⟨rfl,rfl⟩,⟨rfl,rfl⟩,⟨rfl,rfl⟩,⟨rfl,rfl⟩,trivial⟩ ⟨⟨rfl,rfl⟩,jo rfl,jh rfl,iR rfl,⟨rfl,rfl⟩,jo rfl,jh rfl,iR rfl,⟨rfl,rfl⟩,jo rfl,jh rfl,iR rfl,⟨rfl,rfl⟩,trivial⟩⟩
 refine Vc.seq 30 hT ?_
 conv=>whnf
 refine aC.mk _ heR ?_
 conv=>whnf
 refine Split.mk (fun c1=>(jW (dP c1) rfl).elim) (fun c1=>?_)
 clear c1
 conv=>whnf
 refine Need.mk (by kernel_rfl) ?_
 conv=>whnf
 refine Split.mk (fun c1=>(Xv c1 rfl).elim) (fun c1=>?_)
 clear c1
 conv=>whnf
 refine Vc.seq 30 hT ?_
 conv=>whnf
 refine Vc.seq 30 hT ?_
 conv=>whnf
 refine aC.mk (.c (.sc (.int .i64 ((bD R 1).2:Int)))) hhR ?_
 conv=>whnf
 refine Vc.seq 30 hT ?_
 conv=>whnf
 refine Split.mk (fun c1=>Fp c1) (fun c1=>?_)
 clear c1
 conv=>whnf
 refine Vc.seq 30 hT ?_
 conv=>whnf
 refine Split.mk (fun c1=>(Ih c1 rfl).elim) (fun c1=>?_)
 clear c1
 conv=>whnf
 refine Vc.of 30 hT ?_
 conv=>whnf
 exact aG.mk ⟨rfl,rfl⟩ ⟨rfl,rfl⟩ ⟨rfl,trivial⟩
end Go.Proofs.YtcnfgfomholheaaGreatDoor.Q
end
