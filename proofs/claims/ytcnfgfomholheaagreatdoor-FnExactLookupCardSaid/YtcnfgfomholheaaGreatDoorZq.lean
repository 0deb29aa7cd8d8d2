/- Several texts of this claim in one (a claim holds at most 60 files). -/
import Derived.Laws.Cover1
import Derived.Laws.IdiomCopy
import Derived.Lib.Overlaps
import Derived.Lib.SliceRun
import Derived.Maps.Range
import Derived.Shelf.Spec.SlicesInsertGrow
import Derived.Shelf.RegionOpenPlain
import Derived.Test.YtcnfgfomholheaaGreatDoorZc
import Derived.Test.YtcnfgfomholheaaGreatDoorZp
import Derived.Test.YtcnfgfomholheaaGreatDoorPx8
import Derived.Test.YtcnfgfomholheaaGreatDoorZy
section
namespace Go.Proofs.YtcnfgfomholheaaGreatDoor.Q
open Go.RowKit Go.Proofs.YtcnfgfomholheaaGreatDoor.X Go.Proofs.YtcnfgfomholheaaGreatDoorW.PrintWords Go.Proofs.YtcnfgfomholheaaGreatDoorW.PrintLast Go.Proofs.YtcnfgfomholheaaGreatDoorW.PrintMore
open Go.Proofs.YtcnfgfomholheaaGreatDoor.Z (V El ck Ow Fam row_part row_in ow_open CallWOb)
set_option linter.unusedVariables false
set_option linter.unusedSimpArgs false
theorem abe.calls (B:Nat) (t:ByteArray) (a v q:Value) (w:World) (ha:∃s,a= .string s) (h1:v.oneCell'=true) (h2:q.oneCell'=true) (hB:w.cell? ⟨B,1,none⟩=some (.string t)):
  Calls Tryz.prog 115 #[.agg #[a,v,q], .pointer (some ⟨B,0,none⟩)] w fun e w'=>e= .returned (.bool (zX t a))∧Below w.heap.size w w':=by
 obtain⟨s,rfl⟩:=ha
 have hB2:=fun o=>Go.Lib.cell?_alloc_some o hB
 go_enter Tryz.func115,Tryz.ntmps115
 go_wp2
 go_ret
 exact⟨by first | rfl | (simp;done),aj (Below.refl _ _) _⟩
set_option maxHeartbeats 4000000 in
set_option maxRecDepth 100000 in
theorem Yj.calls (B:Nat) (t:ByteArray) (ts:List jr) (hS:∀c∈ts,∃s,c.2.1=Value.string s) (A:Option Addr) (n cap base:Nat) (w:World) (hR:kQ 44 w base (.slice A n cap) ts) (hB:w.cell? ⟨B,1,none⟩=some (.string t)):
  Calls Tryz.prog 114 #[.slice A n cap, .func (.func 115) #[] #[.pointer (some ⟨B,0,none⟩)]] w fun e w'=>e= .returned (.int .i64 (qX t ts))∧Below w.heap.size w w':=by
 have hn:=oL hR
 have hm:n≤9223372036854775807:=Kd.MP (by have:=(Kd.bD hR);rw [←this.1] at this;exact this.2.2)
 have HR:=Aside0.mk hR
 have HB:=Aside0.mk hB
 have HN:=Aside0.mk hn
 have SG:=Aside0.mk hS
 clear hR hB hn hS
 go_enter Tryz.func114,Tryz.ntmps114
 go_wp2
 go_loopg [5,8] n (fun gg _ s8 wr=>∃kk:Nat,kk≤n∧n - kk≤gg∧s8= .int .i64 kk∧Aside0 (Below w.heap.size w wr)∧Aside0 (∀j c,j<kk→ts[j]? =some c→qY t c=false))
 case atStart=>exact⟨0,Nat.zero_le _,by omega,rfl,⟨Below.refl _ w⟩,⟨fun j c hj=>absurd hj (Nat.not_lt_zero _)⟩⟩
 case round=>
  obtain⟨kk,hkk,hg,rfl,BW,AA⟩:=hrel
  by_cases hlt:kk<n
  ·have hltz:(kk:Int)<(n:Int):=by omega
   obtain⟨c,hc⟩:∃c,ts[kk]? =some c:=⟨_,List.getElem?_eq_getElem (by have:=HN.out;omega)⟩
   obtain⟨g,rfl,_,_⟩:=wC HR.out (by omega)
   obtain⟨c0,c1,c2,fz,oc⟩:=lS (jR HR.out BW.out) kk c hc
   have Yk:wr.cell? ⟨B,1,none⟩=some (.string t):=(by rw [BW.out.cell (by
    rcases Nat.lt_or_ge B w.heap.size with h' | h'
    ·exact h'
    ·exact absurd HB.out (by simp [World.cell?,Array.getElem?_eq_none h']))];exact HB.out)
   have hcall:=abe.calls B t c.2.1 c.2.2.1 c.2.2.2 wr (SG.out c (List.mem_of_getElem? hc)) (oc _ (by simp [cu])) (oc _ (by simp [cu])) Yk
   rw [show zX t c.2.1=qY t c from rfl] at hcall
   have HC:=Aside0.mk hc
   clear hc fz oc Yk
   cases hq:qY t c with
   | true=>
     rw [hq] at hcall
     have HQ:=Aside0.mk hq
     clear hq
     go_wp2_with (go_at_call 115;refine hcall.mono ?_;rintro e w' ⟨rfl,hb'⟩)
     go_ret
     refine⟨?_,aJ BW.out hb'⟩
     have e:qX t ts=(kk:Int):=by
      unfold qX
      obtain⟨hk,hg⟩:=List.getElem?_eq_some_iff.1 HC.out
      rw [List.findIdx?_eq_some_iff_getElem.2 ⟨hk,by rw [hg];exact HQ.out,fun j hj=>by rw [AA.out j _ hj (List.getElem?_eq_getElem (by omega))];simp⟩]
     rw [e]
     rfl
   | false=>
     rw [hq] at hcall
     have HQ:=Aside0.mk hq
     clear hq
     go_wp2_with (go_at_call 115;refine hcall.mono ?_;rintro e w' ⟨rfl,hb'⟩)
     go_roundg (n - (kk+1))
     case measure=>omega
     case rel=>
      refine⟨kk+1,by omega,by omega,by go_num,⟨aJ BW.out hb'⟩,⟨fun j c' hj hc'=>?_⟩⟩
      by_cases e:j=kk
      ·subst e
       obtain rfl:=Option.some.inj (HC.out.symm.trans hc')
       exact HQ.out
      ·exact AA.out j c' (by omega) hc'
  ·have hltz:¬(kk:Int)<(n:Int):=by omega
   have:kk=n:=by omega
   subst this
   go_wp2
   go_ret
   refine⟨?_,BW.out⟩
   have e:qX t ts= -1:=by
    unfold qX
    rw [List.findIdx?_eq_none_iff.2 (fun x hx=>by
     obtain⟨j,hj,rfl⟩:=List.mem_iff_getElem.1 hx
     exact AA.out j _ (by have:=HN.out;omega) (List.getElem?_eq_getElem hj))]
   rw [e]
   rfl
end Go.Proofs.YtcnfgfomholheaaGreatDoor.Q
end
section
namespace Go.Proofs.YtcnfgfomholheaaGreatDoor.Q
open Go.RowKit Go.Proofs.YtcnfgfomholheaaGreatDoor.Z Go.Proofs.YtcnfgfomholheaaGreatDoor.Pure
set_option linter.unusedVariables false
set_option linter.unusedSimpArgs false
set_option maxRecDepth 100000
set_option maxHeartbeats 4000000
def gZ (t:ByteArray) (l:List SS):List SS:=l.filter fun s=>!(s.f0.toList==t.toList)
theorem LW (t:ByteArray) (l:List SS):(gZ t l).length≤l.length:=List.length_filter_le _ _
theorem VB (l:List SS) (client:ByteArray) (hl:l.length≤8388608):aW T Tryz.prog 171 [.c (.sl eS l), .c (.sc (.string client))] (.c (.ow eS (gZ client l))):=by
 refine bM hT Tryz.func171 (by kernel_rfl) rfl rfl (fun A=>?_)
 conv=>whnf
 refine aU.mk _ (YP l hl) ?_
 conv=>whnf
 refine aU.wr [[.gv eS],[.rd]] (.c (.ow eS (gZ client l))) ?_
 conv=>whnf
 refine kK.mk (VD l client) ?_
 conv=>whnf
 exact aV.mk ⟨rfl,rfl⟩ ⟨rfl,rfl⟩ ⟨rfl,trivial⟩
def tq (t:ByteArray) (s:SS):Bool:=Op.bytesLess s.f0.toList t.toList
def lM (s:SS) (l:List SS):List SS:=(gZ s.f0 l).takeWhile (tq s.f0)++s::(gZ s.f0 l).dropWhile (tq s.f0)
theorem NG {α:Type} {p:α→Bool} {d:α}:∀{l:List α} {i:Nat},i≤l.length→(∀j,j<i→p (l.getD j d)=true)→(i=l.length∨p (l.getD i d)=false)→l.take i=l.takeWhile p∧l.drop i=l.dropWhile p
 | [],i,hi,_,_=>by simp
 | a::l,0,_,_,h=>by
   rcases h with h | h
   ·simp at h
   ·have h:p a=false:=h
    simp [List.takeWhile_cons,List.dropWhile_cons,h]
 | a::l,i+1,hi,h1,h2=>by
   have ha:p a=true:=h1 0 (Nat.succ_pos i)
   have ih:=NG (p:=p) (d:=d) (l:=l) (i:=i) (by simpa using hi) (fun j hj=>h1 (j+1) (by omega)) (by simpa using h2)
   simp [List.takeWhile_cons,List.dropWhile_cons,ha,ih.1,ih.2]
theorem abf {s:SS} {l:List SS} {i:Nat} (hi:i≤(gZ s.f0 l).length) (h1:∀j,j<i→tq s.f0 ((gZ s.f0 l).getD j zS)=true) (h2:i=(gZ s.f0 l).length∨tq s.f0 ((gZ s.f0 l).getD i zS)=false):(gZ s.f0 l).take i++s::(gZ s.f0 l).drop i=lM s l:=by
 obtain⟨a,b⟩:=NG hi h1 h2
 rw [a,b];rfl
theorem kE {l l':List SS} (h:l=l'):dW (T:=T) eS l eS l':=kV h
theorem srN {l l':List SN} (h:l=l'):dW (T:=T) eN l eN l':=kV h
theorem ng {l l':List SE} (h:l=l'):dW (T:=T) eE l eE l':=kV h
theorem sr9 {l l':List ByteArray} (h:l=l'):dW (T:=T) 9 l 9 l':=kV h
theorem abg (l:List SS) (s:SS) (hl:l.length≤8388608):aW T Tryz.prog 116 [.c (.sl eS l), .ag (T.cells eS s)] (.c (.ow eS (lM s l))):=by
 have hd:=LW s.f0 l
 refine bM hT Tryz.func116 (by kernel_rfl) rfl rfl (fun A=>?_)
 conv=>whnf
 refine aU.mk _ (VB l s.f0 hl) ?_
 conv=>whnf
 have key:∀i,i≤(gZ s.f0 l).length→(∀j,j<i→tq s.f0 ((gZ s.f0 l).getD j zS)=true)→(i=(gZ s.f0 l).length∨tq s.f0 ((gZ s.f0 l).getD i zS)=false)→CallWOb T Tryz.prog 185 [.c (.gv eS (gZ s.f0 l)), .c (.c (.sc (.int .i64 (i:Int)))), .c (.gv eS [(⟨s.f0,s.f1,s.f2⟩:SS)])] (.c (.ow eS (lM s l))):=fun i h1 h2 h3=>by
  rw [←abf h1 h2 h3]
  exact aeV (gZ s.f0 l) s i h1 (by omega)
 generalize hD:gZ s.f0 l=D at key hd⊢
 refine iO.mk {i:Nat // i≤D.length∧∀j,j<i→tq s.f0 (D.getD j zS)=true} (fun p=>(2,[(6,i64 p.1),(5, .c (.hd 1)),(3, .c (.px 0 0))],[(1, .row 1 eS D),(0, .bx eS [.sc (.string s.f0), .sc (.int .i64 s.f1), .sc (.int .i64 s.f2)])])) (fun p=>D.length - p.1) ⟨0,Nat.zero_le _,fun j hj=>absurd hj (Nat.not_lt_zero j)⟩ (aI [(1,1),(0,0)] rfl rfl rfl ⟨⟨rfl,rfl⟩,⟨rfl,rfl⟩,⟨rfl,rfl⟩,trivial⟩ ⟨kE rfl,⟨rfl,rfl⟩,trivial⟩) ?_
 rintro⟨i,hi,hlt⟩
 conv=>whnf
 refine Split.mk (fun c=>?_) (fun c=>?_)
 ·have hk2:i<D.length:=jP c
  clear c
  conv=>whnf
  refine Need.mk (idx hk2) ?_
  conv=>whnf
  refine dD.mk ⟨by kernel_rfl,by kernel_rfl⟩ ?_
  conv=>whnf
  refine Split.mk (fun c=>?_) (fun c=>?_)
  ·conv=>whnf
   exact dA.mk ⟨⟨i+1,hk2,fun j hj=>by
    rcases Nat.lt_succ_iff_lt_or_eq.1 hj with h | rfl
    ·exact hlt j h
    ·exact c⟩,Nat.sub_lt_sub_left hk2 (Nat.lt_succ_self i),aI [(1,1),(0,0)] rfl rfl rfl ⟨⟨rfl,congrArg i64 (iy hk2 (by omega))⟩,⟨rfl,rfl⟩,⟨rfl,rfl⟩,trivial⟩ ⟨kE rfl,⟨rfl,rfl⟩,trivial⟩⟩
  ·conv=>whnf
   refine aU.wr [[.gv eS],[.rd],[.gv eS]] (.c (.ow eS (lM s l))) ?_
   conv=>whnf
   refine kK.mk (key i hi hlt (.inr c)) ?_
   conv=>whnf
   exact aV.mk ⟨rfl,rfl⟩ ⟨rfl,rfl⟩ ⟨rfl,trivial⟩
 ·have hk2:i=D.length:=Nat.le_antisymm hi (jQ c)
  clear c
  conv=>whnf
  refine dD.mk ⟨by kernel_rfl,by kernel_rfl⟩ ?_
  conv=>whnf
  refine Split.mk (fun e=>mX e) (fun _=>?_)
  conv=>whnf
  refine aU.wr [[.gv eS],[.rd],[.gv eS]] (.c (.ow eS (lM s l))) ?_
  conv=>whnf
  refine kK.mk (key i hi hlt (.inl hk2)) ?_
  conv=>whnf
  exact aV.mk ⟨rfl,rfl⟩ ⟨rfl,rfl⟩ ⟨rfl,trivial⟩
end Go.Proofs.YtcnfgfomholheaaGreatDoor.Q
end
section
namespace Go.Proofs.YtcnfgfomholheaaGreatDoor.Q
open Go.RowKit Go.Proofs.YtcnfgfomholheaaGreatDoor.Z Go.Proofs.YtcnfgfomholheaaGreatDoor.Pure
set_option linter.unusedVariables false
set_option linter.unusedSimpArgs false
set_option maxRecDepth 100000
set_option maxHeartbeats 4000000
def SH (t s:ByteArray):Bool:=Op.bytesLess s.toList t.toList
def g9 (l:List ByteArray) (k:Nat):ByteArray:=l.getD k (T.df 9)
structure Bs (l:List ByteArray) (t:ByteArray) (i j:Nat):Prop where
 le:i≤j
 hi:j≤l.length
 lo:∀k,k<i→SH t (g9 l k)=true
 up:∀k,j≤k→k<l.length→SH t (g9 l k)=false
def acM (t:ByteArray) (l:List ByteArray):Nat:=(l.takeWhile (SH t)).length
theorem Bs.pos {l:List ByteArray} {t:ByteArray} {i:Nat} (h:Bs l t i i):acM t l=i:=by
 have h1:=h.hi
 have:=(NG (p:=SH t) (d:=T.df 9) (l:=l) (i:=i) h1 h.lo (by
  rcases Nat.lt_or_ge i l.length with h2 | h2
  ·exact .inr (h.up i (Nat.le_refl _) h2)
  ·exact .inl (by omega))).1
 unfold acM
 rw [←this,List.length_take]
 omega
end Go.Proofs.YtcnfgfomholheaaGreatDoor.Q
end
section
namespace Go.Proofs.YtcnfgfomholheaaGreatDoor.Q
open Go.RowKit Go.Proofs.YtcnfgfomholheaaGreatDoor.Z Go.Proofs.YtcnfgfomholheaaGreatDoor.Pure
set_option linter.unusedVariables false
set_option linter.unusedSimpArgs false
set_option maxRecDepth 100000
set_option maxHeartbeats 4000000
theorem uI:∀(a b:List UInt8),Op.bytesLess a b=true→Op.bytesLess b a=false
 | [],[],h=>by simp [Op.bytesLess] at h
 | [],b::y,_=>rfl
 | a::x,[],h=>by simp [Op.bytesLess] at h
 | a::x,b::y,h=>by
   simp only [Op.bytesLess,Bool.or_eq_true,Bool.and_eq_true,decide_eq_true_eq,beq_iff_eq] at h
   simp only [Op.bytesLess,Bool.or_eq_false_iff,Bool.and_eq_false_iff,decide_eq_false_iff_not,beq_eq_false_iff_ne,ne_eq]
   rcases h with h | ⟨h1,h2⟩
   ·exact⟨fun h'=>absurd (UInt8.lt_trans h h') (UInt8.lt_irrefl _), .inl (fun e=>by subst e;exact UInt8.lt_irrefl _ h)⟩
   ·subst h1
    exact⟨UInt8.lt_irrefl _, .inr (uI x y h2)⟩
theorem EY (a:List UInt8):Op.bytesLess a a=false:=by
 cases h:Op.bytesLess a a with
 | false=>rfl
 | true=>exact absurd (uI a a h) (by rw [h];decide)
theorem qZ:∀(a b c:List UInt8),Op.bytesLess a b=true→Op.bytesLess b c=true→Op.bytesLess a c=true
 | [],[],_,h,_=>by simp [Op.bytesLess] at h
 | a::x,[],_,h,_=>by simp [Op.bytesLess] at h
 | _,b::y,[],_,h=>by simp [Op.bytesLess] at h
 | [],b::y,c::z,_,_=>rfl
 | a::x,b::y,c::z,h,h2=>by
   simp only [Op.bytesLess,Bool.or_eq_true,Bool.and_eq_true,decide_eq_true_eq,beq_iff_eq] at h h2⊢
   rcases h with h | ⟨rfl,h⟩
   ·rcases h2 with h2 | ⟨rfl,h2⟩
    ·exact .inl (UInt8.lt_trans h h2)
    ·exact .inl h
   ·rcases h2 with h2 | ⟨rfl,h2⟩
    ·exact .inl h2
    ·exact .inr ⟨rfl,qZ x y z h h2⟩
inductive Tr:SN→Prop
 | mk (n:SN) (hl:n.f0.length=n.f1.length) (hr:n.f0.Pairwise (fun a b=>Op.bytesLess a.toList b.toList=true)) (hk:∀k∈n.f1,Tr k):Tr n
theorem Tr.len {n:SN} (h:Tr n):n.f0.length=n.f1.length:=by cases h;assumption
theorem Tr.kid {n:SN} (h:Tr n):∀k∈n.f1,Tr k:=by cases h;assumption
theorem Tr.rise {n:SN} (h:Tr n):n.f0.Pairwise (fun a b=>Op.bytesLess a.toList b.toList=true):=by cases h;assumption
theorem Tr.up {n:SN} (h:Tr n) (t:ByteArray):∀a b,a≤b→b<n.f0.length→SH t (g9 n.f0 b)=true→SH t (g9 n.f0 a)=true:=by
 cases h with
 | mk _ _ hr _=>
   intro a b hab hb h
   rcases Nat.lt_or_eq_of_le hab with h1 | rfl
   ·have h2:=List.pairwise_iff_getElem.1 hr a b (by omega) hb h1
    rw [show g9 n.f0 b=n.f0[b] from getD_in _ _ _ hb] at h
    have e:=qZ _ _ _ h2 h
    rw [←getD_in n.f0 a (T.df 9) (by omega)] at e
    exact e
   ·exact h
end Go.Proofs.YtcnfgfomholheaaGreatDoor.Q
end
section
namespace Go.Proofs.YtcnfgfomholheaaGreatDoor.Q
open Go.RowKit Go.Proofs.YtcnfgfomholheaaGreatDoor.Z Go.Proofs.YtcnfgfomholheaaGreatDoor.Pure
set_option linter.unusedVariables false
set_option linter.unusedSimpArgs false
set_option maxRecDepth 100000
set_option maxHeartbeats 4000000
def oM (p:List ByteArray) (s:SS):SE:=⟨dF p,s.f0,s.f1,s.f2⟩
theorem zY (p:List ByteArray) (n:SN):iK p n=n.f2.map (oM p)++dV p n.f0 n.f1:=aaD p n
theorem uJ {p:List ByteArray} {d:ByteArray} {e:SN}:∀{ns:List ByteArray} {ks:List SN} {k:Nat},k<ns.length→k<ks.length→dV p (ns.take (k+1)) (ks.take (k+1))=dV p (ns.take k) (ks.take k)++iK (p++[ns.getD k d]) (ks.getD k e)
 | [],_,_,h,_=>by simp at h
 | _::_,[],_,_,h=>by simp at h
 | x::r,y::q,0,_,_=>by
   simp only [List.take_succ_cons,List.take_zero,dV,List.append_nil,List.nil_append]
   rfl
 | x::r,y::q,k+1,h,h2=>by
   have:=uJ (p:=p) (d:=d) (e:=e) (ns:=r) (ks:=q) (k:=k) (by simpa using h) (by simpa using h2)
   simp only [List.take_succ_cons] at this⊢
   rw [dV,dV,this,List.append_assoc]
   rfl
theorem pz {p:List ByteArray}:∀{ns:List ByteArray} {ks:List SN} {k:Nat},(dV p (ns.take k) (ks.take k)).length≤(dV p ns ks).length
 | [],ks,k=>by rw [List.take_nil,dV];exact Nat.zero_le _
 | _::_,[],0=>by rw [List.take_zero,dV];exact Nat.zero_le _
 | _::_,[],k+1=>by rw [List.take_nil,List.take_succ_cons,dV];exact Nat.zero_le _
 | x::r,y::q,0=>by rw [List.take_zero,dV];exact Nat.zero_le _
 | x::r,y::q,k+1=>by
   have:=pz (p:=p) (ns:=r) (ks:=q) (k:=k)
   simp only [List.take_succ_cons,dV,List.length_append]
   omega
theorem Am {l:List SS} {p:List ByteArray} {k:Nat} {d:SS} (h:k<l.length):(l.take k).map (oM p)++[oM p (l.getD k d)]=(l.take (k+1)).map (oM p):=by
 rw [List.take_succ_eq_append_getElem h,List.map_append,getD_in (α:=SS) l k d h];rfl
theorem Qm (n:SN) (p:List ByteArray) (hn:Bd n) (hl:n.f0.length=n.f1.length) (hp:p.length≤7) (hz:∀x∈p,x.size≤1048576) (hc:(iK p n).length≤4194304)
  (ih:∀i,i<n.f1.length→aW T Tryz.prog 136 [.ag (T.cells eN (dw T eN n.f1 i)), .c (.sl 9 (p++[g9 n.f0 i]))] (.c (.ow eE (iK (p++[g9 n.f0 i]) (dw T eN n.f1 i))))):aW T Tryz.prog 136 [.ag (T.cells eN n), .c (.sl 9 p)] (.c (.ow eE (iK p n))):=by
 have hl2:=hn.l2
 rw [zY] at hc⊢
 rw [List.length_append,List.length_map] at hc
 refine bM hT Tryz.func136 (by kernel_rfl) rfl rfl (fun A=>?_)
 conv=>whnf
 refine iO.mk {k:Nat // k≤n.f2.length} (fun q=>(2,[(14,i64 q.1),(13,i64 n.f2.length),(12,im eS n.f2),(5, .c (.hd 1)),(2, .c (.px 0 0)),(1,im 9 p)],[(1, .row 1 eE ((n.f2.take q.1).map (oM p))),(0,wL n)])) (fun q=>n.f2.length - q.1) ⟨0,Nat.zero_le _⟩ (aI [(1,1),(0,0)] rfl rfl rfl ⟨⟨rfl,rfl⟩,⟨rfl,rfl⟩,⟨rfl,rfl⟩,⟨rfl,rfl⟩,⟨rfl,rfl⟩,⟨rfl,rfl⟩,trivial⟩ ⟨ng rfl,⟨rfl,rfl⟩,trivial⟩) ?_
 rintro⟨k,hk⟩
 conv=>whnf
 refine Split.mk (fun c=>?_) (fun c=>?_)
 ·have hk2:k<n.f2.length:=jP c
  clear c
  conv=>whnf
  refine Need.mk (idx hk2) ?_
  conv=>whnf
  refine aU.mk _ (Ox p (Nat.le_trans hp (by decide)) (su p hp hz)) ?_
  conv=>whnf
  refine Need.mk (eY (a:=((n.f2.take k).map (oM p)).length) (b:=1) (by rw [List.length_map,List.length_take];omega) (by decide)) ?_
  conv=>whnf
  refine dD.mk ⟨by kernel_rfl,by kernel_rfl⟩ ?_
  conv=>whnf
  exact dA.mk ⟨⟨k+1,hk2⟩,Nat.sub_lt_sub_left hk2 (Nat.lt_succ_self k),aI [(1,5),(0,0)] rfl rfl rfl ⟨⟨rfl,congrArg i64 (iy hk2 (by omega))⟩,⟨rfl,rfl⟩,⟨rfl,rfl⟩,⟨rfl,rfl⟩,⟨rfl,rfl⟩,⟨rfl,rfl⟩,trivial⟩ ⟨ng (Am (d:=T.df eS) hk2),⟨rfl,rfl⟩,trivial⟩⟩
 ·have hk2:k=n.f2.length:=Nat.le_antisymm hk (jQ c)
  clear c
  subst hk2
  have hl1:=hn.l1
  conv=>whnf
  refine iO.mk {k:Nat // k≤n.f1.length} (fun q=>(2,[(34,i64 q.1),(33,i64 n.f1.length),(32,im eN n.f1),(5, .c (.hd 1)),(2, .c (.px 0 0)),(1,im 9 p)],[(1, .row 1 eE (n.f2.map (oM p)++dV p (n.f0.take q.1) (n.f1.take q.1))),(0,wL n)])) (fun q=>n.f1.length - q.1) ⟨0,Nat.zero_le _⟩ (aI [(1,1),(0,0)] rfl rfl rfl ⟨⟨rfl,rfl⟩,⟨rfl,rfl⟩,⟨rfl,rfl⟩,⟨rfl,rfl⟩,⟨rfl,rfl⟩,⟨rfl,rfl⟩,trivial⟩ ⟨ng (by rw [List.take_length];simp [dV];rfl),⟨rfl,rfl⟩,trivial⟩) ?_
  rintro⟨k,hk⟩
  conv=>whnf
  refine Split.mk (fun c=>?_) (fun c=>?_)
  ·have hk2:k<n.f1.length:=jP c
   have hk3:k<n.f0.length:=by omega
   clear c
   conv=>whnf
   refine Need.mk (idx hk2) ?_
   conv=>whnf
   refine Need.mk ⟨Hw,eY (a:=0) (b:=p.length) (by omega) (by decide)⟩ ?_
   conv=>whnf
   refine Need.mk (idx hk3) ?_
   conv=>whnf
   refine Need.mk (eY (a:=p.length) (b:=1) (by omega) (by decide)) ?_
   conv=>whnf
   refine aU.mk _ (ih k hk2) ?_
   conv=>whnf
   have hsn:=uJ (p:=p) (d:=T.df 9) (e:=T.df eN) hk3 hk2
   have hle:=pz (p:=p) (ns:=n.f0) (ks:=n.f1) (k:=k+1)
   rw [hsn,List.length_append] at hle
   refine Need.mk (eY (a:=(n.f2.map (oM p)++dV p (n.f0.take k) (n.f1.take k)).length) (b:=(iK (p++[g9 n.f0 k]) (dw T eN n.f1 k)).length) (by rw [List.length_append,List.length_map];have hle':_+(iK (p++[g9 n.f0 k]) (dw T eN n.f1 k)).length≤_:=hle;omega) (by decide)) ?_
   conv=>whnf
   refine dD.mk ⟨by kernel_rfl,by kernel_rfl⟩ ?_
   conv=>whnf
   exact dA.mk ⟨⟨k+1,hk2⟩,Nat.sub_lt_sub_left hk2 (Nat.lt_succ_self k),aI [(1,8),(0,0)] rfl rfl rfl ⟨⟨rfl,congrArg i64 (iy hk2 (by omega))⟩,⟨rfl,rfl⟩,⟨rfl,rfl⟩,⟨rfl,rfl⟩,⟨rfl,rfl⟩,⟨rfl,rfl⟩,trivial⟩ ⟨ng (show(n.f2.map (oM p)++dV p (n.f0.take k) (n.f1.take k))++iK (p++[g9 n.f0 k]) (dw T eN n.f1 k)=n.f2.map (oM p)++dV p (n.f0.take (k+1)) (n.f1.take (k+1)) by rw [hsn,List.append_assoc];rfl),⟨rfl,rfl⟩,trivial⟩⟩
  ·have hk2:k=n.f1.length:=Nat.le_antisymm hk (jQ c)
   clear c
   conv=>whnf
   exact aV.mk ⟨rfl,rfl⟩ ⟨rfl,rfl⟩ ⟨ng (by show n.f2.map (oM p)++dV p (n.f0.take k) (n.f1.take k)=_;rw [hk2,List.take_length,←hl,List.take_length]),trivial⟩
theorem LX {p:List ByteArray} {n:SN} {i:Nat} (h:i<n.f1.length) (hl:n.f0.length=n.f1.length):(iK (p++[g9 n.f0 i]) (dw T eN n.f1 i)).length≤(iK p n).length:=by
 have h3:i<n.f0.length:=by omega
 have hsn:=uJ (p:=p) (d:=T.df 9) (e:=T.df eN) h3 h
 have hle:=pz (p:=p) (ns:=n.f0) (ks:=n.f1) (k:=i+1)
 rw [hsn,List.length_append] at hle
 rw [zY,List.length_append]
 have hle':_+(iK (p++[g9 n.f0 i]) (dw T eN n.f1 i)).length≤_:=hle
 omega
theorem Qn {l:List ByteArray} {i:Nat} (h:i<l.length):g9 l i∈l:=getD_mem (l:=l) (d:=T.df 9) h
theorem Yl {l:List SN} {i:Nat} (h:i<l.length):dw T eN l i∈l:=getD_mem (l:=l) (d:=T.df eN) h
inductive Dp:Nat→SN→Prop
 | mk (d:Nat) (n:SN) (h:n.f1≠[]→0<d) (hk:∀k∈n.f1,Dp (d - 1) k):Dp d n
theorem Dp.pos {d:Nat} {n:SN} (h:Dp d n) (hne:n.f1≠[]):0<d:=by cases h with | mk _ _ h _=>exact h hne
theorem Dp.kid {d:Nat} {n:SN} (h:Dp d n):∀k∈n.f1,Dp (d - 1) k:=by cases h with | mk _ _ _ h=>exact h
theorem entriesOf:∀(n:SN) (p:List ByteArray) (d:Nat),Bd n→Tr n→Dp d n→p.length+d≤7→(∀x∈p,x.size≤1048576)→(iK p n).length≤4194304→aW T Tryz.prog 136 [.ag (T.cells eN n), .c (.sl 9 p)] (.c (.ow eE (iK p n))):=fun n p d hn ht hd hp hz hc=>
 Qm n p hn ht.len (by omega) hz hc (fun i hi=>by
  have hm:dw T eN n.f1 i∈n.f1:=Yl hi
  have h9:g9 n.f0 i∈n.f0:=Qn (by rw [ht.len];exact hi)
  have hpos:=hd.pos (fun e=>by rw [e] at hi;simp at hi)
  have hx:(dw T eN n.f1 i:SN)∈n.f1:=hm
  exact entriesOf (dw T eN n.f1 i) (p++[g9 n.f0 i]) (d - 1) (hn.kid _ hm) (ht.kid _ hm) (hd.kid _ hm) (by rw [List.length_append];show p.length+1+(d - 1)≤7;omega) (fun y hy=>(List.mem_append.1 hy).elim (hz y) (fun h=>by rw [List.mem_singleton.1 h];exact hn.z0 _ h9)) (Nat.le_trans (LX hi ht.len) hc))
termination_by n=>SizeOf.sizeOf n
decreasing_by exact oN hm
theorem QZ (n:SN) (hn:Bd n) (hg:jJ n=true→Tr n∧Dp 7 n) (hc:(gX n).length≤4194304):aW T Tryz.prog 71 [.ag (T.cells eN n)] (.c (.ow eE (gX n))):=by
 refine bM hT Tryz.func71 (by kernel_rfl) rfl rfl (fun A=>?_)
 conv=>whnf
 refine aU.mk _ (TW n hn) ?_
 conv=>whnf
 refine Split.mk (fun c=>?_) (fun c=>?_)
 ·have h0:jJ n=false:=dX c
  conv=>whnf
  exact aV.mk ⟨rfl,rfl⟩ ⟨rfl,rfl⟩ ⟨⟨rfl,show gX n=[] by unfold gX;rw [h0];rfl⟩,trivial⟩
 ·have h0:jJ n=true:=fH c
  have he:gX n=iK [] n:=by unfold gX;rw [if_pos h0]
  rw [he] at hc⊢
  conv=>whnf
  refine aU.mk _ (La (entriesOf n [] 7 hn (hg h0).1 (hg h0).2 (by decide) (fun x hx=>by cases hx) hc)) ?_
  conv=>whnf
  exact aV.mk ⟨rfl,rfl⟩ ⟨rfl,rfl⟩ ⟨rfl,trivial⟩
end Go.Proofs.YtcnfgfomholheaaGreatDoor.Q
end
section
namespace Go.Proofs.YtcnfgfomholheaaGreatDoor.Q
open Go.RowKit Go.Proofs.YtcnfgfomholheaaGreatDoor.Z Go.Proofs.YtcnfgfomholheaaGreatDoor.Pure
set_option linter.unusedVariables false
set_option linter.unusedSimpArgs false
set_option maxRecDepth 100000
set_option maxHeartbeats 4000000
end Go.Proofs.YtcnfgfomholheaaGreatDoor.Q
end
section
namespace Go.Proofs.YtcnfgfomholheaaGreatDoor.Q
open Go.RowKit Go.Proofs.YtcnfgfomholheaaGreatDoor.Z Go.Proofs.YtcnfgfomholheaaGreatDoor.Pure
set_option linter.unusedVariables false
set_option linter.unusedSimpArgs false
set_option maxRecDepth 100000
set_option maxHeartbeats 4000000
end Go.Proofs.YtcnfgfomholheaaGreatDoor.Q
end
section
namespace Go.Proofs.YtcnfgfomholheaaGreatDoor.Q
open Go.RowKit Go.Proofs.YtcnfgfomholheaaGreatDoor.Z Go.Proofs.YtcnfgfomholheaaGreatDoor.Pure
set_option linter.unusedVariables false
set_option linter.unusedSimpArgs false
set_option maxRecDepth 100000
set_option maxHeartbeats 4000000
abbrev aeW (n:SN):RS T.Tb:= .ag [.im 9 n.f0, .im eN n.f1, .im eS n.f2]
def gS (l:List SS) (i:Nat):SS:=l.getD i (T.df eS)
end Go.Proofs.YtcnfgfomholheaaGreatDoor.Q
end
section
namespace Go.Proofs.YtcnfgfomholheaaGreatDoor.Q
open Go.RowKit Go.Proofs.YtcnfgfomholheaaGreatDoor.Z Go.Proofs.YtcnfgfomholheaaGreatDoor.Pure
set_option linter.unusedVariables false
set_option linter.unusedSimpArgs false
set_option maxRecDepth 100000
set_option maxHeartbeats 4000000
def UK (ls:List ByteArray) (c:ByteArray) (l:List SS):List SS:=bif decide (0<ls.length) then l else gZ c l
structure Pk (ls:List ByteArray) (c:ByteArray) (f:ByteArray→SN→SN) (n:SN):Prop where
 no:ls.length=0→∀x k,f x k=k
 ne:0<ls.length→∀x k,(x.toList==(g9 ls 0).toList)=false→f x k=k
 eq:0<ls.length→∀x,∀k∈n.f1,(x.toList==(g9 ls 0).toList)=true→aW T Tryz.prog 96 [.ag (T.cells eN k), .c (.sl 9 ((ls.drop 1).take (ls.length - 1))), .c (.sc (.bool false)), .c (.sc (.string c))] (aeW (f x k))
end Go.Proofs.YtcnfgfomholheaaGreatDoor.Q
end
section
namespace Go.Proofs.YtcnfgfomholheaaGreatDoor.Q
open Go.RowKit Go.Proofs.YtcnfgfomholheaaGreatDoor.Z Go.Proofs.YtcnfgfomholheaaGreatDoor.Pure
set_option linter.unusedVariables false
set_option linter.unusedSimpArgs false
set_option maxRecDepth 100000
set_option maxHeartbeats 4000000
end Go.Proofs.YtcnfgfomholheaaGreatDoor.Q
end
section
namespace Go.Proofs.YtcnfgfomholheaaGreatDoor.Q
open Go.RowKit Go.Proofs.YtcnfgfomholheaaGreatDoor.Z Go.Proofs.YtcnfgfomholheaaGreatDoor.Pure
set_option linter.unusedVariables false
set_option linter.unusedSimpArgs false
set_option maxRecDepth 100000
set_option maxHeartbeats 4000000
theorem GN (n:SN) (p:List ByteArray) (hn:Bd n) (hl:n.f0.length=n.f1.length) (hp:p.length≤7) (hz:∀x∈p,x.size≤1048576) (hc:(iK p n).length≤4194304)
  (ih:∀i,i<n.f1.length→aW T Tryz.prog 178 [.ag (T.cells eN (dw T eN n.f1 i)), .c (.sc (.string (dF (p++[g9 n.f0 i])))), .c (.sc (.int .i64 ((p.length+1:Nat):Int)))] (.c (.ow eE (iK (p++[g9 n.f0 i]) (dw T eN n.f1 i))))):aW T Tryz.prog 178 [.ag (T.cells eN n), .c (.sc (.string (dF p))), .c (.sc (.int .i64 (p.length:Int)))] (.c (.ow eE (iK p n))):=by
 have hl2:=hn.l2
 have hjs:=su p hp hz
 rw [zY] at hc⊢
 rw [List.length_append,List.length_map] at hc
 refine qF hT Tryz.func178 (by kernel_rfl) rfl rfl (fun A=>?_)
 refine Vc.of 0 hT ?_
 conv=>whnf
 refine iO.mk {k:Nat // k≤n.f2.length} (fun q=>(2,[(8,i64 q.1),(7, .c (.hd 1)),(3, .c (.px 0 0)),(1, .c (.sc (.string (dF p)))),(2,i64 p.length)],[(1, .row 1 eE ((n.f2.take q.1).map (oM p))),(0,wL n)])) (fun q=>n.f2.length - q.1) ⟨0,Nat.zero_le _⟩ (aI [(1,1),(0,0)] rfl rfl rfl ⟨⟨rfl,rfl⟩,⟨rfl,rfl⟩,⟨rfl,rfl⟩,⟨rfl,rfl⟩,⟨rfl,rfl⟩,trivial⟩ ⟨ng rfl,⟨rfl,rfl⟩,trivial⟩) ?_
 rintro⟨k,hk⟩
 conv=>whnf
 refine Split.mk (fun c=>?_) (fun c=>?_)
 ·have hk2:k<n.f2.length:=jP c
  clear c
  conv=>whnf
  refine Need.mk (idx hk2) ?_
  conv=>whnf
  refine Need.mk (idx hk2) ?_
  conv=>whnf
  refine Need.mk (idx hk2) ?_
  conv=>whnf
  refine Need.mk (eY (a:=((n.f2.take k).map (oM p)).length) (b:=1) (by rw [List.length_map,List.length_take];omega) (by decide)) ?_
  conv=>whnf
  refine dD.mk ⟨by kernel_rfl,by kernel_rfl⟩ ?_
  conv=>whnf
  exact dA.mk ⟨⟨k+1,hk2⟩,Nat.sub_lt_sub_left hk2 (Nat.lt_succ_self k),aI [(1,3),(0,0)] rfl rfl rfl ⟨⟨rfl,congrArg i64 (iy hk2 (by omega))⟩,⟨rfl,rfl⟩,⟨rfl,rfl⟩,⟨rfl,rfl⟩,⟨rfl,rfl⟩,trivial⟩ ⟨ng (Am (d:=T.df eS) hk2),⟨rfl,rfl⟩,trivial⟩⟩
 ·have hk2:k=n.f2.length:=Nat.le_antisymm hk (jQ c)
  clear c
  subst hk2
  have hl1:=hn.l1
  conv=>whnf
  refine iO.mk {k:Nat // k≤n.f0.length} (fun q=>(2,[(9,i64 q.1),(7, .c (.hd 1)),(3, .c (.px 0 0)),(1, .c (.sc (.string (dF p)))),(2,i64 p.length)],[(1, .row 1 eE (n.f2.map (oM p)++dV p (n.f0.take q.1) (n.f1.take q.1))),(0,wL n)])) (fun q=>n.f0.length - q.1) ⟨0,Nat.zero_le _⟩ (aI [(1,1),(0,0)] rfl rfl rfl ⟨⟨rfl,rfl⟩,⟨rfl,rfl⟩,⟨rfl,rfl⟩,⟨rfl,rfl⟩,⟨rfl,rfl⟩,trivial⟩ ⟨ng (by rw [List.take_length];simp [dV];rfl),⟨rfl,rfl⟩,trivial⟩) ?_
  rintro⟨k,hk⟩
  conv=>whnf
  refine Split.mk (fun c=>?_) (fun c=>?_)
  ·have hk3:k<n.f0.length:=jP c
   have hk2:k<n.f1.length:=by omega
   clear c
   have ihk:=ih k hk2
   rw [show(((p.length+1:Nat)):Int)=wrap64 ((p.length:Int)+1) from d1_ (by omega)] at ihk
   have hsn:=uJ (p:=p) (d:=T.df 9) (e:=T.df eN) hk3 hk2
   have hle:=pz (p:=p) (ns:=n.f0) (ks:=n.f1) (k:=k+1)
   rw [hsn,List.length_append] at hle
   have hap:(n.f2.map (oM p)++dV p (n.f0.take k) (n.f1.take k)).length+(iK (p++[g9 n.f0 k]) (dw T eN n.f1 k)).length≤8388608:=by
    rw [List.length_append,List.length_map]
    have hle':_+(iK (p++[g9 n.f0 k]) (dw T eN n.f1 k)).length≤_:=hle
    omega
   have hx:(g9 n.f0 k).size≤1048576:=hn.z0 _ (Qn hk3)
   conv=>whnf
   refine Need.mk (idx hk3) ?_
   conv=>whnf
   refine Split.mk (fun c=>?_) (fun c=>?_)
   ·have h1:0<p.length:=nK c
    have e:(dF p++(⟨#[47]⟩:ByteArray))++g9 n.f0 k=dF (p++[g9 n.f0 k]):=(if_pos h1).symm.trans (Bc p p.length rfl _)
    rw [←e] at ihk
    have hs1:(dF p++(⟨#[47]⟩:ByteArray)).size=(dF p).size+1:=rY _ _
    conv=>whnf
    refine Need.mk (show(dF p).size+1≤9223372036854775807 by omega) ?_
    conv=>whnf
    refine Need.mk (show(dF p++(⟨#[47]⟩:ByteArray)).size+(g9 n.f0 k).size≤9223372036854775807 by omega) ?_
    conv=>whnf
    refine Need.mk (idx hk2) ?_
    conv=>whnf
    refine aU.mk _ ihk ?_
    conv=>whnf
    refine Need.mk (eY (a:=(n.f2.map (oM p)++dV p (n.f0.take k) (n.f1.take k)).length) (b:=(iK (p++[g9 n.f0 k]) (dw T eN n.f1 k)).length) hap (by decide)) ?_
    conv=>whnf
    exact dA.mk ⟨⟨k+1,hk3⟩,Nat.sub_lt_sub_left hk3 (Nat.lt_succ_self k),aI [(1,3),(0,0)] rfl rfl rfl ⟨⟨rfl,congrArg i64 (iy hk3 (by omega))⟩,⟨rfl,rfl⟩,⟨rfl,rfl⟩,⟨rfl,rfl⟩,⟨rfl,rfl⟩,trivial⟩ ⟨ng (show(n.f2.map (oM p)++dV p (n.f0.take k) (n.f1.take k))++iK (p++[g9 n.f0 k]) (dw T eN n.f1 k)=n.f2.map (oM p)++dV p (n.f0.take (k+1)) (n.f1.take (k+1)) by rw [hsn,List.append_assoc];rfl),⟨rfl,rfl⟩,trivial⟩⟩
   ·have h1:p.length=0:=nM c
    have e:g9 n.f0 k=dF (p++[g9 n.f0 k]):=(if_neg (show ¬0<p.length by omega)).symm.trans (Bc p p.length rfl _)
    rw [←e] at ihk
    conv=>whnf
    refine Need.mk (idx hk2) ?_
    conv=>whnf
    refine aU.mk _ ihk ?_
    conv=>whnf
    refine Need.mk (eY (a:=(n.f2.map (oM p)++dV p (n.f0.take k) (n.f1.take k)).length) (b:=(iK (p++[g9 n.f0 k]) (dw T eN n.f1 k)).length) hap (by decide)) ?_
    conv=>whnf
    exact dA.mk ⟨⟨k+1,hk3⟩,Nat.sub_lt_sub_left hk3 (Nat.lt_succ_self k),aI [(1,3),(0,0)] rfl rfl rfl ⟨⟨rfl,congrArg i64 (iy hk3 (by omega))⟩,⟨rfl,rfl⟩,⟨rfl,rfl⟩,⟨rfl,rfl⟩,⟨rfl,rfl⟩,trivial⟩ ⟨ng (show(n.f2.map (oM p)++dV p (n.f0.take k) (n.f1.take k))++iK (p++[g9 n.f0 k]) (dw T eN n.f1 k)=n.f2.map (oM p)++dV p (n.f0.take (k+1)) (n.f1.take (k+1)) by rw [hsn,List.append_assoc];rfl),⟨rfl,rfl⟩,trivial⟩⟩
  ·have hk2:k=n.f0.length:=Nat.le_antisymm hk (jQ c)
   clear c
   conv=>whnf
   exact aV.mk ⟨rfl,rfl⟩ ⟨rfl,rfl⟩ ⟨ng (by show n.f2.map (oM p)++dV p (n.f0.take k) (n.f1.take k)=_;rw [hk2,List.take_length,hl,List.take_length]),trivial⟩
theorem Ap:∀(n:SN) (p:List ByteArray) (d:Nat),Bd n→Tr n→Dp d n→p.length+d≤7→(∀x∈p,x.size≤1048576)→(iK p n).length≤4194304→aW T Tryz.prog 178 [.ag (T.cells eN n), .c (.sc (.string (dF p))), .c (.sc (.int .i64 (p.length:Int)))] (.c (.ow eE (iK p n))):=fun n p d hn ht hd hp hz hc=>
 GN n p hn ht.len (by omega) hz hc (fun i hi=>by
  have hm:dw T eN n.f1 i∈n.f1:=Yl hi
  have h9:g9 n.f0 i∈n.f0:=Qn (by rw [ht.len];exact hi)
  have hpos:=hd.pos (fun e=>by rw [e] at hi;simp at hi)
  have hx:(dw T eN n.f1 i:SN)∈n.f1:=hm
  have hlen:(p++[g9 n.f0 i]).length=p.length+1:=by rw [List.length_append];rfl
  have:=Ap (dw T eN n.f1 i) (p++[g9 n.f0 i]) (d - 1) (hn.kid _ hm) (ht.kid _ hm) (hd.kid _ hm) (by rw [hlen];omega) (fun y hy=>(List.mem_append.1 hy).elim (hz y) (fun h=>by rw [List.mem_singleton.1 h];exact hn.z0 _ h9)) (Nat.le_trans (LX hi ht.len) hc)
  rw [hlen] at this
  exact this)
termination_by n=>SizeOf.sizeOf n
decreasing_by exact oN hm
theorem specEntries (n:SN) (hn:Bd n) (hg:jJ n=true→Tr n∧Dp 7 n) (hc:(gX n).length≤4194304):aW T Tryz.prog 107 [.ag (T.cells eN n)] (.c (.ow eE (gX n))):=by
 refine bM hT Tryz.func107 (by kernel_rfl) rfl rfl (fun A=>?_)
 conv=>whnf
 refine aU.mk _ (TT n hn) ?_
 conv=>whnf
 refine Split.mk (fun c=>?_) (fun c=>?_)
 ·have h0:jJ n=false:=dX c
  conv=>whnf
  exact aV.mk ⟨rfl,rfl⟩ ⟨rfl,rfl⟩ ⟨ng (show []=gX n by unfold gX;rw [h0];rfl),trivial⟩
 ·have h0:jJ n=true:=fH c
  have he:gX n=iK [] n:=by unfold gX;rw [if_pos h0]
  rw [he] at hc⊢
  conv=>whnf
  refine aU.mk _ (Ap n [] 7 hn (hg h0).1 (hg h0).2 (by decide) (fun x hx=>by cases hx) hc) ?_
  conv=>whnf
  exact aV.mk ⟨rfl,rfl⟩ ⟨rfl,rfl⟩ ⟨rfl,trivial⟩
end Go.Proofs.YtcnfgfomholheaaGreatDoor.Q
end
section
namespace Go.Proofs.YtcnfgfomholheaaGreatDoor.Q
open Go.RowKit Go.Proofs.YtcnfgfomholheaaGreatDoor.Z Go.Proofs.YtcnfgfomholheaaGreatDoor.Pure
set_option linter.unusedVariables false
set_option linter.unusedSimpArgs false
def prs (n:SN):List (ByteArray × SN):=n.f0.zip n.f1
abbrev uf (a b:ByteArray):Prop:=Op.bytesLess a.toList b.toList=true
theorem Es {a:ByteArray} (h:uf a a):False:=by unfold uf at h;rw [EY] at h;cases h
theorem abh {n:SN} {x:ByteArray × SN} (h:x∈prs n):x.2∈n.f1:=(List.of_mem_zip (a:=x.1) (b:=x.2) h).2
inductive Gd:SN→Prop
 | mk (n:SN) (ht:Tr n) (hf:∀k∈n.f1,k.f1≠[]∨k.f2≠[]) (hk:∀k∈n.f1,Gd k):Gd n
theorem Gd.tr {n:SN} (h:Gd n):Tr n:=by cases h;assumption
theorem Gd.full {n:SN} (h:Gd n):∀k∈n.f1,k.f1≠[]∨k.f2≠[]:=by cases h;assumption
theorem Gd.kid {n:SN} (h:Gd n):∀k∈n.f1,Gd k:=by cases h;assumption
end Go.Proofs.YtcnfgfomholheaaGreatDoor.Q
end
section
namespace Go.Proofs.YtcnfgfomholheaaGreatDoor.Q
open Go.RowKit Go.Proofs.YtcnfgfomholheaaGreatDoor.Z Go.Proofs.YtcnfgfomholheaaGreatDoor.X Go.Proofs.YtcnfgfomholheaaGreatDoor.Pure
set_option linter.unusedVariables false
set_option linter.unusedSimpArgs false
theorem LY {p:List ByteArray}:∀{ns:List ByteArray} {y:Option ByteArray} {ks:List SN},ns.length=ks.length→l7 p ns y ks=true→ns.Pairwise uf∧∀x∈ns,nJ y x=true
 | [],y,ks,_,_=>⟨.nil,fun x hx=>by cases hx⟩
 | x::r,y,[],h,_=>by simp at h
 | x::r,y,k::q,h,ho=>by
   obtain⟨h1,_,_,_,h5⟩:=sV.1 ho
   obtain⟨a,b⟩:=LY (by simpa using h) h5
   refine⟨List.pairwise_cons.2 ⟨fun z hz=>b z hz,a⟩,fun z hz=>?_⟩
   rcases List.mem_cons.1 hz with rfl | hz
   ·exact h1
   ·cases y with
    | none=>rfl
    | some y=>exact qZ _ _ _ h1 (b z hz)
theorem KH {p:List ByteArray}:∀{ns:List ByteArray} {y:Option ByteArray} {ks:List SN},l7 p ns y ks=true→∀x k,(x,k)∈ns.zip ks→Jz x k=true∧(k.f1.length≠0∨k.f2.length≠0)∧okI (p++[x]) k=true
 | [],y,ks,_,x,k,h=>by simp at h
 | x::r,y,[],_,x',k',h=>by simp at h
 | x::r,y,k::q,ho,x',k',h=>by
   obtain⟨_,h2,h3,h4,h5⟩:=sV.1 ho
   rw [List.zip_cons_cons] at h
   rcases List.mem_cons.1 h with h | h
   ·cases h;exact⟨h2,h3,h4⟩
   ·exact KH h5 x' k' h
theorem abj {n:SN} (hl:n.f0.length=n.f1.length) {k:SN} (hk:k∈n.f1):∃x,(x,k)∈prs n:=by
 have:k∈(prs n).map (·.2):=by unfold prs;rw [List.map_snd_zip (by omega)];exact hk
 obtain⟨⟨x,k'⟩,h,rfl⟩:=List.mem_map.1 this
 exact⟨x,h⟩
theorem aam:∀(n:SN) (p:List ByteArray),okI p n=true→Gd n∧Dp (7 - p.length) n:=fun n p h=>by
 obtain⟨h1,h2,h3,h4,h5⟩:=qo.1 h
 have hk:∀k∈n.f1,(Gd k∧Dp (7 - (p.length+1)) k)∧(k.f1≠[]∨k.f2≠[])∧p.length+1≤6:=fun k hk=>by
  obtain⟨x,hx⟩:=abj h1 hk
  obtain⟨_,a2,a3⟩:=KH h5 x k hx
  have:=aam k (p++[x]) a3
  have h7:=(qo.1 a3).2.1
  rw [List.length_append] at this h7
  refine⟨this,a2.imp (fun h e=>h (by rw [e];rfl)) (fun h e=>h (by rw [e];rfl)),h7⟩
 refine⟨.mk n (.mk n h1 (LY h1 h5).1 (fun k h=>(hk k h).1.1.tr)) (fun k h=>(hk k h).2.1) (fun k h=>(hk k h).1.1), .mk _ n (fun hne=>?_) (fun k h=>?_)⟩
 ·obtain⟨k,h⟩:=List.exists_mem_of_ne_nil _ hne
  have:=(hk k h).2.2
  omega
 ·have:=(hk k h).1.2
  rw [show 7 - p.length - 1=7 - (p.length+1) by omega]
  exact this
termination_by n=>SizeOf.sizeOf n
decreasing_by exact oN hk
theorem LZ {n:SN} (h:jJ n=true):okI [] n=true∧n.f2=[]:=by
 unfold jJ at h
 simp only [Bool.and_eq_true,decide_eq_true_eq] at h
 exact⟨h.2,List.length_eq_zero_iff.1 h.1⟩
theorem Jj {n:SN} (h:jJ n=true):Tr n∧Dp 7 n:=by
 have:=aam n [] (LZ h).1
 exact⟨this.1.tr,this.2⟩
theorem Qo {p:List ByteArray} {e:SE}:∀{ns:List ByteArray} {ks:List SN},e∈dV p ns ks→∃x k,(x,k)∈ns.zip ks∧e∈iK (p++[x]) k
 | [],ks,h=>by rw [dV] at h;cases h
 | x::r,[],h=>by rw [dV] at h;cases h
 | x::r,k::q,h=>by
   rw [dV] at h
   rcases List.mem_append.1 h with h | h
   ·exact⟨x,k,by rw [List.zip_cons_cons];exact List.mem_cons_self,h⟩
   ·obtain⟨x',k',h1,h2⟩:=Qo h
    exact⟨x',k',by rw [List.zip_cons_cons];exact List.mem_cons_of_mem _ h1,h2⟩
theorem Jk:∀(n:SN) (p:List ByteArray),okI p n=true→∀e∈iK p n,eu e.f0=true:=fun n p h e he=>by
 obtain⟨h1,h2,h3,h4,h5⟩:=qo.1 h
 rw [zY] at he
 rcases List.mem_append.1 he with he | he
 ·obtain⟨s,hs,rfl⟩:=List.mem_map.1 he
  rcases h4 with h4 | h4
  ·rw [List.length_eq_zero_iff.1 h4] at hs;cases hs
  ·exact h4
 ·obtain⟨x,k,hx,hk⟩:=Qo he
  have hkk:k∈n.f1:=abh (n:=n) hx
  exact Jk k (p++[x]) (KH h5 x k hx).2.2 e hk
termination_by n=>SizeOf.sizeOf n
decreasing_by exact oN hkk
theorem L6 {n:SN} {e:SE} (he:e∈gX n):e.f0.size≤1073741824∧(Hg e.f0).length≤2097152:=by
 unfold gX at he
 cases h:jJ n with
 | false=>rw [h] at he;cases he
 | true=>
   rw [h] at he
   have h1:=Jk n [] (LZ h).1 e he
   have h2:=((uj e.f0).1 (EJ h1)).2.2
   have h3:=mZ e.f0
   exact⟨Nat.le_trans h2 (by decide),Nat.le_trans h3 (by omega)⟩
end Go.Proofs.YtcnfgfomholheaaGreatDoor.Q
end
section
namespace Go.Proofs.YtcnfgfomholheaaGreatDoor.Q
open Go.RowKit Go.Proofs.YtcnfgfomholheaaGreatDoor.Z Go.Proofs.YtcnfgfomholheaaGreatDoor.X Go.Proofs.YtcnfgfomholheaaGreatDoor.Pure
set_option linter.unusedVariables false
set_option linter.unusedSimpArgs false
end Go.Proofs.YtcnfgfomholheaaGreatDoor.Q
end
section
namespace Go.Proofs.YtcnfgfomholheaaGreatDoor.Q
open Go.RowKit Go.Proofs.YtcnfgfomholheaaGreatDoor.Z Go.Proofs.YtcnfgfomholheaaGreatDoor.X Go.Proofs.YtcnfgfomholheaaGreatDoor.Pure
set_option linter.unusedVariables false
set_option linter.unusedSimpArgs false
theorem GR:∀(l:List SS) (k:Nat),(bZ dK l k).2=k+3*l.length
 | [],k=>rfl
 | p::l,k=>by
   show(bZ dK l (k+3)).2=_
   rw [GR l (k+3),List.length_cons];omega
mutual
theorem SK:∀(n:SN) (k:Nat),(dS n k).2≤k+3*cnt n
 | ⟨a,b,c⟩,k=>by
   rw [dS,cnt]
   show(bZ dK c (rE b (k+1*a.length)).2).2≤_
   rw [GR]
   have:=Qp b (k+1*a.length)
   omega
theorem Qp:∀(l:List SN) (k:Nat),(rE l k).2≤k+3*tJ l
 | [],k=>by rw [rE,tJ];exact Nat.le_refl _
 | p::l,k=>by
   rw [rE,tJ]
   show(rE l (dS p k).2).2≤_
   have h1:=SK p k
   have h2:=Qp l (dS p k).2
   omega
end
theorem yN {n:Nat} {x:Int} (h:0≤fP n x):fP n x+n≤x:=by unfold fP at*;split at h<;>(try split)<;>omega
def sumF {α:Type} (g:α→Nat):List α→Nat
 | []=>0
 | a::l=>g a+sumF g l
theorem SL {α:Type} {F:α→Int→Int} {g:α→Nat}:∀{l:List α} {x:Int},(∀a∈l,∀x,0≤x→0≤F a x→F a x+g a≤x)→0≤x→0≤jl F l x→jl F l x+sumF g l≤x
 | [],x,_,_,_=>by show x+((0:Nat):Int)≤x;omega
 | a::l,x,hF,h0,h=>by
   obtain⟨h1,h2⟩:=qM h
   have e:jl F (a::l) x=jl F l (F a x):=D9 h1
   have h3:=hF a List.mem_cons_self x h0 h1
   have h4:=SL (g:=g) (l:=l) (fun b hb=>hF b (List.mem_cons_of_mem _ hb)) h1 h2
   rw [e]
   show _+((g a+sumF g l:Nat):Int)≤x
   omega
theorem Et {α:Type} {F:α→Int→Int}:∀{l:List α} {x:Int},(∀a∈l,∀x,0≤x→F a x≤x)→0≤x→0≤jl F l x→∀a∈l,∃v,0≤v∧v≤x∧0≤F a v
 | [],x,_,_,_,a,ha=>by cases ha
 | b::l,x,hF,h0,h,a,ha=>by
   obtain⟨h1,h2⟩:=qM h
   rcases List.mem_cons.1 ha with rfl | ha
   ·exact⟨x,h0,Int.le_refl _,h1⟩
   ·have h3:=hF b List.mem_cons_self x h0
    obtain⟨v,v1,v2,v3⟩:=Et (l:=l) (fun b hb=>hF b (List.mem_cons_of_mem _ hb)) h1 h2 a ha
    exact⟨v,v1,by omega,v3⟩
theorem SQ:∀l:List LN,sumF (fun a=>cnt (tN a)) l=tJ (l.map tN)
 | []=>by rw [List.map_nil,tJ];rfl
 | a::l=>by rw [List.map_cons,tJ,←SQ l];rfl
theorem SV {l:List ByteArray} {x:Int} (h0:0≤x) (h:0≤EF l x):EF l x+l.length≤x:=by
 obtain⟨h1,h2⟩:=qM h
 have e:EF l x=_:=D9 h1
 have h3:=yN h1
 have h4:=sS (F:=fun y:ByteArray=>fP y.size) (l:=l) (fun a _ x hx=>kJ hx) h1
 rw [e];omega
theorem SX {l:List LS} {x:Int} (h0:0≤x) (h:0≤Ag l x):Ag l x+l.length≤x:=by
 obtain⟨h1,h2⟩:=qM h
 have e:Ag l x=_:=D9 h1
 have h3:=yN h1
 have h4:=sS (F:=fun y:LS=>fP y.f0.size) (l:=l) (fun a _ x hx=>kJ hx) h1
 rw [e];omega
theorem L8 {a:LN} {x:Int} (h0:0≤x) (h:0≤nT a x):∃x1 x2 x3:Int,EF a.f0 x=x1∧0≤x1∧x1≤x∧fP a.f1.length x1=x2∧0≤x2∧x2≤x1∧jl nT a.f1 x2=x3∧0≤x3∧x3≤x2∧0≤Ag a.f2 x3∧nT a x=Ag a.f2 x3:=by
 rw [Oa] at h⊢
 obtain⟨h1,h2⟩:=qM h
 obtain⟨h3,h4⟩:=qM h2
 obtain⟨h5,h6⟩:=qM h3
 have e1:=D9 (K:=fun x=>thenS (thenS (fP a.f1.length x) (jl nT a.f1)) fun x=>Ag a.f2 x) h1
 have e2:=D9 (K:=fun x=>Ag a.f2 x) h3
 have e3:=D9 (K:=jl nT a.f1) h5
 refine⟨_,_,_,rfl,h1,N8 h0,rfl,h5,kJ h1,rfl,h6,sS (fun b _ y hy=>AY b hy) h5,?_,?_⟩
 ·rw [←e3];exact h4
 ·rw [e1,e2,e3]
theorem SY:∀(a:LN) (x:Int),0≤x→0≤nT a x→nT a x+cnt (tN a)≤x:=fun a x h0 h=>by
 obtain⟨x1,x2,x3,e1,a1,b1,e2,a2,b2,e3,a3,b3,h4,e⟩:=L8 h0 h
 have g1:=SV h0 (by rw [e1];exact a1)
 have g2:=SL (F:=nT) (g:=fun a=>cnt (tN a)) (l:=a.f1) (fun k hk y hy hz=>SY k y hy hz) a2 (by rw [e3];exact a3)
 have g3:=SX a3 h4
 rw [e1] at g1
 rw [e3,SQ] at g2
 rw [e,Tz,abC]
 show _+(((a.f0.length+(a.f2.map tS).length+tJ (a.f1.map tN):Nat)):Int)≤x
 rw [List.length_map]
 omega
termination_by a=>SizeOf.sizeOf a
decreasing_by exact xZ hk
theorem Ym:∀(a:LN) (x:Int),0≤x→x≤1048576→0≤nT a x→Bd (tN a)∧Wn a:=fun a x h0 hx h=>by
 obtain⟨x1,x2,x3,e1,a1,b1,e2,a2,b2,e3,a3,b3,h4,e⟩:=L8 h0 h
 have h1:0≤EF a.f0 x:=by rw [e1];exact a1
 have g1:=SV h0 h1
 have g3:=SX a3 h4
 have g2:=yN (n:=a.f1.length) (x:=x1) (by rw [e2];exact a2)
 rw [e1] at g1
 rw [e2] at g2
 have z0:∀y∈a.f0,y.size≤1048576:=fun y hy=>by
  obtain⟨q1,q2⟩:=qM h1
  obtain⟨v,v1,v2,v3⟩:=Et (F:=fun y:ByteArray=>fP y.size) (fun a _ x hx=>kJ hx) q1 q2 y hy
  have:=yN v3
  have:=kJ (n:=a.f0.length) h0
  omega
 have z2:∀y∈a.f2,y.f0.size≤1048576:=fun y hy=>by
  obtain⟨q1,q2⟩:=qM h4
  obtain⟨v,v1,v2,v3⟩:=Et (F:=fun y:LS=>fP y.f0.size) (fun a _ x hx=>kJ hx) q1 q2 y hy
  have:=yN v3
  have:=kJ (n:=a.f2.length) a3
  omega
 have hk:∀k∈a.f1,Bd (tN k)∧Wn k:=fun k hk=>by
  obtain⟨v,v1,v2,v3⟩:=Et (F:=nT) (fun b _ y hy=>AY b hy) a2 (by rw [e3];exact a3) k hk
  exact Ym k v v1 (by omega) v3
 refine⟨?_, .mk a (by omega) (by omega) (by omega) (fun k h=>(hk k h).2)⟩
 rw [Tz]
 refine .mk _ (by show a.f0.length≤_;omega) z0 (by show(a.f1.map tN).length≤_;rw [List.length_map];omega) (by show(a.f2.map tS).length≤_;rw [List.length_map];omega) (fun y hy=>?_) (fun y hy=>?_)
 ·obtain⟨z,hz,rfl⟩:=List.mem_map.1 hy
  exact z2 z hz
 ·obtain⟨z,hz,rfl⟩:=List.mem_map.1 hy
  exact(hk z hz).1
termination_by a=>SizeOf.sizeOf a
decreasing_by exact xZ hk
end Go.Proofs.YtcnfgfomholheaaGreatDoor.Q
end
section
namespace Go.Proofs.YtcnfgfomholheaaGreatDoor.Q
open Go.RowKit Go.Proofs.YtcnfgfomholheaaGreatDoor.Z Go.Proofs.YtcnfgfomholheaaGreatDoor.X Go.Proofs.YtcnfgfomholheaaGreatDoor.Pure
set_option linter.unusedVariables false
set_option linter.unusedSimpArgs false
theorem zZ {a b:ByteArray} (h:a≠b):(a.toList==b.toList)=false:=by
 cases hq:a.toList==b.toList with
 | false=>rfl
 | true=>exact(h (Y5 hq)).elim
theorem Aa (a:ByteArray):(a.toList==a.toList)=true:=by simp
end Go.Proofs.YtcnfgfomholheaaGreatDoor.Q
end
section
namespace Go.Proofs.YtcnfgfomholheaaGreatDoor.Q
open Go.RowKit Go.Proofs.YtcnfgfomholheaaGreatDoor.Z Go.Proofs.YtcnfgfomholheaaGreatDoor.X Go.Proofs.YtcnfgfomholheaaGreatDoor.Pure
set_option linter.unusedVariables false
set_option linter.unusedSimpArgs false
theorem Jl:∀(a b:List UInt8),a≠b→Op.bytesLess a b=true∨Op.bytesLess b a=true
 | [],[],h=>(h rfl).elim
 | [],b::y,_=> .inl rfl
 | a::x,[],_=> .inr rfl
 | a::x,b::y,h=>by
   simp only [Op.bytesLess,Bool.or_eq_true,Bool.and_eq_true,decide_eq_true_eq,beq_iff_eq]
   by_cases e:a=b
   ·subst e
    rcases Jl x y (fun e=>h (by rw [e])) with h1 | h1
    ·exact .inl (.inr ⟨rfl,h1⟩)
    ·exact .inr (.inr ⟨rfl,h1⟩)
   ·rcases UInt8.lt_or_lt_of_ne e with h1 | h1
    ·exact .inl (.inl h1)
    ·exact .inr (.inl h1)
theorem L9 {a b:ByteArray} (h:a≠b):uf a b∨uf b a:=Jl _ _ (fun e=>h (toList_inj e))
inductive Tx:SN→Prop
 | mk (n:SN) (z0:∀x∈n.f0,ByteArray.size x≤1048576) (z2:∀x∈n.f2,(x:SS).f0.size≤1048576) (hk:∀k∈n.f1,Tx k):Tx n
theorem Tx.z0 {n:SN} (h:Tx n):∀x∈n.f0,ByteArray.size x≤1048576:=by cases h;assumption
theorem Tx.z2 {n:SN} (h:Tx n):∀x∈n.f2,(x:SS).f0.size≤1048576:=by cases h;assumption
theorem Tx.kid {n:SN} (h:Tx n):∀k∈n.f1,Tx k:=by cases h;assumption
theorem ZC (s:SS) (l:List SS):(lM s l).length≤l.length+1:=by
 unfold lM
 have h:=LW s.f0 l
 have e:=congrArg List.length (List.takeWhile_append_dropWhile (p:=tq s.f0) (l:=gZ s.f0 l))
 rw [List.length_append] at e
 rw [List.length_append,List.length_cons]
 omega
theorem ZE {s:SS} {l:List SS} {x:SS} (h:x∈lM s l):x=s∨x∈l:=by
 unfold lM at h
 have sub:∀y,y∈gZ s.f0 l→y∈l:=fun y hy=>List.filter_sublist.subset hy
 rcases List.mem_append.1 h with h | h
 ·exact .inr (sub x ((List.takeWhile_sublist _).subset h))
 ·rcases List.mem_cons.1 h with h | h
  ·exact .inl h
  ·exact .inr (sub x ((List.dropWhile_sublist _).subset h))
abbrev sO (l:List SS):Prop:=l.Pairwise (fun a b=>uf a.f0 b.f0)
theorem ZF {t:ByteArray} {l:List SS} (h:∀x∈l,x.f0≠t):gZ t l=l:=by
 unfold gZ
 refine List.filter_eq_self.2 (fun x hx=>?_)
 rw [zZ (h x hx)];rfl
theorem Du {s x:SS} {r:List SS} (h:uf x.f0 s.f0):lM s (x::r)=x::lM s r:=by
 unfold lM
 have hne:x.f0≠s.f0:=fun e=>by rw [e] at h;exact Es h
 have e:gZ s.f0 (x::r)=x::gZ s.f0 r:=by unfold gZ;rw [List.filter_cons,zZ hne];rfl
 have h':tq s.f0 x=true:=h
 rw [e,List.takeWhile_cons,List.dropWhile_cons,h']
 rfl
theorem Dv {s:SS} {l:List SS} (h:∀x∈l,uf s.f0 x.f0):lM s l=s::l:=by
 unfold lM
 rw [ZF (fun x hx e=>by have:=h x hx;rw [e] at this;exact Es this)]
 cases l with
 | nil=>rfl
 | cons y l=>
   have h':tq s.f0 y=false:=uI _ _ (h y List.mem_cons_self)
   rw [List.takeWhile_cons,List.dropWhile_cons,h']
   rfl
theorem Mc {s x:SS} {r:List SS} (he:x.f0=s.f0) (h:∀y∈r,uf s.f0 y.f0):lM s (x::r)=s::r:=by
 rw [←Dv h]
 unfold lM
 have e:gZ s.f0 (x::r)=gZ s.f0 r:=by unfold gZ;rw [List.filter_cons,he,Aa];rfl
 rw [e]
end Go.Proofs.YtcnfgfomholheaaGreatDoor.Q
end
section
namespace Go.Proofs.YtcnfgfomholheaaGreatDoor.Q
open Go.RowKit Go.Proofs.YtcnfgfomholheaaGreatDoor.Z Go.Proofs.YtcnfgfomholheaaGreatDoor.X Go.Proofs.YtcnfgfomholheaaGreatDoor.Pure
set_option linter.unusedVariables false
set_option linter.unusedSimpArgs false
def jI (c:ByteArray) (l:List SS):Nat:=(l.takeWhile (tq c)).length
def mP (c:ByteArray) (l:List SS):Bool:=decide (jI c l<l.length) && ((gS l (jI c l)).f0.toList==c.toList)
def yO (s:SS) (l:List SS):List SS:=
 bif mP s.f0 l then (bif decide (s.f1>(gS l (jI s.f0 l)).f1) then l.set (jI s.f0 l) s else l) else l.take (jI s.f0 l)++s::l.drop (jI s.f0 l)
def ji (c:ByteArray) (l:List SS):Nat:=l.findIdx (fun x=>x.f0.toList==c.toList)
def rC (s:SS) (l:List SS):List SS:=bif decide (ji s.f0 l<l.length) && !decide ((gS l (ji s.f0 l)).f1<s.f1) then l else lM s l
theorem S9 {c:ByteArray} {x:SS} {r:List SS} (h:uf x.f0 c):jI c (x::r)=jI c r+1:=by
 unfold jI
 rw [List.takeWhile_cons,show tq c x=true from h];rfl
theorem Tc {c:ByteArray} {x:SS} {r:List SS} (h:Op.bytesLess x.f0.toList c.toList=false):jI c (x::r)=0:=by
 unfold jI
 rw [List.takeWhile_cons,show tq c x=false from h];rfl
theorem acN {s x:SS} {r:List SS} (h:uf x.f0 s.f0):yO s (x::r)=x::yO s r:=by
 have hf:mP s.f0 (x::r)=mP s.f0 r:=by
  unfold mP
  rw [S9 h]
  have e:gS (x::r) (jI s.f0 r+1)=gS r (jI s.f0 r):=rfl
  rw [e]
  congr 1
  simp
 have e:gS (x::r) (jI s.f0 r+1)=gS r (jI s.f0 r):=rfl
 unfold yO
 rw [hf,S9 h,e]
 cases mP s.f0 r with
 | false=>rfl
 | true=>
   cases decide (s.f1>(gS r (jI s.f0 r)).f1)<;>rfl
theorem acO {s x:SS} {r:List SS} (h:uf x.f0 s.f0):rC s (x::r)=x::rC s r:=by
 have hne:(x.f0.toList==s.f0.toList)=false:=zZ (fun e=>by rw [e] at h;exact Es h)
 have hf:ji s.f0 (x::r)=ji s.f0 r+1:=by
  unfold ji
  rw [List.findIdx_cons,hne];rfl
 have e:gS (x::r) (ji s.f0 r+1)=gS r (ji s.f0 r):=rfl
 unfold rC
 rw [hf,e,Du h]
 have e2:decide (ji s.f0 r+1<(x::r).length)=decide (ji s.f0 r<r.length):=by simp
 rw [e2]
 cases decide (ji s.f0 r<r.length) && !decide ((gS r (ji s.f0 r)).f1<s.f1)<;>rfl
theorem Td {s:SS}:∀{l:List SS},sO l→rC s l=yO s l
 | [],_=>rfl
 | x::r,h=>by
   obtain⟨h1,h2⟩:=List.pairwise_cons.1 h
   by_cases he:x.f0=s.f0
   ·have hr:∀y∈r,uf s.f0 y.f0:=fun y hy=>he▸h1 y hy
    have hp:jI s.f0 (x::r)=0:=Tc (by rw [he];exact EY _)
    have hq:ji s.f0 (x::r)=0:=by unfold ji;rw [List.findIdx_cons,he,Aa];rfl
    have hf:mP s.f0 (x::r)=true:=by
     unfold mP
     rw [hp,show gS (x::r) 0=x from rfl,he,Aa]
     simp
    unfold rC yO
    rw [hf,hp,hq,show gS (x::r) 0=x from rfl,Mc he hr]
    have e0:decide (0<(x::r).length)=true:=by simp
    rw [e0]
    by_cases hc:x.f1<s.f1
    ·rw [decide_eq_true hc];rfl
    ·rw [decide_eq_false hc];rfl
   ·rcases L9 he with hlt | hlt
    ·rw [acO hlt,acN hlt,Td h2]
    ·have hr:∀y∈x::r,uf s.f0 y.f0:=fun y hy=>by
      rcases List.mem_cons.1 hy with rfl | hy
      ·exact hlt
      ·exact qZ _ _ _ hlt (h1 y hy)
     have hp:jI s.f0 (x::r)=0:=Tc (uI _ _ hlt)
     have hf:mP s.f0 (x::r)=false:=by
      unfold mP
      rw [hp,show gS (x::r) 0=x from rfl,zZ he,Bool.and_false]
     have hq:decide (ji s.f0 (x::r)<(x::r).length)=false:=by
      refine decide_eq_false (fun hl=>?_)
      unfold ji at hl
      obtain⟨y,hy,hy2⟩:=List.findIdx_lt_length.1 hl
      have:=hr y hy
      rw [Y5 hy2] at this
      exact Es this
     unfold rC yO
     rw [hf,hp,hq,Dv hr]
     rfl
theorem Md {s:SS}:∀{l:List SS},sO l→sO (lM s l)
 | [],_=>List.pairwise_singleton _ _
 | x::r,h=>by
   obtain⟨h1,h2⟩:=List.pairwise_cons.1 h
   by_cases he:x.f0=s.f0
   ·have hr:∀y∈r,uf s.f0 y.f0:=fun y hy=>he▸h1 y hy
    rw [Mc he hr]
    exact List.pairwise_cons.2 ⟨hr,h2⟩
   ·rcases L9 he with hlt | hlt
    ·rw [Du hlt]
     refine List.pairwise_cons.2 ⟨fun y hy=>?_,Md h2⟩
     rcases ZE hy with rfl | hy
     ·exact hlt
     ·exact h1 y hy
    ·have hr:∀y∈x::r,uf s.f0 y.f0:=fun y hy=>by
      rcases List.mem_cons.1 hy with rfl | hy
      ·exact hlt
      ·exact qZ _ _ _ hlt (h1 y hy)
     rw [Dv hr]
     exact List.pairwise_cons.2 ⟨hr,h⟩
theorem ZG {s:SS} {l:List SS} (h:sO l):sO (rC s l):=by
 unfold rC
 cases decide (ji s.f0 l<l.length) && !decide ((gS l (ji s.f0 l)).f1<s.f1) with
 | true=>exact h
 | false=>exact Md h
theorem abk (s:SS) (l:List SS):(rC s l).length≤l.length+1:=by
 unfold rC
 cases decide (ji s.f0 l<l.length) && !decide ((gS l (ji s.f0 l)).f1<s.f1) with
 | true=>exact Nat.le_succ _
 | false=>exact ZC s l
abbrev wish (e:SE):SS:=⟨e.f1,e.f2,e.f3⟩
def iV (t:ByteArray) (l:List SS) (e:SE):List SS:=bif lF e.f0 t then rC (wish e) l else l
def iR (t:ByteArray) (es:List SE):List SS:=es.foldl (iV t) []
theorem MN {t:ByteArray} {l:List SS} {e:SE} (h:sO l):sO (iV t l e):=by
 unfold iV
 cases lF e.f0 t with
 | true=>exact ZG h
 | false=>exact h
theorem Qq (t:ByteArray) (l:List SS) (e:SE):(iV t l e).length≤l.length+1:=by
 unfold iV
 cases lF e.f0 t with
 | true=>exact abk _ _
 | false=>exact Nat.le_succ _
theorem Jm {t:ByteArray} {es:List SE} {k:Nat} {d:SE} (h:k<es.length):iR t (es.take (k+1))=iV t (iR t (es.take k)) (es.getD k d):=by
 unfold iR
 rw [List.take_succ_eq_append_getElem h,List.foldl_append,getD_in es k d h]
 rfl
theorem Jo (t:ByteArray):∀(es:List SE) (l:List SS),sO l→sO (es.foldl (iV t) l)
 | [],l,h=>h
 | e::es,l,h=>Jo t es _ (MN h)
theorem xq (t:ByteArray):∀(es:List SE) (l:List SS),(es.foldl (iV t) l).length≤l.length+es.length
 | [],l=>Nat.le_refl _
 | e::es,l=>by
   have h1:=xq t es (iV t l e)
   have h2:=Qq t l e
   rw [List.foldl_cons,List.length_cons]
   omega
end Go.Proofs.YtcnfgfomholheaaGreatDoor.Q
end
section
namespace Go.Proofs.YtcnfgfomholheaaGreatDoor.Q
open Go.RowKit Go.Proofs.YtcnfgfomholheaaGreatDoor.X Go.Proofs.YtcnfgfomholheaaGreatDoorW.PrintWords Go.Proofs.YtcnfgfomholheaaGreatDoorW.PrintLast Go.Proofs.YtcnfgfomholheaaGreatDoorW.PrintMore
open Go.Proofs.YtcnfgfomholheaaGreatDoor.Z (V El ck Ow Fam row_part row_in ow_open CallWOb)
set_option linter.unusedVariables false
set_option linter.unusedSimpArgs false
theorem EZ {α β γ:Type} {f:α→γ} {g:β→γ} {p:α→Bool} {q:β→Bool}:∀{l:List α} {m:List β},l.map f=m.map g→(∀(j:Nat) (a:α) (b:β),l[j]? =some a→m[j]? =some b→p a=q b)→l.findIdx? p=m.findIdx? q
 | [],[],_,_=>rfl
 | [],_::_,h,_=>by cases h
 | _::_,[],h,_=>by cases h
 | a::l,b::m,h,hp=>by
   rw [List.findIdx?_cons,List.findIdx?_cons,hp 0 a b rfl rfl,EZ (List.cons.inj h).2 (fun j x y hx hy=>hp (j+1) x y (by simpa using hx) (by simpa using hy))]
theorem Yn (l:List SS) (fl c:ByteArray) (q b:Int):CallWOb T Tryz.prog 114 [.c (.ow eS l eS l), .c (.fn 115 96 [.string fl, .string c, .int .i64 q, .int .i64 b])] (.c (.sc (.int .i64 (match l.findIdx? (fun s=>s.f0.toList==c.toList) with
  | none=>-1
  | some i=>(i:Int))))):=by
 refine⟨⟨_,Tryz.func114,by kernel_rfl,by kernel_rfl⟩,fun w vs S Fw ev V _ _ XA hap O8 hargs=>?_⟩
 obtain⟨v,r,rfl,⟨hv,hO⟩,v2,r2,rfl,⟨B,rfl,hSB,hB⟩,rfl⟩:=hargs
 obtain⟨els,G,h0,h1,h2,h3,h4,h5⟩:=ow_open hO
 obtain⟨hR,hof⟩:=Eu (sz:=T.sz) rfl h2 h3
 obtain⟨A,n,cap,rfl⟩:∃A n cap,v= .slice A n cap:=by
  rcases hO.form with ⟨_,h⟩ | ⟨g,cap,cur,h,_⟩
  ·exact⟨_,_,_,h⟩
  ·exact⟨_,_,_,h⟩
 have Qr:∀(j:Nat) (t:El) (s:SS),els[j]? =some t→l[j]? =some s→(jA t).2.1= .string s.f0:=fun j t s ht hs=>by
  have hx:t.2.1=T.enc eS s:=Z.XB (T:=T) (e:=eS) h0 ht hs
  obtain⟨u,h6,h7⟩:=(h2.el t (List.mem_of_getElem? ht)).2.2 0 (.sc (.string s.f0)) (by rw [hx];rfl)
  cases h7
  show t.2.2.getD 0 undef=_
  rw [List.getD_eq_getElem?_getD,h6];rfl
 have hstr:∀c∈els.map jA,∃s,c.2.1=Value.string s:=fun c hc=>by
  obtain⟨t,ht,rfl⟩:=List.mem_map.1 hc
  obtain⟨j,hj⟩:=List.getElem?_of_mem ht
  have hl:els.length=l.length:=Z.Ea (T:=T) (e:=eS) h0
  have hjl:=(List.getElem?_eq_some_iff.1 hj).1
  exact⟨_,Qr j t _ hj (List.getElem?_eq_getElem (by omega))⟩
 have hcell:w.cell? ⟨B,1,none⟩=some (.string c):=by rw [cell_of_row w B 1 _ _ _ hB];rfl
 refine(Yj.calls B c (els.map jA) hstr A n cap 0 w hR hcell).mono ?_
 rintro e w' ⟨rfl,hb⟩
 have hix:(els.map jA).findIdx? (qY c)=l.findIdx? (fun s=>s.f0.toList==c.toList):=by
  rw [List.findIdx?_map]
  refine EZ (f:=fun t:El=>t.2.1) (g:=T.enc eS) h0 (fun j t s ht hs=>?_)
  show zX c (jA t).2.1=_
  rw [Qr j t s ht hs]
  rfl
 refine⟨_,fun _ _=>False,fun i k=>i=0∧Fw 0 k,rfl,⟨hb.os,hb.tape,hb.output,hb.size⟩,fun k hk _=>hb.block k hk,fun _ _ h=>h.elim,fun _ _ _ h=>h.elim,fun i k hk=>⟨.inr ⟨0,hk.2⟩,Nat.lt_of_lt_of_le (XA 0 k hk.2).2 hb.size⟩,fun i j k h h'=>h.1.trans h'.1.symm,fun _ _ _ _ h=>h.elim,⟨?_,trivial⟩,[_],rfl,?_⟩
 ·rw [←hv]
  exact Ow.mono (hO.frame (fun k hk _=>hb.block k (XA 0 k hk).2)) (fun k hk=>⟨rfl,hk⟩)
 ·refine⟨[],?_,rfl,rfl⟩
  unfold qX
  rw [hix]
  cases l.findIdx? (fun s=>s.f0.toList==c.toList)<;>rfl
def acP (c:ByteArray) (l:List SS):Int:=match l.findIdx? (fun s=>s.f0.toList==c.toList) with
 | none=>-1
 | some i=>(i:Int)
theorem Qs (c:ByteArray) (l:List SS):acP c l=if ji c l<l.length then (ji c l:Int) else -1:=by
 unfold acP ji
 rw [List.findIdx?_eq_guard_findIdx_lt]
 by_cases h:l.findIdx (fun x=>x.f0.toList==c.toList)<l.length
 ·simp [Option.guard,h]
 ·simp [Option.guard,h]
end Go.Proofs.YtcnfgfomholheaaGreatDoor.Q
end
section
namespace Go.Proofs.YtcnfgfomholheaaGreatDoor.Q
open Go.RowKit Go.Proofs.YtcnfgfomholheaaGreatDoor.Z Go.Proofs.YtcnfgfomholheaaGreatDoor.X Go.Proofs.YtcnfgfomholheaaGreatDoor.Pure
set_option linter.unusedVariables false
set_option linter.unusedSimpArgs false
set_option maxRecDepth 100000
set_option maxHeartbeats 4000000
def gE (l:List SE) (i:Nat):SE:=l.getD i (T.df eE)
theorem VE {l:List SS} {fl c:ByteArray} {q b:Int} (h:ji c l<l.length):CallWOb T Tryz.prog 114 [.c (.ow eS l eS l), .c (.fn 115 96 [.string fl, .string c, .int .i64 q, .int .i64 b])] (.c (.sc (.int .i64 ((ji c l:Nat):Int)))):=by
 have h1:=Yn l fl c q b
 have h2:=Qs c l
 rw [if_pos h] at h2
 rw [←h2]
 exact h1
theorem Yo {l:List SS} {fl c:ByteArray} {q b:Int} (h:¬ji c l<l.length):CallWOb T Tryz.prog 114 [.c (.ow eS l eS l), .c (.fn 115 96 [.string fl, .string c, .int .i64 q, .int .i64 b])] (.c (.sc (.int .i64 (-1)))):=by
 have h1:=Yn l fl c q b
 have h2:=Qs c l
 rw [if_neg h] at h2
 rw [←h2]
 exact h1
theorem VF (n:SN) (t:ByteArray) (hn:Bd n) (htn:jJ n=true→Tr n∧Dp 7 n) (hc:(gX n).length≤4194304) (ht:t.size≤1048576) (hE:∀e∈gX n,e.f0.size≤1073741824∧(Hg e.f0).length≤2097152):aW T Tryz.prog 32 [.ag (T.cells eN n), .c (.sc (.string t))] (.c (.ow eS (iR t (gX n)))):=by
 have VG:=QZ n hn htn hc
 refine bM hT Tryz.func32 (by kernel_rfl) rfl rfl (fun A=>?_)
 conv=>whnf
 refine aU.mk _ VG ?_
 conv=>whnf
 generalize hEq:gX n=E at hc hE⊢
 refine iO.mk {k:Nat // k≤E.length} (fun q=>(3,[(13,i64 q.1),(12,i64 E.length),(11, .c (.hd 2)),(5, .c (.hd 1)),(2, .c (.px 0 0)),(1, .c (.sc (.string t)))],[(1, .row 1 eS (iR t (E.take q.1))),(2, .row 2 eE E),(0,wL n)])) (fun q=>E.length - q.1) ⟨0,Nat.zero_le _⟩ (aI [(1,1),(2,2),(0,0)] rfl rfl rfl ⟨⟨rfl,rfl⟩,⟨rfl,rfl⟩,⟨rfl,rfl⟩,⟨rfl,rfl⟩,⟨rfl,rfl⟩,⟨rfl,rfl⟩,trivial⟩ ⟨kE rfl,ng rfl,⟨rfl,rfl⟩,trivial⟩) ?_
 rintro⟨k,hk⟩
 conv=>whnf
 refine Split.mk (fun c1=>?_) (fun c1=>?_)
 ·have hk2:k<E.length:=jP c1
  clear c1
  have hs1:=(hE (gE E k) (getD_mem (l:=E) (d:=T.df eE) hk2)).1
  have hstep:=Jm (t:=t) (d:=T.df eE) hk2
  change iR t (E.take (k+1))=iV t (iR t (E.take k)) (gE E k) at hstep
  have hlen:(iR t (E.take k)).length≤4194304:=by
   have:=xq t (E.take k) []
   have h3:(iR t (E.take k)).length≤0+(E.take k).length:=this
   rw [List.length_take] at h3
   omega
  generalize iR t (E.take k)=L at hstep hlen⊢
  conv=>whnf
  refine Need.mk (idx hk2) ?_
  conv=>whnf
  refine aU.mk _ (WM (gE E k).f0 t hs1 (Nat.le_trans ht (by decide))) ?_
  conv=>whnf
  refine Split.mk (fun c1=>?_) (fun c1=>?_)
  ·have hm:lF (gE E k).f0 t=false:=dX c1
   have hq:iR t (E.take (k+1))=L:=by rw [hstep];unfold iV;rw [hm];rfl
   conv=>whnf
   exact dA.mk ⟨⟨k+1,hk2⟩,Nat.sub_lt_sub_left hk2 (Nat.lt_succ_self k),aI [(1,1),(2,2),(0,0)] rfl rfl rfl ⟨⟨rfl,congrArg i64 (iy hk2 (by omega))⟩,⟨rfl,rfl⟩,⟨rfl,rfl⟩,⟨rfl,rfl⟩,⟨rfl,rfl⟩,⟨rfl,rfl⟩,trivial⟩ ⟨kE hq.symm,ng rfl,⟨rfl,rfl⟩,trivial⟩⟩
  ·have hm:lF (gE E k).f0 t=true:=fH c1
   have hq:iR t (E.take (k+1))=rC (wish (gE E k)) L:=by rw [hstep];unfold iV;rw [hm];rfl
   have hput:=abg L (wish (gE E k)) (by omega)
   by_cases hf:ji (gE E k).f1 L<L.length
   ·have hix:=VE (fl:=(gE E k).f0) (q:=(gE E k).f2) (b:=(gE E k).f3) hf
    conv=>whnf
    refine aU.wr [[.wr eS L],[.rd]] (.c (.sc (.int .i64 ((ji (gE E k).f1 L:Nat):Int)))) ?_
    conv=>whnf
    refine kK.mk hix ?_
    conv=>whnf
    refine Split.mk (fun c2=>ZL c2) (fun c2=>?_)
    conv=>whnf
    refine Need.mk (idx hf) ?_
    conv=>whnf
    refine dD.mk ⟨by kernel_rfl,by kernel_rfl⟩ ?_
    conv=>whnf
    refine Split.mk (fun c3=>?_) (fun c3=>?_)
    ·have hl:rC (wish (gE E k)) L=lM (wish (gE E k)) L:=by
      unfold rC
      rw [show decide ((gS L (ji (wish (gE E k)).f0 L)).f1<(wish (gE E k)).f1)=true from c3,Bool.not_true,Bool.and_false]
      rfl
     conv=>whnf
     refine aU.mk _ hput ?_
     conv=>whnf
     exact dA.mk ⟨⟨k+1,hk2⟩,Nat.sub_lt_sub_left hk2 (Nat.lt_succ_self k),aI [(1,8),(2,2),(0,0)] rfl rfl rfl ⟨⟨rfl,congrArg i64 (iy hk2 (by omega))⟩,⟨rfl,rfl⟩,⟨rfl,rfl⟩,⟨rfl,rfl⟩,⟨rfl,rfl⟩,⟨rfl,rfl⟩,trivial⟩ ⟨kE (hq.trans hl).symm,ng rfl,⟨rfl,rfl⟩,trivial⟩⟩
    ·have hl:rC (wish (gE E k)) L=L:=by
      unfold rC
      rw [show decide ((gS L (ji (wish (gE E k)).f0 L)).f1<(wish (gE E k)).f1)=false from c3,decide_eq_true hf]
      rfl
     conv=>whnf
     exact dA.mk ⟨⟨k+1,hk2⟩,Nat.sub_lt_sub_left hk2 (Nat.lt_succ_self k),aI [(1,1),(2,2),(0,0)] rfl rfl rfl ⟨⟨rfl,congrArg i64 (iy hk2 (by omega))⟩,⟨rfl,rfl⟩,⟨rfl,rfl⟩,⟨rfl,rfl⟩,⟨rfl,rfl⟩,⟨rfl,rfl⟩,trivial⟩ ⟨kE (hq.trans hl).symm,ng rfl,⟨rfl,rfl⟩,trivial⟩⟩
   ·have hix:=Yo (fl:=(gE E k).f0) (q:=(gE E k).f2) (b:=(gE E k).f3) hf
    have hl:rC (wish (gE E k)) L=lM (wish (gE E k)) L:=by
     unfold rC
     rw [show decide (ji (wish (gE E k)).f0 L<L.length)=false from decide_eq_false hf]
     rfl
    conv=>whnf
    refine aU.wr [[.wr eS L],[.rd]] (.c (.sc (.int .i64 (-1)))) ?_
    conv=>whnf
    refine kK.mk hix ?_
    conv=>whnf
    refine Split.mk (fun _=>?_) (fun e=>kM e)
    conv=>whnf
    refine dD.mk ⟨by kernel_rfl,by kernel_rfl⟩ ?_
    conv=>whnf
    refine Split.mk (fun _=>?_) (fun e=>kM e)
    conv=>whnf
    refine aU.mk _ hput ?_
    conv=>whnf
    exact dA.mk ⟨⟨k+1,hk2⟩,Nat.sub_lt_sub_left hk2 (Nat.lt_succ_self k),aI [(1,8),(2,2),(0,0)] rfl rfl rfl ⟨⟨rfl,congrArg i64 (iy hk2 (by omega))⟩,⟨rfl,rfl⟩,⟨rfl,rfl⟩,⟨rfl,rfl⟩,⟨rfl,rfl⟩,⟨rfl,rfl⟩,trivial⟩ ⟨kE (hq.trans hl).symm,ng rfl,⟨rfl,rfl⟩,trivial⟩⟩
 ·have hk2:k=E.length:=Nat.le_antisymm hk (jQ c1)
  clear c1
  subst hk2
  conv=>whnf
  exact aV.mk ⟨rfl,rfl⟩ ⟨rfl,rfl⟩ ⟨kE (by rw [List.take_length]),trivial⟩
end Go.Proofs.YtcnfgfomholheaaGreatDoor.Q
end
section
namespace Go.Proofs.YtcnfgfomholheaaGreatDoor.Q
open Go.RowKit Go.Proofs.YtcnfgfomholheaaGreatDoor.Z Go.Proofs.YtcnfgfomholheaaGreatDoor.X Go.Proofs.YtcnfgfomholheaaGreatDoor.Pure
set_option linter.unusedVariables false
set_option linter.unusedSimpArgs false
set_option maxRecDepth 100000
set_option maxHeartbeats 4000000
theorem Tf {c:ByteArray} {l:List SS} {i:Nat} (hi:i≤l.length) (h1:∀j,j<i→tq c (gS l j)=true) (h2:i=l.length∨tq c (gS l i)=false):jI c l=i:=by
 have:=(NG (p:=tq c) (d:=T.df eS) hi h1 h2).1
 unfold jI
 rw [←this,List.length_take]
 omega
abbrev aeX (s:SS):dL T:= .bx eS [.sc (.string s.f0), .sc (.int .i64 s.f1), .sc (.int .i64 s.f2)]
theorem VH (n:SN) (t:ByteArray) (hn:Bd n) (htn:jJ n=true→Tr n∧Dp 7 n) (hc:(gX n).length≤4194304) (ht:t.size≤1048576) (hE:∀e∈gX n,e.f0.size≤1073741824∧(Hg e.f0).length≤2097152):aW T Tryz.prog 31 [.ag (T.cells eN n), .c (.sc (.string t))] (.c (.ow eS (iR t (gX n)))):=by
 have VG:=specEntries n hn htn hc
 refine bM hT Tryz.func31 (by kernel_rfl) rfl rfl (fun A=>?_)
 conv=>whnf
 refine aU.mk _ VG ?_
 conv=>whnf
 generalize hEq:gX n=E at hc hE⊢
 refine iO.mk {k:Nat // k≤E.length} (fun q=>(3,[(7,i64 q.1),(6, .c (.hd 2)),(5, .c (.hd 1)),(2, .c (.px 0 0)),(1, .c (.sc (.string t)))],[(1, .row 1 eS (iR t (E.take q.1))),(2, .row 2 eE E),(0,wL n)])) (fun q=>E.length - q.1) ⟨0,Nat.zero_le _⟩ (aI [(1,1),(2,2),(0,0)] rfl rfl rfl ⟨⟨rfl,rfl⟩,⟨rfl,rfl⟩,⟨rfl,rfl⟩,⟨rfl,rfl⟩,⟨rfl,rfl⟩,trivial⟩ ⟨kE rfl,ng rfl,⟨rfl,rfl⟩,trivial⟩) ?_
 rintro⟨k,hk⟩
 conv=>whnf
 refine Split.mk (fun c1=>?_) (fun c1=>?_)
 ·have hk2:k<E.length:=jP c1
  clear c1
  have hs1:=(hE (gE E k) (getD_mem (l:=E) (d:=T.df eE) hk2)).1
  have hstep:=Jm (t:=t) (d:=T.df eE) hk2
  change iR t (E.take (k+1))=iV t (iR t (E.take k)) (gE E k) at hstep
  have hlen:(iR t (E.take k)).length≤4194304:=by
   have:=xq t (E.take k) []
   have h3:(iR t (E.take k)).length≤0+(E.take k).length:=this
   rw [List.length_take] at h3
   omega
  have hrise:sO (iR t (E.take k)):=Jo t _ [] .nil
  generalize iR t (E.take k)=L at hstep hlen hrise⊢
  conv=>whnf
  refine Need.mk (idx hk2) ?_
  conv=>whnf
  refine aU.mk _ (WO (gE E k).f0 t hs1 (Nat.le_trans ht (by decide))) ?_
  conv=>whnf
  refine Split.mk (fun c1=>?_) (fun c1=>?_)
  ·have hm:lF (gE E k).f0 t=false:=dX c1
   have hq:iR t (E.take (k+1))=L:=by rw [hstep];unfold iV;rw [hm];rfl
   conv=>whnf
   exact dA.mk ⟨⟨k+1,hk2⟩,Nat.sub_lt_sub_left hk2 (Nat.lt_succ_self k),aI [(1,1),(2,2),(0,0)] rfl rfl rfl ⟨⟨rfl,congrArg i64 (iy hk2 (by omega))⟩,⟨rfl,rfl⟩,⟨rfl,rfl⟩,⟨rfl,rfl⟩,⟨rfl,rfl⟩,trivial⟩ ⟨kE hq.symm,ng rfl,⟨rfl,rfl⟩,trivial⟩⟩
  ·have hm:lF (gE E k).f0 t=true:=fH c1
   have hq:iR t (E.take (k+1))=yO (wish (gE E k)) L:=by rw [hstep];unfold iV;rw [hm,←Td hrise];rfl
   conv=>whnf
   refine Need.mk (idx hk2) ?_
   conv=>whnf
   refine Need.mk (idx hk2) ?_
   conv=>whnf
   refine Need.mk (idx hk2) ?_
   conv=>whnf
   refine dD.mk ⟨by kernel_rfl,by kernel_rfl⟩ ?_
   conv=>whnf
   refine iO.mk {j:Nat // j≤L.length∧∀i,i<j→tq (gE E k).f1 (gS L i)=true} (fun q=>(5,[(9,i64 q.1),(8, .c (.px 4 0)),(7,i64 k),(6, .c (.hd 2)),(5, .c (.hd 1)),(2, .c (.px 0 0)),(1, .c (.sc (.string t)))],[(4,aeX (wish (gE E k))),(1, .row 1 eS L),(2, .row 2 eE E),(0,wL n)])) (fun q=>L.length - q.1) ⟨0,Nat.zero_le _,fun i hi=>absurd hi (Nat.not_lt_zero i)⟩ (aI [(4,4),(1,1),(2,2),(0,0)] rfl rfl rfl ⟨⟨rfl,rfl⟩,⟨rfl,rfl⟩,⟨rfl,rfl⟩,⟨rfl,rfl⟩,⟨rfl,rfl⟩,⟨rfl,rfl⟩,⟨rfl,rfl⟩,trivial⟩ ⟨⟨rfl,rfl⟩,kE rfl,ng rfl,⟨rfl,rfl⟩,trivial⟩) ?_
   rintro⟨j,hj,hlt⟩
   have key:∀{p:Prop},(yO (wish (gE E k)) L=(L.take j++[wish (gE E k)])++(L.drop j).take (L.length - j)→p)→mP (gE E k).f1 L=false→jI (gE E k).f1 L=j→p:=fun h hf hp=>h (by
    unfold yO
    rw [show mP (wish (gE E k)).f0 L=false from hf,show jI (wish (gE E k)).f0 L=j from hp,List.take_of_length_le (show(L.drop j).length≤L.length - j by rw [List.length_drop];exact Nat.le_refl _),List.append_assoc]
    rfl)
   have ap1:0+(L.take j).length≤8388608:=by rw [List.length_take];omega
   have ap2:(L.take j).length+1≤8388608:=by rw [List.length_take];omega
   have ap3:(L.take j++[wish (gE E k)]).length+((L.drop j).take (L.length - j)).length≤8388608:=by rw [List.length_append,List.length_take,List.length_take,List.length_drop];show _+1+_≤_;omega
   conv=>whnf
   refine Split.mk (fun c1=>?_) (fun c1=>?_)
   ·have hj2:j<L.length:=jP c1
    clear c1
    conv=>whnf
    refine Need.mk (idx hj2) ?_
    conv=>whnf
    refine dD.mk ⟨by kernel_rfl,by kernel_rfl⟩ ?_
    conv=>whnf
    refine Split.mk (fun c2=>?_) (fun c2=>?_)
    ·conv=>whnf
     exact dA.mk ⟨⟨j+1,hj2,fun i hi=>by
      rcases Nat.lt_succ_iff_lt_or_eq.1 hi with h | rfl
      ·exact hlt i h
      ·exact c2⟩,Nat.sub_lt_sub_left hj2 (Nat.lt_succ_self j),aI [(4,4),(1,1),(2,2),(0,0)] rfl rfl rfl ⟨⟨rfl,congrArg i64 (iy hj2 (by omega))⟩,⟨rfl,rfl⟩,⟨rfl,rfl⟩,⟨rfl,rfl⟩,⟨rfl,rfl⟩,⟨rfl,rfl⟩,⟨rfl,rfl⟩,trivial⟩ ⟨⟨rfl,rfl⟩,kE rfl,ng rfl,⟨rfl,rfl⟩,trivial⟩⟩
    ·have hp:jI (gE E k).f1 L=j:=Tf hj hlt (.inr c2)
     conv=>whnf
     refine Split.mk (fun _=>?_) (fun c=>absurd hj2 (Nat.not_lt_of_le (jQ c)))
     conv=>whnf
     refine Need.mk (idx hj2) ?_
     conv=>whnf
     refine dD.mk ⟨by kernel_rfl,by kernel_rfl⟩ ?_
     conv=>whnf
     refine Split.mk (fun c3=>?_) (fun c3=>?_)
     ·have hf:mP (gE E k).f1 L=true:=by
       unfold mP
       rw [hp,decide_eq_true hj2,show((gS L j).f0.toList==(gE E k).f1.toList)=true from c3];rfl
      conv=>whnf
      refine Need.mk (idx hj2) ?_
      conv=>whnf
      refine dD.mk ⟨by kernel_rfl,by kernel_rfl⟩ ?_
      conv=>whnf
      refine Split.mk (fun c4=>?_) (fun c4=>?_)
      ·have hl:yO (wish (gE E k)) L=L.set j (wish (gE E k)):=by
        unfold yO
        rw [show mP (wish (gE E k)).f0 L=true from hf,show jI (wish (gE E k)).f0 L=j from hp,show decide ((wish (gE E k)).f1>(gS L j).f1)=true from c4];rfl
       conv=>whnf
       refine Need.mk (idx hj2) ?_
       conv=>whnf
       exact dA.mk ⟨⟨k+1,hk2⟩,Nat.sub_lt_sub_left hk2 (Nat.lt_succ_self k),aI [(1,1),(2,2),(0,0)] rfl rfl rfl ⟨⟨rfl,congrArg i64 (iy hk2 (by omega))⟩,⟨rfl,rfl⟩,⟨rfl,rfl⟩,⟨rfl,rfl⟩,⟨rfl,rfl⟩,trivial⟩ ⟨kE (hq.trans hl).symm,ng rfl,⟨rfl,rfl⟩,trivial⟩⟩
      ·have hl:yO (wish (gE E k)) L=L:=by
        unfold yO
        rw [show mP (wish (gE E k)).f0 L=true from hf,show jI (wish (gE E k)).f0 L=j from hp,show decide ((wish (gE E k)).f1>(gS L j).f1)=false from c4];rfl
       conv=>whnf
       exact dA.mk ⟨⟨k+1,hk2⟩,Nat.sub_lt_sub_left hk2 (Nat.lt_succ_self k),aI [(1,1),(2,2),(0,0)] rfl rfl rfl ⟨⟨rfl,congrArg i64 (iy hk2 (by omega))⟩,⟨rfl,rfl⟩,⟨rfl,rfl⟩,⟨rfl,rfl⟩,⟨rfl,rfl⟩,trivial⟩ ⟨kE (hq.trans hl).symm,ng rfl,⟨rfl,rfl⟩,trivial⟩⟩
     ·have hf:mP (gE E k).f1 L=false:=by
       unfold mP
       rw [hp,show((gS L j).f0.toList==(gE E k).f1.toList)=false from c3,Bool.and_false]
      refine key (fun hl=>?_) hf hp
      conv=>whnf
      refine Need.mk ⟨Int.le_refl _,Int.natCast_nonneg _,Int.ofNat_le.2 hj⟩ ?_
      conv=>whnf
      refine Need.mk ⟨Hy,eY (a:=0) (b:=(L.take j).length) ap1 (by decide)⟩ ?_
      conv=>whnf
      refine Need.mk (eY (a:=(L.take j).length) (b:=1) ap2 (by decide)) ?_
      conv=>whnf
      refine Need.mk ⟨Int.natCast_nonneg _,Int.ofNat_le.2 hj,Int.le_refl _⟩ ?_
      conv=>whnf
      refine Need.mk ⟨Hy,eY (a:=(L.take j++[wish (gE E k)]).length) (b:=((L.drop j).take (L.length - j)).length) ap3 (by decide)⟩ ?_
      conv=>whnf
      refine dD.mk ⟨by kernel_rfl,by kernel_rfl⟩ ?_
      conv=>whnf
      exact dA.mk ⟨⟨k+1,hk2⟩,Nat.sub_lt_sub_left hk2 (Nat.lt_succ_self k),aI [(1,9),(2,2),(0,0)] rfl rfl rfl ⟨⟨rfl,congrArg i64 (iy hk2 (by omega))⟩,⟨rfl,rfl⟩,⟨rfl,rfl⟩,⟨rfl,rfl⟩,⟨rfl,rfl⟩,trivial⟩ ⟨kE (hq.trans hl).symm,ng rfl,⟨rfl,rfl⟩,trivial⟩⟩
   ·have hj2:j=L.length:=Nat.le_antisymm hj (jQ c1)
    have hp:jI (gE E k).f1 L=j:=Tf hj hlt (.inl hj2)
    have hf:mP (gE E k).f1 L=false:=by
     unfold mP
     rw [hp,decide_eq_false (by omega)];rfl
    refine key (fun hl=>?_) hf hp
    conv=>whnf
    refine dD.mk ⟨by kernel_rfl,by kernel_rfl⟩ ?_
    conv=>whnf
    refine Split.mk (fun e=>mX e) (fun _=>?_)
    conv=>whnf
    refine Split.mk (fun c=>absurd (jP c) (Nat.not_lt_of_le (Nat.le_of_eq hj2.symm))) (fun _=>?_)
    conv=>whnf
    refine dD.mk ⟨by kernel_rfl,by kernel_rfl⟩ ?_
    conv=>whnf
    refine Split.mk (fun e=>mX e) (fun _=>?_)
    conv=>whnf
    refine Need.mk ⟨Int.le_refl _,Int.natCast_nonneg _,Int.ofNat_le.2 hj⟩ ?_
    conv=>whnf
    refine Need.mk ⟨Hy,eY (a:=0) (b:=(L.take j).length) ap1 (by decide)⟩ ?_
    conv=>whnf
    refine Need.mk (eY (a:=(L.take j).length) (b:=1) ap2 (by decide)) ?_
    conv=>whnf
    refine Need.mk ⟨Int.natCast_nonneg _,Int.ofNat_le.2 hj,Int.le_refl _⟩ ?_
    conv=>whnf
    refine Need.mk ⟨Hy,eY (a:=(L.take j++[wish (gE E k)]).length) (b:=((L.drop j).take (L.length - j)).length) ap3 (by decide)⟩ ?_
    conv=>whnf
    refine dD.mk ⟨by kernel_rfl,by kernel_rfl⟩ ?_
    conv=>whnf
    exact dA.mk ⟨⟨k+1,hk2⟩,Nat.sub_lt_sub_left hk2 (Nat.lt_succ_self k),aI [(1,9),(2,2),(0,0)] rfl rfl rfl ⟨⟨rfl,congrArg i64 (iy hk2 (by omega))⟩,⟨rfl,rfl⟩,⟨rfl,rfl⟩,⟨rfl,rfl⟩,⟨rfl,rfl⟩,trivial⟩ ⟨kE (hq.trans hl).symm,ng rfl,⟨rfl,rfl⟩,trivial⟩⟩
 ·have hk2:k=E.length:=Nat.le_antisymm hk (jQ c1)
  clear c1
  subst hk2
  conv=>whnf
  exact aV.mk ⟨rfl,rfl⟩ ⟨rfl,rfl⟩ ⟨kE (by rw [List.take_length]),trivial⟩
end Go.Proofs.YtcnfgfomholheaaGreatDoor.Q
end
section
namespace Go.Proofs.YtcnfgfomholheaaGreatDoor.Q
open Go.RowKit Go.Proofs.YtcnfgfomholheaaGreatDoor.Z Go.Proofs.YtcnfgfomholheaaGreatDoor.Pure
set_option linter.unusedVariables false
set_option linter.unusedSimpArgs false
set_option maxRecDepth 100000
set_option maxHeartbeats 4000000
abbrev Ti (a:LN):dL T:= .bx qj ((T.cells qj a).map (toCell none))
theorem adU {n:Nat} (h:decide ((n:Int)>1048576)=false):n≤1048576:=by simp at h;omega
end Go.Proofs.YtcnfgfomholheaaGreatDoor.Q
end
section
namespace Go.Proofs.YtcnfgfomholheaaGreatDoor.Q
open Go.RowKit Go.Proofs.YtcnfgfomholheaaGreatDoor.Z Go.Proofs.YtcnfgfomholheaaGreatDoor.X Go.Proofs.YtcnfgfomholheaaGreatDoor.Pure
set_option linter.unusedVariables false
set_option linter.unusedSimpArgs false
set_option maxRecDepth 100000
set_option maxHeartbeats 4000000
theorem V6 (a:LN) (t:ByteArray) (ha:yS a):aW T Tryz.prog 6 [.ag (T.cells qj a), .c (.sc (.string t))] (.c (.sc (.bool true))):=by
 refine qF hT Tryz.func6 (by kernel_rfl) rfl rfl (fun A=>?_)
 refine Vc.seq 0 hT ?_
 conv=>whnf
 refine Vc.seq 1 hT ?_
 conv=>whnf
 refine Split.mk (fun c1=>?_) (fun c1=>?_)
 ·conv=>whnf
  exact aV.mk ⟨rfl,rfl⟩ ⟨rfl,rfl⟩ ⟨rfl,trivial⟩
 have hf:t.size≤1048576:=adU c1
 clear c1
 conv=>whnf
 refine Vc.seq 1 hT ?_
 conv=>whnf
 refine Vc.seq 1 hT ?_
 conv=>whnf
 refine aU.mk _ (Wx a ha _ (by decide) (by decide)) ?_
 conv=>whnf
 refine Vc.seq 2 hT ?_
 conv=>whnf
 refine Split.mk (fun c1=>?_) (fun c1=>?_)
 ·conv=>whnf
  exact aV.mk ⟨rfl,rfl⟩ ⟨rfl,rfl⟩ ⟨rfl,trivial⟩
 have hsz:0≤nT a 1048576:=UA c1
 clear c1
 have hcnt:=SY a 1048576 (by decide) hsz
 obtain⟨hB,hL⟩:=Ym a 1048576 (by decide) (by decide) hsz
 have hto:=Wp a hL
 generalize tN a=B at hcnt hB hto
 have hcB:cnt B≤1048576:=by omega
 clear hcnt hsz hL
 have hel:=YJ B
 have him:=VF B t hB Jj (Nat.le_trans hel (by omega)) hf (fun e he=>L6 he)
 have hsp:=VH B t hB Jj (Nat.le_trans hel (by omega)) hf (fun e he=>L6 he)
 have hcR:(iR t (gX B)).length≤1048576:=by
  have h1:(iR t (gX B)).length≤0+(gX B).length:=xq t (gX B) []
  omega
 generalize iR t (gX B)=R at him hsp hcR
 have hkB:=SK B 1
 have hkR:=GR R 1
 have hmB:=YB B 1 hB (by decide) (by omega)
 have hmR:=Fq R 1 (by omega) (by decide) (by omega)
 have hhR:=YC R 1 (by omega) (by decide) (by omega)
 have heR:=V8 R R (by omega)
 have heB:=Wh B hB B
 conv=>whnf
 refine Vc.cut (α:=Unit) 60 (fun _=>True) (fun _=>[(6, .c (.hd 1)),(2, .c (.px 0 0)),(1, .c (.sc (.string t)))]) (fun _=>[(1, .row 1 eS R),(0,Ti a)]) hT ?_ (fun _ _=>?_)
 ·conv=>whnf
  refine aU.mk _ hto ?_
  conv=>whnf
  refine aU.mk _ hsp ?_
  conv=>whnf
  exact nG.mk ⟨(),trivial,aI [(1,63),(0,0)] rfl rfl rfl ⟨⟨rfl,rfl⟩,⟨rfl,rfl⟩,⟨rfl,rfl⟩,trivial⟩ ⟨kE rfl,⟨rfl,rfl⟩,trivial⟩⟩
 refine Vc.cut (α:=Unit) 60 (fun _=>True) (fun _=>[(7, .c (.px 2 0)),(6, .c (.hd 1)),(2, .c (.px 0 0)),(1, .c (.sc (.string t)))]) (fun _=>[(2, .bx eN [.hd 3, .hd 4, .hd 5]),(3, .row 3 9 B.f0),(4, .row 4 eN B.f1),(5, .row 5 eS B.f2),(1, .row 1 eS R),(0,Ti a)]) hT ?_ (fun _ _=>?_)
 ·conv=>whnf
  refine aU.mk _ hto ?_
  conv=>whnf
  exact nG.mk ⟨(),trivial,aI [(2,63),(3,60),(4,61),(5,62),(1,1),(0,0)] rfl rfl rfl ⟨⟨rfl,rfl⟩,⟨rfl,rfl⟩,⟨rfl,rfl⟩,⟨rfl,rfl⟩,trivial⟩ ⟨⟨rfl,rfl⟩,sr9 rfl,srN rfl,kE rfl,kE rfl,⟨rfl,rfl⟩,trivial⟩⟩
 refine Vc.cut (α:=Unit) 60 (fun _=>True) (fun _=>[(8, .c (.hd 6)),(7, .c (.px 2 0)),(6, .c (.hd 1)),(2, .c (.px 0 0)),(1, .c (.sc (.string t)))]) (fun _=>[(6, .row 6 eS R),(2, .bx eN [.hd 3, .hd 4, .hd 5]),(3, .row 3 9 B.f0),(4, .row 4 eN B.f1),(5, .row 5 eS B.f2),(1, .row 1 eS R),(0,Ti a)]) hT ?_ (fun _ _=>?_)
 ·conv=>whnf
  refine aU.mk _ him ?_
  conv=>whnf
  exact nG.mk ⟨(),trivial,aI [(6,60),(2,2),(3,3),(4,4),(5,5),(1,1),(0,0)] rfl rfl rfl ⟨⟨rfl,rfl⟩,⟨rfl,rfl⟩,⟨rfl,rfl⟩,⟨rfl,rfl⟩,⟨rfl,rfl⟩,trivial⟩ ⟨kE rfl,⟨rfl,rfl⟩,sr9 rfl,srN rfl,kE rfl,kE rfl,⟨rfl,rfl⟩,trivial⟩⟩
 refine Vc.seq 60 hT ?_
 conv=>whnf
 refine aU.mk _ heR ?_
 conv=>whnf
 refine Split.mk (fun c1=>(kH (dX c1) rfl).elim) (fun c1=>?_)
 clear c1
 conv=>whnf
 refine Vc.seq 60 hT ?_
 conv=>whnf
 refine aU.mk _ hto ?_
 conv=>whnf
 refine aU.mk _ heB ?_
 conv=>whnf
 refine dD.mk ⟨by kernel_rfl,by kernel_rfl⟩ ?_
 conv=>whnf
 refine Split.mk (fun c1=>(kH (dX c1) rfl).elim) (fun c1=>?_)
 clear c1
 conv=>whnf
 refine Vc.seq 100 hT ?_
 conv=>whnf
 refine Vc.cut (α:=Unit) 100 (fun _=>True) (fun _=>[(9,i64 (((dS B 1).2:Nat):Int)),(8, .c (.hd 6)),(6, .c (.hd 1)),(2, .c (.px 0 0)),(1, .c (.sc (.string t)))]) (fun _=>[(6, .row 6 eS R),(1, .row 1 eS R),(0,Ti a)]) hT ?_ (fun _ _=>?_)
 ·conv=>whnf
  refine aU.wr [[NW.wr 9 (dS B 1).1.f0,NW.wr eN (dS B 1).1.f1,NW.wr eS (dS B 1).1.f2],[NW.rd]] (.c (.sc (.int .i64 (((dS B 1).2:Nat):Int)))) ?_
  conv=>whnf
  refine kK.mk hmB ?_
  conv=>whnf
  exact nG.mk ⟨(),trivial,aI [(6,6),(1,1),(0,0)] rfl rfl rfl ⟨⟨rfl,rfl⟩,⟨rfl,rfl⟩,⟨rfl,rfl⟩,⟨rfl,rfl⟩,⟨rfl,rfl⟩,trivial⟩ ⟨kE rfl,kE rfl,⟨rfl,rfl⟩,trivial⟩⟩
 refine Vc.seq 60 hT ?_
 conv=>whnf
 refine Split.mk (fun c1=>ZL c1) (fun c1=>?_)
 clear c1
 conv=>whnf
 refine aU.mk _ heR ?_
 conv=>whnf
 refine Split.mk (fun c1=>(kH (dX c1) rfl).elim) (fun c1=>?_)
 clear c1
 conv=>whnf
 refine Vc.seq 100 hT ?_
 conv=>whnf
 refine Vc.cut (α:=Unit) 100 (fun _=>True) (fun _=>[(10,i64 (((bZ (β:=SS) dK R 1).2:Nat):Int)),(8, .c (.hd 6)),(6, .c (.hd 1)),(2, .c (.px 0 0)),(1, .c (.sc (.string t)))]) (fun _=>[(6, .row 6 eS ((bZ (β:=SS) dK R 1).1)),(1, .row 1 eS R),(0,Ti a)]) hT ?_ (fun _ _=>?_)
 ·conv=>whnf
  refine aU.wr [[NW.wr eS (bZ (β:=SS) dK R 1).1],[NW.rd]] (.c (.sc (.int .i64 (((bZ (β:=SS) dK R 1).2:Nat):Int)))) ?_
  conv=>whnf
  refine kK.mk hmR ?_
  conv=>whnf
  exact nG.mk ⟨(),trivial,aI [(6,6),(1,1),(0,0)] rfl rfl rfl ⟨⟨rfl,rfl⟩,⟨rfl,rfl⟩,⟨rfl,rfl⟩,⟨rfl,rfl⟩,⟨rfl,rfl⟩,trivial⟩ ⟨kE rfl,kE rfl,⟨rfl,rfl⟩,trivial⟩⟩
 refine Vc.seq 60 hT ?_
 conv=>whnf
 refine Vc.seq 60 hT ?_
 conv=>whnf
 refine aU.mk (.c (.sc (.int .i64 (((bZ (β:=SS) dK R 1).2:Nat):Int)))) hhR ?_
 conv=>whnf
 refine Vc.seq 60 hT ?_
 conv=>whnf
 refine Split.mk (fun c1=>ZL c1) (fun c1=>?_)
 clear c1
 conv=>whnf
 refine Vc.seq 60 hT ?_
 conv=>whnf
 refine Split.mk (fun c1=>(Ju c1 rfl).elim) (fun c1=>?_)
 clear c1
 conv=>whnf
 refine Vc.cut (α:=Unit) 60 (fun _=>True) (fun _=>[(12, .c (.hd 7)),(10,i64 (((bZ (β:=SS) dK R 1).2:Nat):Int)),(8, .c (.hd 6)),(6, .c (.hd 1)),(2, .c (.px 0 0)),(1, .c (.sc (.string t)))]) (fun _=>[(7, .row 7 eS R),(6, .row 6 eS ((bZ (β:=SS) dK R 1).1)),(1, .row 1 eS R),(0,Ti a)]) hT ?_ (fun _ _=>?_)
 ·conv=>whnf
  refine aU.mk _ hto ?_
  conv=>whnf
  refine aU.mk _ him ?_
  conv=>whnf
  exact nG.mk ⟨(),trivial,aI [(7,63),(6,6),(1,1),(0,0)] rfl rfl rfl ⟨⟨rfl,rfl⟩,⟨rfl,rfl⟩,⟨rfl,rfl⟩,⟨rfl,rfl⟩,⟨rfl,rfl⟩,⟨rfl,rfl⟩,trivial⟩ ⟨kE rfl,kE rfl,kE rfl,⟨rfl,rfl⟩,trivial⟩⟩
 refine Vc.seq 60 hT ?_
 conv=>whnf
 refine aU.mk _ heR ?_
 conv=>whnf
 refine Split.mk (fun c1=>(kH (dX c1) rfl).elim) (fun c1=>?_)
 clear c1
 conv=>whnf
 refine Vc.seq 60 hT ?_
 conv=>whnf
 refine Vc.seq 60 hT ?_
 conv=>whnf
 refine aU.mk (.c (.sc (.int .i64 (((bZ (β:=SS) dK R 1).2:Nat):Int)))) hhR ?_
 conv=>whnf
 refine Vc.seq 60 hT ?_
 conv=>whnf
 refine Split.mk (fun c1=>ZL c1) (fun c1=>?_)
 clear c1
 conv=>whnf
 refine Vc.seq 60 hT ?_
 conv=>whnf
 refine Split.mk (fun c1=>(Ju c1 rfl).elim) (fun c1=>?_)
 clear c1
 conv=>whnf
 refine Vc.of 60 hT ?_
 conv=>whnf
 exact aV.mk ⟨rfl,rfl⟩ ⟨rfl,rfl⟩ ⟨rfl,trivial⟩
end Go.Proofs.YtcnfgfomholheaaGreatDoor.Q
end
