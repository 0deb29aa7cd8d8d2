/- Topics and filters, in plain lists: a text cut at its strokes, levels that fit levels, what is hidden, what is loose; a filter that covers. No program in sight. -/
import Derived.Test.YtcnfgfomholheaaGreatDoorK
import Derived.Test.YtcnfgfomholheaaGreatDoorC1
import Derived.Test.YtcnfgfomholheaaGreatDoorPx0
import Derived.Test.YtcnfgfomholheaaGreatDoorC1
import Derived.Lib.Split
import Derived.Lib.SplitLaws
import Derived.Lib.CountLaws
import Derived.Lib.Join
import Derived.Lib.IndexAny
import Derived.WideShapes
namespace Go.Proofs.YtcnfgfomholheaaGreatDoor.Pure
open Go.RowKit Go.Proofs.YtcnfgfomholheaaGreatDoor.X Go.Proofs.YtcnfgfomholheaaGreatDoor.P Go.Proofs.YtcnfgfomholheaaGreatDoorW.PrintWords Go.Proofs.YtcnfgfomholheaaGreatDoorW.PrintLast Go.Proofs.YtcnfgfomholheaaGreatDoor.K
set_option linter.unusedVariables false
set_option linter.unusedSimpArgs false
def gU:List UInt8→List (List UInt8)
 | []=>[[]]
 | b::t=>if b=47 then []::gU t else match gU t with
   | []=>[[b]]
   | h::r=>(b::h)::r
theorem sS:∀s:List UInt8,∃h r,gU s=h::r
 | []=>⟨_,_,rfl⟩
 | b::t=>by
   obtain⟨h,r,e⟩:=sS t
   unfold gU
   by_cases q:b=47
   ·rw [if_pos q];exact⟨_,_,rfl⟩
   ·rw [if_neg q,e];exact⟨_,_,rfl⟩
theorem MV:∀s:List UInt8,Lib.splitK [47] 0 (Lib.count s [47]) s=gU s
 | []=>rfl
 | b::t=>by
   have ih:=MV t
   by_cases q:b=47
   ·subst q
    have hix:Lib.index (47::t) [47]=0:=by rw [Lib.index];simp [List.isPrefixOf]
    rw [Lib.count_cons_eq,Nat.add_comm 1,Lib.splitK,hix,gU,if_pos rfl,←ih]
    rfl
   ·have hp:([47]:List UInt8).isPrefixOf (b::t)=false:=by simp [List.isPrefixOf,Ne.symm q]
    have hix:Lib.index (b::t) [47]=if Lib.index t [47]== -1 then -1 else Lib.index t [47]+1:=by rw [Lib.index,hp];simp
    rw [Lib.count_cons_ne b 47 t q,gU,if_neg q,←ih]
    cases Lib.count t [47] with
    | zero=>rfl
    | succ n=>
      rw [Lib.splitK,Lib.splitK,hix]
      by_cases m:Lib.index t [47]= -1
      ·rw [m];rfl
      ·have hge:=Lib.index_ge t [47]
       obtain⟨j,hj⟩:∃j:Nat,Lib.index t [47]=j:=⟨(Lib.index t [47]).toNat,by omega⟩
       have h1:(Lib.index t [47]== -1)=false:=beq_eq_false_iff_ne.2 m
       have h2:((j:Int)== -1)=false:=beq_eq_false_iff_ne.2 (by omega)
       have h3:((j:Int)+1== -1)=false:=beq_eq_false_iff_ne.2 (by omega)
       rw [hj]
       simp only [h2,h3,Bool.false_eq_true,if_false]
       have h4:((j:Int)+1).toNat=j+1:=by omega
       have h5:(j:Int).toNat=j:=by omega
       rw [h4,h5]
       rfl
theorem MW:∀(s h:List UInt8) (r:List (List UInt8)),gU s=h::r→(h.head? =s.head?∧s.head?≠some 47)∨(h=[]∧s.head? =some 47)
 | [],h,r,e=>by
   injection e with e1 e2
   subst e1
   exact .inl ⟨rfl,by simp⟩
 | b::t,h,r,e=>by
   obtain⟨h',r',e'⟩:=sS t
   unfold gU at e
   by_cases q:b=47
   ·rw [if_pos q] at e
    injection e with e1 e2
    exact .inr ⟨e1.symm,by rw [q];rfl⟩
   ·rw [if_neg q,e'] at e
    injection e with e1 e2
    subst e1
    exact .inl ⟨rfl,by simpa using q⟩
theorem GX:∀s:List UInt8,Lib.join (gU s) [47]=s
 | []=>rfl
 | b::t=>by
   have ih:=GX t
   obtain⟨h,r,e⟩:=sS t
   unfold gU
   rw [e] at ih
   by_cases q:b=47
   ·rw [if_pos q,e,Lib.join_cons]
    have:Lib.joinTail [47] (h::r)=[47]++Lib.join (h::r) [47]:=by rw [Lib.join_cons];simp [Lib.joinTail]
    rw [this,ih,q]
    rfl
   ·rw [if_neg q,e]
    simp only
    rw [Lib.join_cons] at ih⊢
    rw [List.cons_append,ih]
theorem SY:∀(s:List UInt8) (x:List UInt8),x∈gU s→(47:UInt8)∉x
 | [],x,hx=>by
   have:x=[]:=by simpa [gU] using hx
   subst this
   simp
 | b::t,x,hx=>by
   have ih:=SY t
   obtain⟨h,r,e⟩:=sS t
   unfold gU at hx
   by_cases q:b=47
   ·rw [if_pos q] at hx
    rcases List.mem_cons.1 hx with rfl | hx
    ·simp
    ·exact ih x hx
   ·rw [if_neg q,e] at hx
    simp only at hx
    rcases List.mem_cons.1 hx with rfl | hx
    ·intro hm
     rcases List.mem_cons.1 hm with hm | hm
     ·exact q hm.symm
     ·exact ih h (by rw [e];exact List.mem_cons_self) hm
    ·exact ih x (by rw [e];exact List.mem_cons_of_mem _ hx)
theorem GY:∀s:List UInt8,(47:UInt8)∉s→gU s=[s]
 | [],_=>rfl
 | b::t,h=>by
   have ih:=GY t (fun m=>h (List.mem_cons_of_mem _ m))
   unfold gU
   rw [if_neg (fun q=>h (by rw [q];exact List.mem_cons_self)),ih]
def lU {α:Type} [DecidableEq α] (p h:α):List α→List α→Bool
 | [],g=>g.isEmpty
 | x::f,g=>if x=h then true else match g with
   | []=>false
   | y::g'=>if (x=p∧y=h)∨(x≠p∧x≠y) then false else lU p h f g'
theorem Bo {α:Type} [DecidableEq α] (p h:α) (f g:List α):lU p h (h::f) g=true:=by unfold lU;rw [if_pos rfl]
theorem o9 {α:Type} [DecidableEq α] {p h x y:α} {f g:List α} (q:x≠h):lU p h (x::f) (y::g)=(!(decide ((x=p∧y=h)∨(x≠p∧x≠y))) && lU p h f g):=by
 rw [lU,if_neg q]
 by_cases c:(x=p∧y=h)∨(x≠p∧x≠y)
 ·simp [c]
 ·simp [c]
theorem FH {α:Type} [DecidableEq α] (p h:α) (hph:p≠h):∀f g k:List α,lU p h f g=true→lU p h g k=true→lU p h f k=true
 | [],g,k,h1,h2=>by
   have:g=[]:=by simpa [lU] using h1
   subst this
   exact h2
 | x::f,g,k,h1,h2=>by
   by_cases q:x=h
   ·rw [q];exact Bo p h f _
   ·cases g with
    | nil=>rw [lU,if_neg q] at h1;cases h1
    | cons y g=>
      rw [o9 q] at h1
      simp only [Bool.and_eq_true,Bool.not_eq_true',decide_eq_false_iff_not,not_or,not_and] at h1
      obtain⟨⟨a1,a2⟩,a3⟩:=h1
      have hy:y≠h:=by
       by_cases e:x=p
       ·exact a1 e
       ·have:=a2 e
        intro z
        exact q (by rw [←z];exact Decidable.of_not_not this)
      cases k with
      | nil=>rw [lU,if_neg hy] at h2;cases h2
      | cons z k=>
        rw [o9 hy] at h2
        simp only [Bool.and_eq_true,Bool.not_eq_true',decide_eq_false_iff_not,not_or,not_and] at h2
        obtain⟨⟨b1,b2⟩,b3⟩:=h2
        have ih:=FH p h hph f g k a3 b3
        rw [o9 q,ih]
        simp only [Bool.and_true,Bool.not_eq_true',decide_eq_false_iff_not,not_or,not_and]
        have hz:z≠h:=by
         by_cases e:y=p
         ·exact b1 e
         ·intro w
          exact hy (by rw [←w];exact Decidable.of_not_not (b2 e))
        refine⟨fun _=>hz,fun e w=>?_⟩
        have exy:x=y:=Decidable.of_not_not (a2 e)
        exact w (exy.trans (Decidable.of_not_not (b2 (exy▸e))))
theorem Rk {α:Type} [DecidableEq α] {p h x y:α} {f g:List α} (h1:x≠p) (h2:x≠h) (k:lU p h (x::f) (y::g)=true):x=y:=by
 rw [o9 h2] at k
 simp only [Bool.and_eq_true,Bool.not_eq_true',decide_eq_false_iff_not,not_or,not_and] at k
 exact Decidable.of_not_not (k.1.2 h1)
end Go.Proofs.YtcnfgfomholheaaGreatDoor.Pure
