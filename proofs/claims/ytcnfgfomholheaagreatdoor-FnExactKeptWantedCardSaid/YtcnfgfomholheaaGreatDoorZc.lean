/- Several texts of this claim in one (a claim holds at most 60 files). -/
import Derived.Test.YtcnfgfomholheaaGreatDoorZb
import Derived.KernelRfl
import Derived.ChangeArms
import Derived.ChangeShapes
import Derived.SizedLaws
section
namespace Go.Proofs.YtcnfgfomholheaaGreatDoor.Z
open Go.RowKit
set_option linter.unusedVariables false
set_option linter.unusedSimpArgs false
inductive AC (Tb:Nat→Type) where
 | c (x:C0 Tb)
 | ow (e:Nat) (l:List (Tb e)) (e':Nat) (l':List (Tb e'))
 | gv (e:Nat) (l:List (Tb e))
 | fn (f:FuncId) (t:Nat) (us:List Value)
 | bx (t:Nat) (cs cs':List (C0 Tb))
inductive AW (Tb:Nat→Type) where
 | c (x:AC Tb)
 | ag (l:List (AC Tb))
def AW.cells {Tb:Nat→Type}:AW Tb→List (AC Tb)
 | .c x=>[x]
 | .ag l=>l
def gQ {Tb:Nat→Type}:List (AW Tb)→List (AC Tb)
 | []=>[]
 | x::l=>x.cells++gQ l
section
variable {T:dX}
def pJ (w:World) (S:Nat→Prop) (Fw:Nat→Nat→Prop) (ev:Nat→Value) (i:Nat):AC T.Tb→Value→Prop
 | .c x,v=>sG w S x v
 | .ow e l _ _,v=>v=ev i∧Ow T.sz w (Fw i) (.sl e (l.map (T.enc e))) v
 | .gv e l,v=>v=ev i∧Ow T.sz w (Fw i) (.sl e (l.map (T.enc e))) v
 | .fn f t us,v=>∃g,v= .func (.func f) #[] #[.pointer (some ⟨g,0,none⟩)]∧S g∧w.heap[g]? =some (.cells us.toArray t (0,0))
 | .bx t cs _,v=>v=ev i∧∃g us,v= .pointer (some ⟨g,0,none⟩)∧Fw i g∧w.heap[g]? =some (.cells us t (0,0))∧eP w S cs us.toList
def sH (w:World) (S:Nat→Prop) (Fw:Nat→Nat→Prop) (ev:Nat→Value):Nat→List (AC T.Tb)→List Value→Prop
 | _,[],vs=>vs=[]
 | i,c::cs,vs=>∃v r,vs=v::r∧pJ w S Fw ev i c v∧sH w S Fw ev (i+1) cs r
def Nr (w:World) (S:Nat→Prop) (Fw:Nat→Nat→Prop) (ev:Nat→Value) (i:Nat):AW T.Tb→Value→Prop
 | .c x,v=>pJ w S Fw ev i x v
 | .ag l,v=>∃us:Array Value,v= .agg us∧sH w S Fw ev i l us.toList
def oC (w:World) (S:Nat→Prop) (Fw:Nat→Nat→Prop) (ev:Nat→Value):Nat→List (AW T.Tb)→List Value→Prop
 | _,[],vs=>vs=[]
 | i,c::cs,vs=>∃v r,vs=v::r∧Nr w S Fw ev i c v∧oC w S Fw ev (i+c.cells.length) cs r
def Behind (w:World) (S:Nat→Prop) (Fw:Nat→Nat→Prop) (ev:Nat→Value):Nat→List (AC T.Tb)→Prop
 | _,[]=>True
 | i, .ow _ _ e l::cs=>Ow T.sz w (Fw i) (.sl e (l.map (T.enc e))) (ev i)∧Behind w S Fw ev (i+1) cs
 | i, .bx t _ xs::cs=>(∃g us,ev i= .pointer (some ⟨g,0,none⟩)∧Fw i g∧(∀k,Fw i k→k=g)∧w.heap[g]? =some (.cells us t (0,0))∧eP w S xs us.toList)∧Behind w S Fw ev (i+1) cs
 | i,_::cs=>Behind w S Fw ev (i+1) cs
def sB (S:Nat→Prop) (Fw:Nat→Nat→Prop) (n:Nat) (G F':Nat→Nat→Prop) (k:Nat):Prop:=(S k∨(∃j,Fw j k)∨n≤k)∧(∀i,¬G i k)∧∀i,¬F' i k
def CallWOb (T:dX) (P:Program) (f:FuncId) (args:List (AW T.Tb)) (res:RS T.Tb):Prop:=
 Enters P f∧∀(w:World) (vs:List Value) (S:Nat→Prop) (Fw:Nat→Nat→Prop) (ev:Nat→Value) (V:World),T.J V→Below V.heap.size V w→(∀i k,Fw i k→V.heap.size≤k∧k<w.heap.size)→(∀i j k,Fw i k→Fw j k→i=j)→(∀i k,Fw i k→¬S k)→
  oC w S Fw ev 0 args vs→Calls P f vs.toArray w fun e w'=>∃v G F',e= .returned v∧(w'.os=w.os∧w'.tape=w.tape∧w'.output=w.output∧w.heap.size≤w'.heap.size)∧(∀k,k<w.heap.size→(∀i,¬Fw i k)→w'.heap[k]? =w.heap[k]?)∧
   (∀i k,G i k→(w.heap.size≤k∨∃j,Fw j k)∧k<w'.heap.size)∧(∀i j k,G i k→G j k→i=j)∧(∀i k,F' i k→(w.heap.size≤k∨∃j,Fw j k)∧k<w'.heap.size)∧(∀i j k,F' i k→F' j k→i=j)∧(∀i j k,F' i k→¬G j k)∧
   Behind w' (sB S Fw w.heap.size G F') F' ev 0 (gQ args)∧∃fv,uY res v fv∧dN w' (fun _=>False) G 0 res.flat fv
theorem tH {w:World} {S S':Nat→Prop} {Fw Fw':Nat→Nat→Prop} {ev ev':Nat→Value} {i:Nat} {x:AC T.Tb} {v:Value} (h:pJ w S Fw ev i x v) (hS:∀k,S k→S' k) (hF:∀k,Fw i k→Fw' i k) (he:ev' i=ev i):pJ w S' Fw' ev' i x v:=by
 cases x with
 | c x=>exact rC h hS
 | ow e l e' l'=>exact⟨h.1.trans he.symm,h.2.mono hF⟩
 | gv e l=>exact⟨h.1.trans he.symm,h.2.mono hF⟩
 | fn f t us=>obtain⟨g,h1,h2,h3⟩:=h;exact⟨g,h1,hS g h2,h3⟩
 | bx t cs cs'=>obtain⟨h0,g,us,h1,h2,h3,h4⟩:=h;exact⟨h0.trans he.symm,g,us,h1,hF g h2,h3,pX hS h4⟩
theorem wI {w:World} {S S':Nat→Prop} {Fw Fw':Nat→Nat→Prop} {ev ev':Nat→Value} (hS:∀k,S k→S' k):∀{i:Nat} {x:List (AC T.Tb)} {v:List Value},sH w S Fw ev i x v→(∀j,i≤j→j<i+x.length→(∀k,Fw j k→Fw' j k)∧ev' j=ev j)→sH w S' Fw' ev' i x v
 | _,[],_,h,_=>h
 | i,c::cs,_,⟨v,r,e,h1,h2⟩,hF=>⟨v,r,e,tH h1 hS (hF i (Nat.le_refl _) (by simp)).1 (hF i (Nat.le_refl _) (by simp)).2,wI hS h2 (fun j h3 h4=>hF j (by omega) (by simp at h4⊢;omega))⟩
theorem xM {w:World} {S S':Nat→Prop} {Fw Fw':Nat→Nat→Prop} {ev ev':Nat→Value} (hS:∀k,S k→S' k):∀{x:List (AW T.Tb)} {i:Nat} {v:List Value},oC w S Fw ev i x v→(∀j,i≤j→j<i+(gQ x).length→(∀k,Fw j k→Fw' j k)∧ev' j=ev j)→oC w S' Fw' ev' i x v
 | [],_,_,h,_=>h
 | .c c::cs,i,_,⟨v,r,e,h1,h2⟩,hF=>⟨v,r,e,tH h1 hS (hF i (Nat.le_refl _) (by simp [gQ,AW.cells])).1 (hF i (Nat.le_refl _) (by simp [gQ,AW.cells])).2,xM hS h2 (fun j h3 h4=>hF j (by simp [AW.cells] at h3;omega) (by simp [gQ,AW.cells] at h4⊢;omega))⟩
 | .ag l::cs,i,_,⟨v,r,e,⟨us,e2,h1⟩,h2⟩,hF=>⟨v,r,e,⟨us,e2,wI hS h1 (fun j h3 h4=>hF j h3 (by simp [gQ,AW.cells];omega))⟩,xM hS h2 (fun j h3 h4=>hF j (by simp [AW.cells] at h3;omega) (by simp [gQ,AW.cells] at h4⊢;omega))⟩
inductive NW (T:dX) where
 | rd
 | wr (e:Nat) (l:List (T.Tb e))
 | gv (e:Nat)
 | bx (cs:List (C0 T.Tb))
structure Hd (T:dX) where
 i:Nat
 r:Nat
 x:dB T
def wJ:List (Cell T)→Option (List (C0 T.Tb))
 | []=>some []
 | .sc v::l=>match wJ l with
   | some r=>some (.sc v::r)
   | none=>none
 | .im none e x::l=>match wJ l with
   | some r=>some (.sl e x::r)
   | none=>none
 | _=>none
theorem zW {σ:St T} {env:Nat→Value} {F:Nat→Nat→Prop} {w:World} {S:Nat→Prop} (hS:∀k,jo σ.A F none k→S k):∀{l:List (Cell T)} {xs:List (C0 T.Tb)} {vs:List Value},wJ l=some xs→aY σ env F w l vs→eP w S xs vs
 | [],_,_,h,hr=>by cases h;exact hr
 | .sc v::l,xs,_,h,⟨u,r,e,h1,h2⟩=>by
   unfold wJ at h
   split at h
   ·rename_i r' hl
    cases h
    exact⟨u,r,e,h1,zW hS hl h2⟩
   ·cases h
 | .im none e' x::l,xs,_,h,⟨u,r,e,h1,h2⟩=>by
   unfold wJ at h
   split at h
   ·rename_i r' hl
    cases h
    exact⟨u,r,e,(h1.2 trivial).mono hS,zW hS hl h2⟩
   ·cases h
 | .im (some _) _ _::_,_,_,h,_=>by cases h
 | .un::_,_,_,h,_=>by cases h
 | .hd _::_,_,_,h,_=>by cases h
 | .px _ _::_,_,_,h,_=>by cases h
def hC (σ:St T) (vn i:Nat):Cell T→NW T→Option (AC T.Tb × List (Nat × Nat) × List (Hd T))
 | c, .rd=>match FY σ c with
   | some (x,p)=>some (.c x,p,[])
   | none=>none
 | .hd r, .wr e' l'=>match σ.res r with
   | .row _ e l=>match Nat.beq e e' with
     | true=>some (.ow e l e' l',[],[⟨i,r, .row (vn+i) e' l'⟩])
     | false=>none
   | _=>none
 | .hd r, .gv e'=>match σ.res r with
   | .row _ e l=>match Nat.beq e e' with
     | true=>some (.gv e l,[],[⟨i,r, .no⟩])
     | false=>none
   | _=>none
 | .px r 0, .bx cs'=>match σ.res r with
   | .bx t cs=>match wJ cs with
     | some xs=>some (.bx t xs cs',[],[⟨i,r, .bx t (cs'.map (toCell none))⟩])
     | none=>none
   | _=>none
 | .sc (.slice none 0 0), .wr e' l'=>some (.ow e' [] e' l',[],[])
 | .sc (.slice none 0 0), .gv e'=>some (.gv e' [],[],[])
 | _,_=>none
def hCs (σ:St T) (vn:Nat):Nat→List (Cell T)→List (NW T)→Option (List (AC T.Tb) × List (Nat × Nat) × List (Hd T))
 | _,[],[]=>some ([],[],[])
 | i,c::cs,n::ns=>match hC σ vn i c n with
   | some (x,p,h)=>match hCs σ vn (i+1) cs ns with
     | some (xs,ps,hs)=>some (x::xs,p++ps,h++hs)
     | none=>none
   | none=>none
 | _,_,_=>none
def hPl (σ:St T) (vn i:Nat) (r bv j o e':Nat) (l':List (T.Tb e')):Option (AC T.Tb × List (Nat × Nat) × List (Hd T)):=
 match σ.res r with
 | .row kF e0 l0=>match Nat.beq kF bv with
   | true=>match nth (T.cells e0 (bV T e0 l0 j)) o with
     | some (.sl e1 l1)=>match Nat.beq e1 e' with
       | true=>match T.xO e0 (splice (T.cells e0 (bV T e0 l0 j)) o [.sl e' l']) with
         | some y=>some (.ow e1 l1 e' l',[],[⟨i,r, .row (vn+i) e0 (l0.set j y)⟩])
         | none=>none
       | false=>none
     | _=>none
   | false=>none
 | _=>none
def TQ:List (Cell T)→Option (List Value)
 | []=>some []
 | .sc v::l=>match TQ l with
   | some r=>some (v::r)
   | none=>none
 | _=>none
theorem Ox {σ:St T} {env:Nat→Value} {F:Nat→Nat→Prop} {w:World}:∀{l:List (Cell T)} {us vs:List Value},TQ l=some us→aY σ env F w l vs→vs=us
 | [],_,_,h,hr=>by cases h;exact hr
 | .sc v::l,us,_,h,⟨u,r,e,h1,h2⟩=>by
   unfold TQ at h
   split at h
   ·rename_i r' hl
    cases h
    rw [e,h1.1,Ox hl h2]
   ·cases h
 | .un::_,_,_,h,_=>by cases h
 | .im _ _ _::_,_,_,h,_=>by cases h
 | .hd _::_,_,_,h,_=>by cases h
 | .px _ _::_,_,_,h,_=>by cases h
def hS (σ:St T) (vn i:Nat):Slot T→List (NW T)→Option (AW T.Tb × List (Nat × Nat) × List (Hd T))
 | .c x,[n]=>match hC σ vn i x n with
   | some (y,p,h)=>some (.c y,p,h)
   | none=>none
 | .ag l,ns=>match hCs σ vn i l ns with
   | some (y,p,h)=>some (.ag y,p,h)
   | none=>none
 | .pl r bv j o e l,[.wr e' l']=>match hPl σ vn i r bv j o e' l' with
   | some (y,p,h)=>some (.c y,p,h)
   | none=>none
 | .pl r bv j o e l,[.rd]=>match hC σ vn i (.im (some (r,bv)) e l) .rd with
   | some (y,p,h)=>some (.c y,p,h)
   | none=>none
 | .fn f r,[.rd]=>match σ.res r with
   | .bx t cs=>match TQ cs with
     | some us=>some (.c (.fn f t us),[(r,0)],[])
     | none=>none
   | _=>none
 | _,_=>none
def Oy (σ:St T) (vn:Nat):Nat→List (Slot T)→List (List (NW T))→Option (List (AW T.Tb) × List (Nat × Nat) × List (Hd T))
 | _,[],[]=>some ([],[],[])
 | i,s::ss,n::ns=>match hS σ vn i s n with
   | some (x,p,h)=>match Oy σ vn (i+n.length) ss ns with
     | some (xs,ps,hs)=>some (x::xs,p++ps,h++hs)
     | none=>none
   | none=>none
 | _,_,_=>none
section
variable {P:Program} {W0:Fr} {σ σ' σ1:St T} {a:Act} {w w1:World} {env bD:Nat→Value} {F F1:Nat→Nat→Prop} {o:Oper} {bF bH:List Nat}
def RI (w':World) (S Fn:Nat→Prop) (v:Value):AC T.Tb→Prop
 | .ow _ _ e' l'=>Ow T.sz w' Fn (.sl e' (l'.map (T.enc e'))) v
 | .bx t _ xs=>∃g us,v= .pointer (some ⟨g,0,none⟩)∧Fn g∧(∀k,Fn k→k=g)∧w'.heap[g]? =some (.cells us t (0,0))∧eP w' S xs us.toList
 | _=>True
def Oz (σ':St T) (env:Nat→Value) (w':World) (S F:Nat→Prop) (r:Nat):dB T→Prop
 | .row _ e l=>Ow T.sz w' F (.sl e (l.map (T.enc e))) (env r)∧∃bv l0,σ'.res r= .row bv e l0∧l0.length=l.length
 | .no=>∃bv e l0,σ'.res r= .row bv e l0
 | .bx t cs=>(∃g us xs,env r= .pointer (some ⟨g,0,none⟩)∧F g∧(∀k,F k→k=g)∧w'.heap[g]? =some (.cells us t (0,0))∧cs=xs.map (toCell none)∧eP w' S xs us.toList)∧∃t0 cs0,σ'.res r= .bx t0 cs0
 | .sh _ _ _=>False
 | .hl _ _ _ _ _=>False
structure yX (σ':St T) (env:Nat→Value) (F:Nat→Nat→Prop) (w:World) (Fi:Nat→Prop) (v:Value) (x:AC T.Tb) (h:Hd T) (vn:Nat):Prop where
 sub:∀k,Fi k→F h.r k
 ver:∀bv e l,h.x= .row bv e l→bv=vn+h.i
 after:∀(w':World) (S Fn:Nat→Prop),w.heap.size≤w'.heap.size→(∀k,F h.r k→¬Fi k→w'.heap[k]? =w.heap[k]?)→RI w' S Fn v x→(∀k,Fn k→Fi k∨¬F h.r k)→Oz σ' env w' S (fun k=>F h.r k∧¬Fi k∨Fn k) h.r h.x
theorem QK {F F':Nat→Prop} {w w':World} {sz:Nat→Nat} {e e':Nat} {xs xs':List (List V)} {v:Value} (h:Ow sz w F (.sl e xs) v) (h':Ow sz w' F' (.sl e' xs') v):xs.length=xs'.length:=by
 rcases h.form with ⟨h1,h2⟩ | ⟨g,c,cur,h1,_⟩<;>rcases h'.form with ⟨h3,h4⟩ | ⟨g',c',cur',h3,_⟩
 ·rw [h1,h3]
 ·rw [h2] at h3;cases h3
 ·rw [h4] at h1;cases h1
 ·rw [h1] at h3;exact(Value.slice.inj h3).2.1
theorem aaH {sz:Nat→Nat} {F:Nat→Prop} {e:Nat} {xs:List (List V)} {g n c:Nat} (h:Ow sz w F (.sl e xs) (.slice (some ⟨g,0,none⟩) n c)) {i o:Nat} {old:List V} {x:V} (hi:xs[i]? =some old) (ho:old[o]? =some x):
  ∃(u:Value) (Fn:Nat→Prop),w.cell? ((⟨g,0,none⟩:Addr).add (i*sz e+o))=some u∧Ow sz w Fn x u∧(∀k,Fn k→F k)∧
   ∀(w':World) (Fn':Nat→Prop) (x':V),(∀k,F k→¬Fn k→w'.heap[k]? =w.heap[k]?)→Ow sz w' Fn' x' u→(∀k,Fn' k→Fn k∨¬F k)→Ow sz w' (fun k=>F k∧¬Fn k∨Fn' k) (.sl e (xs.set i (old.set o x'))) (.slice (some ⟨g,0,none⟩) n c):=by
 cases h with
 | sl F e xs g cap cur f G hg hF hn hm hz hs hcell hr hG hd=>
   refine⟨f i o,G i o,(oD hg).trans (hcell i old o x hi ho),hr i old o x hi ho,fun k hk=>(hG i o k hk).1,fun w' Fn' x' hfr hx' hsub=>?_⟩
   have hgn:¬G i o g:=fun hk=>(hG i o g hk).2 rfl
   have hil:=(List.getElem?_eq_some_iff.1 hi).1
   have hol:=(List.getElem?_eq_some_iff.1 ho).1
   have hlx:(xs.set i (old.set o x')).length=xs.length:=by simp
   have Wu:∀j l q y,(xs.set i (old.set o x'))[j]? =some l→l[q]? =some y→(j=i∧q=o∧y=x')∨(¬(j=i∧q=o)∧∃l',xs[j]? =some l'∧l'[q]? =some y):=by
    intro j l q y hj hq
    rw [List.getElem?_set] at hj
    by_cases e1:i=j
    ·subst e1
     simp [hil] at hj
     subst hj
     rw [List.getElem?_set] at hq
     by_cases e2:o=q
     ·subst e2
      simp [hol] at hq
      exact .inl ⟨rfl,rfl,hq.symm⟩
     ·rw [if_neg e2] at hq
      exact .inr ⟨fun h=>e2 h.2.symm,old,hi,hq⟩
    ·rw [if_neg e1] at hj
     exact .inr ⟨fun h=>e1 h.1.symm,l,hj,hq⟩
   have hne:∀j q k,¬(j=i∧q=o)→G j q k→¬G i o k:=fun j q k hn h1 h2=>hn (hd j q i o k h1 h2)
   rw [←hlx]
   refine .sl _ e _ g c cur f (fun j q k=>if j=i∧q=o then Fn' k else G j q k) ((hfr g hF hgn).trans hg) (.inl ⟨hF,hgn⟩) (by rw [hlx];exact hn) hm hz ?_ ?_ ?_ ?_ ?_
   ·intro j l hj
    rw [List.getElem?_set] at hj
    by_cases e1:i=j
    ·subst e1;simp [hil] at hj;subst hj;simpa using hs i old hi
    ·rw [if_neg e1] at hj;exact hs j l hj
   ·intro j l q y hj hq
    rcases Wu j l q y hj hq with ⟨rfl,rfl,rfl⟩ | ⟨_,l',h1,h2⟩
    ·exact hcell j old q x hi ho
    ·exact hcell j l' q y h1 h2
   ·intro j l q y hj hq
    rcases Wu j l q y hj hq with ⟨rfl,rfl,rfl⟩ | ⟨h0,l',h1,h2⟩
    ·exact hx'.mono (fun k hk=>by rw [if_pos ⟨rfl,rfl⟩];exact hk)
    ·simp only [if_neg h0]
     exact(hr j l' q y h1 h2).frame (fun k hk _=>hfr k (hG j q k hk).1 (hne j q k h0 hk))
   ·intro j q k hk
    by_cases h0:j=i∧q=o
    ·rw [if_pos h0] at hk
     exact⟨.inr hk,fun e=>(hsub k hk).elim (fun h=>(hG i o k h).2 e) (fun h=>h (e▸hF))⟩
    ·rw [if_neg h0] at hk
     exact⟨.inl ⟨(hG j q k hk).1,hne j q k h0 hk⟩,(hG j q k hk).2⟩
   ·intro j q j' q' k hk hk'
    by_cases h0:j=i∧q=o
    ·rw [if_pos h0] at hk
     by_cases h1:j'=i∧q'=o
     ·exact⟨h0.1.trans h1.1.symm,h0.2.trans h1.2.symm⟩
     ·rw [if_neg h1] at hk'
      rcases hsub k hk with h | h
      ·exact(hne j' q' k h1 hk' h).elim
      ·exact(h (hG j' q' k hk').1).elim
    ·rw [if_neg h0] at hk
     by_cases h1:j'=i∧q'=o
     ·rw [if_pos h1] at hk'
      rcases hsub k hk' with h | h
      ·exact(hne j q k h0 hk h).elim
      ·exact(h (hG j q k hk).1).elim
     ·rw [if_neg h1] at hk'
      exact hd j q j' q' k hk hk'
theorem OA {ts:List Nat} (h:eU W0 σ' a w env F) (hA:Agree σ σ' ts bF bH) {c:Cell T} {v:Value} (hc:iK σ' env F w c v) {vn i:Nat} {n:NW T} {x:AC T.Tb} {ps:List (Nat × Nat)} {hs:List (Hd T)} (hx:hC σ vn i c n=some (x,ps,hs)) (hp:∀q∈ps,q.1∈bF) (hh:∀q∈hs,q.r∈bF):
  ∃Fi:Nat→Prop,pJ w (jP σ'.A F ps) (fun _=>Fi) (fun _=>v) i x v∧(∀q∈hs,q.i=i∧yX σ' env F w Fi v x q vn)∧(∀k,Fi k→∃q∈hs,q.i=i):=by
 unfold hC at hx
 split at hx
 ·split at hx
  ·rename_i y p hy
   cases hx
   exact⟨fun _=>False,FZ h hA hc hy hp,fun q hq=>(by cases hq),fun k hk=>hk.elim⟩
  ·cases hx
 ·rename_i r e' l'
  cases hr:σ.res r with
  | row bv e l=>
    rw [hr] at hx
    dsimp only at hx
    cases hb:Nat.beq e e'<;>rw [hb] at hx<;>cases hx
    have he:=Nat.eq_of_beq_eq_true hb
    subst he
    have h1:=h.res r
    have hr':σ'.res r= .row bv e l:=by rw [hA.res r (hh _ (List.mem_cons_self))];exact hr
    rw [hr'] at h1
    have h2:Ow T.sz w (F r) (.sl e (l.map (T.enc e))) v:=by rw [hc.1];exact h1
    refine⟨F r,⟨rfl,h2⟩,fun q hq=>?_,fun k hk=>⟨_,List.mem_cons_self,rfl⟩⟩
    have hq:=List.mem_singleton.1 hq
    subst hq
    refine⟨rfl,fun k hk=>hk,fun bv e l h=>(by cases h;rfl),fun w' S Fn _ _ h3 _=>?_⟩
    have h3':Ow T.sz w' Fn (.sl e (l'.map (T.enc e))) v:=h3
    have hl:=QK h2 h3'
    simp only [List.length_map] at hl
    rw [hc.1] at h3'
    exact⟨h3'.mono (fun k hk=> .inr hk),bv,l,hr',hl⟩
  | no=>rw [hr] at hx;cases hx
  | bx t cs=>rw [hr] at hx;cases hx
  | sh bv e l=>rw [hr] at hx;cases hx
  | hl e0 d0 j0 cs0 l0=>rw [hr] at hx;cases hx
 ·rename_i r e'
  cases hr:σ.res r with
  | row bv e l=>
    rw [hr] at hx
    dsimp only at hx
    cases hb:Nat.beq e e'<;>rw [hb] at hx<;>cases hx
    have h1:=h.res r
    have hr':σ'.res r= .row bv e l:=by rw [hA.res r (hh _ (List.mem_cons_self))];exact hr
    rw [hr'] at h1
    have h2:Ow T.sz w (F r) (.sl e (l.map (T.enc e))) v:=by rw [hc.1];exact h1
    refine⟨F r,⟨rfl,h2⟩,fun q hq=>?_,fun k hk=>⟨_,List.mem_cons_self,rfl⟩⟩
    have hq:=List.mem_singleton.1 hq
    subst hq
    exact⟨rfl,fun k hk=>hk,fun bv e l h=>(by cases h),fun w' S Fn _ _ h3 _=>⟨bv,e,l,hr'⟩⟩
  | no=>rw [hr] at hx;cases hx
  | bx t cs=>rw [hr] at hx;cases hx
  | sh bv e l=>rw [hr] at hx;cases hx
  | hl e0 d0 j0 cs0 l0=>rw [hr] at hx;cases hx
 ·rename_i r cs'
  cases hr:σ.res r with
  | bx t cs=>
    rw [hr] at hx
    dsimp only at hx
    cases hu:wJ cs with
    | none=>rw [hu] at hx;cases hx
    | some xs=>
      rw [hu] at hx
      cases hx
      have h1:=h.res r
      have hr':σ'.res r= .bx t cs:=by rw [hA.res r (hh _ (List.mem_cons_self))];exact hr
      rw [hr'] at h1
      obtain⟨g,arr,h2,h3,h4,h5,h6⟩:=h1
      obtain⟨g',h7,h8⟩:=hc
      rw [h2] at h7
      cases h7
      refine⟨F r,⟨rfl,g,arr,h8,h3,h5,zW (fun k hk=> .inl (hk.elim id (fun⟨q,hq,_⟩=>by cases hq))) hu h6⟩,fun q hq=>?_,fun k hk=>⟨_,List.mem_cons_self,rfl⟩⟩
      have hq:=List.mem_singleton.1 hq
      subst hq
      refine⟨rfl,fun k hk=>hk,fun bv e l h=>(by cases h),fun w' S Fn _ _ h9 _=>?_⟩
      obtain⟨g2,us,h10,h11,h12,h13,BG⟩:=h9
      refine⟨⟨g2,us,cs',h2.trans (h8.symm.trans h10), .inr h11,fun k hk=>hk.elim (fun hk=>(hk.2 hk.1).elim) (h12 k),h13,rfl,BG⟩,t,cs,hr'⟩
  | no=>rw [hr] at hx;cases hx
  | row bv e l=>rw [hr] at hx;cases hx
  | sh bv e l=>rw [hr] at hx;cases hx
  | hl e0 d0 j0 cs0 l0=>rw [hr] at hx;cases hx
 ·cases hx
  have:=hc.1
  subst this
  exact⟨fun _=>False,⟨rfl, .nil _ _⟩,fun q hq=>(by cases hq),fun k hk=>hk.elim⟩
 ·cases hx
  have:=hc.1
  subst this
  exact⟨fun _=>False,⟨rfl, .nil _ _⟩,fun q hq=>(by cases hq),fun k hk=>hk.elim⟩
 ·cases hx
theorem aaI {ts:List Nat} (h:eU W0 σ' a w env F) (hA:Agree σ σ' ts bF bH) {r bv j o' e:Nat} {l:List (T.Tb e)} {v:Value} (hc:bT σ' env F w (.pl r bv j o' e l) v) {vn i e':Nat} {l':List (T.Tb e')} {x:AC T.Tb} {ps:List (Nat × Nat)} {hs:List (Hd T)} (hx:hPl σ vn i r bv j o' e' l'=some (x,ps,hs)) (hh:∀q∈hs,q.r∈bF):
  ps=[]∧∃Fi:Nat→Prop,pJ w (jP σ'.A F ps) (fun _=>Fi) (fun _=>v) i x v∧(∀q∈hs,q.i=i∧yX σ' env F w Fi v x q vn)∧(∀k,Fi k→∃q∈hs,q.i=i):=by
 unfold hPl at hx
 cases hr:σ.res r with
 | no=>rw [hr] at hx;cases hx
 | bx t cs=>rw [hr] at hx;cases hx
 | sh bv e l=>rw [hr] at hx;cases hx
 | hl e0 d0 j0 cs0 l0=>rw [hr] at hx;cases hx
 | row kF e0 l0=>
   rw [hr] at hx
   dsimp only at hx
   cases hb:Nat.beq kF bv<;>rw [hb] at hx<;>dsimp only at hx
   ·cases hx
   split at hx
   ·rename_i e1 l1 hn
    cases hb2:Nat.beq e1 e'<;>rw [hb2] at hx<;>dsimp only at hx
    ·cases hx
    cases hy:T.xO e0 (splice (T.cells e0 (bV T e0 l0 j)) o' [.sl e' l']) with
    | none=>rw [hy] at hx;cases hx
    | some y=>
      rw [hy] at hx
      cases hx
      have:=Nat.eq_of_beq_eq_true hb
      subst this
      have:=Nat.eq_of_beq_eq_true hb2
      subst this
      have hr':σ'.res r= .row kF e0 l0:=by rw [hA.res r (hh _ (List.mem_cons_self))];exact hr
      obtain⟨hj,g,c,hFg,h1,h2⟩:=hc.2 e0 l0 hr'
      have h3:=h.res r
      rw [hr'] at h3
      have h4:Ow T.sz w (F r) (.sl e0 (l0.map (T.enc e0))) (.slice (some ⟨g,0,none⟩) l0.length c):=by rw [←h1];exact h3
      have hgc:=yY hn
      have hget:bV T e0 l0 j=l0[j]:=by simp [bV,hj]
      obtain⟨u,Fn,h5,h6,h7,h8⟩:=aaH h4 (i:=j) (o:=o') (old:=T.enc e0 l0[j]) (x:= .sl e1 (l1.map (T.enc e1))) (by simp [hj]) (by rw [T.gG,List.getElem?_map,←hget,hgc];rfl)
      rw [h2] at h5
      have:=Option.some.inj h5
      subst this
      refine⟨rfl,Fn,⟨rfl,h6⟩,fun q hq=>?_,fun k hk=>⟨_,List.mem_cons_self,rfl⟩⟩
      have hq:=List.mem_singleton.1 hq
      subst hq
      refine⟨rfl,h7,fun bv e l h=>(by cases h;rfl),fun w' S Fn' _ h9 h10 h11=>⟨?_,kF,l0,hr',by simp⟩⟩
      have h12:=h8 w' Fn' _ h9 h10 h11
      have hmk:=T.mk_eq e0 _ y hy
      have hset:T.enc e0 y=(T.enc e0 l0[j]).set o' (.sl e1 (l'.map (T.enc e1))):=by
       rw [T.gG,hmk,T.gG e0 l0[j],←hget]
       have hol:=(List.getElem?_eq_some_iff.1 hgc).1
       apply List.ext_getElem?
       intro q
       rw [List.getElem?_map,List.getElem?_set,List.getElem?_map,gq (by simp only [List.length_cons,List.length_nil];omega)]
       simp only [List.length_cons,List.length_nil,Nat.zero_add,List.length_map]
       by_cases e1':q<o'
       ·rw [if_pos e1',if_neg (by omega)]
       ·by_cases e2':q=o'
        ·subst e2'
         rw [if_neg (by omega),if_pos (by omega),if_pos rfl,if_pos hol]
         simp [C0.yZ]
        ·rw [if_neg e1',if_neg (by omega),if_neg (fun e=>e2' e.symm)]
      rw [h1,List.map_set,hset]
      exact h12
   ·cases hx
theorem OB {vn i:Nat}:∀{cs:List (Cell T)} {ns:List (NW T)} {i:Nat} {xs:List (AC T.Tb)} {ps:List (Nat × Nat)} {hs:List (Hd T)},hCs σ vn i cs ns=some (xs,ps,hs)→xs.length=ns.length
 | [],[],_,_,_,_,h=>by cases h;rfl
 | [],_::_,_,_,_,_,h=>by cases h
 | _::_,[],_,_,_,_,h=>by cases h
 | c::cs,n::ns,i,_,_,_,h=>by
   unfold hCs at h
   split at h
   ·split at h
    ·rename_i h2
     cases h
     simp [OB (i:=0) h2]
    ·cases h
   ·cases h
def kG (σ':St T) (env:Nat→Value) (F:Nat→Nat→Prop) (w:World) (Fw:Nat→Nat→Prop) (ev:Nat→Value) (i:Nat) (xs:List (AC T.Tb)) (hs:List (Hd T)) (vn:Nat):Prop:=
 (∀q∈hs,i≤q.i∧∃x,xs[q.i - i]? =some x∧yX σ' env F w (Fw q.i) (ev q.i) x q vn)∧∀j k,Fw j k→∃q∈hs,q.i=j
theorem kG.app {Fw Fw':Nat→Nat→Prop} {ev ev':Nat→Value} {i vn:Nat} {xs xs':List (AC T.Tb)} {hs hs':List (Hd T)} (h:kG σ' env F w Fw ev i xs hs vn) (h':kG σ' env F w Fw' ev' (i+xs.length) xs' hs' vn):
  kG σ' env F w (fun j k=>if j<i+xs.length then Fw j k else Fw' j k) (fun j=>if j<i+xs.length then ev j else ev' j) i (xs++xs') (hs++hs') vn:=by
 have hlt:∀q∈hs,q.i<i+xs.length:=fun q hq=>by
  obtain⟨h1,x,h2,_⟩:=h.1 q hq
  have:=(List.getElem?_eq_some_iff.1 h2).1
  omega
 refine⟨fun q hq=>?_,fun j k hk=>?_⟩
 ·rcases List.mem_append.1 hq with hq | hq
  ·obtain⟨h1,x,h2,h3⟩:=h.1 q hq
   have hl:=hlt q hq
   refine⟨h1,x,by rw [List.getElem?_append_left (by omega)];exact h2,?_⟩
   simp only [if_pos hl]
   exact h3
  ·obtain⟨h1,x,h2,h3⟩:=h'.1 q hq
   refine⟨by omega,x,by rw [List.getElem?_append_right (by omega),show q.i - i - xs.length=q.i - (i+xs.length) by omega];exact h2,?_⟩
   have:¬q.i<i+xs.length:=by omega
   simp only [if_neg this]
   exact h3
 ·by_cases hj:j<i+xs.length
  ·simp only [if_pos hj] at hk
   obtain⟨q,h1,h2⟩:=h.2 j k hk
   exact⟨q,List.mem_append_left _ h1,h2⟩
  ·simp only [if_neg hj] at hk
   obtain⟨q,h1,h2⟩:=h'.2 j k hk
   exact⟨q,List.mem_append_right _ h1,h2⟩
theorem kG.one {Fi:Nat→Prop} {v:Value} {i vn:Nat} {x:AC T.Tb} {hs:List (Hd T)} (h:∀q∈hs,q.i=i∧yX σ' env F w Fi v x q vn) (h2:∀k,Fi k→∃q∈hs,q.i=i):kG σ' env F w (fun j k=>j=i∧Fi k) (fun _=>v) i [x] hs vn:=by
 refine⟨fun q hq=>?_,fun j k ⟨e,hk⟩=>e▸h2 k hk⟩
 obtain⟨h3,h4⟩:=h q hq
 refine⟨by omega,x,by rw [h3];simp,?_⟩
 have e:(fun k=>q.i=i∧Fi k)=Fi:=funext fun k=>by simp [h3]
 show yX σ' env F w (fun k=>q.i=i∧Fi k) v x q vn
 rw [e];exact h4
theorem RJ {ts:List Nat} (h:eU W0 σ' a w env F) (hA:Agree σ σ' ts bF bH) {vn:Nat}:∀{cs:List (Cell T)} {vs:List Value} {i:Nat} {ns:List (NW T)} {xs:List (AC T.Tb)} {ps:List (Nat × Nat)} {hs:List (Hd T)},aY σ' env F w cs vs→hCs σ vn i cs ns=some (xs,ps,hs)→(∀q∈ps,q.1∈bF)→(∀q∈hs,q.r∈bF)→
  ∃Fw ev,sH w (jP σ'.A F ps) Fw ev i xs vs∧kG σ' env F w Fw ev i xs hs vn
 | [],_,i,[],_,_,_,hc,hx,_,_=>by cases hx;exact⟨fun _ _=>False,fun _=>undef,hc,fun q hq=>(by cases hq),fun j k hk=>hk.elim⟩
 | [],_,i,_::_,_,_,_,_,hx,_,_=>by cases hx
 | _::_,_,i,[],_,_,_,_,hx,_,_=>by cases hx
 | c::cs,_,i,n::ns,_,_,_,⟨v,r,e,h1,h2⟩,hx,hp,hh=>by
   subst e
   unfold hCs at hx
   split at hx
   ·rename_i x p hs1 h3
    split at hx
    ·rename_i xs ps hs2 h4
     cases hx
     obtain⟨Fi,g1,g2,g3⟩:=OA h hA h1 h3 (fun q hq=>hp q (List.mem_append_left _ hq)) (fun q hq=>hh q (List.mem_append_left _ hq))
     obtain⟨Fw,ev,g4,g5⟩:=RJ h hA h2 h4 (fun q hq=>hp q (List.mem_append_right _ hq)) (fun q hq=>hh q (List.mem_append_right _ hq))
     refine⟨_,_,⟨v,r,rfl,?_,?_⟩,(kG.one g2 g3).app g5⟩
     ·refine tH (Fw:=fun _=>Fi) (ev:=fun _=>v) g1 (fun k=>oG.1) (fun k hk=>?_) ?_
      ·show if i<i+1 then _ else _
       rw [if_pos (by omega)];exact⟨rfl,hk⟩
      ·show(if i<i+1 then v else _)=v
       rw [if_pos (by omega)]
     ·refine wI (fun k=>oG.2) g4 (fun j h5 _=>⟨fun k hk=>?_,?_⟩)
      ·show if j<i+1 then _ else _
       rw [if_neg (by omega)];exact hk
      ·show(if j<i+1 then v else _)=_
       rw [if_neg (by omega)]
    ·cases hx
   ·cases hx
theorem abK {ts:List Nat} (h:eU W0 σ' a w env F) (hA:Agree σ σ' ts bF bH) {vn i:Nat} {s:Slot T} {v:Value} {n:List (NW T)} {x:AW T.Tb} {ps:List (Nat × Nat)} {hs:List (Hd T)} (hc:bT σ' env F w s v) (hx:hS σ vn i s n=some (x,ps,hs)) (hp:∀q∈ps,q.1∈bF) (hh:∀q∈hs,q.r∈bF):
  x.cells.length=n.length∧∃Fw ev,Nr w (jP σ'.A F ps) Fw ev i x v∧kG σ' env F w Fw ev i x.cells hs vn:=by
 have one:∀{y:AC T.Tb} {Fi:Nat→Prop},pJ w (jP σ'.A F ps) (fun _=>Fi) (fun _=>v) i y v→(∀q∈hs,q.i=i∧yX σ' env F w Fi v y q vn)→(∀k,Fi k→∃q∈hs,q.i=i)→∃Fw ev,Nr w (jP σ'.A F ps) Fw ev i (.c y) v∧kG σ' env F w Fw ev i (AW.c y).cells hs vn:=by
  intro y Fi g1 g2 g3
  exact⟨_,_,tH (Fw:=fun _=>Fi) (ev:=fun _=>v) g1 (fun _ h=>h) (fun k hk=>⟨rfl,hk⟩) rfl,kG.one g2 g3⟩
 unfold hS at hx
 split at hx
 ·split at hx
  ·rename_i h3
   cases hx
   obtain⟨Fi,g1,g2,g3⟩:=OA h hA hc h3 hp hh
   exact⟨rfl,one g1 g2 g3⟩
  ·cases hx
 ·split at hx
  ·rename_i h3
   cases hx
   obtain⟨us,e,hc⟩:=hc
   obtain⟨Fw,ev,g1,g2⟩:=RJ h hA hc h3 hp hh
   exact⟨OB (i:=0) h3,Fw,ev,⟨us,e,g1⟩,g2⟩
  ·cases hx
 ·split at hx
  ·rename_i h3
   cases hx
   obtain⟨rfl,Fi,g1,g2,g3⟩:=aaI h hA hc h3 hh
   exact⟨rfl,one g1 g2 g3⟩
  ·cases hx
 ·split at hx
  ·rename_i h3
   cases hx
   obtain⟨Fi,g1,g2,g3⟩:=OA h hA hc.1 h3 hp hh
   exact⟨rfl,one g1 g2 g3⟩
  ·cases hx
 ·split at hx
  ·rename_i t cs hr
   split at hx
   ·rename_i us hu
    cases hx
    have hm:=hp (_,0) List.mem_cons_self
    have hr':=(hA.res _ hm).trans hr
    dsimp only at hr'
    obtain⟨g',e6,e7⟩:=hc
    rename_i f0 r0 _ _
    have h1:=h.res r0
    rw [hr'] at h1
    obtain⟨g,arr,e1,e2,_,e4,e5⟩:=h1
    rw [e1] at e6
    cases e6
    have e8:=Ox hu e5
    subst e8
    exact⟨rfl,one (Fi:=fun _=>False) ⟨g',e7, .inr ⟨_,List.mem_cons_self,e2⟩,e4⟩ (fun q hq=>(by cases hq)) (fun k hk=>hk.elim)⟩
   ·cases hx
  ·cases hx
 ·cases hx
def abL (σ:St T):Operand→Slot T
 | .tmp t=>σ.tmp t
 | x=>dn σ x
def OC (σ:St T):List Operand→List (Slot T)
 | []=>[]
 | x::l=>abL σ x::OC σ l
theorem aaJ {x:Operand} (h:eU W0 σ' a w env F) (hA:Agree σ σ' (kL o.op) bF bH) (hx:x∈o.op.operands.toList):bT σ' env F w (abL σ x) (a.eval x):=by
 cases x with
 | tmp t=>
   have ht:t∈kL o.op:=List.mem_filterMap.2 ⟨.tmp t,hx,rfl⟩
   show bT σ' env F w (σ.tmp t) _
   rw [←hA.tm t ht];exact h.tm t
 | const v=>exact CB v
 | global g=>trivial
 | func f=>exact⟨rfl,rfl⟩
theorem RN (h:eU W0 σ' a w env F) (hA:Agree σ σ' (kL o.op) bF bH) {vn:Nat}:∀{xs:List Operand} {i:Nat} {ns:List (List (NW T))} {as:List (AW T.Tb)} {ps:List (Nat × Nat)} {hs:List (Hd T)},(∀x∈xs,x∈o.op.operands.toList)→Oy σ vn i (OC σ xs) ns=some (as,ps,hs)→(∀q∈ps,q.1∈bF)→(∀q∈hs,q.r∈bF)→
  ∃Fw ev,oC w (jP σ'.A F ps) Fw ev i as (xs.map a.eval)∧kG σ' env F w Fw ev i (gQ as) hs vn
 | [],i,[],_,_,_,_,hx,_,_=>by cases hx;exact⟨fun _ _=>False,fun _=>undef,rfl,fun q hq=>(by cases hq),fun j k hk=>hk.elim⟩
 | [],i,_::_,_,_,_,_,hx,_,_=>by cases hx
 | _::_,i,[],_,_,_,_,hx,_,_=>by cases hx
 | x::xs,i,n::ns,_,_,_,ho,hx,hp,hh=>by
   unfold OC Oy at hx
   split at hx
   ·rename_i y p hs1 h3
    split at hx
    ·rename_i ys ps hs2 h4
     cases hx
     obtain⟨hl,Fw1,ev1,g1,g2⟩:=abK h hA (aaJ h hA (ho x List.mem_cons_self)) h3 (fun q hq=>hp q (List.mem_append_left _ hq)) (fun q hq=>hh q (List.mem_append_left _ hq))
     rw [←hl] at h4
     obtain⟨Fw,ev,g4,g5⟩:=RN h hA (fun y hy=>ho y (List.mem_cons_of_mem _ hy)) h4 (fun q hq=>hp q (List.mem_append_right _ hq)) (fun q hq=>hh q (List.mem_append_right _ hq))
     refine⟨_,_,⟨_,_,rfl,?_,?_⟩,g2.app g5⟩
     ·have:oC w (jP σ'.A F (p++ps)) (fun j k=>if j<i+y.cells.length then Fw1 j k else Fw j k) (fun j=>if j<i+y.cells.length then ev1 j else ev j) i [y] [a.eval x]:=
       xM (fun k=>oG.1) (Fw:=Fw1) (ev:=ev1) (show oC w (jP σ'.A F p) Fw1 ev1 i [y] [a.eval x] from⟨_,[],rfl,g1,rfl⟩) (fun j h5 h6=>by
        have:j<i+y.cells.length:=by simpa [gQ] using h6
        exact⟨fun k hk=>by rw [if_pos this];exact hk,by rw [if_pos this]⟩)
      obtain⟨u,r,e,h5,_⟩:=this
      cases e
      exact h5
     ·refine xM (fun k=>oG.2) g4 (fun j h5 _=>⟨fun k hk=>?_,?_⟩)
      ·show if j<i+y.cells.length then _ else _
       rw [if_neg (by omega)];exact hk
      ·show(if j<i+y.cells.length then _ else _)=_
       rw [if_neg (by omega)]
    ·cases hx
   ·cases hx
end
end
end Go.Proofs.YtcnfgfomholheaaGreatDoor.Z
end
section
namespace Go.Proofs.YtcnfgfomholheaaGreatDoor.Z
open Go.RowKit
set_option linter.unusedVariables false
set_option linter.unusedSimpArgs false
section
variable {T:dX} {P:Program} {W0:Fr} {σ σ' σ1:St T} {a:Act} {w w1:World} {env bD:Nat→Value} {F F1:Nat→Nat→Prop} {o:Oper} {bF bH:List Nat}
def CG:List (Hd T)→List (Nat × dB T)
 | []=>[]
 | h::l=>(h.r,h.x)::CG l
def jA:List (Hd T)→List Nat
 | []=>[]
 | h::l=>h.r::jA l
def CJ:List (Hd T)→List Nat
 | []=>[]
 | h::l=>h.i::CJ l
def OD:List Nat→List Nat→Bool
 | [],_=>true
 | a::l,m=>match jH a m with
   | true=>false
   | false=>OD l m
theorem LP {m:List Nat}:∀{l:List Nat},OD l m=true→∀a∈l,a∉m
 | [],_,a,h,_=>by cases h
 | b::l,h,a,ha,hm=>by
   unfold OD at h
   cases hb:jH b m<;>rw [hb] at h
   ·rcases List.mem_cons.1 ha with rfl | ha
    ·rw [ig.2 hm] at hb;cases hb
    ·exact LP h a ha hm
   ·cases h
theorem iO {r:Nat}:∀{l:List (Hd T)},r∈jA l↔∃h∈l,h.r=r
 | []=>by simp [jA]
 | h::l=>by
   simp only [jA,List.mem_cons,iO (l:=l),exists_eq_or_imp]
   exact or_congr ⟨fun e=>e.symm,fun e=>e.symm⟩ Iff.rfl
theorem F5 {r:Nat}:∀{l:List (Hd T)},r∈CJ l↔∃h∈l,h.i=r
 | []=>by simp [CJ]
 | h::l=>by
   simp only [CJ,List.mem_cons,F5 (l:=l),exists_eq_or_imp]
   exact or_congr ⟨fun e=>e.symm,fun e=>e.symm⟩ Iff.rfl
theorem J4 {a:Nat} {l:List Nat} (h:kM (a::l)=true):a∉l∧kM l=true:=by
 unfold kM at h
 cases hb:jH a l<;>rw [hb] at h
 ·exact⟨fun hm=>(by rw [ig.2 hm] at hb;cases hb),h⟩
 ·cases h
theorem CO:∀{l:List (Hd T)},kM (jA l)=true→∀h∈l,∀h'∈l,h.r=h'.r→h=h'
 | [],_,h,hm,_,_,_=>by cases hm
 | x::l,hn,h,hm,h',hm',e=>by
   obtain⟨h1,h2⟩:=J4 hn
   rcases List.mem_cons.1 hm with rfl | hl<;>rcases List.mem_cons.1 hm' with rfl | hl'
   ·rfl
   ·exact(h1 (iO.2 ⟨h',hl',e.symm⟩)).elim
   ·exact(h1 (iO.2 ⟨h,hl,e⟩)).elim
   ·exact CO h2 h hl h' hl' e
theorem RP:∀{l:List (Hd T)},kM (CJ l)=true→∀h∈l,∀h'∈l,h.i=h'.i→h=h'
 | [],_,h,hm,_,_,_=>by cases hm
 | x::l,hn,h,hm,h',hm',e=>by
   obtain⟨h1,h2⟩:=J4 hn
   rcases List.mem_cons.1 hm with rfl | hl<;>rcases List.mem_cons.1 hm' with rfl | hl'
   ·rfl
   ·exact(h1 (F5.2 ⟨h',hl',e.symm⟩)).elim
   ·exact(h1 (F5.2 ⟨h,hl,e⟩)).elim
   ·exact RP h2 h hl h' hl' e
theorem LQ {d:dB T}:∀{l:List (Hd T)},kM (jA l)=true→∀h∈l,∀m,lk d (CG l++m) h.r=h.x
 | [],_,h,hm,_=>by cases hm
 | x::l,hn,h,hm,m=>by
   obtain⟨h1,h2⟩:=J4 hn
   simp only [CG,List.cons_append,lk]
   rcases List.mem_cons.1 hm with rfl | hm
   ·simp [Nat.beq_eq]
   ·rw [fD (fun e=>h1 (iO.2 ⟨h,hm,e.symm⟩))]
    exact LQ h2 h hm m
theorem F6 {d:dB T} {r:Nat}:∀{l:List (Hd T)},r∉jA l→∀m,lk d (CG l++m) r=lk d m r
 | [],_,m=>rfl
 | x::l,h,m=>by
   simp only [CG,List.cons_append,lk]
   rw [fD (fun e=>h (by rw [←e];exact List.mem_cons_self))]
   exact F6 (fun hm=>h (List.mem_cons_of_mem _ hm)) m
theorem LU {w':World} {S:Nat→Prop} {F':Nat→Nat→Prop} {ev:Nat→Value} {x:AC T.Tb}:∀{cs:List (AC T.Tb)} {i j:Nat},Behind w' S F' ev i cs→cs[j]? =some x→RI w' S (F' (i+j)) (ev (i+j)) x
 | [],_,_,_,h=>by simp at h
 | c::cs,i,0,hb,h=>by
   simp at h
   subst h
   cases c with
   | ow e l e' l'=>exact hb.1
   | bx t xs ys=>exact hb.1
   | c y=>trivial
   | gv e l=>trivial
   | fn f t us=>trivial
 | c::cs,i,j+1,hb,h=>by
   have hb':Behind w' S F' ev (i+1) cs:=by
    cases c with
    | ow e l e' l'=>exact hb.2
    | bx t xs ys=>exact hb.2
    | c y=>exact hb
    | gv e l=>exact hb
    | fn f t us=>exact hb
   rw [show i+(j+1)=i+1+j by omega]
   exact LU hb' (by simpa using h)
def isRow:dB T→Bool
 | .row _ _ _=>true
 | .bx _ _=>true
 | _=>false
def TR:dB T→Bool
 | .bx _ _=>true
 | _=>false
def Ej:List (Hd T)→Bool
 | []=>false
 | h::l=>match TR h.x with
   | true=>true
   | false=>Ej l
theorem CP {q:Hd T}:∀{l:List (Hd T)},q∈l→TR q.x=true→Ej l=true
 | [],h,_=>by cases h
 | x::l,h,hb=>by
   unfold Ej
   cases hx:TR x.x with
   | true=>rfl
   | false=>
     rcases List.mem_cons.1 h with rfl | h
     ·rw [hb] at hx;cases hx
     ·exact CP h hb
theorem eU.aaK (h:eU W0 σ a w env F) {res:RS T.Tb} {v:Value} {fv:List Value} {G F':Nat→Nat→Prop} {Fw:Nat→Nat→Prop} {ev:Nat→Value} {hs:List (Hd T)} {xs:List (AC T.Tb)} {nx nc nx':Nat} {dst:Option Nat}
  (hfr:∀r,nx≤r→r<nx+(res.flat.length+nc)→jI σ r∧σ.res r= .no) (hnc:xs.length≤nc) (hands:kG σ env F w Fw ev 0 xs hs (nx+res.flat.length)) (hnd:kM (jA hs)=true) (hnx:kM (CJ hs)=true)
  (hw:w1.os=w.os∧w1.tape=w.tape∧w1.output=w.output∧w.heap.size≤w1.heap.size) (hblk:∀k,k<w.heap.size→(∀i,¬Fw i k)→w1.heap[k]? =w.heap[k]?)
  (hG:∀i k,G i k→(w.heap.size≤k∨∃j,Fw j k)∧k<w1.heap.size) (hap:∀i j k,G i k→G j k→i=j) (hF':∀i k,F' i k→(w.heap.size≤k∨∃j,Fw j k)∧k<w1.heap.size) (hFa:∀i j k,F' i k→F' j k→i=j) (hFG:∀i j k,F' i k→¬G j k)
  {S:Nat→Prop} (hSb:Ej hs=true→∀k,S k→σ.A k∧∀r,¬F r k) (hB:Behind w1 (sB S Fw w.heap.size G F') F' ev 0 xs) (hf:uY res v fv) (hc:dN w1 (fun _=>False) G 0 res.flat fv) (hp:jB res.flat=false) (hd:∀d,dst=some d→d<σ.n):
  jD W0 (σ.upd dst ⟨iL nx none res,CG hs++gV nx 0 res.flat,bF,nx',bH⟩) (a.put dst v) w1:=by
 have hlen:=y7 hc
 let U:bI T:=⟨iL nx none res,CG hs++gV nx 0 res.flat,bF,nx',bH⟩
 have hsub:∀j k,Fw j k→∃q∈hs,q.i=j∧F q.r k:=fun j k hk=>by
  obtain⟨q,hq,e⟩:=hands.2 j k hk
  obtain⟨_,x,_,h3⟩:=hands.1 q hq
  exact⟨q,hq,e,h3.sub k (e▸hk)⟩
 have Ns:∀q∈hs,∀j k,Fw j k→F q.r k→j=q.i:=fun q hq j k hk hF=>by
  obtain⟨q',hq',e,h3⟩:=hsub j k hk
  have:=h.apart _ _ k h3 hF
  rw [CO hnd q' hq' q hq this] at e
  exact e.symm
 have hafter:∀q∈hs,Oz σ env w1 (sB S Fw w.heap.size G F') (fun k=>F q.r k∧¬Fw q.i k∨F' q.i k) q.r q.x:=fun q hq=>by
  obtain⟨_,x,h2,h3⟩:=hands.1 q hq
  refine h3.after w1 (sB S Fw w.heap.size G F') (F' q.i) hw.2.2.2 (fun k hk hn=>hblk k (fQ h hk) (fun i hi=>hn ((Ns q hq i k hi hk)▸hi))) ?_ (fun k hk=>?_)
  ·have:=LU hB h2
   rw [show 0+(q.i - 0)=q.i by omega] at this
   exact this
  ·by_cases hF:F q.r k
   ·rcases(hF' _ k hk).1 with h4 | ⟨j,h4⟩
    ·have:=fQ h hF;omega
    ·exact .inl ((Ns q hq j k h4 hF)▸h4)
   ·exact .inr hF
 have hrow:∀q∈hs,σ.res q.r≠ .no:=fun q hq e0=>by
  have:=hafter q hq
  cases hx:q.x with
  | no=>rw [hx] at this;obtain⟨_,_,_,h2⟩:=this;rw [e0] at h2;cases h2
  | bx t cs=>rw [hx] at this;obtain⟨_,_,_,h2⟩:=this;rw [e0] at h2;cases h2
  | sh bv e l=>rw [hx] at this;exact this.elim
  | hl e0 d0 j0 cs0 l0=>rw [hx] at this;exact this.elim
  | row bv e l=>rw [hx] at this;obtain⟨_,kF,l0,h2,_⟩:=this;rw [e0] at h2;cases h2
 have hnew:∀r,nx≤r→r<nx+res.flat.length→r∉jA hs:=fun r h1 h2 hm=>by
  obtain⟨q,hq,rfl⟩:=iO.1 hm
  exact hrow q hq (hfr q.r h1 (by omega)).2
 have ac8:∀r,r∉jA hs→¬(nx≤r∧r<nx+res.flat.length)→(σ.upd dst U).res r=σ.res r:=fun r h1 h2=>by
  rw [St.dP,F6 h1]
  exact sJ _ _ _ (fun q hq=>by have:=qL q hq;intro e;subst e;exact h2 (by simpa using this))
 have Ig:∀q∈hs,(σ.upd dst U).res q.r=q.x:=fun q hq=>by rw [St.dP];exact LQ hnd q hq _
 have ac9:∀j,j<res.flat.length→(σ.upd dst U).res (nx+j)=match res.flat[j]? with
   | some (.ow e x)=> .row (nx+j) e x
   | some (.bx t x)=> .bx t (x.map (toCell none))
   | _=> .no:=fun j hj=>by
  rw [St.dP,F6 (hnew (nx+j) (by omega) (by omega))]
  have:=zX (nx:=nx) (l:=res.flat) (i:=0) (j:=j) (d:=σ.res (nx+j)) hj
  simp only [Nat.add_zero] at this
  rw [this,(hfr (nx+j) (by omega) (by omega)).2]
  all_goals
   cases hx:res.flat[j]? with
   | none=>rfl
   | some x=>cases x<;>rfl
 let bD:Nat→Value:=fun s=>if nx≤s∧s<nx+res.flat.length then fv.getD (s - nx) undef else env s
 let F1:Nat→Nat→Prop:=fun s k=>((nx≤s∧s<nx+res.flat.length)∧CQ res.flat (s - nx)=true∧G (s - nx) k)∨(∃q∈hs,q.r=s∧isRow q.x=true∧(F s k∧¬Fw q.i k∨F' q.i k))∨(¬(nx≤s∧s<nx+res.flat.length)∧s∉jA hs∧F s k)
 have he0:∀s,¬(nx≤s∧s<nx+res.flat.length)→bD s=env s:=fun s hs=>if_neg hs
 have heH:∀s,s∈jA hs→bD s=env s:=fun s hs=>he0 s (fun e=>hnew s e.1 e.2 hs)
 have he1:∀j u,fv[j]? =some u→bD (nx+(0+j))=u:=fun j u hj=>by
  have hlt:=(List.getElem?_eq_some_iff.1 hj).1
  show(if _ then _ else _)=_
  rw [if_pos (by omega),show nx+(0+j) - nx=j by omega,List.getD_eq_getElem?_getD,hj];rfl
 have hold:∀k,k<w.heap.size→(w.heap.size≤k∨∃j,Fw j k)→∃s,F s k:=fun k hk hh=>by
  rcases hh with hh | ⟨j,hj⟩
  ·omega
  ·obtain⟨q,_,_,h3⟩:=hsub j k hj;exact⟨_,h3⟩
 have hF1:∀s k,F1 s k→k<w.heap.size→∃s',F s' k:=by
  rintro s k (⟨_,_,h1⟩ | ⟨q,hq,rfl,_,h1 | h1⟩ | ⟨_,_,h1⟩) hk
  ·exact hold k hk (hG _ k h1).1
  ·exact⟨_,h1.1⟩
  ·exact hold k hk (hF' _ k h1).1
  ·exact⟨_,h1⟩
 have ada:∀k,(∀r,¬F r k)→∀i,¬Fw i k:=fun k hk i hi=>by obtain⟨q,_,_,h3⟩:=hsub i k hi;exact hk _ h3
 have calm:Calm σ (σ.upd dst U) F F1 w w1:=⟨St.iI _ _ _,hw.2.2.2,fun k hk hst=>⟨fun s hs=>by obtain⟨s',h1⟩:=hF1 s k hs hk;exact hst s' h1,hblk k hk (ada k hst)⟩⟩
 have Wv:∀s k,s∉jA hs→F s k→∀i,¬Fw i k:=fun s k hs' hk i hi=>by
  obtain⟨q,hq,_,h3⟩:=hsub i k hi
  exact hs' (iO.2 ⟨q,hq,h.apart _ _ k h3 hk⟩)
 have below:mV W0 w1:=h.below.step hw.1 hw.2.1 hw.2.2.1 hw.2.2.2 (fun k hk hm=>hblk k hk (fun i hi=>by obtain⟨q,_,_,h3⟩:=hsub i k hi;exact hm (h.own _ k h3).1))
 have hmay:∀k,(w.heap.size≤k∨∃j,Fw j k)→W0.may k:=fun k hk=>by
  rcases hk with hk | ⟨j,hj⟩
  ·exact h.below.may hk
  ·obtain⟨q,_,_,h3⟩:=hsub j k hj;exact(h.own _ k h3).1
 refine h.upd (bD:=bD) (F1:=F1) (fun r=>(nx≤r∧r<nx+res.flat.length)∨r∈jA hs) below calm ?_ ?_ ?_ ?_ ?_ (fun d hd'=>⟨hd d hd',?_⟩)
 ·intro r hr
  have h1:¬(nx≤r∧r<nx+res.flat.length):=fun e=>hr (.inl e)
  have h2:r∉jA hs:=fun e=>hr (.inr e)
  refine⟨he0 r h1,fun k=>⟨fun h3=>?_,fun h3=> .inr (.inr ⟨h1,h2,h3⟩)⟩,ac8 r h2 h1,fun k hk=>hblk k (fQ h hk) (Wv r k h2 hk)⟩
  rcases h3 with ⟨h4,_⟩ | ⟨q,hq,e,_⟩ | ⟨_,_,h3⟩
  ·exact(h1 h4).elim
  ·exact(h2 (iO.2 ⟨q,hq,e⟩)).elim
  ·exact h3
 ·intro r hr
  by_cases hm:r∈jA hs
  ·obtain⟨q,hq,rfl⟩:=iO.1 hm
   rw [Ig q hq]
   have h1:=hafter q hq
   cases hx:q.x with
   | no=>
     rintro k (⟨h2,_⟩ | ⟨q',hq',e,h2,_⟩ | ⟨_,h2,_⟩)
     ·exact hnew _ h2.1 h2.2 hm
     ·rw [CO hnd q' hq' q hq e,hx] at h2;cases h2
     ·exact h2 hm
   | bx t cs=>
     rw [hx] at h1
     obtain⟨⟨g,us,xs,h2,h3,h4,h5,rfl,h6⟩,_⟩:=h1
     have hS1:∀k,sB S Fw w.heap.size G F' k→jo (σ.upd dst U).A F1 none k:=fun k ⟨h7,h8,h9⟩=>by
      have hno:∀s,¬F1 s k:=by
       have hbs:=hSb (CP hq (by rw [hx];rfl))
       rintro s (⟨_,_,h10⟩ | ⟨q',hq',rfl,_,h10 | h10⟩ | ⟨_,h11,h10⟩)
       ·exact h8 _ h10
       ·rcases h7 with h7 | ⟨j,h7⟩ | h7
        ·exact(hbs k h7).2 _ h10.1
        ·exact h10.2 ((Ns q' hq' j k h7 h10.1)▸h7)
        ·have:=fQ h h10.1;omega
       ·exact h9 _ h10
       ·rcases h7 with h7 | ⟨j,h7⟩ | h7
        ·exact(hbs k h7).2 _ h10
        ·obtain⟨q',hq',_,h12⟩:=hsub j k h7
         exact h11 (iO.2 ⟨q',hq',h.apart _ _ k h12 h10⟩)
        ·have:=fQ h h10;omega
      refine .inl ⟨?_,hno⟩
      rw [St.iI]
      rcases h7 with h7 | ⟨j,h7⟩ | h7
      ·exact(hSb (CP hq (by rw [hx];rfl)) k h7).1
      ·obtain⟨q',hq',_,h12⟩:=hsub j k h7
       exact h.acc k (h.own _ k h12).1
      ·exact h.acc k (h.below.may h7)
     refine⟨g,us,(heH _ hm).trans h2, .inr (.inl ⟨q,hq,rfl,by rw [hx];rfl,h3⟩),fun k hk=>?_,h5,wK hS1 h6⟩
     rcases hk with ⟨h7,_⟩ | ⟨q',hq',e,_,h7⟩ | ⟨_,h7,_⟩
     ·exact(hnew _ h7.1 h7.2 hm).elim
     ·have:=CO hnd q' hq' q hq e
      subst this
      exact h4 k h7
     ·exact(h7 hm).elim
   | sh bv e l=>rw [hx] at h1;exact h1.elim
   | hl e0 d0 j0 cs0 l0=>rw [hx] at h1;exact h1.elim
   | row bv e l=>
     rw [hx] at h1
     show Ow T.sz w1 (F1 q.r) (.sl e (l.map (T.enc e))) (bD q.r)
     rw [heH _ hm]
     exact Ow.mono h1.1 (fun k hk=> .inr (.inl ⟨q,hq,rfl,by rw [hx];rfl,hk⟩))
  ·obtain⟨h1,h2⟩:=hr.resolve_right hm
   obtain⟨j,rfl⟩:∃j,r=nx+j:=⟨r - nx,by omega⟩
   have hj:j<res.flat.length:=by omega
   have abM:∀k,F1 (nx+j) k→CQ res.flat j=true∧G j k:=by
    rintro k (⟨_,h3⟩ | ⟨q,hq,e,_⟩ | ⟨h3,_⟩)
    ·rwa [show nx+j - nx=j by omega] at h3
    ·exact(hm (iO.2 ⟨q,hq,e⟩)).elim
    ·exact(h3 ⟨h1,h2⟩).elim
   rw [ac9 j hj]
   cases hx:res.flat[j]? with
   | none=>simp at hx;omega
   | some x=>
     cases x with
     | sc u=>
       intro k hk
       have:=(abM k hk).1
       rw [wL (fun e x h=>by rw [hx] at h;cases h) (fun e x h=>by rw [hx] at h;cases h)] at this
       cases this
     | im e l=>
       intro k hk
       have:=(abM k hk).1
       rw [wL (fun e x h=>by rw [hx] at h;cases h) (fun e x h=>by rw [hx] at h;cases h)] at this
       cases this
     | bx t xs=>rw [(F7 hx).1] at hp;cases hp
     | ow e l=>
       obtain⟨u,h3,h4⟩:=TS hc hx
       show Ow T.sz w1 (F1 (nx+j)) (.sl e (l.map (T.enc e))) (bD (nx+j))
       have h5:=he1 j u h3
       rw [Nat.zero_add] at h5 h4
       rw [h5]
       exact h4.mono (fun k hk=> .inl ⟨⟨h1,h2⟩,by rw [show nx+j - nx=j by omega];exact⟨F8 hx,hk⟩⟩)
 ·rintro r k _ (⟨_,_,h3⟩ | ⟨q,hq,rfl,_,h3 | h3⟩ | ⟨_,_,h3⟩)
  ·exact⟨hmay k (hG _ k h3).1,(hG _ k h3).2⟩
  ·exact⟨(h.own _ k h3.1).1,Nat.lt_of_lt_of_le (fQ h h3.1) hw.2.2.2⟩
  ·exact⟨hmay k (hF' _ k h3).1,(hF' _ k h3).2⟩
  ·exact⟨(h.own _ k h3).1,Nat.lt_of_lt_of_le (fQ h h3) hw.2.2.2⟩
 ·intro r s k _ h1 h2
  have cross:∀q∈hs,F q.r k→¬Fw q.i k→¬(w.heap.size≤k∨∃j,Fw j k):=fun q hq h3 h4 h5=>by
   rcases h5 with h5 | ⟨j,h5⟩
   ·have:=fQ h h3;omega
   ·exact h4 ((Ns q hq j k h5 h3)▸h5)
  have Ih:∀s,s∉jA hs→F s k→¬(w.heap.size≤k∨∃j,Fw j k):=fun s hs' h3 h5=>by
   rcases h5 with h5 | ⟨j,h5⟩
   ·have:=fQ h h3;omega
   ·exact Wv s k hs' h3 j h5
  rcases h1 with ⟨a1,_,a2⟩ | ⟨q,hq,rfl,_,a2 | a2⟩ | ⟨a0,a1,a2⟩<;>rcases h2 with ⟨b1,_,b2⟩ | ⟨q',hq',rfl,_,b2 | b2⟩ | ⟨b0,b1,b2⟩
  ·have:=hap _ _ k a2 b2;omega
  ·exact(cross q' hq' b2.1 b2.2 (hG _ k a2).1).elim
  ·exact(hFG _ _ k b2 a2).elim
  ·exact(Ih s b1 b2 (hG _ k a2).1).elim
  ·exact(cross q hq a2.1 a2.2 (hG _ k b2).1).elim
  ·exact h.apart _ _ k a2.1 b2.1
  ·exact(cross q hq a2.1 a2.2 (hF' _ k b2).1).elim
  ·exact(b1 (iO.2 ⟨q,hq,h.apart _ _ k a2.1 b2⟩)).elim
  ·exact(hFG _ _ k a2 b2).elim
  ·exact(cross q' hq' b2.1 b2.2 (hF' _ k a2).1).elim
  ·rw [RP hnx q hq q' hq' (hFa _ _ k a2 b2)]
  ·exact(Ih s b1 b2 (hF' _ k a2).1).elim
  ·exact(Ih r a1 a2 (hG _ k b2).1).elim
  ·exact(a1 (iO.2 ⟨q',hq',h.apart _ _ k b2.1 a2⟩)).elim
  ·exact(Ih r a1 a2 (hF' _ k b2).1).elim
  ·exact h.apart r s k a2 b2
 ·intro r hr
  by_cases hm:r∈jA hs
  ·obtain⟨q,hq,rfl⟩:=iO.1 hm
   refine .inr ⟨heH _ hm,?_,fun b=>?_⟩
   ·refine⟨fun bv e l hl=>?_,fun bv e l hl=>?_,fun e d j cs l hl=>?_⟩
    ·rw [Ig q hq] at hl
     have h1:=hafter q hq
     rw [hl] at h1
     exact h1.2
    ·rw [Ig q hq] at hl
     have h1:=hafter q hq
     rw [hl] at h1
     exact h1.elim
    ·rw [Ig q hq] at hl
     have h1:=hafter q hq
     rw [hl] at h1
     exact h1.elim
   ·obtain⟨h0,x,h2,h3⟩:=hands.1 q hq
    by_cases hb:b=nx+res.flat.length+q.i
    ·have hlt:=(List.getElem?_eq_some_iff.1 h2).1
     exact .inr (jI.Wx (by rw [hb];exact(hfr _ (by omega) (by omega)).1))
    ·refine .inl ?_
     rintro⟨e',l',hl⟩
     rw [show(σ.upd dst U).res q.r=q.x from Ig q hq] at hl
     exact(hb (h3.ver _ _ _ hl)).elim
  ·obtain⟨h1,h2⟩:=hr.resolve_right hm
   exact .inl (hfr r h1 (by omega)).1
 ·cases res with
  | c x=>
    obtain rfl:fv=[v]:=hf
    have h1:aY (σ.upd dst U) bD F1 w1 (qm nx none 0 [x]) [v]:=rD hc he1 (fun h=>by rw [show jB (RS.c x).flat=jB [x] from rfl] at hp;rw [hp] at h;cases h)
    obtain⟨u,r,e,h2,_⟩:=h1
    cases e
    exact h2
  | ag l=>
    obtain⟨us,e,e'⟩:=hf
    exact⟨us,e,by rw [e'];exact rD hc he1 (fun h=>by rw [show jB (RS.ag l).flat=jB l from rfl] at hp;rw [hp] at h;cases h)⟩
  | tu l=>
    obtain⟨us,e,e'⟩:=hf
    exact⟨us,e,OE e' hc he1 (fun h=>by rw [show jB (RS.tu l).flat=jB (CS l) from rfl] at hp;rw [hp] at h;cases h)⟩
def TT (hs:List (Hd T)) (ps:List (Nat × Nat)):Bool:=match Ej hs with
 | false=>true
 | true=>match ps with
   | []=>true
   | _=>false
theorem YD {hs:List (Hd T)} {ps:List (Nat × Nat)} (h:TT hs ps=true) (hb:Ej hs=true):ps=[]:=by
 unfold TT at h
 rw [hb] at h
 cases ps with
 | nil=>rfl
 | cons q l=>cases h
def F9 (σ:St T) (nx nc:Nat) (dst:Option Nat) (ps:List (Nat × Nat)) (hs:List (Hd T)) (res:RS T.Tb):Option (bI T):=
 match bQ σ dst with
 | true=>match wM σ nx (res.flat.length+nc) with
   | true=>match jB res.flat with
     | true=>none
     | false=>match kM (jA hs) with
       | true=>match kM (CJ hs) with
         | true=>match OD (jA hs) (wO ps) with
           | true=>match TT hs ps with
             | false=>none
             | true=>some ⟨iL nx none res,CG hs++gV nx 0 res.flat,ids nx (res.flat.length+nc)++(jA hs++(wO ps++(iL nx (none:Option (Nat × Nat)) res).refs)),res.flat.length+nc,ids nx (res.flat.length+nc)++jA hs⟩
           | false=>none
         | false=>none
       | false=>none
   | false=>none
 | false=>none
def cnt:List (List (NW T))→Nat
 | []=>0
 | x::l=>x.length+cnt l
theorem RQ {vn:Nat}:∀{ss:List (Slot T)} {ns:List (List (NW T))} {i:Nat} {as:List (AW T.Tb)} {ps:List (Nat × Nat)} {hs:List (Hd T)},Oy σ vn i ss ns=some (as,ps,hs)→(gQ as).length=cnt ns
 | [],[],_,_,_,_,h=>by cases h;rfl
 | [],_::_,_,_,_,_,h=>by cases h
 | _::_,[],_,_,_,_,h=>by cases h
 | s::ss,n::ns,i,_,_,_,h=>by
   unfold Oy at h
   split at h
   ·rename_i x p hs1 h1
    split at h
    ·rename_i h2
     cases h
     have h3:x.cells.length=n.length:=by
      unfold hS at h1
      split at h1
      ·split at h1<;>cases h1;rfl
      ·split at h1
       ·rename_i h3;cases h1;exact OB (i:=0) h3
       ·cases h1
      ·split at h1<;>cases h1;rfl
      ·split at h1<;>cases h1;rfl
      ·split at h1
       ·split at h1<;>cases h1;rfl
       ·cases h1
      ·cases h1
     simp [gQ,cnt,h3,RQ h2]
    ·cases h
   ·cases h
theorem YE {nx:Nat} {f:FuncId} {args:Array Operand} {ts:Array TypeId} {ns:List (List (NW T))} {as:List (AW T.Tb)} {ps:List (Nat × Nat)} {hs:List (Hd T)} {res:RS T.Tb} {U:bI T} (ho:o.op= .call {callee:= .value (.func f),args:=args,argTypes:=ts}) (ha:Oy σ (nx+res.flat.length) 0 (OC σ args.toList) ns=some (as,ps,hs)) (hob:CallWOb T P f as res) (hu:F9 σ nx (cnt ns) o.dst ps hs res=some U):eH P W0 o σ U:=by
 intro σ' a w K Q hA ⟨env,F,hS⟩ hK
 unfold F9 at hu
 cases hd:bQ σ o.dst<;>rw [hd] at hu<;>dsimp only at hu
 ·cases hu
 cases hf:wM σ nx (res.flat.length+cnt ns)<;>rw [hf] at hu<;>dsimp only at hu
 ·cases hu
 cases hi:jB res.flat<;>rw [hi] at hu<;>dsimp only at hu
 case true=>cases hu
 cases h1:kM (jA hs)<;>rw [h1] at hu<;>dsimp only at hu
 ·cases hu
 cases h2:kM (CJ hs)<;>rw [h2] at hu<;>dsimp only at hu
 ·cases hu
 cases h3:OD (jA hs) (wO ps)<;>rw [h3] at hu<;>dsimp only at hu
 ·cases hu
 cases hbo:TT hs ps<;>rw [hbo] at hu<;>cases hu
 have hd':∀d,o.dst=some d→d<σ'.n:=fun d h=>by rw [hA.n];exact bn hd d h
 obtain⟨⟨fn,hfn,hname,hbody⟩,hcall⟩:=hob
 obtain⟨Fw,ev,hargs,hands⟩:=RN hS hA (fun x hx=>by rw [ho];simp only [Op.operands,Call.operands,Array.toList_append];exact List.mem_append_right _ hx) ha (fun q hq=>List.mem_append_right _ (List.mem_append_right _ (List.mem_append_left _ (zY.2 ⟨q,hq,rfl⟩)))) (fun q hq=>List.mem_append_right _ (List.mem_append_left _ (iO.2 ⟨q,hq,rfl⟩)))
 have hsub:∀j k,Fw j k→∃q∈hs,q.i=j∧F q.r k:=fun j k hk=>by
  obtain⟨q,hq,e⟩:=hands.2 j k hk
  obtain⟨_,x,_,h3⟩:=hands.1 q hq
  exact⟨q,hq,e,h3.sub k (e▸hk)⟩
 have hc:=hcall w _ (jP σ'.A F ps) Fw ev W0.V hS.tab hS.below.base (fun i k hk=>by obtain⟨q,_,_,h4⟩:=hsub i k hk;exact⟨(hS.own _ k h4).1.2,(hS.own _ k h4).2⟩)
  (fun i j k hi hj=>by
   obtain⟨q,hq,e,h4⟩:=hsub i k hi
   obtain⟨q',hq',e',h5⟩:=hsub j k hj
   have:=CO h1 q hq q' hq' (hS.apart _ _ k h4 h5)
   rw [←e,←e',this])
  (fun i k hk hS'=>by
   obtain⟨q,hq,_,h4⟩:=hsub i k hk
   rcases hS' with ⟨_,h5⟩ | ⟨p,hp,h5⟩
   ·exact h5 _ h4
   ·exact LP h3 q.r (iO.2 ⟨q,hq,rfl⟩) (zY.2 ⟨p,hp,hS.apart _ _ k h5 h4⟩))
  hargs
 have hrun:(execOp a.eval o).run P w= .ok (.enter f (args.toList.map a.eval).toArray) w:=by
  obtain⟨c,hbc⟩:=Option.isSome_iff_exists.1 hbody
  have h1:fn.name≠ "runtime.NumGoroutine" :=fun e=>by rw [e] at hname;simp at hname
  have hmap:Array.map a.eval args=(args.toList.map a.eval).toArray:=by apply Array.ext';simp
  unfold execOp
  rw [ho]
  simp [resolve,Deferred.ofValue,invoke,Act.eval,callFunc,hfn,h1,hbc,hmap]
 unfold Oper.wp
 rw [hrun,Oper.upon_enter]
 refine hc.mono ?_
 rintro e w1 ⟨v,G,F',rfl,g1,g2,g3,g4,g5,g6,g7,g8,fv,g9,g10⟩
 refine hK _ _ (hS.aaK (nc:=cnt ns) (xs:=gQ as) (fun r h4 h5=>?_) (Nat.le_of_eq (RQ ha)) hands h1 h2 g1 g2 g3 g4 g5 g6 g7 (fun hb k hk=>by
  have:=YD hbo hb
  subst this
  rcases hk with hk | ⟨q,hq,_⟩
  ·exact hk
  ·cases hq) g8 g9 g10 hi hd')
 exact hA.new (List.mem_append_left _ (J5.2 ⟨h4,h5⟩)) (yB hf r h4 h5)
end
end Go.Proofs.YtcnfgfomholheaaGreatDoor.Z
end
section
namespace Go.Proofs.YtcnfgfomholheaaGreatDoor.Z
open Go.RowKit
set_option linter.unusedVariables false
set_option linter.unusedSimpArgs false
section
variable {T:dX} {P:Program} {W0:Fr}
def TU:List (Slot T)→Bool
 | []=>false
 | .fn _ _::_=>true
 | _::l=>TU l
def Ii (σ:St T) (f:FuncId) (args:List Operand):eX T:=match TU (Fb σ args) with
 | true=> .call f (Fb σ args)
 | false=>match zZ σ (Fb σ args) with
   | some _=> .call f (Fb σ args)
   | none=> .stuck
def ZV:List (C0 T.Tb)→Bool
 | []=>true
 | .sc _::l=>ZV l
 | _=>false
def flT (T:dX) (t:Nat):Bool:=match T.ti t with
 | some i=>match i.kind with
   | .slice e=>ZV (T.cells e (T.df e))
   | _=>true
 | none=>true
def orB:Bool→Bool→Bool
 | true,_=>true
 | false,b=>b
def CU (σ:St T) (nx:Nat) (dst:Option Nat) (t:Nat) (x y:Operand):eX T:=match dn σ y with
 | .c (.im none _ _)=>match flT T t with
   | true=>match Aa σ (dn σ x) with
     | true=>mF σ nx dst t x y
     | false=>qM σ nx dst t x y
   | false=>mF σ nx dst t x y
 | .c (.im (some _) _ _)=>qM σ nx dst t x y
 | _=>match orB (Aa σ (dn σ x)) (Aa σ (dn σ y)) with
   | true=>mF σ nx dst t x y
   | false=>Ac σ nx dst t x y
def OG (σ:St T) (dst:Option Nat) (t:Nat) (x:Operand):eX T:=match Aa σ (dn σ x) with
 | true=>Ij σ dst t x
 | false=>Nu σ dst t x
def wP (σ:St T) (dst:Option Nat) (t:Nat) (x i:Operand):eX T:=match Aa σ (dn σ x) with
 | true=>rE σ dst t x i
 | false=>tJ σ dst t x i
def J6 (σ:St T) (dst:Option Nat) (t:Nat) (x:Operand):eX T:=match Aa σ (dn σ x) with
 | true=>Em σ dst t x
 | false=>Ik σ dst t x
def Nv (σ:St T) (dst:Option Nat) (x y:Operand):eX T:=match sv (dn σ x) with
 | some (.int k a)=>match sv (dn σ y) with
   | some (.int _ b)=>match bQ σ dst with
     | true=> .done ⟨.c (.sc (.int k (if b<a then b else a))),[],[],0,[]⟩ none
     | false=> .stuck
   | _=> .stuck
 | _=> .stuck
theorem YF {σ:St T} {o:Oper} {x y:Operand} {ts:Array TypeId} {U:bI T} {ob:Option Prop} (ho:o.op= .call {callee:= .builtin .min,args:=#[x,y],argTypes:=ts}) (h:Nv σ o.dst x y= .done U ob):eH P W0 o σ U:=by
 unfold Nv at h
 split at h
 ·rename_i k n1 hx
  split at h
  ·rename_i k2 n2 hy
   cases hd:bQ σ o.dst<;>rw [hd] at h<;>cases h
   refine quiet_step (bn hd) (fun σ' a w env F hA hS=>⟨_,jQ ho ?_,⟨rfl,rfl⟩⟩)
   have e1:=iP (bG hS hA (x:=x) (by simp [ho,Op.operands,Call.operands])) hx
   have e2:=iP (bG hS hA (x:=y) (by simp [ho,Op.operands,Call.operands])) hy
   simp [builtin,Builtin.min_,Builtin.min2,e1,e2]
  ·cases h
 ·cases h
def Nw (σ:St T) (dst:Option Nat) (x:Operand):eX T:=match dn σ x with
 | .c (.px r n)=>match bQ σ dst with
   | true=> .done ⟨.c (.px r n),[],[r],0,[]⟩ none
   | false=> .stuck
 | _=> .stuck
theorem YG {σ:St T} {o:Oper} {x:Operand} {U:bI T} {ob:Option Prop} (ho:o.op= .nilCheck x) (h:Nw σ o.dst x= .done U ob):eH P W0 o σ U:=by
 unfold Nw at h
 split at h
 ·rename_i r n hx
  cases hd:bQ σ o.dst<;>rw [hd] at h<;>cases h
  refine quiet_step (bn hd) (fun σ' a w env F hA hS=>?_)
  have e1:=bG hS hA (x:=x) (by simp [ho,Op.operands])
  rw [hx] at e1
  obtain⟨g,h1,h2⟩:=e1
  refine⟨.pointer (some ⟨g,n,none⟩),?_,g,h1,rfl⟩
  unfold execOp
  rw [ho]
  simp only [h2]
  rfl
 ·cases h
def CW (P:Program) (σ:St T) (nx:Nat) (dst:Option Nat) (c:Call):eX T:=
 match c.callee with
 | .value (.func f)=>Ii σ f c.args.toList
 | .builtin .len=>match c.args,c.argTypes with
   | ⟨[x]⟩,⟨[t]⟩=>OG σ dst t x
   | _,_=> .stuck
 | .builtin .append=>match c.args,c.argTypes with
   | ⟨[x,y]⟩,⟨[t,t']⟩=>match Nat.decEq t t' with
     | .isTrue _=>CU σ nx dst t x y
     | .isFalse _=>xP P σ nx dst t t' x y
   | _,_=> .stuck
 | .builtin .min=>match c.args with
   | ⟨[x,y]⟩=>Nv σ dst x y
   | _=> .stuck
 | _=> .stuck
def Gf (σ:St T) (nx:Nat) (dst:Option Nat) (t:Nat) (x v:Operand):eX T:=match dn σ x with
 | .pe r i o=>match adb σ r with
   | true=>Ad σ dst t x v
   | false=>match Aa σ (.pe r i o) with
     | true=>Ae σ nx dst t x v
     | false=>Af σ nx dst t x v
 | _=>En σ dst t x v
def ade:BinOp→Bool
 | .eql=>true
 | .neq=>true
 | _=>false
def isAdd:BinOp→Bool
 | .add=>true
 | _=>false
def abN:Slot T→Bool
 | .c (.sc (.string _))=>true
 | _=>false
def abO:Slot T→Bool
 | .ag _=>true
 | .c (.sc (.bool _))=>true
 | _=>false
def OH (P:Program) (σ:St T) (dst:Option Nat) (op:BinOp) (t:TypeId) (x y:Operand):eX T:=match ade op with
 | true=>match abO (dn σ x) with
   | true=>TV P σ dst op t x y
   | false=>Ag σ dst op x y
 | false=>match isAdd op with
   | true=>match abN (dn σ x) with
     | true=>Ny σ dst x y
     | false=>Ag σ dst op x y
   | false=>Ag σ dst op x y
def adf:Option TI→Bool
 | some ⟨_,_,_, .slice _⟩=>true
 | _=>false
def J7 (σ:St T) (dst:Option Nat) (ts td:Nat) (x:Operand):eX T:=match adf (T.ti td) with
 | true=>Eo σ dst ts td x
 | false=>Il σ dst ts td x
def imC:List (Cell T)→Bool
 | []=>false
 | .im _ _ _::_=>true
 | _::l=>imC l
def TW (σ:St T):List (Nat × Operand)→Bool
 | []=>false
 | (_,x)::l=>match dn σ x with
   | .c (.im _ _ _)=>true
   | .ag cs=>orB (imC cs) (TW σ l)
   | _=>TW σ l
def Gg (σ:St T) (nx:Nat) (dst:Option Nat) (t n:Nat) (ps:Array (Nat × Operand)):eX T:=match TW σ ps.toList with
 | true=>Ah σ dst t n ps
 | false=>Ep σ nx dst t n ps
def Io (P:Program) (σ:St T) (nx:Nat) (o:Oper):eX T:=
 match o.op with
 | .move x=>pK σ o.dst x
 | .assign x=>pK σ o.dst x
 | .pick c x y=>Ip σ o.dst c x y
 | .alloc t=>Es σ nx o.dst t
 | .box t x=>Nz σ nx o.dst t x
 | .load t x=>J6 σ o.dst t x
 | .store t x v=>Gf σ nx o.dst t x v
 | .makeSlice t x y=>Iq σ nx o.dst t x y
 | .convert ts td x=>J7 σ o.dst ts td x
 | .build t ps=>Et σ o.dst t ps
 | .buildSlice t n ps=>Gg σ nx o.dst t n ps
 | .slice t x lo hi mx=>Eu σ o.dst t x lo hi mx
 | .binOp op t x y _=>OH P σ o.dst op t x y
 | .unOp op _ x=>TY σ o.dst op x
 | .fieldAddr t x f=>Ai σ o.dst t x f
 | .indexAddr t x i=>wP σ o.dst t x i
 | .index t x i=>Ew σ o.dst t x i
 | .extract x i=>xQ σ o.dst x i
 | .call c=>CW P σ nx o.dst c
 | .makeFunc fn first cap=>Ir σ o.dst fn first cap
 | .nilCheck x=>Nw σ o.dst x
 | _=> .stuck
theorem Ua {σ:St T} {f:FuncId} {args:List Operand} {U:bI T} {ob:Option Prop} (h:Ii σ f args= .done U ob):False:=by
 unfold Ii at h;split at h<;>(try split at h)<;>cases h
theorem OI (hT:T.ok P) {σ:St T} {nx:Nat} {o:Oper} {U:bI T} {ob:Option Prop} (h:Io P σ nx o= .done U ob) (hob:pG ob):eH P W0 o σ U:=by
 unfold Io at h
 split at h
 ·rename_i ho;exact LV (.inl ho) h
 ·rename_i ho;exact LV (.inr ho) h
 ·rename_i ho;exact Wy ho h
 ·rename_i ho;exact Ub hT ho h
 ·rename_i ho;exact YH ho h
 ·rename_i ho
  unfold J6 at h
  split at h
  ·exact Uc hT ho h hob
  ·exact WA hT ho h
 ·rename_i ho
  unfold Gf at h
  split at h
  ·split at h
   ·exact QL hT ho h hob
   split at h
   ·exact QM hT ho h
   ·exact QN hT ho h
  ·exact Ud hT ho h
 ·rename_i ho;exact WB hT ho h hob
 ·rename_i ho
  unfold J7 at h
  split at h
  ·exact Ue hT ho h hob
  ·exact WC hT ho h hob
 ·rename_i ho;exact Uf hT ho h
 ·rename_i ho
  unfold Gg at h
  split at h
  ·exact QO hT ho h
  ·exact Ug hT ho h
 ·rename_i ho;exact Uh hT ho h hob
 ·rename_i ho
  unfold OH at h
  split at h
  ·split at h
   ·exact aaL ho h hob
   ·exact Gh ho h
  ·split at h
   ·rename_i hadd
    split at h
    ·rename_i op _ _ _ _ _ _ _
     have hop:∀{p:BinOp},isAdd p=true→p= .add:=fun h=>by unfold isAdd at h;split at h<;>first | rfl | cases h
     have:=hop hadd
     subst this
     exact YI ho h hob
    ·exact Gh ho h
   ·exact Gh ho h
 ·rename_i ho;exact aaM ho h
 ·rename_i ho;exact Ui hT ho h
 ·rename_i ho
  unfold wP at h
  split at h
  ·exact Iu hT ho h hob
  ·exact J8 hT ho h hob
 ·rename_i ho;exact Uj hT ho h hob
 ·rename_i ho;exact OJ ho h
 ·rename_i c ho
  unfold CW at h
  split at h
  ·exact(Ua h).elim
  ·rename_i hc
   split at h
   ·rename_i x t ha ht
    have ho':o.op= .call {callee:= .builtin .len,args:=#[x],argTypes:=#[t]}:=by
     rw [ho]
     obtain⟨c1,c2,c3⟩:=c
     simp only at hc ha ht
     subst hc ha ht
     rfl
    unfold OG at h
    split at h
    ·exact WE hT ho' h
    ·exact YJ hT ho' h
   ·cases h
  ·rename_i hc
   split at h
   ·rename_i x y t t' ha ht
    split at h
    ·rename_i he _
     subst he
     have ho':o.op= .call {callee:= .builtin .append,args:=#[x,y],argTypes:=#[t,t]}:=by
      rw [ho]
      obtain⟨c1,c2,c3⟩:=c
      simp only at hc ha ht
      subst hc ha ht
      rfl
     unfold CU at h
     split at h
     ·split at h
      ·split at h
       ·exact wQ hT ho' h hob
       ·exact CX hT ho' h hob
      ·exact wQ hT ho' h hob
     ·exact CX hT ho' h hob
     ·split at h
      ·exact wQ hT ho' h hob
      ·exact QS hT ho' h hob (t1:=0) (t2:=0)
    ·have ho':o.op= .call {callee:= .builtin .append,args:=#[x,y],argTypes:=#[t,t']}:=by
      rw [ho]
      obtain⟨c1,c2,c3⟩:=c
      simp only at hc ha ht
      subst hc ha ht
      rfl
     exact OL hT ho' h hob
   ·cases h
  ·rename_i hc
   split at h
   ·rename_i x y ha
    have ho':o.op= .call {callee:= .builtin .min,args:=#[x,y],argTypes:=c.argTypes}:=by
     rw [ho]
     obtain⟨c1,c2,c3⟩:=c
     simp only at hc ha
     subst hc ha
     rfl
    exact YF ho' h
   ·cases h
  ·cases h
 ·rename_i ho;exact WG ho h
 ·rename_i ho;exact YG ho h
 ·cases h
theorem Uk {σ:St T} {nx:Nat} {o:Oper} {f:FuncId} {ss:List (Slot T)} (h:Io P σ nx o= .call f ss):∃args ts,o.op= .call {callee:= .value (.func f),args:=args,argTypes:=ts}∧ss=Fb σ args.toList:=by
 have hq:∀(dst:Option Nat) (r:Option Value),J9 σ dst r≠ .call f ss:=fun dst r=>by unfold J9;split<;>(try split)<;>simp
 have hm:∀(dst:Option Nat) x,pK σ dst x≠ .call f ss:=fun dst x=>by unfold pK;split<;>simp
 have hbx:∀(dst:Option Nat) t cs,Ey σ nx dst t cs≠ .call f ss:=fun dst t cs=>by unfold Ey;split<;>(try split)<;>(try split)<;>simp
 unfold Io at h
 split at h
 ·exact absurd h (hm _ _)
 ·exact absurd h (hm _ _)
 ·unfold Ip at h;split at h<;>first | exact absurd h (hm _ _) | cases h
 ·unfold Es at h;split at h<;>(try split at h)<;>first | exact absurd h (hbx _ _ _) | cases h
 ·unfold Nz at h;split at h<;>first | exact absurd h (hbx _ _ _) | cases h
 ·unfold J6 at h
  split at h
  ·unfold Em at h;repeat' (split at h)
   all_goals cases h
  ·unfold Ik at h;repeat' (split at h)
   all_goals cases h
 ·unfold Gf at h
  split at h
  ·split at h
   ·unfold Ad at h;repeat' (split at h)
    all_goals cases h
   split at h
   ·unfold Ae at h;repeat' (split at h)
    all_goals cases h
   ·unfold Af at h;repeat' (split at h)
    all_goals cases h
  ·unfold En at h;repeat' (split at h)
   all_goals cases h
 ·unfold Iq at h;repeat' (split at h)
  all_goals cases h
 ·unfold J7 at h
  split at h
  ·unfold Eo at h;repeat' (split at h)
   all_goals cases h
  ·unfold Il at h;repeat' (split at h)
   all_goals cases h
 ·unfold Et at h;repeat' (split at h)
  all_goals cases h
 ·unfold Gg at h
  split at h
  ·unfold Ah at h;repeat' (split at h)
   all_goals cases h
  ·unfold Ep at h;repeat' (split at h)
   all_goals cases h
 ·unfold Eu at h;repeat' (split at h)
  all_goals cases h
 ·have hb:∀(dst:Option Nat) op x y,Ag σ dst op x y≠ .call f ss:=fun dst op x y h=>by
   unfold Ag at h;split at h<;>(try split at h)<;>first | exact absurd h (hq _ _) | cases h
  unfold OH at h
  split at h
  ·split at h
   ·unfold TV at h;repeat' (split at h)
    all_goals cases h
   ·exact absurd h (hb _ _ _ _)
  ·split at h
   ·split at h
    ·unfold Ny at h;repeat' (split at h)
     all_goals cases h
    ·exact absurd h (hb _ _ _ _)
   ·exact absurd h (hb _ _ _ _)
 ·unfold TY at h;split at h<;>first | exact absurd h (hq _ _) | cases h
 ·unfold Ai at h;split at h
  ·unfold Ko at h;repeat' (split at h)
   all_goals cases h
  ·cases h
 ·unfold wP at h
  split at h
  ·unfold rE at h;repeat' (split at h)
   all_goals cases h
  ·unfold tJ at h;repeat' (split at h)
   all_goals cases h
 ·unfold Ew at h;repeat' (split at h)
  all_goals cases h
 ·unfold xQ at h;repeat' (split at h)
  all_goals cases h
 ·rename_i c ho
  unfold CW at h
  split at h
  ·rename_i f' hc
   unfold Ii at h
   split at h
   ·cases h
    obtain⟨c1,c2,c3⟩:=c
    simp only at hc
    subst hc
    exact⟨c2,c3,ho,rfl⟩
   ·split at h
    ·cases h
     obtain⟨c1,c2,c3⟩:=c
     simp only at hc
     subst hc
     exact⟨c2,c3,ho,rfl⟩
    ·cases h
  ·split at h
   ·unfold OG at h
    split at h
    ·unfold Ij at h;repeat' (split at h)
     all_goals cases h
    ·unfold Nu at h;repeat' (split at h)
     all_goals cases h
   ·cases h
  ·split at h
   ·split at h
    ·unfold CU at h
     split at h
     ·split at h
      ·split at h
       ·unfold mF at h;repeat' (split at h)
        all_goals cases h
       ·unfold qM at h;repeat' (split at h)
        all_goals cases h
      ·unfold mF at h;repeat' (split at h)
       all_goals cases h
     ·unfold qM at h;repeat' (split at h)
      all_goals cases h
     ·split at h
      ·unfold mF at h;repeat' (split at h)
       all_goals cases h
      ·unfold Ac at h;repeat' (split at h)
       all_goals cases h
    ·unfold xP at h;repeat' (split at h)
     all_goals cases h
   ·cases h
  ·split at h
   ·unfold Nv at h;repeat' (split at h)
    all_goals cases h
   ·cases h
  ·cases h
 ·unfold Ir at h;repeat' (split at h)
  all_goals cases h
 ·unfold Nw at h;repeat' (split at h)
  all_goals cases h
 ·cases h
def OM (ops:Array Oper) (i:Nat):Bool:=ops.toList.any fun o=>match o.guard with
 | some (j,_)=>Nat.beq j i
 | none=>false
def fV (v:Value) (K:Value→Prop):Prop:=match v with
 | .int k n=>K (.int k n)
 | .bool b=>K (.bool b)
 | .string s=>K (.string s)
 | .slice a n c=>K (.slice a n c)
 | v=>K v
def fC (c:Cell T) (K:Cell T→Prop):Prop:=match c with
 | .un=>K .un
 | .sc v=>fV v fun v=>K (.sc v)
 | .im p e l=>K (.im p e l)
 | .hd r=>K (.hd r)
 | .px r o=>K (.px r o)
def OO:List (Cell T)→(List (Cell T)→Prop)→Prop
 | [],K=>K []
 | c::l,K=>fC c fun c=>OO l fun l=>K (c::l)
def ZW:List (Bool × List (Cell T))→(List (Bool × List (Cell T))→Prop)→Prop
 | [],K=>K []
 | (b,c)::l,K=>OO c fun c=>ZW l fun l=>K ((b,c)::l)
def fS (s:Slot T) (K:Slot T→Prop):Prop:=match s with
 | .ud=>K .ud
 | .c x=>fC x fun x=>K (.c x)
 | .ag l=>OO l fun l=>K (.ag l)
 | .tu l=>ZW l fun l=>K (.tu l)
 | .pi p e l i o=>K (.pi p e l i o)
 | .pe r i o=>K (.pe r i o)
 | .pl r bv i o e l=>K (.pl r bv i o e l)
 | .fn f r=>K (.fn f r)
def fR (x:dB T) (K:dB T→Prop):Prop:=match x with
 | .no=>K .no
 | .bx t cs=>OO cs fun cs=>K (.bx t cs)
 | .row b e l=>K (.row b e l)
 | .sh b e l=>K (.sh b e l)
 | .hl e d j cs l=>OO cs fun cs=>K (.hl e d j cs l)
def WH:List (Nat × dB T)→(List (Nat × dB T)→Prop)→Prop
 | [],K=>K []
 | (r,x)::l,K=>fR x fun x=>WH l fun l=>K ((r,x)::l)
def fN:List Nat→(List Nat→Prop)→Prop
 | [],K=>K []
 | a::l,K=>fN l fun l=>K (a::l)
theorem adg {v:Value} {K:Value→Prop} (h:fV v K):K v:=by unfold fV at h;split at h<;>exact h
theorem ZX {c:Cell T} {K:Cell T→Prop} (h:fC c K):K c:=by
 unfold fC at h;split at h<;>first | exact h | exact adg (K:=fun v=>K (.sc v)) h
theorem CY:∀{l:List (Cell T)} {K:List (Cell T)→Prop},OO l K→K l
 | [],_,h=>h
 | c::l,K,h=>CY (K:=fun l=>K (c::l)) (ZX (K:=fun c=>OO l fun l=>K (c::l)) h)
theorem WI:∀{l:List (Bool × List (Cell T))} {K:List (Bool × List (Cell T))→Prop},ZW l K→K l
 | [],_,h=>h
 | (b,c)::l,K,h=>WI (K:=fun l=>K ((b,c)::l)) (CY (K:=fun c=>ZW l fun l=>K ((b,c)::l)) h)
theorem adh {s:Slot T} {K:Slot T→Prop} (h:fS s K):K s:=by
 cases s with
 | ud=>exact h
 | c x=>exact ZX (K:=fun x=>K (.c x)) h
 | ag l=>exact CY (K:=fun l=>K (.ag l)) h
 | tu l=>exact WI (K:=fun l=>K (.tu l)) h
 | pi p e l i o=>exact h
 | pe r i o=>exact h
 | pl r bv i o e l=>exact h
 | fn f r=>exact h
theorem adi {x:dB T} {K:dB T→Prop} (h:fR x K):K x:=by
 cases x with
 | no=>exact h
 | bx t cs=>exact CY (K:=fun cs=>K (.bx t cs)) h
 | row b e l=>exact h
 | sh b e l=>exact h
 | hl e d j cs l=>exact CY (K:=fun cs=>K (.hl e d j cs l)) h
theorem WJ:∀{l:List (Nat × dB T)} {K:List (Nat × dB T)→Prop},WH l K→K l
 | [],_,h=>h
 | (r,x)::l,K,h=>WJ (K:=fun l=>K ((r,x)::l)) (adi (K:=fun x=>WH l fun l=>K ((r,x)::l)) h)
theorem Ul:∀{l:List Nat} {K:List Nat→Prop},fN l K→K l
 | [],_,h=>h
 | a::l,K,h=>Ul (K:=fun l=>K (a::l)) h
structure Split (b:Bool) (A B:Prop):Prop where
 t:b=true→A
 f:b=false→B
structure Need (p K:Prop):Prop where
 p:p
 k:K
structure bZ (p K:Prop):Prop where
 p:p
 k:K
inductive aG (P:Program) (f:FuncId) (as:List (Arg T.Tb)) (K:RS T.Tb→Prop) (W:List (List (NW T))→RS T.Tb→Prop):Prop where
 | mk (res:RS T.Tb) (h:aH T P f as res) (k:K res)
 | wr (ns:List (List (NW T))) (res:RS T.Tb) (h:W ns res)
structure lC (P:Program) (f:FuncId) (as:List (AW T.Tb)) (res:RS T.Tb) (K:Prop):Prop where
 h:CallWOb T P f as res
 k:K
def fB (src:Bool) (s:Slot T) (K:Slot T→Prop):Prop:=
 match src with
 | false=>K s
 | true=>match s with
   | .c (.sc (.bool b))=>Split b (K (.c (.sc (.bool true)))) (K (.c (.sc (.bool false))))
   | s=>K s
def fU (src draw:Bool) (U:bI T) (K:bI T→Prop):Prop:=
 match U with
 | ⟨s,rs,bF,nx,bH⟩=>fS s fun s=>fB src s fun s=>WH rs fun rs=>match draw with
   | true=>fN bF fun bF=>fN bH fun bH=>K ⟨s,rs,bF,nx,bH⟩
   | false=>K ⟨s,rs,bF,nx,bH⟩
def abP (ob:Option Prop) (K:Prop):Prop:=match ob with
 | none=>K
 | some p=>Need p K
def RU (σ:St T) (o:Oper):List (Slot T):=match o.op with
 | .call c=>OC σ c.args.toList
 | _=>[]
def Ez (P:Program) (σ:St T) (nx:Nat) (o:Oper) (f:FuncId) (K:bI T→Prop) (ns:List (List (NW T))) (res:RS T.Tb):Prop:=
 match Oy σ (nx+res.flat.length) 0 (RU σ o) ns with
 | some (as,ps,hs)=>lC P f as res (match F9 σ nx (cnt ns) o.dst ps hs res with
   | some U=>K U
   | none=>False)
 | none=>False
def WL (P:Program) (σ:St T) (nx:Nat) (o:Oper) (f:FuncId) (ss:List (Slot T)) (K:bI T→Prop):Prop:=
 match TU ss with
 | true=>aG P f [] (fun _=>False) (Ez P σ nx o f K)
 | false=>match zZ σ ss with
   | some (as,ps)=>aG P f as (fun res=>match Kq σ nx o.dst ps res with
     | some U=>K U
     | none=>False) (Ez P σ nx o f K)
   | none=>False
def YK (draw:Bool) (x:Oper × bI T) (zs:List (Oper × bI T)):List (Oper × bI T):=match draw with
 | true=>x::zs
 | false=>zs
def Gi (draw:Bool) (l zs:List (Oper × bI T)):List (Oper × bI T):=match draw with
 | true=>l.reverse++zs
 | false=>zs
theorem WM (draw:Bool) (x:Oper × bI T) (l zs:List (Oper × bI T)):Gi draw l (YK draw x zs)=Gi draw (x::l) zs:=by cases draw<;>simp [Gi,YK]
def YL:List (Nat × dB T)→List (Nat × dB T)→(List (Nat × dB T)→Prop)→Prop
 | [],l,K=>K l
 | x::r,l,K=>YL r l fun t=>K (x::t)
theorem RV:∀{r l:List (Nat × dB T)} {K:List (Nat × dB T)→Prop},YL r l K→K (r++l)
 | [],_,_,h=>h
 | x::r,l,K,h=>RV (K:=fun t=>K (x::t)) h
def Gj (nx m:Nat) (rF rs:List (Nat × dB T)) (draw:Bool) (x:Oper × bI T) (zs:List (Oper × bI T)) (K:Nat→List (Nat × dB T)→List (Oper × bI T)→Prop):Prop:=
 YL rF rs fun rs=>match draw with
  | true=>(match m with
    | 0=>K nx rs (x::zs)
    | m+1=>K (nx+(m+1)) rs (x::zs))
  | false=>(match m with
    | 0=>K nx rs zs
    | m+1=>K (nx+(m+1)) rs zs)
theorem aaN {nx m:Nat} {rF rs:List (Nat × dB T)} {draw:Bool} {x:Oper × bI T} {zs:List (Oper × bI T)} {K:Nat→List (Nat × dB T)→List (Oper × bI T)→Prop} (h:Gj nx m rF rs draw x zs K):∃nx',K nx' (rF++rs) (YK draw x zs):=by
 unfold Gj at h
 cases draw<;>cases m<;>exact⟨_,RV (K:=fun rs=>K _ rs _) h⟩
def uZ (P:Program) (n:Nat) (A:Nat→Prop) (draw:Bool) (ops:Array Oper):Nat→List Oper→Nat→List (Nat × Slot T)→List (Nat × dB T)→List (Oper × bI T)→(Nat→List (Nat × Slot T)→List (Nat × dB T)→List (Oper × bI T)→Prop)→Prop
 | _,[],nx,tm,rs,zs,K=>K nx tm rs zs
 | i,o::l,nx,tm,rs,zs,K=>
   let next (U:bI T):Prop:=fU (OM ops i) draw U fun U=>match U with
    | ⟨s,rF,bF,m,bH⟩=>match o.dst with
      | some d=>Gj nx m rF rs draw (o,⟨s,rF,bF,m,bH⟩) zs fun nx rs zs=>uZ P n A draw ops (i+1) l nx ((d,s)::tm) rs zs K
      | none=>Gj nx m rF rs draw (o,⟨s,rF,bF,m,bH⟩) zs fun nx rs zs=>uZ P n A draw ops (i+1) l nx tm rs zs K
   match CZ ⟨tm,rs,n,A⟩ ops o with
   | some true=>match Io P ⟨tm,rs,n,A⟩ nx o with
     | .done U ob=>abP ob (next U)
     | .call f ss=>WL P ⟨tm,rs,n,A⟩ nx o f ss next
     | .stuck=>False
   | some false=>match bQ (⟨tm,rs,n,A⟩:St T) o.dst with
     | true=>next ⟨.ud,[],[],0,[]⟩
     | false=>False
   | none=>False
theorem adk {src:Bool} {s:Slot T} {K:Slot T→Prop} (h:fB src s K):∃s',K s'∧(s'=s∨∃b c,b=c∧s= .c (.sc (.bool b))∧s'= .c (.sc (.bool c))):=by
 unfold fB at h
 split at h
 ·exact⟨s,h, .inl rfl⟩
 ·split at h
  ·rename_i b
   cases hb:b with
   | true=>exact⟨_,h.t hb, .inr ⟨true,true,rfl,rfl,rfl⟩⟩
   | false=>exact⟨_,h.f hb, .inr ⟨false,false,rfl,rfl,rfl⟩⟩
  ·exact⟨_,h, .inl rfl⟩
theorem adl {ops:Array Oper} {o:Oper} {σ:St T} {src draw:Bool} {U:bI T} {K:bI T→Prop} (hg:GStep P W0 ops o σ U) (h:fU src draw U K):∃U',GStep P W0 ops o σ U'∧K U':=by
 obtain⟨s,rs,bF,nx,bH⟩:=U
 have h1:=adh (K:=fun s=>fB src s fun s=>WH rs fun rs=>match draw with
  | true=>fN bF fun bF=>fN bH fun bH=>K ⟨s,rs,bF,nx,bH⟩
  | false=>K ⟨s,rs,bF,nx,bH⟩) h
 obtain⟨s',h2,h3⟩:=adk h1
 have h4:=WJ (K:=fun rs=>match draw with
  | true=>fN bF fun bF=>fN bH fun bH=>K ⟨s',rs,bF,nx,bH⟩
  | false=>K ⟨s',rs,bF,nx,bH⟩) h2
 have h5:K ⟨s',rs,bF,nx,bH⟩:=by
  cases draw with
  | false=>exact h4
  | true=>exact Ul (K:=fun bH=>K ⟨s',rs,bF,nx,bH⟩) (Ul (K:=fun bF=>fN bH fun bH=>K ⟨s',rs,bF,nx,bH⟩) h4)
 rcases h3 with rfl | ⟨b,c,e,rfl,rfl⟩
 ·exact⟨_,hg,h5⟩
 ·exact⟨_,Um e hg,h5⟩
theorem Gl (hT:T.ok P) {n:Nat} {A:Nat→Prop} {draw:Bool} {ops:Array Oper} {K:Nat→List (Nat × Slot T)→List (Nat × dB T)→List (Oper × bI T)→Prop}:∀{l:List Oper} {i nx:Nat} {tm:List (Nat × Slot T)} {rs:List (Nat × dB T)} {zs:List (Oper × bI T)},uZ P n A draw ops i l nx tm rs zs K→
  ∃Us Iw BH BI,Tr P W0 ops l ⟨tm,rs,n,A⟩ Us ⟨BH,BI,n,A⟩∧K Iw BH BI (Gi draw (l.zip Us) zs)
 | [],i,nx,tm,rs,zs,h=>⟨[],nx,tm,rs, .nil _,by cases draw<;>exact h⟩
 | o::l,i,nx,tm,rs,zs,h=>by
   have fin:∀{U:bI T},GStep P W0 ops o ⟨tm,rs,n,A⟩ U→fU (OM ops i) draw U (fun U=>match U with
    | ⟨s,rF,bF,m,bH⟩=>match o.dst with
      | some d=>Gj nx m rF rs draw (o,⟨s,rF,bF,m,bH⟩) zs fun nx rs zs=>uZ P n A draw ops (i+1) l nx ((d,s)::tm) rs zs K
      | none=>Gj nx m rF rs draw (o,⟨s,rF,bF,m,bH⟩) zs fun nx rs zs=>uZ P n A draw ops (i+1) l nx tm rs zs K)→∃Us Iw BH BI,Tr P W0 ops (o::l) ⟨tm,rs,n,A⟩ Us ⟨BH,BI,n,A⟩∧K Iw BH BI (Gi draw ((o::l).zip Us) zs):=by
    intro U hg h
    obtain⟨⟨s,rF,bF,m,bH⟩,h1,h2⟩:=adl hg h
    dsimp only at h2
    have key:∀tm',(⟨tm,rs,n,A⟩:St T).upd o.dst ⟨s,rF,bF,m,bH⟩=⟨tm',rF++rs,n,A⟩→(Gj nx m rF rs draw (o,⟨s,rF,bF,m,bH⟩) zs fun nx rs zs=>uZ P n A draw ops (i+1) l nx tm' rs zs K)→∃Us Iw BH BI,Tr P W0 ops (o::l) ⟨tm,rs,n,A⟩ Us ⟨BH,BI,n,A⟩∧K Iw BH BI (Gi draw ((o::l).zip Us) zs):=by
     intro tm' e h2
     obtain⟨nx',h2⟩:=aaN h2
     obtain⟨Us,Iw,BH,BI,h3,h4⟩:=Gl hT h2
     rw [←e] at h3
     exact⟨_::Us,Iw,BH,BI, .cons h1 h3,by rw [WM] at h4;exact h4⟩
    cases hd:o.dst with
    | none=>rw [hd] at h2 key;exact key tm rfl h2
    | some d=>rw [hd] at h2 key;exact key _ rfl h2
   unfold uZ at h
   dsimp only at h
   split at h
   ·rename_i hg
    split at h
    ·rename_i U ob hl
     cases ob with
     | none=>exact fin (xR hg (OI hT hl trivial)) h
     | some p=>exact fin (xR hg (OI hT hl h.p)) h.k
    ·rename_i f ss hl
     obtain⟨args,ts,ho,rfl⟩:=Uk hl
     have hwr:∀{ns res},Ez P ⟨tm,rs,n,A⟩ nx o f _ ns res→_:=fun {ns res} h=>by
      unfold Ez RU at h
      rw [ho] at h
      dsimp only at h
      split at h
      ·rename_i as' ps' hs' ha'
       obtain⟨hc,h⟩:=h
       split at h
       ·rename_i U hu
        exact fin (xR hg (YE ho ha' hc hu)) h
       ·cases h
      ·cases h
     unfold WL at h
     split at h
     ·cases h with
      | mk res hc h=>cases h
      | wr ns res h=>exact hwr h
     ·split at h
      ·rename_i as ps ha
       cases h with
       | mk res hc h=>
         split at h
         ·rename_i U hu
          exact fin (xR hg (aaO ho ha hc hu)) h
         ·cases h
       | wr ns res h=>exact hwr h
      ·cases h
    ·cases h
   ·rename_i hg
    split at h
    ·rename_i hd
     exact fin (Un hg hd) h
    ·cases h
   ·cases h
def lD (σ σ':St T):Prop:=∀(W0:Fr) (a:Act) (w:World),jD W0 σ a w→jD W0 σ' a w
structure bM (p:Prop):Prop where
 p:p
inductive dU (n:Nat) (A:Nat→Prop) (tm:List (Nat × Slot T)) (rs:List (Nat × dB T)) (body:(Nat→List (Nat × Slot T)→List (Nat × dB T)→Prop)→Nat→List (Nat × Slot T)→List (Nat × dB T)→Prop):Prop where
 | mk (α:Type) (inv:α→Nat × List (Nat × Slot T) × List (Nat × dB T)) (m:α→Nat) (a0:α) (h0:lD (⟨tm,rs,n,A⟩:St T) ⟨(inv a0).2.1,(inv a0).2.2,n,A⟩)
   (h:∀a,body (fun nx' tm' rs'=>bM (∃a',m a'<m a∧lD (⟨tm',rs',n,A⟩:St T) ⟨(inv a').2.1,(inv a').2.2,n,A⟩)) (inv a).1 (inv a).2.1 (inv a).2.2)
def xU (P:Program) (n:Nat) (A:Nat→Prop):Code→(Exit→Nat→List (Nat × Slot T)→List (Nat × dB T)→Prop)→Nat→List (Nat × Slot T)→List (Nat × dB T)→Prop
 | .skip,K,nx,tm,rs=>K .normal nx tm rs
 | .seq a b,K,nx,tm,rs=>xU P n A a (fun e nx tm rs=>match e with
   | .normal=>xU P n A b K nx tm rs
   | e=>K e nx tm rs) nx tm rs
 | .cond c a b,K,nx,tm,rs=>match dn (⟨tm,rs,n,A⟩:St T) c with
   | .c (.sc (.bool t))=>Split t (xU P n A a K nx tm rs) (xU P n A b K nx tm rs)
   | _=>False
 | .region _ ops draw,K,nx,tm,rs=>match draw with
   | false=>uZ P n A false ops 0 ops.toList nx tm rs [] fun nx tm rs _=>K .normal nx tm rs
   | true=>uZ P n A true ops 0 ops.toList nx tm rs [] fun nx tm rs zs=>bZ (P.follows .mixedOrders=true∧OQ ops zs.reverse=true) (K .normal nx tm rs)
 | .block id c,K,nx,tm,rs=>xU P n A c (fun e nx tm rs=>match e with
   | .exit i=>match Nat.beq i id with
     | true=>K .normal nx tm rs
     | false=>K (.exit i) nx tm rs
   | e=>K e nx tm rs) nx tm rs
 | .exit id,K,nx,tm,rs=>K (.exit id) nx tm rs
 | .ret,K,nx,tm,rs=>K .ret nx tm rs
 | .loop c,K,nx,tm,rs=>dU n A tm rs fun next nx tm rs=>xU P n A c (fun e nx' tm' rs'=>match e with
   | .normal=>next nx' tm' rs'
   | e=>K e nx' tm' rs') nx tm rs
 | _,_,_,_,_=>False
theorem abQ {σ:St T} {a:Act} {w:World} {env:Nat→Value} {F:Nat→Nat→Prop} (h:eU W0 σ a w env F) (x:Operand):bT σ env F w (dn σ x) (a.eval x):=by
 cases x with
 | tmp t=>exact OT (h.tm t)
 | const v=>exact CB v
 | global g=>trivial
 | func f=>exact⟨rfl,rfl⟩
theorem Aj (hT:T.ok P) {n:Nat} {A:Nat→Prop}:∀(c:Code) (K:Exit→Nat→List (Nat × Slot T)→List (Nat × dB T)→Prop) (nx:Nat) (tm:List (Nat × Slot T)) (rs:List (Nat × dB T)),xU P n A c K nx tm rs→∀(a:Act) (w:World) (Q:Exit→Act→World→Prop),jD W0 (⟨tm,rs,n,A⟩:St T) a w→
  (∀e nx' tm' rs' a' w',K e nx' tm' rs'→jD W0 (⟨tm',rs',n,A⟩:St T) a' w'→Q e a' w')→c.wp P Q a w:=by
 intro c
 induction c with
 | skip=>exact fun K nx tm rs h a w Q hS hQ=>wp_skip (hQ _ _ _ _ _ _ h hS)
 | seq x y ihx ihy=>
   intro K nx tm rs h a w Q hS hQ
   refine wp_seq (ihx _ nx tm rs h a w _ hS (fun e nx' tm' rs' a' w' hK hS'=>?_))
   cases e<;>first | exact hQ _ _ _ _ _ _ hK hS' | exact ihy K nx' tm' rs' hK a' w' Q hS' hQ
 | cond c x y ihx ihy=>
   intro K nx tm rs h a w Q hS hQ
   unfold xU at h
   split at h
   ·rename_i t hc
    have hS':=hS
    obtain⟨env,F,hS0⟩:=hS'
    have e1:=abQ hS0 c
    rw [hc] at e1
    exact wp_cond_split e1.1 (fun ht=>ihx K nx tm rs (h.t ht) a w Q hS hQ) (fun ht=>ihy K nx tm rs (h.f ht) a w Q hS hQ)
   ·cases h
 | region id ops draw=>
   intro K nx tm rs h a w Q hS hQ
   unfold xU at h
   cases draw with
   | false=>
     obtain⟨Us,Iw,BH,BI,h1,h2⟩:=Gl (W0:=W0) hT h
     exact wp_region_list (aaP h1 hS (fun a' w' hS'=>hQ _ _ _ _ _ _ h2 hS'))
   | true=>
     obtain⟨Us,Iw,BH,BI,h1,⟨hm,h2⟩,h3⟩:=Gl (W0:=W0) hT h
     exact aaQ hm h1 (by simpa [Gi] using h2) hS (fun a' w' hS'=>hQ _ _ _ _ _ _ h3 hS')
 | block id c ih=>
   intro K nx tm rs h a w Q hS hQ
   refine wp_block (ih _ nx tm rs h a w _ hS (fun e nx' tm' rs' a' w' hK hS'=>?_))
   cases e with
   | exit i=>
     dsimp only at hK
     unfold Exit.inBlock
     by_cases e:i=id
     ·subst e
      rw [show Nat.beq i i=true by simp [Nat.beq_eq]] at hK
      simp only [if_true]
      exact hQ _ _ _ _ _ _ hK hS'
     ·rw [fD e] at hK
      simp only [e,if_false]
      exact hQ _ _ _ _ _ _ hK hS'
   | _=>exact hQ _ _ _ _ _ _ hK hS'
 | exit id=>exact fun K nx tm rs h a w Q hS hQ=>wp_exit (hQ _ _ _ _ _ _ h hS)
 | ret=>exact fun K nx tm rs h a w Q hS hQ=>wp_ret (hQ _ _ _ _ _ _ h hS)
 | loop c ih=>
   intro K nx tm rs h a w Q hS hQ
   obtain⟨α,inv,m,a0,h0,hr⟩:=h
   have key:∀(q:Nat) (x:α),m x=q→∀a w,jD W0 (⟨(inv x).2.1,(inv x).2.2,n,A⟩:St T) a w→∀b k cs,∃e a' w',Q e a' w'∧Arrives P (lone (b.at a (.code c:: .inLoop c::k)) cs w) b k cs e a' w':=by
    intro q
    induction q using Nat.strongRecOn with
    | _ q ihn=>
      intro x hx a w hS b k cs
      obtain⟨e,a1,w1,hq,harr⟩:=ih _ _ _ _ (hr x) a w (fun e a' w'=>match e with
       | .normal=>∃x',m x'<m x∧jD W0 (⟨(inv x').2.1,(inv x').2.2,n,A⟩:St T) a' w'
       | e=>Q e a' w') hS (fun e nx' tm' rs' a' w' hK hS'=>by
         cases e with
         | normal=>
           obtain⟨⟨x',hlt,himp⟩⟩:=hK
           exact⟨x',hlt,himp _ _ _ hS'⟩
         | _=>exact hQ _ _ _ _ _ _ hK hS') b (.inLoop c::k) cs
      cases e with
      | normal=>
        obtain⟨x',hlt,hS'⟩:=hq
        obtain⟨e2,a2,w2,hq2,Uo⟩:=ihn (m x') (hx▸hlt) x' rfl a1 w1 hS' b k cs
        exact⟨e2,a2,w2,hq2, .of_steps (Steps.trans harr (.one step_inLoop)) Uo⟩
      | exit id=>exact⟨_,a1,w1,hq, .pass (x:= .inLoop c) rfl (fun _ _=> .inl (by simp)) harr⟩
      | goto l=>exact⟨_,a1,w1,hq, .pass (x:= .inLoop c) rfl (fun _ _=> .inl (by simp)) harr⟩
      | ret=>exact⟨_,a1,w1,hq, .pass (x:= .inLoop c) rfl (fun _ _=> .inl (by simp)) harr⟩
      | panic ch=>exact⟨_,a1,w1,hq, .pass (x:= .inLoop c) rfl (fun _ _=> .inl (by simp)) harr⟩
      | outgrown=>exact⟨_,a1,w1,hq, .pass (x:= .inLoop c) rfl (fun _ _=> .inl (by simp)) harr⟩
   intro b k cs
   obtain⟨e,a',w',hq,harr⟩:=key _ a0 rfl a w (h0 _ _ _ hS) b k cs
   exact⟨e,a',w',hq, .of_steps (.one step_loop) harr⟩
 | _=>exact fun K nx tm rs h=>by cases h
end
end Go.Proofs.YtcnfgfomholheaaGreatDoor.Z
end
section
namespace Go.Proofs.YtcnfgfomholheaaGreatDoor.Z
open Go.RowKit
set_option linter.unusedVariables false
set_option linter.unusedSimpArgs false
section
variable {T:dX} {P:Program} {W0:Fr}
def C9:C0 T.Tb→Cell T
 | .sc v=> .sc v
 | .sl e l=> .im none e l
def RX:Arg T.Tb→Slot T
 | .c x=> .c (C9 x)
 | .ag l=> .ag (l.map C9)
def uy:Nat→List (Arg T.Tb)→List (Nat × Slot T)
 | _,[]=>[]
 | i,x::l=>(i,RX x)::uy (i+1) l
def init (T:dX) (A:Nat→Prop) (n:Nat) (args:List (Arg T.Tb)):St T:=⟨uy 0 args,[],n,A⟩
theorem OU {σ:St T} {env:Nat→Value} {F:Nat→Nat→Prop} {w:World} {S:Nat→Prop} {x:C0 T.Tb} {v:Value} (h:sG w S x v) (hS:∀k,S k→jo σ.A F none k):iK σ env F w (C9 x) v:=by
 cases x with
 | sc v'=>exact h
 | sl e l=>exact⟨Rd.one h,fun _=>Rd.mono h hS⟩
theorem RY {σ:St T} {env:Nat→Value} {F:Nat→Nat→Prop} {w:World} {S:Nat→Prop} (hS:∀k,S k→jo σ.A F none k):∀{x:List (C0 T.Tb)} {v:List Value},eP w S x v→aY σ env F w (x.map C9) v
 | [],_,h=>h
 | c::cs,_,⟨v,r,e,h1,h2⟩=>⟨v,r,e,OU h1 hS,RY hS h2⟩
theorem aaR {σ:St T} {env:Nat→Value} {F:Nat→Nat→Prop} {w:World} {S:Nat→Prop} (hS:∀k,S k→jo σ.A F none k) {x:Arg T.Tb} {v:Value} (h:ArgRel w S x v):bT σ env F w (RX x) v:=by
 cases x with
 | c x=>exact OU h hS
 | ag l=>obtain⟨us,e,h⟩:=h;exact⟨us,e,RY hS h⟩
theorem RZ {σ:St T} {env:Nat→Value} {F:Nat→Nat→Prop} {w:World} {S:Nat→Prop} (hS:∀k,S k→jo σ.A F none k):∀{args:List (Arg T.Tb)} {vs:List Value} {i t:Nat},nM w S args vs→i≤t→bT σ env F w (lk (.c .un) (uy i args) t) (vs.getD (t - i) undef)∨lk (.c .un) (uy i args) t= .c .un
 | [],_,i,t,_,_=> .inr rfl
 | x::l,_,i,t,⟨v,r,e,h1,h2⟩,hi=>by
   subst e
   unfold uy lk
   by_cases he:i=t
   ·subst he
    rw [show Nat.beq i i=true by simp [Nat.beq_eq]]
    exact .inl (by simpa using aaR hS h1)
   ·rw [fD he]
    have:=RZ (σ:=σ) (env:=env) (F:=F) hS (i:=i+1) (t:=t) h2 (by omega)
    rw [show t - i=(t - (i+1))+1 by omega]
    simpa using this
theorem OV {w:World} {S:Nat→Prop}:∀{args:List (Arg T.Tb)} {vs:List Value},nM w S args vs→args.length=vs.length
 | [],_,h=>by cases h;rfl
 | x::l,_,⟨v,r,e,_,h⟩=>by subst e;simp [OV h]
theorem OW {w:World} {S:Nat→Prop} {args:List (Arg T.Tb)} {vs:List Value} {n:Nat} (hj:T.J w) (h:nM w S args vs) (hn:Nat.ble args.length n=true):
  jD ⟨w,fun _=>undef,fun _=>False,w⟩ (init T (fun k=>S k∨w.heap.size≤k) n args) {tmps:=vs.toArray++Array.replicate (n - vs.toArray.size) undef,defers:=[]} w:=by
 have hl:=OV h
 have hn':=Nat.le_of_ble_eq_true hn
 refine⟨fun _=>undef,fun _ _=>False,⟨rfl,rfl,rfl,Nat.le_refl _,fun _ _ _=>rfl,Below.refl _ _⟩,hj,fun _ _=>rfl,fun k hk=> .inr (hk.1.resolve_right id),by simp [init];omega,rfl,fun r k hk=>hk.elim,fun _ _ h=>h.elim,fun _ _ _ h=>h.elim,fun t=>?_⟩
 rcases RZ (σ:=init T (fun k=>S k∨w.heap.size≤k) n args) (env:=fun _=>undef) (F:=fun _ _=>False) (fun k hk=> .inl ⟨.inl hk,fun _ h=>h⟩) (i:=0) (t:=t) h (Nat.zero_le _) with h1 | h1
 ·have:(vs.toArray++Array.replicate (n - vs.toArray.size) undef).getD t undef=vs.getD t undef:=by
   simp only [Array.getD_eq_getD_getElem?,List.getD_eq_getElem?_getD]
   by_cases ht:t<vs.length
   ·rw [Array.getElem?_append_left (by simpa using ht)];simp [ht]
   ·rw [List.getElem?_eq_none (by omega),Array.getElem?_append_right (by simp;omega)]
    simp only [Array.getElem?_replicate]
    split<;>rfl
  simp only [this]
  exact h1
 ·show bT _ _ _ _ (lk _ _ t) _
  rw [show(init T (fun k=>S k∨w.heap.size≤k) n args).tm=uy 0 args from rfl,h1]
  trivial
def resV (T:dX) (σ:St T):ResultVar→Option (Slot T)
 | .tmp t=>some (σ.tmp t)
 | .cell t ty=>match σ.tmp t with
   | .c (.px r n)=>match σ.res r with
     | .bx _ cs=>match T.ti ty with
       | some i=>jK i cs n
       | none=>none
     | _=>none
   | _=>none
def bW (e:Nat) (l:List (T.Tb e)) (e':Nat) (l':List (T.Tb e')):Prop:=(⟨e,l⟩:Σ e,List (T.Tb e))=⟨e',l'⟩
def pI (σ:St T):Cell T→R0 T.Tb→Prop
 | .sc v, .sc v'=>v=v'
 | .sc v, .ow e l=>v= .slice none 0 0∧l=[]
 | .sc v, .im e l=>v= .slice none 0 0∧l=[]
 | .im none e l, .im e' l'=>bW e l e' l'
 | .hd r, .ow e' l'=>match σ.res r with
   | .row _ e l=>bW e l e' l'
   | _=>False
 | .hd r, .im e' l'=>match σ.res r with
   | .row _ e l=>bW e l e' l'
   | .sh _ e l=>bW e l e' l'
   | _=>False
 | .px r 0, .bx t xs=>match σ.res r with
   | .bx t' cs=>t'=t∧cs=xs.map (toCell none)
   | _=>False
 | _,_=>False
def NC (σ:St T):List (Cell T)→List (R0 T.Tb)→Prop
 | [],[]=>True
 | c::cs,r::rs=>pI σ c r∧NC σ cs rs
 | _,_=>False
def iQ:List (Cell T)→List (R0 T.Tb)→List (Option Nat)
 | .hd r::cs, .ow _ _::rs=>some r::iQ cs rs
 | .px r _::cs, .bx _ _::rs=>some r::iQ cs rs
 | _::cs,_::rs=>none::iQ cs rs
 | _,_=>[]
def EC:List (Cell T)→List (R0 T.Tb)→List Nat
 | .hd r::cs, .im _ _::rs=>r::EC cs rs
 | _::cs,_::rs=>EC cs rs
 | _,_=>[]
def yC (r:Nat):List (Option Nat)→Bool
 | []=>false
 | some k::l=>match Nat.beq k r with
   | true=>true
   | false=>yC r l
 | none::l=>yC r l
def y8:List (Option Nat)→Bool
 | []=>true
 | some k::l=>match yC k l with
   | true=>false
   | false=>y8 l
 | none::l=>y8 l
def Dc:List Nat→List (Option Nat)→Bool
 | [],_=>true
 | r::l,m=>match yC r m with
   | true=>false
   | false=>Dc l m
def Df:Slot T→Option (Bool × List (Cell T))
 | .c x=>some (false,[x])
 | .ag l=>some (true,l)
 | _=>none
def qN:List (Slot T)→Option (List (Bool × List (Cell T)))
 | []=>some []
 | s::l=>match Df s with
   | some x=>match qN l with
     | some r=>some (x::r)
     | none=>none
   | none=>none
def kU:List (Bool × List (Cell T))→List (Cell T)
 | []=>[]
 | x::l=>x.2++kU l
def y9:List (Bool × List (Cell T))→List (Bool × Nat)
 | []=>[]
 | x::l=>(x.1,x.2.length)::y9 l
def shape2:List (Bool × List (R0 T.Tb))→List (Bool × Nat)
 | []=>[]
 | x::l=>(x.1,x.2.length)::shape2 l
def items:RS T.Tb→List (Bool × List (R0 T.Tb))
 | .c x=>[(false,[x])]
 | .ag l=>[(true,l)]
 | .tu l=>l
def abR:RS T.Tb→Bool
 | .tu _=>true
 | _=>false
def ED (T:dX) (σ:St T):List ResultVar→Option (List (Slot T))
 | []=>some []
 | v::l=>match resV T σ v with
   | some s=>match ED T σ l with
     | some r=>some (s::r)
     | none=>none
   | none=>none
structure aC (p q r:Prop):Prop where
 p:p
 q:q
 r:r
def EF (σ:St T) (rs:List ResultVar) (res:RS T.Tb):Prop:=
 match ED T σ rs with
 | some ss=>match qN ss with
   | some its=>aC (y9 its=shape2 (items res)∧abR res=!(Nat.beq its.length 1)) (y8 (iQ (kU its) res.flat)=true∧Dc (EC (kU its) res.flat) (iQ (kU its) res.flat)=true) (NC σ (kU its) res.flat)
   | none=>False
 | none=>False
def abS (T:dX) (n:Nat) (A:Nat→Prop) (rs:List ResultVar) (res:RS T.Tb):Exit→Nat→List (Nat × Slot T)→List (Nat × dB T)→Prop
 | .normal,_,tm,OX=>EF (⟨tm,OX,n,A⟩:St T) rs res
 | .ret,_,tm,OX=>EF (⟨tm,OX,n,A⟩:St T) rs res
 | _,_,_,_=>False
def Iy (tmps:Array Value):ResultVar→Sem Value
 | .tmp t=>pure (tmps.getD t undef)
 | .cell x t=>do loadVar t (←asAddr (tmps.getD x undef))
theorem YM (hT:T.ok P) {σ:St T} {a:Act} {w:World} {env:Nat→Value} {F:Nat→Nat→Prop} (h:eU W0 σ a w env F) {r:ResultVar} {s:Slot T} (hr:resV T σ r=some s):
  ∃v,(Iy a.tmps r).run P w= .ok v w∧bT σ env F w s v:=by
 cases r with
 | tmp t=>cases hr;exact⟨_,rfl,h.tm t⟩
 | cell t ty=>
   unfold resV at hr
   dsimp only at hr
   split at hr
   ·rename_i q n hq
    split at hr
    ·rename_i tb cs hres
     cases hi:T.ti ty with
     | none=>rw [hi] at hr;cases hr
     | some i=>
       rw [hi] at hr
       have h1:=h.tm t
       rw [hq] at h1
       obtain⟨g,h2,h3⟩:=h1
       have h4:=h.res q
       rw [hres] at h4
       obtain⟨g',arr,h5,_,_,h6,h7⟩:=h4
       rw [h2] at h5
       cases h5
       obtain⟨v,h8,h9⟩:=zf (hT ty i hi) h7 (b:=⟨g,0,none⟩) (fun j v hj=>by rw [oD h6,←Array.getElem?_toList];exact hj) hr
       rw [add_lit,Nat.zero_add] at h8
       refine⟨v,?_,h9⟩
       unfold Iy
       dsimp only
       rw [h3]
       simpa [asAddr,Instr.loadAt,Instr.sureAddr,Sem.run_bind] using h8
    ·cases hr
   ·cases hr
theorem Dh (hT:T.ok P) {σ:St T} {a:Act} {w:World} {env:Nat→Value} {F:Nat→Nat→Prop} (h:eU W0 σ a w env F):∀{rs:List ResultVar} {ss:List (Slot T)} {its:List (Bool × List (Cell T))},ED T σ rs=some ss→qN ss=some its→
  ∃vs,(rs.mapM (Iy a.tmps)).run P w= .ok vs w∧lJ σ env F w its vs
 | [],_,_,h1,h2=>by cases h1;cases h2;exact⟨[],rfl,rfl⟩
 | r::rs,_,_,h1,h2=>by
   unfold ED at h1
   cases h3:resV T σ r with
   | none=>rw [h3] at h1;cases h1
   | some s=>
     rw [h3] at h1
     dsimp only at h1
     cases h4:ED T σ rs with
     | none=>rw [h4] at h1;cases h1
     | some ss=>
       rw [h4] at h1
       cases h1
       unfold qN at h2
       cases h5:Df s with
       | none=>rw [h5] at h2;cases h2
       | some x=>
         rw [h5] at h2
         dsimp only at h2
         cases h6:qN ss with
         | none=>rw [h6] at h2;cases h2
         | some its=>
           rw [h6] at h2
           cases h2
           obtain⟨v,h7,h8⟩:=YM hT h h3
           obtain⟨vs,h9,h10⟩:=Dh hT h h4 h6
           refine⟨v::vs,?_,v,vs,rfl,?_,h10⟩
           ·rw [List.mapM_cons]
            simp only [Sem.run_bind,h7,Result.andThen_ok,h9,Sem.run_pure]
           ·unfold Df at h5
            split at h5<;>cases h5
            ·exact⟨v,[],rfl,h8,rfl⟩
            ·exact h8
def Iz (F:Nat→Nat→Prop) (ids:List (Option Nat)) (i k:Nat):Prop:=∃r,ids[i]? =some (some r)∧F r k
theorem Ak {r:Nat}:∀{l:List (Option Nat)},yC r l=true↔∃i:Nat,l[i]? =some (some r)
 | []=>by simp [yC]
 | none::l=>by
   unfold yC
   rw [Ak (l:=l)]
   constructor
   ·rintro⟨i,h⟩;exact⟨i+1,by simpa using h⟩
   ·rintro⟨i,h⟩
    cases i with
    | zero=>simp at h
    | succ i=>exact⟨i,by simpa using h⟩
 | some k::l=>by
   unfold yC
   cases hb:Nat.beq k r
   ·have hne:k≠r:=fun e=>absurd hb (by rw [e];simp [Nat.beq_eq])
    rw [Ak (l:=l)]
    constructor
    ·rintro⟨i,h⟩;exact⟨i+1,by simpa using h⟩
    ·rintro⟨i,h⟩
     cases i with
     | zero=>simp at h;exact absurd h hne
     | succ i=>exact⟨i,by simpa using h⟩
   ·have:k=r:=Nat.eq_of_beq_eq_true hb
    simp only [true_iff]
    exact⟨0,by simp [this]⟩
theorem tV:∀{l:List (Option Nat)},y8 l=true→∀(i j r:Nat),l[i]? =some (some r)→l[j]? =some (some r)→i=j
 | [],_,i,j,r,h,_=>by simp at h
 | none::l,h,i,j,r,hi,hj=>by
   cases i with
   | zero=>simp at hi
   | succ i=>
     cases j with
     | zero=>simp at hj
     | succ j=>rw [tV (l:=l) h i j r (by simpa using hi) (by simpa using hj)]
 | some k::l,h,i,j,r,hi,hj=>by
   unfold y8 at h
   cases hk:yC k l<;>rw [hk] at h
   ·have hno:∀m:Nat,l[m]?≠some (some k):=fun m hm=>by rw [Ak.2 ⟨m,hm⟩] at hk;cases hk
    cases i with
    | zero=>
      simp at hi
      subst hi
      cases j with
      | zero=>rfl
      | succ j=>exact absurd (by simpa using hj) (hno j)
    | succ i=>
      cases j with
      | zero=>simp at hj;subst hj;exact absurd (by simpa using hi) (hno i)
      | succ j=>rw [tV (l:=l) h i j r (by simpa using hi) (by simpa using hj)]
   ·cases h
theorem yD {m:List (Option Nat)}:∀{l:List Nat},Dc l m=true→∀r∈l,∀i:Nat,m[i]?≠some (some r)
 | [],_,r,h,_=>by cases h
 | k::l,h,r,hr,i=>by
   unfold Dc at h
   cases hk:yC k m<;>rw [hk] at h
   ·rcases List.mem_cons.1 hr with rfl | hr
    ·exact fun hm=>by rw [Ak.2 ⟨i,hm⟩] at hk;cases hk
    ·exact yD h r hr i
   ·cases h
theorem vk {w:World} {F:Nat→Prop} {e e':Nat} {l:List (T.Tb e)} {l':List (T.Tb e')} {v:Value} (h:bW e l e' l') (ho:Ow T.sz w F (.sl e (l.map (T.enc e))) v):Ow T.sz w F (.sl e' (l'.map (T.enc e'))) v:=by
 unfold bW at h;cases h;exact ho
theorem IB {w:World} {F:Nat→Prop} {e e':Nat} {l:List (T.Tb e)} {l':List (T.Tb e')} {v:Value} (h:bW e l e' l') (ho:Rd T.sz w F (.sl e (l.map (T.enc e))) v):Rd T.sz w F (.sl e' (l'.map (T.enc e'))) v:=by
 unfold bW at h;cases h;exact ho
theorem Am {σ:St T} {w':World} {env:Nat→Value} {F:Nat→Nat→Prop} {S':Nat→Prop} (hS:∀k,σ.A k→(∀r,¬F r k)→k<w'.heap.size→S' k):∀{xs:List (C0 T.Tb)} {vs:List Value},aY σ env F w' (xs.map (toCell none)) vs→eP w' S' xs vs
 | [],_,h=>h
 | .sc v'::cs,_,⟨v,r,e,h1,h2⟩=>⟨v,r,e,h1,Am hS h2⟩
 | .sl e' l::cs,_,⟨v,r,e,h1,h2⟩=>⟨v,r,e,(h1.2 trivial).bound.mono (fun k hk=>hk.1.elim (fun⟨ha,hn⟩=>hS k ha hn hk.2) (fun⟨q,hq,_⟩=>by cases hq)),Am hS h2⟩
theorem Di {σ:St T} {a:Act} {w':World} {env:Nat→Value} {F:Nat→Nat→Prop} (h:eU W0 σ a w' env F) {S':Nat→Prop} {G:Nat→Nat→Prop}:∀{cs:List (Cell T)} {rs:List (R0 T.Tb)} {vs:List Value} {i:Nat},aY σ env F w' cs vs→NC σ cs rs→
  (∀(j r:Nat),(iQ cs rs)[j]? =some (some r)→∀k,F r k↔G (i+j) k)→(∀k,σ.A k→(∀r,¬F r k)→k<w'.heap.size→S' k)→(∀r∈EC cs rs,∀k,F r k→S' k)→dN w' S' G i rs vs
 | [],[],_,_,hc,_,_,_,_=>hc
 | [],_::_,_,_,_,hr,_,_,_=>hr.elim
 | _::_,[],_,_,_,hr,_,_,_=>hr.elim
 | c::cs,r::rs,_,i,⟨v,vs,e,h1,h2⟩,⟨hr,hrs⟩,hG,hS,hI=>by
   subst e
   have rest:(∀(j q:Nat),(iQ cs rs)[j]? =some (some q)→(iQ (c::cs) (r::rs))[j+1]? =some (some q))→(∀q∈EC cs rs,q∈EC (c::cs) (r::rs))→dN w' S' G (i+1) rs vs:=fun ha hb=>
    Di h h2 hrs (fun j q hj k=>by have:=hG (j+1) q (ha j q hj) k;rw [show i+1+j=i+(j+1) by omega];exact this) hS (fun q hq=>hI q (hb q hq))
   have e1:∀x,iQ (c::cs) (r::rs)=x::iQ cs rs→∀(j q:Nat),(iQ cs rs)[j]? =some (some q)→(iQ (c::cs) (r::rs))[j+1]? =some (some q):=fun x hx j q hj=>by rw [hx];simpa using hj
   cases c with
   | un=>cases r<;>exact hr.elim
   | px q o=>
     cases o with
     | succ o=>cases r<;>exact hr.elim
     | zero=>
       have h3:=h.res q
       cases r with
       | sc u'=>exact hr.elim
       | ow e l=>exact hr.elim
       | im e l=>exact hr.elim
       | bx t xs=>
         cases hres:σ.res q with
         | bx t' cs=>
           simp only [pI,hres] at hr
           obtain⟨rfl,rfl⟩:=hr
           rw [hres] at h3
           obtain⟨g,arr,h4,h5,h6,h7,h8⟩:=h3
           obtain⟨g',h9,h10⟩:=h1
           rw [h4] at h9
           cases h9
           exact⟨v,vs,rfl,⟨g,arr,h10,(hG 0 q rfl g).1 h5,fun k hk=>h6 k ((hG 0 q rfl k).2 hk),h7,Am hS h8⟩,rest (e1 _ rfl) (fun q hq=>hq)⟩
         | no=>simp only [pI,hres] at hr
         | row bv e l=>simp only [pI,hres] at hr
         | sh bv e l=>simp only [pI,hres] at hr
         | hl e d j cs l=>simp only [pI,hres] at hr
   | sc u=>
     cases r with
     | sc u'=>exact⟨vs,by rw [h1.1];show _=_;rw [show u=u' from hr],hr▸h1.1▸h1.2,rest (e1 _ rfl) (fun q hq=>hq)⟩
     | ow e l=>
       obtain⟨rfl,rfl⟩:=hr
       exact⟨v,vs,rfl,by rw [h1.1];exact .nil _ e,rest (e1 _ rfl) (fun q hq=>hq)⟩
     | im e l=>
       obtain⟨rfl,rfl⟩:=hr
       exact⟨v,vs,rfl,by rw [h1.1];exact .nil e none 0,rest (e1 _ rfl) (fun q hq=>hq)⟩
     | bx t xs=>exact hr.elim
   | im p e l=>
     cases p with
     | some q=>cases r<;>exact hr.elim
     | none=>
       cases r with
       | sc u'=>exact hr.elim
       | ow e' l'=>exact hr.elim
       | bx t xs=>exact hr.elim
       | im e' l'=>
         refine⟨v,vs,rfl,?_,rest (e1 _ rfl) (fun q hq=>hq)⟩
         have h3:=IB hr (h1.2 trivial)
         exact h3.bound.mono (fun k hk=>hk.1.elim (fun⟨ha,hn⟩=>hS k ha hn hk.2) (fun⟨q,hq,_⟩=>by cases hq))
   | hd q=>
     cases r with
     | sc u'=>exact hr.elim
     | bx t xs=>exact hr.elim
     | ow e' l'=>
       have h3:=h.res q
       cases hres:σ.res q with
       | row bv e l=>
         simp only [pI,hres] at hr
         rw [hres] at h3
         have h4:=vk hr h3
         rw [←h1.1] at h4
         exact⟨v,vs,rfl,h4.mono (fun k hk=>(hG 0 q rfl k).1 hk),rest (e1 _ rfl) (fun q hq=>hq)⟩
       | no=>simp only [pI,hres] at hr
       | bx t cs=>simp only [pI,hres] at hr
       | sh bv e l=>simp only [pI,hres] at hr
       | hl e d j cs l=>simp only [pI,hres] at hr
     | im e' l'=>
       have h3:=h.res q
       cases hres:σ.res q with
       | row bv e l=>
         simp only [pI,hres] at hr
         rw [hres] at h3
         have h4:=vk hr h3
         rw [←h1.1] at h4
         exact⟨v,vs,rfl,(Ow.rd h4).mono (fun k hk=>hI q List.mem_cons_self k hk),rest (e1 _ rfl) (fun q hq=>List.mem_cons_of_mem _ hq)⟩
       | no=>simp only [pI,hres] at hr
       | bx t cs=>simp only [pI,hres] at hr
       | hl e d j cs l=>simp only [pI,hres] at hr
       | sh bv e l=>
         simp only [pI,hres] at hr
         rw [hres] at h3
         have h4:Rd T.sz w' (fun k=>F q k∨jo σ.A F none k) (.sl e (l.map (T.enc e))) (env q):=Sh.rd h3 (fun k hk=> .inl hk) (fun k hk=> .inr hk)
         rw [←h1.1] at h4
         exact⟨v,vs,rfl,IB hr (h4.bound.mono (fun k hk=>hk.1.elim (fun hk=>hI q List.mem_cons_self k hk) (fun hk2=>hk2.elim (fun⟨ha,hn⟩=>hS k ha hn hk.2) (fun⟨q,hq,_⟩=>by cases hq)))),rest (e1 _ rfl) (fun q hq=>List.mem_cons_of_mem _ hq)⟩
theorem Ap {w':World} {σ:St T} {env:Nat→Value} {F:Nat→Nat→Prop}:∀{its:List (Bool × List (Cell T))} {Gm:List (Bool × List (R0 T.Tb))} {vs:List Value},lJ σ env F w' its vs→y9 its=shape2 Gm→∃fv,xW Gm vs fv∧aY σ env F w' (kU its) fv
 | [],[],_,h,_=>⟨[],⟨h,rfl⟩,rfl⟩
 | [],_::_,_,_,h=>by cases h
 | _::_,[],_,_,h=>by cases h
 | it::its,it'::Gm,_,⟨v,r,e,h1,h2⟩,hs=>by
   simp only [y9,shape2,List.cons.injEq,Prod.mk.injEq] at hs
   obtain⟨⟨hb,hl⟩,hs⟩:=hs
   obtain⟨fv,h3,h4⟩:=Ap h2 hs
   unfold sK at h1
   cases hbb:it.1<;>rw [hbb] at h1<;>dsimp only at h1
   ·refine⟨[v]++fv,⟨v,r,[v],fv,e,rfl,by rw [←hl];exact(jq h1).symm,?_,h3⟩,lF h1 h4⟩
    rw [←hb,hbb]
   ·obtain⟨us,e1,h1⟩:=h1
    refine⟨us.toList++fv,⟨v,r,us.toList,fv,e,rfl,by rw [←hl];exact(jq h1).symm,?_,h3⟩,lF h1 h4⟩
    rw [←hb,hbb]
    exact⟨us,e1,rfl⟩
theorem Dj {its:List (Bool × List (Cell T))}:∀{its:List (Bool × List (Cell T))} {Gm:List (Bool × List (R0 T.Tb))},y9 its=shape2 Gm→its.length=Gm.length
 | [],[],_=>rfl
 | [],_::_,h=>by cases h
 | _::_,[],h=>by cases h
 | _::its,_::Gm,h=>by simp [Dj (its:=[]) (List.cons.inj h).2]
theorem WO (hT:T.ok P) {w w':World} {vs:List Value} {S:Nat→Prop} {σ:St T} {a:Act} {fn:Func} {res:RS T.Tb} (hA:σ.A=fun k=>S k∨w.heap.size≤k) {pn:Nat→Value} (hS:jD ⟨w,pn,fun _=>False,w⟩ σ a w') (hr:EF σ fn.results.toList res):
  ∃v,(results fn a.tmps).run P w'= .ok v w'∧∃G:Nat→Nat→Prop,Below w.heap.size w w'∧(∀i k,G i k→w.heap.size≤k∧k<w'.heap.size)∧(∀i j k,G i k→G j k→i=j)∧
   ∃fv,uY res v fv∧dN w' (fun k=>S k∧k<w.heap.size∨w.heap.size≤k∧∀i,¬G i k) G 0 res.flat fv:=by
 obtain⟨env,F,h⟩:=hS
 unfold EF at hr
 split at hr
 ·rename_i ss h1
  split at hr
  ·rename_i its h2
   obtain⟨⟨hsh,htu⟩,⟨hnd,hni⟩,hrc⟩:=hr
   obtain⟨us,h3,h4⟩:=Dh hT h h1 h2
   obtain⟨fv,h5,h6⟩:=Ap h4 hsh
   have hG:∀i k,Iz F (iQ (kU its) res.flat) i k→w.heap.size≤k∧k<w'.heap.size:=fun i k ⟨r,_,hk⟩=>⟨(h.own r k hk).1.2,(h.own r k hk).2⟩
   have hap:∀i j k,Iz F (iQ (kU its) res.flat) i k→Iz F (iQ (kU its) res.flat) j k→i=j:=fun i j k ⟨r,h7,hk⟩ ⟨r',h8,hk'⟩=>by
    have e:=h.apart r r' k hk hk'
    subst e
    exact tV hnd i j r h7 h8
   have hcells:dN w' (fun k=>S k∧k<w.heap.size∨w.heap.size≤k∧∀i,¬Iz F (iQ (kU its) res.flat) i k) (Iz F (iQ (kU its) res.flat)) 0 res.flat fv:=by
    refine Di h h6 hrc (fun j r hj k=>⟨fun hk=>⟨r,by rw [Nat.zero_add];exact hj,hk⟩,fun⟨r',h',hk⟩=>by rw [Nat.zero_add,hj] at h';cases h';exact hk⟩) (fun k ha hn hlt=>?_) (fun r hr k hk=>?_)
    ·rw [hA] at ha
     by_cases e:k<w.heap.size
     ·exact .inl ⟨ha.resolve_right (by omega),e⟩
     ·exact .inr ⟨by omega,fun i ⟨r,_,hk⟩=>hn r hk⟩
    ·refine .inr ⟨(h.own r k hk).1.2,fun i ⟨r',h7,hk'⟩=>?_⟩
     have e:=h.apart r r' k hk hk'
     subst e
     exact yD hni r hr i h7
   have hrun:(results fn a.tmps).run P w'= .ok (if h:us.length=1 then us[0] else .tuple us.toArray) w':=by
    have hres:results fn a.tmps=(do
      let vs←fn.results.mapM (Iy a.tmps)
      pure (if h:vs.size=1 then vs[0] else .tuple vs)):=by
     unfold results
     rfl
    rw [hres,Array.mapM_eq_mapM_toList]
    simp only [Sem.run_bind,map_eq_pure_bind,h3,Result.andThen_ok,Sem.run_pure,List.size_toArray,List.getElem_toArray]
   have hlen:us.length=its.length:=by
    have key:∀(its:List (Bool × List (Cell T))) (us:List Value),lJ σ env F w' its us→us.length=its.length:=by
     intro its
     induction its with
     | nil=>intro us h;cases h;rfl
     | cons x l ih=>rintro us ⟨v,r,e,_,h⟩;subst e;simp [ih r h]
    exact key its us h4
   refine⟨_,hrun,_,h.below.base,hG,hap,fv,?_,hcells⟩
   have hl2:=Dj (its:=[]) hsh
   cases res with
   | c x=>
     have h1:us.length=1:=by rw [hlen,hl2];rfl
     rw [dif_pos h1]
     obtain⟨v,r,f1,f2,e1,e2,_,e3,e4,e5⟩:=h5
     subst e1 e2 e4 e5
     subst e3
     rfl
   | ag l=>
     have h1:us.length=1:=by rw [hlen,hl2];rfl
     rw [dif_pos h1]
     obtain⟨v,r,f1,f2,e1,e2,_,e3,e4,e5⟩:=h5
     subst e1 e2 e4 e5
     obtain⟨us',e6,e7⟩:=e3
     exact⟨us',e6,by rw [e7];simp⟩
   | tu l=>
     have h1:¬us.length=1:=by
      rw [hlen]
      intro e
      rw [e] at htu
      cases htu
     rw [dif_neg h1]
     exact⟨us.toArray,rfl,h5⟩
  ·exact hr.elim
 ·exact hr.elim
theorem aI (hT:T.ok P) {f:FuncId} {fn:Func} {c:Code} {args:List (Arg T.Tb)} {res:RS T.Tb} (hf:P.funcs[f]? =some fn) (hname:(fn.name== "runtime.NumGoroutine")=false) (hb:fn.body=some c) (hn:Nat.ble args.length fn.ntmps=true)
  (h:∀A,xU P fn.ntmps A c (abS T fn.ntmps A fn.results.toList res) 0 (uy 0 args) []):aH T P f args res:=by
 refine⟨⟨fn,hf,hname,by rw [hb];rfl⟩,fun w vs S hj hargs=>?_⟩
 refine calls_of_wp hf hb (Aj hT c _ _ _ _ (h (fun k=>S k∨w.heap.size≤k)) _ w _ (OW hj hargs hn) (fun e nx' tm' rs' a' w' hK hS'=>?_))
 have hd:a'.defers=[]:=by obtain⟨env,F,h⟩:=hS';exact h.defers
 have main:EF (⟨tm',rs',fn.ntmps,fun k=>S k∨w.heap.size≤k⟩:St T) fn.results.toList res→a'.defers=[]∧∃v,(results fn a'.tmps).run P w'= .ok v w'∧∃v' G,Ending.returned v= .returned v'∧Below w.heap.size w w'∧(∀i k,G i k→w.heap.size≤k∧k<w'.heap.size)∧(∀i j k,G i k→G j k→i=j)∧
   ∃fv,uY res v' fv∧dN w' (fun k=>S k∧k<w.heap.size∨w.heap.size≤k∧∀i,¬G i k) G 0 res.flat fv:=fun hr=>by
  obtain⟨v,h1,G,h2,h3,h4,h5⟩:=WO (vs:=vs) hT rfl hS' hr
  exact⟨hd,v,h1,v,G,rfl,h2,h3,h4,h5⟩
 cases e<;>first | exact main hK | exact hK.elim
end
end Go.Proofs.YtcnfgfomholheaaGreatDoor.Z
end
section
namespace Go.Proofs.YtcnfgfomholheaaGreatDoor.Z
open Go.RowKit
set_option linter.unusedVariables false
set_option linter.unusedSimpArgs false
section
variable {T:dX} {P:Program} {W0:Fr}
theorem zh {t:Nat} {s b:Nat} {z:List Value} (h:(P.info? t).map (fun i=>(i.size,i.bytes,i.zero.map Value.cells))=some (s,b,some z.toArray)):∃inf,P.info? t=some inf∧inf.size=s∧inf.bytes=b∧∃v,inf.zero=some v∧v.cells=z.toArray:=by
 obtain⟨inf,h1,h2⟩:=Option.map_eq_some_iff.1 h
 simp only [Prod.mk.injEq] at h2
 obtain⟨h3,h4,h5⟩:=h2
 obtain⟨v,h6,h7⟩:=Option.map_eq_some_iff.1 h5
 exact⟨inf,h1,h3,h4,v,h6,h7⟩
theorem jL {t e:Nat} {b:Nat} {z:List Value} (h:(P.info? t).map (fun i=>(i.size,i.bytes,i.zero.map Value.cells))=some (1,b,some z.toArray)) (hu:P.underlying t=some (.slice e)) (hz:z.length=1) (hb:0<b):fM P t ⟨1,b,z, .slice e⟩:=by
 obtain⟨inf,h1,h2,h3,v,h4,h5⟩:=zh h
 exact⟨inf,h1,h2,h3,⟨v,h4,h5⟩,hz,Nat.one_pos,hb,hu,rfl⟩
theorem aaS {t:Nat} {b:Nat} {z:List Value} (h:(P.info? t).map (fun i=>(i.size,i.bytes,i.zero.map Value.cells))=some (1,b,some z.toArray)) (hu:P.underlying t=some .string) (hz:z.length=1) (hb:0<b):fM P t ⟨1,b,z, .text⟩:=by
 obtain⟨inf,h1,h2,h3,v,h4,h5⟩:=zh h
 exact⟨inf,h1,h2,h3,⟨v,h4,h5⟩,hz,Nat.one_pos,hb,hu,rfl⟩
theorem Dk {t:Nat} {b:Nat} {k:IntKind} {z:List Value} (h:(P.info? t).map (fun i=>(i.size,i.bytes,i.zero.map Value.cells))=some (1,b,some z.toArray)) (hu:P.underlying t=some (.int k)) (hz:z.length=1) (hb:0<b):fM P t ⟨1,b,z, .num k⟩:=by
 obtain⟨inf,h1,h2,h3,v,h4,h5⟩:=zh h
 exact⟨inf,h1,h2,h3,⟨v,h4,h5⟩,hz,Nat.one_pos,hb,hu,rfl⟩
def abT:TypeDesc→Bool
 | .struct _=>false
 | .array _ _=>false
 | _=>true
theorem abU {t:Nat} {b:Nat} {z:List Value} (h:(P.info? t).map (fun i=>(i.size,i.bytes,i.zero.map Value.cells))=some (1,b,some z.toArray)) (hu:(P.underlying t).map abT=some true) (hz:z.length=1) (hb:0<b):fM P t ⟨1,b,z, .one⟩:=by
 obtain⟨inf,h1,h2,h3,v,h4,h5⟩:=zh h
 obtain⟨d,h6,h7⟩:=Option.map_eq_some_iff.1 hu
 exact⟨inf,h1,h2,h3,⟨v,h4,h5⟩,hz,Nat.one_pos,hb,⟨⟨d,h6,fun fs e=>(by subst e;cases h7),fun n e he=>(by subst he;cases h7)⟩,rfl⟩⟩
def placesOf (P:Program) (t:Nat):Option (List (Nat × Nat)):=match P.underlying t with
 | some (.struct fs)=>fs.toList.mapM (fun f=>(P.info? f.type).map fun i=>(f.offset,i.size))
 | _=>none
theorem nH {t:Nat} {s b:Nat} {z:List Value} {jh:List (Nat × Nat)} (h:(P.info? t).map (fun i=>(i.size,i.bytes,i.zero.map Value.cells))=some (s,b,some z.toArray)) (hu:placesOf P t=some jh) (hz:z.length=s) (hs:0<s) (hb:0<b) (h0:jh.all (fun p=>Nat.blt 0 p.2)=true):fM P t ⟨s,b,z, .str jh⟩:=by
 obtain⟨inf,h1,h2,h3,v,h4,h5⟩:=zh h
 unfold placesOf at hu
 split at hu
 ·rename_i fs hf
  exact⟨inf,h1,h2,h3,⟨v,h4,h5⟩,hz,hs,hb,fs,hf,hu,fun p hp=>by have:=List.all_eq_true.1 h0 p hp;simp [Nat.blt_eq] at this;omega⟩
 ·cases hu
def mp (m:List (Nat × Nat)) (r:Nat):Nat:=match Nat.ble 1000 r with
 | true=>r
 | false=>lk 0 m r
theorem abV {m:List (Nat × Nat)} {r:Nat} (h:1000≤r):mp m r=r:=by
 unfold mp
 rw [Nat.ble_eq_true_of_le h]
def YN (m:List (Nat × Nat)):Cell T→Cell T
 | .hd r=> .hd (mp m r)
 | .px r o=> .px (mp m r) o
 | c=>c
def Si:Cell T→Bool
 | .im (some _) _ _=>false
 | _=>true
def uK:List (Cell T)→Bool
 | []=>true
 | c::l=>match Si c with
   | true=>uK l
   | false=>false
def IC (m:List (Nat × Nat)):List (Cell T)→List (Cell T)
 | []=>[]
 | c::l=>YN m c::IC m l
def abW (m:List (Nat × Nat)):Slot T→Slot T
 | .c x=> .c (YN m x)
 | .ag l=> .ag (IC m l)
 | s=>s
def okS:Slot T→Bool
 | .c x=>Si x
 | .ag l=>uK l
 | .ud=>true
 | .pi none _ _ _ _=>true
 | _=>false
def YO (m:List (Nat × Nat)) (σ:St T):List (Nat × Slot T)→Prop
 | []=>True
 | (t,s)::l=>(okS s=true∧abW m s=σ.tmp t)∧YO m σ l
def oV (m:List (Nat × Nat)) (σ:St T) (r:Nat):dB T→Prop
 | .no=>True
 | .bx t cs=>uK cs=true∧σ.res (mp m r)= .bx t (IC m cs)
 | .row _ e l=>match σ.res (mp m r) with
   | .row _ e' l'=>bW e' l' e l
   | _=>False
 | .sh _ e l=>match σ.res (mp m r) with
   | .sh _ e' l'=>bW e' l' e l
   | .row _ e' l'=>bW e' l' e l
   | _=>False
 | .hl e d i cs l=>uK cs=true∧match σ.res (mp m r) with
   | .hl e' d' i' cs' l'=>cs'=IC m cs∧d'=d∧i'=i∧bW e' l' e l
   | _=>False
def adn:dB T→dB T→Bool
 | .sh _ _ _, .row _ _ _=>true
 | _,_=>false
def YP (m:List (Nat × Nat)) (σ:St T):List (Nat × dB T)→Prop
 | []=>True
 | (r,x)::l=>oV m σ r x∧YP m σ l
def IE:List (Nat × dB T)→List Nat
 | []=>[]
 | p::l=>p.1::IE l
def IG:List Nat→Bool
 | []=>true
 | a::l=>match jH a l with
   | true=>false
   | false=>IG l
def Gn (m:List (Nat × Nat)):List Nat→List Nat
 | []=>[]
 | a::l=>mp m a::Gn m l
theorem Sj {m:List (Nat × Nat)} {σ:St T} {t:Nat}:∀{l:List (Nat × Slot T)},YO m σ l→lk (.c .un) l t= .c .un∨(okS (lk (.c .un) l t)=true∧abW m (lk (.c .un) l t)=σ.tmp t)
 | [],_=> .inl rfl
 | (k,s)::l,⟨h1,h2⟩=>by
   unfold lk
   cases hb:Nat.beq k t
   ·exact Sj h2
   ·have:=Nat.eq_of_beq_eq_true hb
    subst this
    exact .inr h1
theorem Sl {m:List (Nat × Nat)} {σ:St T} {r:Nat}:∀{l:List (Nat × dB T)},YP m σ l→lk .no l r= .no∨(r∈IE l∧oV m σ r (lk .no l r))
 | [],_=> .inl rfl
 | (k,x)::l,⟨h1,h2⟩=>by
   unfold lk
   cases hb:Nat.beq k r
   ·rcases Sl (r:=r) h2 with h | ⟨h,h'⟩
    ·exact .inl h
    ·exact .inr ⟨List.mem_cons_of_mem _ h,h'⟩
   ·have:=Nat.eq_of_beq_eq_true hb
    subst this
    exact .inr ⟨List.mem_cons_self,h1⟩
theorem Dl {m:List (Nat × Nat)}:∀{l:List Nat},IG (Gn m l)=true→∀a∈l,∀b∈l,mp m a=mp m b→a=b
 | [],_,a,ha,_,_,_=>by cases ha
 | x::l,h,a,ha,b,hb,e=>by
   unfold Gn IG at h
   cases hx:jH (mp m x) (Gn m l)<;>rw [hx] at h
   ·have hno:∀y∈l,mp m y≠mp m x:=fun y hy e=>by
     have:mp m x∈Gn m l:=by
      rw [←e]
      clear hx h ha hb e
      induction l with
      | nil=>cases hy
      | cons z l ih=>
        unfold Gn
        rcases List.mem_cons.1 hy with rfl | hy
        ·exact List.mem_cons_self
        ·exact List.mem_cons_of_mem _ (ih hy)
     rw [ig.2 this] at hx;cases hx
    rcases List.mem_cons.1 ha with h1 | h1
    ·rcases List.mem_cons.1 hb with h2 | h2
     ·rw [h1,h2]
     ·exact absurd e.symm (h1▸hno b h2)
    ·rcases List.mem_cons.1 hb with h2 | h2
     ·exact absurd e (h2▸hno a h1)
     ·exact Dl h a h1 b h2 e
   ·cases h
theorem ay {σ σ':St T} (m:List (Nat × Nat)) (hn:σ'.n=σ.n) (hA:σ'.A=σ.A) (hnd:IG (Gn m (IE σ'.rs))=true) (ht:YO m σ σ'.tm) (hr:YP m σ σ'.rs):lD σ σ':=by
 rintro W0 a w ⟨env,F,h⟩
 let F':Nat→Nat→Prop:=fun r k=>σ'.res r≠ .no∧F (mp m r) k∧(adn (σ'.res r) (σ.res (mp m r))=true→(env (mp m r)).ownBlock=some k)
 have hF:∀k,(∀r,¬F r k)→∀r,¬F' r k:=fun k hk r hr=>hk _ hr.2.1
 have hP:∀k,jo σ.A F none k→jo σ'.A F' none k:=fun k hk=>hk.elim (fun⟨h1,h2⟩=> .inl ⟨by rw [hA];exact h1,hF k h2⟩) (fun⟨q,hq,_⟩=>by cases hq)
 have hcell:∀(c:Cell T) (v:Value),Si c=true→iK σ env F w (YN m c) v→iK σ' (fun r=>env (mp m r)) F' w c v:=by
  intro c v hc hv
  cases c with
  | un=>trivial
  | sc v'=>exact hv
  | im p e l=>
    cases p with
    | none=>exact⟨hv.1,fun _=>(hv.2 trivial).mono hP⟩
    | some q=>cases hc
  | hd r=>exact hv
  | px r o=>exact hv
 have hcells:∀(cs:List (Cell T)) (vs:List Value),uK cs=true→aY σ env F w (IC m cs) vs→aY σ' (fun r=>env (mp m r)) F' w cs vs:=by
  intro cs
  induction cs with
  | nil=>exact fun vs _ h=>h
  | cons c cs ih=>
    rintro vs hc ⟨v,r,e,h1,h2⟩
    unfold uK at hc
    cases hcc:Si c<;>rw [hcc] at hc
    ·cases hc
    ·exact⟨v,r,e,hcell c v hcc h1,ih r hc h2⟩
 have hres:∀r,σ'.res r≠ .no→r∈IE σ'.rs∧oV m σ r (σ'.res r):=fun r hne=>(Sl (r:=r) hr).resolve_left hne
 refine⟨fun r=>env (mp m r),F',h.below,h.tab,fun r hr=>(congrArg env (abV hr)).trans (h.pin r hr),fun k hk=>by rw [hA];exact h.acc k hk,h.size.trans hn.symm,h.defers,fun r=>?_,fun r k hk=>h.own _ k hk.2.1,fun r s k h1 h2=>?_,fun t=>?_⟩
 ·cases hx:σ'.res r with
  | no=>exact fun k hk=>hk.1 hx
  | bx t cs=>
    have hne:σ'.res r≠ .no:=by rw [hx];simp
    have h1:=(hres r hne).2
    rw [hx] at h1
    obtain⟨h2,h3⟩:=h1
    have h4:=h.res (mp m r)
    rw [h3] at h4
    obtain⟨g,arr,g1,g2,g3,g4,g5⟩:=h4
    exact⟨g,arr,g1,⟨hne,g2,fun e=>by rw [hx,h3] at e;cases e⟩,fun k hk=>g3 k hk.2.1,g4,hcells cs _ h2 g5⟩
  | row bv e l=>
    have hne:σ'.res r≠ .no:=by rw [hx];simp
    have h1:=(hres r hne).2
    rw [hx] at h1
    have h4:=h.res (mp m r)
    cases hy:σ.res (mp m r) with
    | row kF e' l'=>
      simp only [oV,hy] at h1
      rw [hy] at h4
      exact(vk h1 h4).mono (fun k hk=>⟨hne,hk,fun e=>by rw [hx] at e;cases e⟩)
    | no=>simp only [oV,hy] at h1
    | bx t cs=>simp only [oV,hy] at h1
    | sh kF e' l'=>simp only [oV,hy] at h1
    | hl e0 d0 j0 cs0 l0=>simp only [oV,hy] at h1
  | hl e d i cs l=>
    have hne:σ'.res r≠ .no:=by rw [hx];simp
    have h1:=(hres r hne).2
    rw [hx] at h1
    have h4:=h.res (mp m r)
    obtain⟨h2,h3⟩:=h1
    cases hy:σ.res (mp m r) with
    | hl e' d' i' cs' l'=>
      rw [hy] at h3 h4
      obtain⟨rfl,rfl,rfl,h5⟩:=h3
      unfold bW at h5
      cases h5
      obtain⟨raw,g2,g3,g4⟩:=h4
      exact⟨raw,g2,Ow.mono g3 (fun k hk=>⟨hne,hk,fun e=>by rw [hx] at e;cases e⟩),hcells cs _ h2 g4⟩
    | no=>rw [hy] at h3;exact h3.elim
    | bx t cs=>rw [hy] at h3;exact h3.elim
    | row bv e l=>rw [hy] at h3;exact h3.elim
    | sh bv e l=>rw [hy] at h3;exact h3.elim
  | sh bv e l=>
    have hne:σ'.res r≠ .no:=by rw [hx];simp
    have h1:=(hres r hne).2
    rw [hx] at h1
    have h4:=h.res (mp m r)
    cases hy:σ.res (mp m r) with
    | sh kF e' l'=>
      simp only [oV,hy] at h1
      rw [hy] at h4
      unfold bW at h1
      cases h1
      exact Sh.mono h4 (fun k hk=>⟨hne,hk,fun e=>by rw [hx,hy] at e;cases e⟩) hP
    | row kF e' l'=>
      simp only [oV,hy] at h1
      rw [hy] at h4
      unfold bW at h1
      cases h1
      refine Sh.mono (Ow.abX (R:=jo σ'.A F' none) h4 (fun k hk hlt hnb=> .inl ⟨by rw [hA];exact h.acc k (h.own _ k hk).1,fun s hs=>?_⟩)) (fun k hk=>⟨hne,hk.1,fun _=>hk.2⟩) (fun _ h=>h)
      have e:=h.apart _ _ k hs.2.1 hk
      have e2:s=r:=Dl hnd s (hres s hs.1).1 r (hres r hne).1 e
      subst e2
      exact hnb (hs.2.2 (by rw [hx,hy];rfl))
    | no=>simp only [oV,hy] at h1
    | bx t cs=>simp only [oV,hy] at h1
    | hl e0 d0 j0 cs0 l0=>simp only [oV,hy] at h1
 ·have e:=h.apart _ _ k h1.2.1 h2.2.1
  exact Dl hnd r (hres r h1.1).1 s (hres s h2.1).1 e
 ·rcases Sj (t:=t) ht with h1 | ⟨h1,h2⟩
  ·show bT _ _ _ _ (lk _ _ t) _
   rw [h1];trivial
  ·have h3:=h.tm t
   rw [←h2] at h3
   show bT _ _ _ _ (lk (.c .un) σ'.tm t) _
   generalize lk (.c .un) σ'.tm t=s at h1 h3
   cases s with
   | ud=>exact h3
   | c x=>exact hcell x _ h1 h3
   | ag l=>obtain⟨us,e,h4⟩:=h3;exact⟨us,e,hcells l _ h1 h4⟩
   | tu l=>cases h1
   | pi p e l i o=>
     cases p with
     | none=>
       obtain⟨g1,ad,g2,g3⟩:=h3
       obtain⟨c,g4⟩:=g3 trivial
       exact⟨g1,ad,g2,fun _=>⟨c,g4.mono hP⟩⟩
     | some q=>cases h1
   | pe r i o=>cases h1
   | pl r bv i o e l=>cases h1
   | fn f r=>cases h1
theorem lD.trans {σ σ' abY:St T} (h:lD σ σ') (h':lD σ' abY):lD σ abY:=fun W0 a w hS=>h' W0 a w (h W0 a w hS)
end
end Go.Proofs.YtcnfgfomholheaaGreatDoor.Z
end
section
namespace Go.Proofs.YtcnfgfomholheaaGreatDoor.Z
open Go.RowKit
set_option linter.unusedVariables false
section
variable {α:Type} {p:Prop} [Decidable p] {x y:Option α} {r:α}
theorem p0 (h:(if p then x else y)=some r) (c:p):x=some r:=by rwa [if_pos c] at h
theorem p1 (h:(if p then x else y)=some r) (c:decide p=true):x=some r:=p0 h (of_decide_eq_true c)
theorem n1 (h:(if p then x else y)=some r) (c:decide p=false):y=some r:=by rwa [if_neg (of_decide_eq_false c)] at h
theorem n9 (h:(if p then x else y)=some r) (c:¬p):y=some r:=by rwa [if_neg c] at h
end
section
variable {α β:Type} {x y:Option α} {r:α} {b:Bool}
theorem n0 (h:(if b=true then x else y)=some r) (c:b=false):y=some r:=by subst c;exact h
theorem p3 (h:(if b=true then x else y)=some r) (c:(!b)=false):x=some r:=by cases b<;>first | exact h | cases c
theorem n3 (h:(if b=true then x else y)=some r) (c:(!b)=true):y=some r:=by cases b<;>first | exact h | cases c
variable [DecidableEq β] {u v:β}
theorem p2 (h:(if u=v then x else y)=some r) (c:(u==v)=true):x=some r:=p0 h (by simpa using c)
theorem n2 (h:(if u=v then x else y)=some r) (c:(u==v)=false):y=some r:=n9 h (by simpa using c)
theorem p4 (h:(if u=v then x else y)=some r) (c:(u !=v)=false):x=some r:=p0 h (by simpa using c)
theorem p5 (h:(if u=v then x else y)=some r) (c:(!(u==v))=false):x=some r:=p0 h (by simpa using c)
end
end Go.Proofs.YtcnfgfomholheaaGreatDoor.Z
end
section
namespace Go.Proofs.YtcnfgfomholheaaGreatDoor.Z
open Go.RowKit
set_option linter.unusedVariables false
section
variable {T:dX} {P:Program} {n:Nat} {A:Nat→Prop} {K:Exit→Nat→List (Nat × Slot T)→List (Nat × dB T)→Prop} {nx:Nat} {tm tm':List (Nat × Slot T)} {rs rs':List (Nat × dB T)} {c d:Code}
structure Vc (P:Program) (n:Nat) (A:Nat→Prop) (c:Code) (K:Exit→Nat→List (Nat × Slot T)→List (Nat × dB T)→Prop) (tm:List (Nat × Slot T)) (rs:List (Nat × dB T)):Prop where
 run:∀(W0:Fr) (a:Act) (w:World) (Q:Exit→Act→World→Prop),jD W0 (⟨tm,rs,n,A⟩:St T) a w→(∀e nx' tm' rs' a' w',K e nx' tm' rs'→jD W0 (⟨tm',rs',n,A⟩:St T) a' w'→Q e a' w')→c.wp P Q a w
theorem Vc.of (nx:Nat) (hT:T.ok P) (h:xU P n A c K nx tm rs):Vc P n A c K tm rs:=⟨fun W0 a w Q hS hQ=>Aj hT c K nx tm rs h a w Q hS hQ⟩
theorem Vc.seq (nx:Nat) (hT:T.ok P) (h:xU P n A c (fun e nx tm rs=>match e with
  | .normal=>Vc P n A d K tm rs
  | e=>K e nx tm rs) nx tm rs):Vc P n A (.seq c d) K tm rs:=⟨fun W0 a w Q hS hQ=>
 wp_seq (Aj hT c _ nx tm rs h a w _ hS (fun e nx' tm' rs' a' w' hK hS'=>by
  cases e<;>first | exact hQ _ _ _ _ _ _ hK hS' | exact hK.run W0 a' w' Q hS' hQ))⟩
theorem Vc.imp (hi:lD (⟨tm,rs,n,A⟩:St T) ⟨tm',rs',n,A⟩) (h:Vc P n A c K tm' rs'):Vc P n A c K tm rs:=⟨fun W0 a w Q hS hQ=>h.run W0 a w Q (hi _ _ _ hS) hQ⟩
structure ku (p:Prop):Prop where
 p:p
theorem Vc.cut {α:Type} (nx:Nat) (I:α→Prop) (tmF:α→List (Nat × Slot T)) (rsF:α→List (Nat × dB T)) (hT:T.ok P) (h:xU P n A c (fun e nx tm rs=>match e with
  | .normal=>ku (∃x,I x∧lD (⟨tm,rs,n,A⟩:St T) ⟨tmF x,rsF x,n,A⟩)
  | e=>K e nx tm rs) nx tm rs) (h2:∀x,I x→Vc P n A d K (tmF x) (rsF x)):Vc P n A (.seq c d) K tm rs:=⟨fun W0 a w Q hS hQ=>
 wp_seq (Aj hT c _ nx tm rs h a w _ hS (fun e nx' tm' rs' a' w' hK hS'=>by
  cases e with
  | normal=>obtain⟨⟨x,hx,hi⟩⟩:=hK;exact(h2 x hx).run W0 a' w' Q (hi _ _ _ hS') hQ
  | _=>exact hQ _ _ _ _ _ _ hK hS'))⟩
theorem Vc.yA (h:Vc P n A c (fun e nx tm rs=>match e with
  | .normal=>Vc P n A d K tm rs
  | e=>K e nx tm rs) tm rs):Vc P n A (.seq c d) K tm rs:=⟨fun W0 a w Q hS hQ=>
 wp_seq (h.run W0 a w _ hS (fun e nx' tm' rs' a' w' hK hS'=>by
  cases e<;>first | exact hQ _ _ _ _ _ _ hK hS' | exact hK.run W0 a' w' Q hS' hQ))⟩
theorem Vc.block {id:Nat} (h:Vc P n A c (fun e nx tm rs=>match e with
  | .exit i=>match Nat.beq i id with
    | true=>K .normal nx tm rs
    | false=>K (.exit i) nx tm rs
  | e=>K e nx tm rs) tm rs):Vc P n A (.block id c) K tm rs:=⟨fun W0 a w Q hS hQ=>
 wp_block (h.run W0 a w _ hS (fun e nx' tm' rs' a' w' hK hS'=>by
  cases e with
  | exit i=>
    dsimp only at hK
    unfold Exit.inBlock
    by_cases e:i=id
    ·subst e
     rw [show Nat.beq i i=true by simp] at hK
     simp only [if_true]
     exact hQ _ _ _ _ _ _ hK hS'
    ·rw [fD e] at hK
     simp only [e,if_false]
     exact hQ _ _ _ _ _ _ hK hS'
  | _=>exact hQ _ _ _ _ _ _ hK hS'))⟩
theorem Vc.loop {α:Type} (inv:α→List (Nat × Slot T) × List (Nat × dB T)) (m:α→Nat) (a0:α) (h0:lD (⟨tm,rs,n,A⟩:St T) ⟨(inv a0).1,(inv a0).2,n,A⟩)
  (hr:∀x,Vc P n A c (fun e nx' tm' rs'=>match e with
   | .normal=>bM (∃x',m x'<m x∧lD (⟨tm',rs',n,A⟩:St T) ⟨(inv x').1,(inv x').2,n,A⟩)
   | e=>K e nx' tm' rs') (inv x).1 (inv x).2):Vc P n A (.loop c) K tm rs:=⟨fun W0 a w Q hS hQ=>by
  have key:∀(q:Nat) (x:α),m x=q→∀a w,jD W0 (⟨(inv x).1,(inv x).2,n,A⟩:St T) a w→∀b k cs,∃e a' w',Q e a' w'∧Arrives P (lone (b.at a (.code c:: .inLoop c::k)) cs w) b k cs e a' w':=by
   intro q
   induction q using Nat.strongRecOn with
   | _ q ihn=>
     intro x hx a w hS b k cs
     obtain⟨e,a1,w1,hq,harr⟩:=(hr x).run W0 a w (fun e a' w'=>match e with
      | .normal=>∃x',m x'<m x∧jD W0 (⟨(inv x').1,(inv x').2,n,A⟩:St T) a' w'
      | e=>Q e a' w') hS (fun e nx' tm' rs' a' w' hK hS'=>by
        cases e with
        | normal=>
          obtain⟨⟨x',hlt,himp⟩⟩:=hK
          exact⟨x',hlt,himp _ _ _ hS'⟩
        | _=>exact hQ _ _ _ _ _ _ hK hS') b (.inLoop c::k) cs
     cases e with
     | normal=>
       obtain⟨x',hlt,hS'⟩:=hq
       obtain⟨e2,a2,w2,hq2,Uo⟩:=ihn (m x') (hx▸hlt) x' rfl a1 w1 hS' b k cs
       exact⟨e2,a2,w2,hq2, .of_steps (Steps.trans harr (.one step_inLoop)) Uo⟩
     | exit id=>exact⟨_,a1,w1,hq, .pass (x:= .inLoop c) rfl (fun _ _=> .inl (by simp)) harr⟩
     | goto l=>exact⟨_,a1,w1,hq, .pass (x:= .inLoop c) rfl (fun _ _=> .inl (by simp)) harr⟩
     | ret=>exact⟨_,a1,w1,hq, .pass (x:= .inLoop c) rfl (fun _ _=> .inl (by simp)) harr⟩
     | panic ch=>exact⟨_,a1,w1,hq, .pass (x:= .inLoop c) rfl (fun _ _=> .inl (by simp)) harr⟩
     | outgrown=>exact⟨_,a1,w1,hq, .pass (x:= .inLoop c) rfl (fun _ _=> .inl (by simp)) harr⟩
  intro b k cs
  obtain⟨e,a',w',hq,harr⟩:=key _ a0 rfl a w (h0 _ _ _ hS) b k cs
  exact⟨e,a',w',hq, .of_steps (.one step_loop) harr⟩⟩
end
section
variable {T:dX} {P:Program} {W0:Fr}
theorem mQ (hT:T.ok P) {f:FuncId} {fn:Func} {c:Code} {args:List (Arg T.Tb)} {res:RS T.Tb} (hf:P.funcs[f]? =some fn) (hname:(fn.name== "runtime.NumGoroutine")=false) (hb:fn.body=some c) (hn:Nat.ble args.length fn.ntmps=true)
  (h:∀A,Vc P fn.ntmps A c (abS T fn.ntmps A fn.results.toList res) (uy 0 args) []):aH T P f args res:=by
 refine⟨⟨fn,hf,hname,by rw [hb];rfl⟩,fun w vs S hj hargs=>?_⟩
 refine calls_of_wp hf hb ((h (fun k=>S k∨w.heap.size≤k)).run _ _ w _ (OW hj hargs hn) (fun e nx' tm' rs' a' w' hK hS'=>?_))
 have hd:a'.defers=[]:=by obtain⟨env,F,h⟩:=hS';exact h.defers
 have main:EF (⟨tm',rs',fn.ntmps,fun k=>S k∨w.heap.size≤k⟩:St T) fn.results.toList res→a'.defers=[]∧∃v,(results fn a'.tmps).run P w'= .ok v w'∧∃v' G,Ending.returned v= .returned v'∧Below w.heap.size w w'∧(∀i k,G i k→w.heap.size≤k∧k<w'.heap.size)∧(∀i j k,G i k→G j k→i=j)∧
   ∃fv,uY res v' fv∧dN w' (fun k=>S k∧k<w.heap.size∨w.heap.size≤k∧∀i,¬G i k) G 0 res.flat fv:=fun hr=>by
  obtain⟨v,h1,G,h2,h3,h4,h5⟩:=WO (vs:=vs) hT rfl hS' hr
  exact⟨hd,v,h1,v,G,rfl,h2,h3,h4,h5⟩
 cases e<;>first | exact main hK | exact hK.elim
theorem jO {p:Prop} (h:true=false):p:=by cases h
theorem kW {p:Prop} (h:false=true):p:=by cases h
end
end Go.Proofs.YtcnfgfomholheaaGreatDoor.Z
end
section
namespace Go.Proofs.YtcnfgfomholheaaGreatDoor.Z
open Go.RowKit
set_option linter.unusedVariables false
noncomputable def same {α:Type} (a b:α):Bool:=@decide (a=b) (Classical.propDecidable _)
theorem nD {α:Type} {a b:α} (h:a=b):same a b=true:=by unfold same;exact @decide_eq_true _ (Classical.propDecidable _) h
theorem gB {α:Type} {a b:α} (h:¬a=b):same a b=false:=by unfold same;exact @decide_eq_false _ (Classical.propDecidable _) h
theorem of_same {α:Type} {a b:α} (h:same a b=true):a=b:=by unfold same at h;exact @of_decide_eq_true _ (Classical.propDecidable _) h
theorem iH {α:Type} {a b:α} (h:same a b=false):¬a=b:=by unfold same at h;exact @of_decide_eq_false _ (Classical.propDecidable _) h
theorem bv {x y:Bool} (h:y=x):Value.bool x=Value.bool y:=by rw [h]
theorem wH {m n:Nat} (h:((m:Int) !=(n:Int))=false):m=n:=by simp at h;omega
theorem wG {m n:Nat} (h:((m:Int) !=(n:Int))=true):¬m=n:=by simp at h;omega
theorem FQ {x y:Int} (h:(x !=y)=false):x=y:=by simpa using h
theorem wF {x y:Int} (h:(x !=y)=true):¬x=y:=by simpa using h
theorem aeb {x y:Int} (h:(x==y)=true):x=y:=by simpa using h
theorem aec {x y:Int} (h:(x==y)=false):¬x=y:=by simpa using h
theorem gX {m n:Nat} (h:decide ((m:Int)<(n:Int))=true):m<n:=by simp at h;omega
theorem gY {m n:Nat} (h:decide ((m:Int)<(n:Int))=false):n≤m:=by simp at h;omega
theorem JX {x y:Int} (h:decide (x<y)=true):x<y:=by simpa using h
theorem Ov {x y:Int} (h:decide (x<y)=false):y≤x:=by simpa using h
theorem toList_inj {x y:ByteArray} (h:x.toList=y.toList):x=y:=by
 have h2:=congrArg (fun l:List UInt8=>(⟨⟨l⟩⟩:ByteArray)) h
 simp only [ByteArray.toList_eq] at h2
 exact h2
theorem aed {x y:ByteArray} (h:(x.toList==y.toList)=true):x=y:=toList_inj (by simpa using h)
theorem aee {x y:ByteArray} (h:(x.toList==y.toList)=false):¬x=y:=fun e=>by subst e;simp at h
theorem Ur {x y:ByteArray} (h:(!(x.toList==y.toList))=false):x=y:=aed (by simpa using h)
theorem OY {x y:ByteArray} (h:(!(x.toList==y.toList))=true):¬x=y:=aee (by simpa using h)
theorem dA {x:Bool} (h:(!x)=true):x=false:=by simpa using h
theorem dM {x:Bool} (h:(!x)=false):x=true:=by simpa using h
theorem idx {k n:Nat} (h:k<n):(0:Int)≤(k:Int)∧(k:Int)<(n:Int):=⟨by omega,by omega⟩
theorem eu {k n:Nat} (h:k<n) (hn:n≤140737488351232):((k+1:Nat):Int)=wrap64 ((k:Int)+1):=by simp only [wrap64];omega
theorem abZ {x:Int} {n:Nat} (h0:0≤x) (h1:x≤4611686018427387904) (hn:n≤140737488351232):wrap64 (x - (n:Int))=x - n:=by simp only [wrap64];omega
theorem qo {α:Type} {a b:List α} (hl:a.length=b.length) (h:a.take a.length=b.take a.length):a=b:=by
 rw [List.take_length] at h;rw [h,hl,List.take_length]
theorem oH {α:Type} {d:α} {a b:List α} {k:Nat} (ha:k<a.length) (hb:k<b.length) (h:a.take k=b.take k) (h2:a.getD k d=b.getD k d):a.take (k+1)=b.take (k+1):=by
 have h3:a[k]=b[k]:=by simpa [ha,hb] using h2
 rw [List.take_succ_eq_append_getElem ha,List.take_succ_eq_append_getElem hb,h,h3]
theorem fE {T:dX} {e:Nat} {l l':List (T.Tb e)} (h:l=l'):bW e l e l':=by unfold bW;rw [h]
theorem OZ {b n:Nat} (hb:b≤1024) (hn:n≤1048576):(0:Int)≤(n:Int)∧(n:Int)≤(n:Int)∧(b:Int)*(n:Int)≤281474976710656∧(n:Int)≤9223372036854775807:=by
 have:b*n≤1024*1048576:=Nat.mul_le_mul hb hn
 refine⟨by omega,by omega,?_,by omega⟩
 have h2:((b*n:Nat):Int)≤281474976710656:=by omega
 rwa [Int.natCast_mul] at h2
theorem Ut {α:Type} {l:List α}:l.map (fun x=>x)=l:=List.map_id' l
def fill {α β:Type} (f:α→β) (z:β) (a:List α) (k:Nat):List β:=(a.take k).map f++List.replicate (a.length - k) z
theorem oI {α β:Type} {f:α→β} {z:β} {a:List α}:fill f z a 0=List.replicate a.length z:=by simp [fill]
theorem qp {α β:Type} {f:α→β} {z:β} {a:List α}:fill f z a a.length=a.map f:=by simp [fill]
theorem qw {α β:Type} {f:α→β} {z:β} {a:List α} {k:Nat} (h:k≤a.length):(fill f z a k).length=a.length:=by simp [fill];omega
theorem qx {α β:Type} {f:α→β} {z:β} {d:α} {a:List α} {k:Nat} (h:k<a.length):(fill f z a k).set k (f (a.getD k d))=fill f z a (k+1):=by
 unfold fill
 have h1:a.length - k=(a.length - (k+1))+1:=by omega
 rw [List.set_append_right _ _ (by simp;omega),h1,List.replicate_succ,List.take_succ_eq_append_getElem h]
 have h2:a.getD k d=a[k]:=by simp [h]
 rw [h2]
 simp only [List.map_append,List.length_map,List.length_take,Nat.min_eq_left (Nat.le_of_lt h),Nat.sub_self,List.set_cons_zero,List.map_cons,List.map_nil,List.append_assoc,List.singleton_append]
theorem iv {x y:Int} (h:y=x):Value.int .i64 x=Value.int .i64 y:=by rw [h]
def dO (n:Nat) (x:Int):Int:=if x - n<0 then -1 else x - n
def thenS (r:Int) (K:Int→Int):Int:=if r<0 then -1 else K r
theorem jf {n:Nat} {x:Int} (h:0≤x):dO n x≤x:=by unfold dO;split<;>omega
theorem WQ {n:Nat} {x:Int} (h0:0≤x) (h1:x≤4611686018427387904) (hn:n≤140737488351232) (c:decide (wrap64 (x - (n:Int))<0)=true):dO n x= -1:=by
 have c:=JX c;rw [abZ h0 h1 hn] at c;unfold dO;rw [if_pos c]
theorem WR {n:Nat} {x:Int} (h0:0≤x) (h1:x≤4611686018427387904) (hn:n≤140737488351232) (c:decide (wrap64 (x - (n:Int))<0)=false):dO n x=wrap64 (x - (n:Int))∧0≤wrap64 (x - (n:Int))∧wrap64 (x - (n:Int))≤x:=by
 have c:=Ov c;rw [abZ h0 h1 hn] at c⊢;unfold dO;rw [if_neg (by omega)];omega
theorem zM {r:Int} {K:Int→Int} (c:decide (r<0)=true):thenS r K= -1:=by unfold thenS;rw [if_pos (JX c)]
theorem zO {r:Int} {K:Int→Int} (c:decide (r<0)=false):thenS r K=K r∧0≤r:=⟨by unfold thenS;rw [if_neg (by have:=Ov c;omega)],Ov c⟩
theorem Aq {n:Nat} {x:Int} {K:Int→Int} (h0:0≤x) (h1:x≤4611686018427387904) (hn:n≤140737488351232) (c:decide (wrap64 (x - (n:Int))<0)=true):thenS (dO n x) K= -1:=by
 rw [WQ h0 h1 hn c];rfl
theorem Ar {n:Nat} {x:Int} {K:Int→Int} (h0:0≤x) (h1:x≤4611686018427387904) (hn:n≤140737488351232) (c:decide (wrap64 (x - (n:Int))<0)=false):thenS (dO n x) K=K (wrap64 (x - (n:Int)))∧0≤wrap64 (x - (n:Int))∧wrap64 (x - (n:Int))≤x:=by
 obtain⟨h2,h3,h4⟩:=WR h0 h1 hn c
 rw [h2];exact⟨by unfold thenS;rw [if_neg (by omega)],h3,h4⟩
theorem lW {r:Int} {K:Int→Int} (h:0≤thenS r K):0≤r∧0≤K r:=by unfold thenS at h;split at h<;>omega
theorem zL {r:Int} {K:Int→Int} (h:0≤r):thenS r K=K r:=by unfold thenS;rw [if_neg (by omega)]
theorem getD_mem {α:Type} {d:α} {l:List α} {k:Nat} (h:k<l.length):l.getD k d∈l:=by
 have:l.getD k d=l[k]:=by simp [h]
 rw [this];exact List.getElem_mem h
section
variable {R r x:Int} {K:Int→Int} {n:Nat}
end
noncomputable def tr (p:Prop):Bool:=@decide p (Classical.propDecidable _)
end Go.Proofs.YtcnfgfomholheaaGreatDoor.Z
end
section
namespace Go.Proofs.YtcnfgfomholheaaGreatDoor.Z
open Go.RowKit
set_option linter.unusedVariables false
set_option linter.unusedSimpArgs false
section
variable {T:dX} {P:Program}
def Sr:List (AC T.Tb)→Nat→Bool
 | [],_=>false
 | .c _::_,0=>false
 | .fn _ _ _::_,0=>false
 | _::_,0=>true
 | _::l,i+1=>Sr l i
def O1 (i:Nat):AC T.Tb→Cell T
 | .c x=>C9 x
 | .fn _ _ _=> .un
 | .bx _ _ _=> .px (1000+i) 0
 | _=> .hd (1000+i)
def Kr:Nat→List (AC T.Tb)→List (Cell T)
 | _,[]=>[]
 | i,c::l=>O1 i c::Kr (i+1) l
def WS (i:Nat):AW T.Tb→Slot T
 | .c x=> .c (O1 i x)
 | .ag l=> .ag (Kr i l)
def qO:Nat→Nat→List (AW T.Tb)→List (Nat × Slot T)
 | _,_,[]=>[]
 | t,i,x::l=>(t,WS i x)::qO (t+1) (i+x.cells.length) l
def jr:Nat→List (AC T.Tb)→List (Nat × dB T)
 | _,[]=>[]
 | i, .c _::l=>jr (i+1) l
 | i, .fn _ _ _::l=>jr (i+1) l
 | i, .ow e l _ _::r=>(1000+i, .row (1000+i) e l)::jr (i+1) r
 | i, .gv e l::r=>(1000+i, .row (1000+i) e l)::jr (i+1) r
 | i, .bx t cs _::r=>(1000+i, .bx t (cs.map (toCell none)))::jr (i+1) r
theorem mW:∀{l:List (AC T.Tb)} {i:Nat} {r:Nat},r<1000+i→lk (.no:dB T) (jr i l) r= .no
 | [],_,_,_=>rfl
 | .c _::l,i,r,h=>mW (l:=l) (by omega)
 | .fn _ _ _::l,i,r,h=>mW (l:=l) (by omega)
 | .ow e x _ _::l,i,r,h=>by
   unfold jr lk
   rw [fD (by omega)]
   exact mW (l:=l) (by omega)
 | .gv e x::l,i,r,h=>by
   unfold jr lk
   rw [fD (by omega)]
   exact mW (l:=l) (by omega)
 | .bx t x y::l,i,r,h=>by
   unfold jr lk
   rw [fD (by omega)]
   exact mW (l:=l) (by omega)
theorem II:∀{l:List (AC T.Tb)} {i j:Nat},lk (.no:dB T) (jr i l) (1000+(i+j))=match l[j]? with
  | some (.ow e x _ _)=> .row (1000+(i+j)) e x
  | some (.gv e x)=> .row (1000+(i+j)) e x
  | some (.bx t x _)=> .bx t (x.map (toCell none))
  | _=> .no
 | [],i,j=>by simp [jr,lk]
 | c::l,i,0=>by
   have h:=mW (l:=l) (i:=i+1) (r:=1000+i) (by omega)
   cases c<;>simp [jr,lk,Nat.beq_eq,h]
 | c::l,i,j+1=>by
   have h:=II (l:=l) (i:=i+1) (j:=j)
   rw [show i+1+j=i+(j+1) by omega] at h
   have hb:Nat.beq (1000+i) (1000+(i+(j+1)))=false:=fD (by omega)
   cases c<;>simp only [jr,lk,hb,List.getElem?_cons_succ]<;>exact h
theorem sN:∀{l:List (AC T.Tb)} {j:Nat},Sr l j=true↔(∃e x e' x',l[j]? =some (.ow e x e' x'))∨(∃e x,l[j]? =some (.gv e x))∨∃t x y,l[j]? =some (.bx t x y)
 | [],j=>by simp [Sr]
 | c::l,0=>by cases c<;>simp [Sr]
 | c::l,j+1=>by
   have h:=sN (l:=l) (j:=j)
   cases c<;>simpa [Sr] using h
section
variable {w:World} {S:Nat→Prop} {Fw:Nat→Nat→Prop} {ev:Nat→Value}
theorem IJ {σ:St T} {env:Nat→Value} {F:Nat→Nat→Prop} (hS:∀k,S k→jo σ.A F none k) (he:∀i,env (1000+i)=ev i) {i:Nat} {x:AC T.Tb} {v:Value} (h:pJ w S Fw ev i x v):iK σ env F w (O1 i x) v:=by
 cases x with
 | c x=>exact OU h hS
 | fn f t us=>trivial
 | bx t cs cs'=>obtain⟨h1,g,us,h2,_⟩:=h;exact⟨g,by rw [he,←h1];exact h2,h2⟩
 | ow e l e' l'=>exact⟨by rw [h.1,he],h.2.one⟩
 | gv e l=>exact⟨by rw [h.1,he],h.2.one⟩
theorem Fe {σ:St T} {env:Nat→Value} {F:Nat→Nat→Prop} (hS:∀k,S k→jo σ.A F none k) (he:∀i,env (1000+i)=ev i):∀{i:Nat} {x:List (AC T.Tb)} {v:List Value},sH w S Fw ev i x v→aY σ env F w (Kr i x) v
 | _,[],_,h=>h
 | i,c::cs,_,⟨v,r,e,h1,h2⟩=>⟨v,r,e,IJ hS he h1,Fe hS he h2⟩
theorem ab1 {σ:St T} {env:Nat→Value} {F:Nat→Nat→Prop} (hS:∀k,S k→jo σ.A F none k) (he:∀i,env (1000+i)=ev i) {i:Nat} {x:AW T.Tb} {v:Value} (h:Nr w S Fw ev i x v):bT σ env F w (WS i x) v:=by
 cases x with
 | c x=>exact IJ hS he h
 | ag l=>obtain⟨us,e,h⟩:=h;exact⟨us,e,Fe hS he h⟩
theorem Fg {σ:St T} {env:Nat→Value} {F:Nat→Nat→Prop} (hS:∀k,S k→jo σ.A F none k) (he:∀i,env (1000+i)=ev i):∀{args:List (AW T.Tb)} {vs:List Value} {i j t:Nat},oC w S Fw ev j args vs→i≤t→bT σ env F w (lk (.c .un) (qO i j args) t) (vs.getD (t - i) undef)∨lk (.c .un) (qO i j args) t= .c .un
 | [],_,i,j,t,_,_=> .inr rfl
 | x::l,_,i,j,t,⟨v,r,e,h1,h2⟩,hi=>by
   subst e
   unfold qO lk
   by_cases h:i=t
   ·subst h
    rw [show Nat.beq i i=true by simp [Nat.beq_eq]]
    exact .inl (by simpa using ab1 hS he h1)
   ·rw [fD h]
    have:=Fg (σ:=σ) (env:=env) (F:=F) hS he (i:=i+1) (t:=t) h2 (by omega)
    rw [show t - i=(t - (i+1))+1 by omega]
    simpa using this
theorem Sv:∀{args:List (AW T.Tb)} {vs:List Value} {i:Nat},oC w S Fw ev i args vs→args.length=vs.length
 | [],_,_,h=>by cases h;rfl
 | x::l,_,i,⟨v,r,e,_,h⟩=>by subst e;simp [Sv h]
theorem WT {x:AC T.Tb}:∀{cs:List (AC T.Tb)} {vs:List Value} {i j:Nat},sH w S Fw ev i cs vs→cs[j]? =some x→∃v,pJ w S Fw ev (i+j) x v
 | [],_,_,_,_,h=>by simp at h
 | c::cs,_,i,0,⟨v,r,e,h1,_⟩,h=>by simp at h;subst h;exact⟨v,h1⟩
 | c::cs,_,i,j+1,⟨v,r,e,_,h2⟩,h=>by
   obtain⟨u,h3⟩:=WT (j:=j) h2 (by simpa using h)
   exact⟨u,by rw [show i+(j+1)=i+1+j by omega];exact h3⟩
theorem Au {x:AC T.Tb}:∀{args:List (AW T.Tb)} {vs:List Value} {i j:Nat},oC w S Fw ev i args vs→(gQ args)[j]? =some x→∃v,pJ w S Fw ev (i+j) x v
 | [],_,_,_,_,h=>by simp [gQ] at h
 | c::cs,_,i,j,⟨v,r,e,h1,h2⟩,h=>by
   unfold gQ at h
   by_cases hj:j<c.cells.length
   ·rw [List.getElem?_append_left hj] at h
    cases c with
    | c y=>
      have:j=0:=by simp [AW.cells] at hj;exact hj
      subst this
      simp [AW.cells] at h
      subst h
      exact⟨v,h1⟩
    | ag l=>obtain⟨us,_,h1⟩:=h1;exact WT h1 h
   ·rw [List.getElem?_append_right (by omega)] at h
    obtain⟨u,h3⟩:=Au h2 h
    exact⟨u,by rw [show i+j=i+c.cells.length+(j - c.cells.length) by omega];exact h3⟩
end
def IK (T:dX) (A:Nat→Prop) (n:Nat) (args:List (AW T.Tb)):St T:=⟨qO 0 0 args,jr 0 (gQ args),n,A⟩
def ZY (w:World) (Fw:Nat→Nat→Prop) (ev:Nat→Value) (V:World):Fr:=⟨w,fun r=>ev (r - 1000),fun k=>∃i,Fw i k,V⟩
theorem WU {w V:World} {S:Nat→Prop} {Fw:Nat→Nat→Prop} {ev:Nat→Value} {args:List (AW T.Tb)} {vs:List Value} {n:Nat} (hj:T.J V) (hb:Below V.heap.size V w) (hF:∀i k,Fw i k→V.heap.size≤k∧k<w.heap.size) (hap:∀i j k,Fw i k→Fw j k→i=j) (hFS:∀i k,Fw i k→¬S k) (h:oC w S Fw ev 0 args vs) (hn:Nat.ble args.length n=true):
  jD (ZY w Fw ev V) (IK T (fun k=>(S k∨∃i,Fw i k)∨w.heap.size≤k) n args) {tmps:=vs.toArray++Array.replicate (n - vs.toArray.size) undef,defers:=[]} w:=by
 have hl:=Sv h
 have hn':=Nat.le_of_ble_eq_true hn
 let F:Nat→Nat→Prop:=fun r k=>1000≤r∧Sr (gQ args) (r - 1000)=true∧Fw (r - 1000) k∧∀t x y,(gQ args)[r - 1000]? =some (.bx t x y)→ev (r - 1000)= .pointer (some ⟨k,0,none⟩)
 have hok:∀k,S k→jo (IK T (fun k=>(S k∨∃i,Fw i k)∨w.heap.size≤k) n args).A F none k:=fun k hk=> .inl ⟨.inl (.inl hk),fun r hr=>hFS _ k hr.2.2.1 hk⟩
 refine⟨fun r=>ev (r - 1000),F,⟨rfl,rfl,rfl,Nat.le_refl _,fun _ _ _=>rfl,hb⟩,hj,fun _ _=>rfl,fun k hk=>hk.1.elim .inr (fun h=> .inl (.inr h)),by simp [IK];omega,rfl,fun r=>?_,fun r k hk=>⟨⟨.inr ⟨_,hk.2.2.1⟩,(hF _ k hk.2.2.1).1⟩,(hF _ k hk.2.2.1).2⟩,fun r s k h1 h2=>by have:=hap _ _ k h1.2.2.1 h2.2.2.1;have:=h1.1;have:=h2.1;omega,fun t=>?_⟩
 ·show oJ _ _ _ _ r (lk .no (jr 0 (gQ args)) r)
  by_cases hr:1000≤r
  ·obtain⟨j,rfl⟩:∃j,r=1000+(0+j):=⟨r - 1000,by omega⟩
   rw [II]
   have e:1000+(0+j) - 1000=j:=by omega
   cases hx:(gQ args)[j]? with
   | none=>
     intro k hk
     rcases sN.1 hk.2.1 with ⟨_,_,_,_,h1⟩ | ⟨_,_,h1⟩ | ⟨_,_,_,h1⟩<;>rw [e,hx] at h1<;>cases h1
   | some x=>
     cases x with
     | c y=>
       intro k hk
       rcases sN.1 hk.2.1 with ⟨_,_,_,_,h1⟩ | ⟨_,_,h1⟩ | ⟨_,_,_,h1⟩<;>rw [e,hx] at h1<;>cases h1
     | fn f t us=>
       intro k hk
       rcases sN.1 hk.2.1 with ⟨_,_,_,_,h1⟩ | ⟨_,_,h1⟩ | ⟨_,_,_,h1⟩<;>rw [e,hx] at h1<;>cases h1
     | ow e1 l e2 l2=>
       obtain⟨v,h1,h2⟩:=Au h hx
       show Ow T.sz w (F (1000+(0+j))) (.sl e1 (l.map (T.enc e1))) (ev (1000+(0+j) - 1000))
       rw [e,show ev j=v by rw [h1,Nat.zero_add]]
       rw [Nat.zero_add] at h2
       exact h2.mono (fun k hk=>⟨by omega,by rw [e];exact sN.2 (.inl ⟨_,_,_,_,hx⟩),by rw [e];exact hk,fun t x y h9=>by rw [e,hx] at h9;cases h9⟩)
     | gv e1 l=>
       obtain⟨v,h1,h2⟩:=Au h hx
       show Ow T.sz w (F (1000+(0+j))) (.sl e1 (l.map (T.enc e1))) (ev (1000+(0+j) - 1000))
       rw [e,show ev j=v by rw [h1,Nat.zero_add]]
       rw [Nat.zero_add] at h2
       exact h2.mono (fun k hk=>⟨by omega,by rw [e];exact sN.2 (.inr (.inl ⟨_,_,hx⟩)),by rw [e];exact hk,fun t x y h9=>by rw [e,hx] at h9;cases h9⟩)
     | bx t xs ys=>
       obtain⟨v,h1,g,us,h2,h3,h4,h5⟩:=Au h hx
       rw [Nat.zero_add] at h1 h3
       have hFg:F (1000+(0+j)) g:=⟨by omega,by rw [e];exact sN.2 (.inr (.inr ⟨_,_,_,hx⟩)),by rw [e];exact h3,fun _ _ _ _=>by rw [e,←h1];exact h2⟩
       refine⟨g,us,by show ev (1000+(0+j) - 1000)=_;rw [e,←h1];exact h2,hFg,fun k hk=>?_,h4,wK hok h5⟩
       have h6:=hk.2.2.2 t xs ys (by rw [e];exact hx)
       rw [e,←h1,h2] at h6
       cases h6
       rfl
  ·rw [mW (by omega)]
   exact fun k hk=>hr hk.1
 ·rcases Fg (σ:=IK T (fun k=>(S k∨∃i,Fw i k)∨w.heap.size≤k) n args) (env:=fun r=>ev (r - 1000)) (F:=F) hok (fun i=>by rw [show 1000+i - 1000=i by omega]) (i:=0) (t:=t) h (Nat.zero_le _) with h1 | h1
  ·have:(vs.toArray++Array.replicate (n - vs.toArray.size) undef).getD t undef=vs.getD t undef:=by
    simp only [Array.getD_eq_getD_getElem?,List.getD_eq_getElem?_getD]
    by_cases ht:t<vs.length
    ·rw [Array.getElem?_append_left (by simpa using ht)];simp [ht]
    ·rw [List.getElem?_eq_none (by omega),Array.getElem?_append_right (by simp;omega)]
     simp only [Array.getElem?_replicate]
     split<;>rfl
   simp only [this]
   exact h1
  ·show bT _ _ _ _ (lk _ _ t) _
   rw [show(IK T (fun k=>(S k∨∃i,Fw i k)∨w.heap.size≤k) n args).tm=qO 0 0 args from rfl,h1]
   trivial
def wR (σ:St T):Nat→List (AC T.Tb)→Prop
 | _,[]=>True
 | i, .ow _ _ e l::cs=>(match σ.res (1000+i) with
   | .row _ e' l'=>bW e' l' e l
   | _=>False)∧wR σ (i+1) cs
 | i, .bx t _ ys::cs=>(match σ.res (1000+i) with
   | .bx t' cs'=>t'=t∧cs'=ys.map (toCell none)
   | _=>False)∧wR σ (i+1) cs
 | i, .c _::cs=>wR σ (i+1) cs
 | i, .gv _ _::cs=>wR σ (i+1) cs
 | i, .fn _ _ _::cs=>wR σ (i+1) cs
def qy:Nat→List (AC T.Tb)→List Nat
 | _,[]=>[]
 | i, .ow _ _ _ _::cs=>(1000+i)::qy (i+1) cs
 | i, .bx _ _ _::cs=>(1000+i)::qy (i+1) cs
 | i, .c _::cs=>qy (i+1) cs
 | i, .gv _ _::cs=>qy (i+1) cs
 | i, .fn _ _ _::cs=>qy (i+1) cs
structure tq (p q r b:Prop):Prop where
 p:p
 q:q
 r:r
 b:b
def Dn (σ:St T) (rs:List ResultVar) (res:RS T.Tb) (IL:List (AC T.Tb)):Prop:=
 match ED T σ rs with
 | some ss=>match qN ss with
   | some its=>tq (y9 its=shape2 (items res)∧abR res=!(Nat.beq its.length 1)) ((y8 (iQ (kU its) res.flat)=true∧Dc (qy 0 IL) (iQ (kU its) res.flat)=true)∧jB res.flat=false) (NC σ (kU its) res.flat) (wR σ 0 IL)
   | none=>False
 | none=>False
def Z4 (T:dX) (n:Nat) (A:Nat→Prop) (rs:List ResultVar) (res:RS T.Tb) (IL:List (AC T.Tb)):Exit→Nat→List (Nat × Slot T)→List (Nat × dB T)→Prop
 | .normal,_,tm,OX=>Dn (⟨tm,OX,n,A⟩:St T) rs res IL
 | .ret,_,tm,OX=>Dn (⟨tm,OX,n,A⟩:St T) rs res IL
 | _,_,_,_=>False
def yE:AC T.Tb→Bool
 | .ow _ _ _ _=>true
 | .bx _ _ _=>true
 | _=>false
theorem Gp {r:Nat}:∀{cs:List (AC T.Tb)} {i:Nat},r∈qy i cs↔∃j x,r=1000+(i+j)∧cs[j]? =some x∧yE x=true
 | [],i=>by simp [qy]
 | c::cs,i=>by
   have ih:=Gp (r:=r) (cs:=cs) (i:=i+1)
   have step:(∃j x,r=1000+(i+1+j)∧cs[j]? =some x∧yE x=true)→∃j x,r=1000+(i+j)∧(c::cs)[j]? =some x∧yE x=true:=fun⟨j,x,h1,h2,h3⟩=>⟨j+1,x,by omega,by simpa using h2,h3⟩
   have back:(∃j x,r=1000+(i+j)∧(c::cs)[j]? =some x∧yE x=true)→(r=1000+i∧yE c=true)∨∃j x,r=1000+(i+1+j)∧cs[j]? =some x∧yE x=true:=by
    rintro⟨j,x,h1,h2,h3⟩
    cases j with
    | zero=>simp at h2;subst h2;exact .inl ⟨by omega,h3⟩
    | succ j=>exact .inr ⟨j,x,by omega,by simpa using h2,h3⟩
   have yes:yE c=true→qy i (c::cs)=(1000+i)::qy (i+1) cs→(r∈qy i (c::cs)↔∃j x,r=1000+(i+j)∧(c::cs)[j]? =some x∧yE x=true):=fun hc e=>by
    rw [e,List.mem_cons,ih]
    exact⟨fun h=>h.elim (fun h=>⟨0,c,by omega,rfl,hc⟩) step,fun h=>(back h).elim (fun h=> .inl h.1) .inr⟩
   have no:yE c=false→qy i (c::cs)=qy (i+1) cs→(r∈qy i (c::cs)↔∃j x,r=1000+(i+j)∧(c::cs)[j]? =some x∧yE x=true):=fun hc e=>by
    rw [e,ih]
    exact⟨step,fun h=>(back h).elim (fun h=>by rw [hc] at h;cases h.2) id⟩
   cases c with
   | c y=>exact no rfl rfl
   | gv e l=>exact no rfl rfl
   | fn f t us=>exact no rfl rfl
   | ow e l e' l'=>exact yes rfl rfl
   | bx t x y=>exact yes rfl rfl
theorem Kt {w':World} {S S':Nat→Prop} {G:Nat→Nat→Prop}:∀{cs:List (R0 T.Tb)} {i:Nat} {vs:List Value},dN w' S G i cs vs→jB cs=false→dN w' S' G i cs vs
 | [],_,_,h,_=>h
 | .sc v::cs,i,_,⟨r,e,h1,h2⟩,hm=>⟨r,e,h1,Kt h2 hm⟩
 | .ow e' l::cs,i,_,⟨v,r,e,h1,h2⟩,hm=>⟨v,r,e,h1,Kt h2 hm⟩
 | .im e' l::cs,i,_,_,hm=>by cases hm
 | .bx t xs::cs,i,_,_,hm=>by cases hm
theorem nN {σ:St T} {w':World} {S:Nat→Prop} {F':Nat→Nat→Prop} {ev:Nat→Value}:∀{cs:List (AC T.Tb)} {i:Nat},wR σ i cs→(∀(j:Nat) (e:Nat) l e' l',cs[j]? =some (.ow e l e' l')→∀bv e1 l1,σ.res (1000+(i+j))= .row bv e1 l1→Ow T.sz w' (F' (i+j)) (.sl e1 (l1.map (T.enc e1))) (ev (i+j)))→
  (∀(j:Nat) t x y,cs[j]? =some (.bx t x y)→σ.res (1000+(i+j))= .bx t (y.map (toCell none))→∃g us,ev (i+j)= .pointer (some ⟨g,0,none⟩)∧F' (i+j) g∧(∀k,F' (i+j) k→k=g)∧w'.heap[g]? =some (.cells us t (0,0))∧eP w' S y us.toList)→Behind w' S F' ev i cs
 | [],_,_,_,_=>trivial
 | c::cs,i,hb,h,h'=>by
   have hr:∀(j:Nat) (e:Nat) l e' l',cs[j]? =some (.ow e l e' l')→∀bv e1 l1,σ.res (1000+(i+1+j))= .row bv e1 l1→Ow T.sz w' (F' (i+1+j)) (.sl e1 (l1.map (T.enc e1))) (ev (i+1+j)):=fun j e l e' l' hj bv e1 l1 h1=>by
    have:=h (j+1) e l e' l' (by simpa using hj) bv e1 l1 (by rw [show i+(j+1)=i+1+j by omega];exact h1)
    rw [show i+(j+1)=i+1+j by omega] at this
    exact this
   have hr':∀(j:Nat) t x y,cs[j]? =some (.bx t x y)→σ.res (1000+(i+1+j))= .bx t (y.map (toCell none))→∃g us,ev (i+1+j)= .pointer (some ⟨g,0,none⟩)∧F' (i+1+j) g∧(∀k,F' (i+1+j) k→k=g)∧w'.heap[g]? =some (.cells us t (0,0))∧eP w' S y us.toList:=fun j t x y hj h1=>by
    have:=h' (j+1) t x y (by simpa using hj) (by rw [show i+(j+1)=i+1+j by omega];exact h1)
    rw [show i+(j+1)=i+1+j by omega] at this
    exact this
   cases c with
   | c y=>exact nN (cs:=cs) (i:=i+1) hb hr hr'
   | gv e l=>exact nN (cs:=cs) (i:=i+1) hb hr hr'
   | fn f t us=>exact nN (cs:=cs) (i:=i+1) hb hr hr'
   | bx t x y=>
     obtain⟨h1,h2⟩:=hb
     refine⟨?_,nN h2 hr hr'⟩
     cases hx:σ.res (1000+i) with
     | bx t' cs'=>
       rw [hx] at h1
       obtain⟨rfl,rfl⟩:=h1
       exact h' 0 _ _ _ rfl hx
     | row bv e1 l1=>rw [hx] at h1;exact h1.elim
     | no=>rw [hx] at h1;exact h1.elim
     | sh bv e l=>rw [hx] at h1;exact h1.elim
     | hl e0 d0 j0 cs0 l0=>rw [hx] at h1;exact h1.elim
   | ow e l e' l'=>
     obtain⟨h1,h2⟩:=hb
     refine⟨?_,nN h2 hr hr'⟩
     cases hx:σ.res (1000+i) with
     | row bv e1 l1=>
       rw [hx] at h1
       exact vk h1 (h 0 e l e' l' rfl bv e1 l1 hx)
     | no=>rw [hx] at h1;exact h1.elim
     | bx t cs=>rw [hx] at h1;exact h1.elim
     | sh bv e l=>rw [hx] at h1;exact h1.elim
     | hl e0 d0 j0 cs0 l0=>rw [hx] at h1;exact h1.elim
theorem aaT (hT:T.ok P) {w w' V:World} {S:Nat→Prop} {Fw:Nat→Nat→Prop} {ev:Nat→Value} {σ:St T} {a:Act} {fn:Func} {res:RS T.Tb} {IL:List (AC T.Tb)} (hFw:∀i k,Fw i k→k<w.heap.size) (hA:σ.A=fun k=>(S k∨∃i,Fw i k)∨w.heap.size≤k) (hS:jD (ZY w Fw ev V) σ a w') (hr:Dn σ fn.results.toList res IL):
  ∃v,(results fn a.tmps).run P w'= .ok v w'∧∃G F':Nat→Nat→Prop,(w'.os=w.os∧w'.tape=w.tape∧w'.output=w.output∧w.heap.size≤w'.heap.size)∧(∀k,k<w.heap.size→(∀i,¬Fw i k)→w'.heap[k]? =w.heap[k]?)∧
   (∀i k,G i k→(w.heap.size≤k∨∃j,Fw j k)∧k<w'.heap.size)∧(∀i j k,G i k→G j k→i=j)∧(∀i k,F' i k→(w.heap.size≤k∨∃j,Fw j k)∧k<w'.heap.size)∧(∀i j k,F' i k→F' j k→i=j)∧(∀i j k,F' i k→¬G j k)∧
   Behind w' (sB S Fw w.heap.size G F') F' ev 0 IL∧∃fv,uY res v fv∧dN w' (fun _=>False) G 0 res.flat fv:=by
 obtain⟨env,F,h⟩:=hS
 unfold Dn at hr
 split at hr
 ·rename_i ss h1
  split at hr
  ·rename_i its h2
   obtain⟨⟨hsh,htu⟩,⟨⟨hnd,hni⟩,him⟩,hrc,hback⟩:=hr
   obtain⟨us,h3,h4⟩:=Dh hT h h1 h2
   obtain⟨fv,h5,h6⟩:=Ap h4 hsh
   have hG:∀i k,Iz F (iQ (kU its) res.flat) i k→(w.heap.size≤k∨∃j,Fw j k)∧k<w'.heap.size:=fun i k ⟨r,_,hk⟩=>⟨(h.own r k hk).1.1,(h.own r k hk).2⟩
   have hap:∀i j k,Iz F (iQ (kU its) res.flat) i k→Iz F (iQ (kU its) res.flat) j k→i=j:=fun i j k ⟨r,h7,hk⟩ ⟨r',h8,hk'⟩=>by
    have e:=h.apart r r' k hk hk'
    subst e
    exact tV hnd i j r h7 h8
   have hcells:dN w' (fun _=>True) (Iz F (iQ (kU its) res.flat)) 0 res.flat fv:=Di h h6 hrc (fun j r hj k=>⟨fun hk=>⟨r,by rw [Nat.zero_add];exact hj,hk⟩,fun⟨r',h',hk⟩=>by rw [Nat.zero_add,hj] at h';cases h';exact hk⟩) (fun _ _ _ _=>trivial) (fun _ _ _ _=>trivial)
   have hrun:(results fn a.tmps).run P w'= .ok (if h:us.length=1 then us[0] else .tuple us.toArray) w':=by
    have hres:results fn a.tmps=(do
      let vs←fn.results.mapM (Iy a.tmps)
      pure (if h:vs.size=1 then vs[0] else .tuple vs)):=by
     unfold results
     rfl
    rw [hres,Array.mapM_eq_mapM_toList]
    simp only [Sem.run_bind,map_eq_pure_bind,h3,Result.andThen_ok,Sem.run_pure,List.size_toArray,List.getElem_toArray]
   have hlen:us.length=its.length:=by
    have key:∀(its:List (Bool × List (Cell T))) (us:List Value),lJ σ env F w' its us→us.length=its.length:=by
     intro its
     induction its with
     | nil=>intro us h;cases h;rfl
     | cons x l ih=>rintro us ⟨v,r,e,_,h⟩;subst e;simp [ih r h]
    exact key its us h4
   refine⟨_,hrun,_,fun i k=>1000+i∈qy 0 IL∧F (1000+i) k,⟨h.below.os,h.below.tape,h.below.output,h.below.size⟩,fun k hk hn=>h.below.block k hk (fun⟨i,hi⟩=>hn i hi),hG,hap,fun i k hk=>⟨(h.own _ k hk.2).1.1,(h.own _ k hk.2).2⟩,fun i j k h1 h2=>by have:=h.apart _ _ k h1.2 h2.2;omega,fun i j k h1 ⟨r,h7,hk⟩=>by
    have e:=h.apart _ r k h1.2 hk
    subst e
    exact yD hni _ h1.1 j h7,nN hback (fun j e l e' l' hj bv e1 l1 hx=>?_) (fun j t x y hj hx=>?_),fv,?_,Kt hcells him⟩
   ·have h7:=h.res (1000+(0+j))
    rw [hx] at h7
    have h8:Ow T.sz w' (F (1000+(0+j))) (.sl e1 (l1.map (T.enc e1))) (env (1000+(0+j))):=h7
    rw [h.pin _ (by omega),show(ZY w Fw ev V).pn (1000+(0+j))=ev (0+j) from congrArg ev (by omega)] at h8
    exact h8.mono (fun k hk=>⟨Gp.2 ⟨j,_,rfl,hj,rfl⟩,hk⟩)
   ·have h7:=h.res (1000+(0+j))
    rw [hx] at h7
    obtain⟨g,us,h8,h9,h10,h11,h12⟩:=h7
    rw [h.pin _ (by omega),show(ZY w Fw ev V).pn (1000+(0+j))=ev (0+j) from congrArg ev (by omega)] at h8
    refine⟨g,us,h8,⟨Gp.2 ⟨j,_,rfl,hj,rfl⟩,h9⟩,fun k hk=>h10 k hk.2,h11,Am (fun k ha hn hlt=>⟨?_,fun i ⟨r,_,hk⟩=>hn r hk,fun i hk=>hn _ hk.2⟩) h12⟩
    rw [hA] at ha
    rcases ha with (ha | ha) | ha
    ·exact .inl ha
    ·exact .inr (.inl ha)
    ·exact .inr (.inr ha)
   ·have hl2:=Dj (its:=[]) hsh
    cases res with
    | c x=>
      have h1:us.length=1:=by rw [hlen,hl2];rfl
      rw [dif_pos h1]
      obtain⟨v,r,f1,f2,e1,e2,_,e3,e4,e5⟩:=h5
      subst e1 e2 e4 e5
      subst e3
      rfl
    | ag l=>
      have h1:us.length=1:=by rw [hlen,hl2];rfl
      rw [dif_pos h1]
      obtain⟨v,r,f1,f2,e1,e2,_,e3,e4,e5⟩:=h5
      subst e1 e2 e4 e5
      obtain⟨us',e6,e7⟩:=e3
      exact⟨us',e6,by rw [e7];simp⟩
    | tu l=>
      have h1:¬us.length=1:=by
       rw [hlen]
       intro e
       rw [e] at htu
       cases htu
      rw [dif_neg h1]
      exact⟨us.toArray,rfl,h5⟩
  ·exact hr.elim
 ·exact hr.elim
theorem tX (hT:T.ok P) {f:FuncId} {fn:Func} {c:Code} {args:List (AW T.Tb)} {res:RS T.Tb} (hf:P.funcs[f]? =some fn) (hname:(fn.name== "runtime.NumGoroutine")=false) (hb:fn.body=some c) (hn:Nat.ble args.length fn.ntmps=true)
  (h:∀A,Vc P fn.ntmps A c (Z4 T fn.ntmps A fn.results.toList res (gQ args)) (qO 0 0 args) (jr 0 (gQ args))):CallWOb T P f args res:=by
 refine⟨⟨fn,hf,hname,by rw [hb];rfl⟩,fun w vs S Fw ev V hj hbl hF hap hFS hargs=>?_⟩
 refine calls_of_wp hf hb ((h (fun k=>(S k∨∃i,Fw i k)∨w.heap.size≤k)).run _ _ w _ (WU hj hbl hF hap hFS hargs hn) (fun e nx' tm' rs' a' w' hK hS'=>?_))
 have hd:a'.defers=[]:=by obtain⟨env,F,h⟩:=hS';exact h.defers
 have main:Dn (⟨tm',rs',fn.ntmps,fun k=>(S k∨∃i,Fw i k)∨w.heap.size≤k⟩:St T) fn.results.toList res (gQ args)→a'.defers=[]∧∃v,(results fn a'.tmps).run P w'= .ok v w'∧∃v' G F',Ending.returned v= .returned v'∧(w'.os=w.os∧w'.tape=w.tape∧w'.output=w.output∧w.heap.size≤w'.heap.size)∧(∀k,k<w.heap.size→(∀i,¬Fw i k)→w'.heap[k]? =w.heap[k]?)∧
   (∀i k,G i k→(w.heap.size≤k∨∃j,Fw j k)∧k<w'.heap.size)∧(∀i j k,G i k→G j k→i=j)∧(∀i k,F' i k→(w.heap.size≤k∨∃j,Fw j k)∧k<w'.heap.size)∧(∀i j k,F' i k→F' j k→i=j)∧(∀i j k,F' i k→¬G j k)∧
   Behind w' (sB S Fw w.heap.size G F') F' ev 0 (gQ args)∧∃fv,uY res v' fv∧dN w' (fun _=>False) G 0 res.flat fv:=fun hr=>by
  obtain⟨v,h1,G,F',h2⟩:=aaT hT (S:=S) (fun i k hk=>(hF i k hk).2) rfl hS' hr
  exact⟨hd,v,h1,v,G,F',rfl,h2⟩
 cases e<;>first | exact main hK | exact hK.elim
theorem nK (hT:T.ok P) {f:FuncId} {fn:Func} {c:Code} {args:List (AW T.Tb)} {res:RS T.Tb} (hf:P.funcs[f]? =some fn) (hname:(fn.name== "runtime.NumGoroutine")=false) (hb:fn.body=some c) (hn:Nat.ble args.length fn.ntmps=true)
  (h:∀A,xU P fn.ntmps A c (Z4 T fn.ntmps A fn.results.toList res (gQ args)) 0 (qO 0 0 args) (jr 0 (gQ args))):CallWOb T P f args res:=
 tX hT hf hname hb hn (fun A=> .of 0 hT (h A))
end
end Go.Proofs.YtcnfgfomholheaaGreatDoor.Z
end
section
namespace Go.Proofs.YtcnfgfomholheaaGreatDoor.Z
open Go.RowKit
set_option linter.unusedVariables false
set_option linter.unusedSimpArgs false
abbrev El:=Nat × List V × List Value
def ck (t:El):List Value:=t.2.2
section
variable {sz:Nat→Nat} {w w':World} {F F':Nat→Prop}
structure Fam (sz:Nat→Nat) (w:World) (e:Nat) (F:Nat→Prop) (els:List El) (G:Nat→Nat→Nat→Prop):Prop where
 el:∀t∈els,t.2.1.length=sz e∧t.2.2.length=sz e∧∀(q:Nat) (y:V),t.2.1[q]? =some y→∃u,t.2.2[q]? =some u∧Ow sz w (G t.1 q) y u
 ap:∀a q a' q' k,G a q k→G a' q' k→a=a'∧q=q'
 sub:∀t∈els,∀q k,G t.1 q k→F k
theorem flat_get {s:Nat}:∀{els:List El} (h:∀t∈els,t.2.2.length=s) {j q:Nat} {t:El},els[j]? =some t→q<s→(els.flatMap ck)[j*s+q]? =t.2.2[q]?
 | [],_,j,q,t,hj,_=>by simp at hj
 | a::els,h,0,q,t,hj,hq=>by
   simp at hj
   subst hj
   rw [List.flatMap_cons,Nat.zero_mul,Nat.zero_add,List.getElem?_append_left (by rw [show ck a=a.2.2 from rfl,h a List.mem_cons_self];exact hq)]
   rfl
 | a::els,h,j+1,q,t,hj,hq=>by
   have hl:(ck a).length=s:=h a List.mem_cons_self
   rw [List.flatMap_cons,List.getElem?_append_right (by rw [hl,Nat.succ_mul];omega),show(j+1)*s+q - (ck a).length=j*s+q by rw [hl,Nat.succ_mul];omega]
   exact flat_get (fun t ht=>h t (List.mem_cons_of_mem _ ht)) (by simpa using hj) hq
theorem aaU {els:List El} (nd:(els.map (·.1)).Nodup) {j j':Nat} {t t':El} (h:els[j]? =some t) (h':els[j']? =some t') (e:t.1=t'.1):j=j':=by
 obtain⟨hj,rfl⟩:=List.getElem?_eq_some_iff.1 h
 obtain⟨hj',rfl⟩:=List.getElem?_eq_some_iff.1 h'
 have h1:=List.pairwise_iff_getElem.1 nd
 rcases Nat.lt_trichotomy j j' with h2 | h2 | h2
 ·have:=h1 j j' (by simpa using hj) (by simpa using hj') h2
  simp at this
  exact(this e).elim
 ·exact h2
 ·have:=h1 j' j (by simpa using hj') (by simpa using hj) h2
  simp at this
  exact(this e.symm).elim
theorem Fam.close {e:Nat} {els:List El} {G:Nat→Nat→Nat→Prop} {v:Value} (h:Fam sz w e F els G) (hr:w.ownsRow 0 e (sz e) v els.length (els.flatMap ck)) (nd:(els.map (·.1)).Nodup) (hne:∀t∈els,∀q k,G t.1 q k→some k≠v.ownBlock) (ho:∀g,v.ownBlock=some g→F g):
  Ow sz w F (.sl e (els.map (·.2.1))) v:=by
 have hlen:∀t∈els,t.2.2.length=sz e:=fun t ht=>(h.el t ht).2.1
 refine EG (flat:=els.flatMap ck) (by rw [List.length_map];exact hr) (fun j q=>(els.flatMap ck).getD (j*sz e+q) undef) (fun j q k=>∃t,els[j]? =some t∧G t.1 q k) ?_ ?_ ?_ ?_ ho
 ·intro j l hj
  rw [List.getElem?_map] at hj
  obtain⟨t,ht,rfl⟩:=Option.map_eq_some_iff.1 hj
  exact(h.el t (List.mem_of_getElem? ht)).1
 ·intro j l q x hj hq
  rw [List.getElem?_map] at hj
  obtain⟨t,ht,rfl⟩:=Option.map_eq_some_iff.1 hj
  have h1:=h.el t (List.mem_of_getElem? ht)
  obtain⟨u,h2,h3⟩:=h1.2.2 q x hq
  have kH:q<sz e:=by rw [←h1.1];exact(List.getElem?_eq_some_iff.1 hq).1
  have h4:=(flat_get hlen ht kH).trans h2
  rw [List.getD_eq_getElem?_getD,h4]
  exact⟨rfl,h3.mono (fun k hk=>⟨t,ht,hk⟩)⟩
 ·rintro j q k ⟨t,ht,hk⟩
  exact⟨h.sub t (List.mem_of_getElem? ht) q k hk,hne t (List.mem_of_getElem? ht) q k hk⟩
 ·rintro j q j' q' k ⟨t,ht,hk⟩ ⟨t',ht',hk'⟩
  obtain⟨e1,e2⟩:=h.ap _ _ _ _ k hk hk'
  exact⟨aaU nd ht ht' e1,e2⟩
theorem Fh {flat:List Value} {s:Nat}:∀n,(List.range n).flatMap (fun j=>(flat.drop (j*s)).take s)=flat.take (n*s)
 | 0=>by simp
 | n+1=>by
   rw [List.range_succ,List.flatMap_append,Fh n,Nat.succ_mul,List.take_add]
   simp
theorem ow_open {e:Nat} {xs:List (List V)} {v:Value} (h:Ow sz w F (.sl e xs) v):∃els G,els.map (·.2.1)=xs∧els.map (·.1)=List.range xs.length∧Fam sz w e (fun k=>F k∧k<w.heap.size) els G∧w.ownsRow 0 e (sz e) v els.length (els.flatMap ck)∧(∀a q k,G a q k→some k≠v.ownBlock)∧∀g,v.ownBlock=some g→F g∧g<w.heap.size:=by
 obtain⟨flat,h1,f,G,h2,h3,h4,h5,h6⟩:=sO h.bound
 have hl:((List.range xs.length).map fun j=>((j,xs.getD j [],(flat.drop (j*sz e)).take (sz e)):El)).length=xs.length:=by simp
 refine⟨(List.range xs.length).map fun j=>((j,xs.getD j [],(flat.drop (j*sz e)).take (sz e)):El),G,?_,by simp [Function.comp_def],⟨?_,h5,fun t ht q k hk=>(h4 _ _ _ hk).1⟩,?_,fun a q k hk=>(h4 _ _ _ hk).2,h6⟩
 ·rw [List.map_map]
  apply List.ext_getElem?
  intro j
  rw [List.getElem?_map]
  by_cases hj:j<xs.length
  ·rw [List.getElem?_range hj];simp [hj]
  ·rw [List.getElem?_eq_none (by simpa using hj)];simp [hj]
 ·intro t ht
  obtain⟨j,hj,rfl⟩:=List.mem_map.1 ht
  have hj:=List.mem_range.1 hj
  have hx:xs[j]? =some (xs.getD j []):=by simp [hj]
  have hs:=h2 j _ hx
  refine⟨hs,?_,fun q y hq=>?_⟩
  ·have h7:=h1.1
   rw [List.length_take,List.length_drop,h7]
   have:(j+1)*sz e≤xs.length*sz e:=Nat.mul_le_mul_right _ hj
   rw [Nat.succ_mul] at this
   omega
  ·obtain⟨h7,h8⟩:=h3 j _ q y hx hq
   have kH:q<sz e:=by rw [←hs];exact(List.getElem?_eq_some_iff.1 hq).1
   exact⟨f j q,by rw [List.getElem?_take_of_lt kH,List.getElem?_drop];exact h7,h8⟩
 ·rw [hl,List.flatMap_map]
  have:=Fh (flat:=flat) (s:=sz e) xs.length
  rw [List.take_of_length_le (by rw [h1.1];exact Nat.le_refl _)] at this
  show w.ownsRow 0 e (sz e) v xs.length ((List.range xs.length).flatMap fun j=>(flat.drop (j*sz e)).take (sz e))
  rw [this]
  exact h1
theorem Fam.frame {e:Nat} {els:List El} {G:Nat→Nat→Nat→Prop} (h:Fam sz w e F els G) (hf:∀t∈els,∀q k,G t.1 q k→w'.heap[k]? =w.heap[k]?):Fam sz w' e F els G:=
 ⟨fun t ht=>⟨(h.el t ht).1,(h.el t ht).2.1,fun q y hq=>by obtain⟨u,h1,h2⟩:=(h.el t ht).2.2 q y hq;exact⟨u,h1,h2.frame (fun k hk _=>hf t ht q k hk)⟩⟩,h.ap,h.sub⟩
theorem Fam.sublist {e:Nat} {els els':List El} {G:Nat→Nat→Nat→Prop} (h:Fam sz w e F els G) (hs:∀t∈els',t∈els):Fam sz w e F els' G:=⟨fun t ht=>h.el t (hs t ht),h.ap,fun t ht=>h.sub t (hs t ht)⟩
theorem row_part {e:Nat} {xs:List (List V)} {v v':Value} {els els':List El} {G:Nat→Nat→Nat→Prop} (h0:els.map (·.2.1)=xs) (h1:els.map (·.1)=List.range xs.length) (h:Fam sz w e (fun k=>F k∧k<w.heap.size) els G) (hne:∀a q k,G a q k→some k≠v.ownBlock) (ho:∀g,v.ownBlock=some g→F g∧g<w.heap.size)
  (hr:w'.ownsRow 0 e (sz e) v' els'.length (els'.flatMap ck)) (hs:els'.Sublist els) (hg:w.grownBy w' v.ownBlock) (hv:v'.ownBlock=v.ownBlock):Ow sz w' (fun k=>F k∧k<w.heap.size) (.sl e (els'.map (·.2.1))) v':=by
 refine((h.sublist (fun t ht=>hs.subset ht)).frame (w':=w') (fun t ht q k hk=>?_)).close hr ?_ (fun t _ q k hk=>by rw [hv];exact hne _ _ _ hk) (fun g hg'=>ho g (by rw [←hv];exact hg'))
 ·exact hg.block k (h.sub t (hs.subset ht) q k hk).2 (hne _ _ _ hk)
 ·have:(els'.map (·.1)).Sublist (els.map (·.1)):=hs.map _
  rw [h1] at this
  exact this.nodup List.nodup_range
theorem row_in {e i:Nat} {xs:List (List V)} {y:List V} {v v':Value} {els:List El} {G:Nat→Nat→Nat→Prop} {F2:Nat→Prop} (h0:els.map (·.2.1)=xs) (h1:els.map (·.1)=List.range xs.length) (h:Fam sz w e (fun k=>F k∧k<w.heap.size) els G) (hne:∀a q k,G a q k→some k≠v.ownBlock) (ho:∀g,v.ownBlock=some g→F g∧g<w.heap.size)
  {t2:El} {G2:Nat→Nat→Nat→Prop} (h2:Fam sz w e (fun k=>F2 k∧k<w.heap.size) [t2] G2) (hne2:∀k,F2 k→some k≠v.ownBlock) (hap:∀k,F k→F2 k→False) (ht2:t2.2.1=y)
  (hi:i≤els.length) (hr:w'.ownsRow 0 e (sz e) v' (els.length+1) (els.take i++t2::els.drop i |>.flatMap ck)) (hg:w.grownBy w' v.ownBlock) (hv:v'.ownBlock=v.ownBlock∨∃b,v'.ownBlock=some b∧w.heap.size≤b):Ow sz w' (fun k=>(F k∨F2 k)∧k<w.heap.size∨v'.ownBlock=some k) (.sl e (xs.take i++y::xs.drop i)) v':=by
 have hxl:els.length=xs.length:=by rw [←h0];simp
 let t3:El:=(xs.length,t2.2.1,t2.2.2)
 have hfl:(els.take i++t3::els.drop i).flatMap ck=(els.take i++t2::els.drop i).flatMap ck:=by simp [List.flatMap_append,List.flatMap_cons,ck,t3]
 have hmap:(els.take i++t3::els.drop i).map (·.2.1)=xs.take i++y::xs.drop i:=by
  rw [List.map_append,List.map_cons,List.map_take,List.map_drop,h0]
  show _++t2.2.1::_=_
  rw [ht2]
 have hlt:∀t∈els,t.1<xs.length:=fun t ht=>by
  have:t.1∈els.map (·.1):=List.mem_map.2 ⟨t,ht,rfl⟩
  rw [h1] at this
  exact List.mem_range.1 this
 have hmem:∀t∈els.take i++t3::els.drop i,t=t3∨t∈els:=fun t ht=>by
  rcases List.mem_append.1 ht with ht | ht
  ·exact .inr (List.mem_of_mem_take ht)
  ·rcases List.mem_cons.1 ht with ht | ht
   ·exact .inl ht
   ·exact .inr (List.mem_of_mem_drop ht)
 rw [←hmap]
 have hnew:∀k,k<w.heap.size→some k≠v.ownBlock→some k≠v'.ownBlock:=fun k hk hn e=>by
  rcases hv with hv | ⟨b,hb,hl⟩
  ·exact hn (by rw [←hv];exact e)
  ·rw [hb] at e
   have:=Option.some.inj e
   omega
 let G3:Nat→Nat→Nat→Prop:=fun a q k=>(a<xs.length∧G a q k∧F k∧k<w.heap.size)∨(a=xs.length∧G2 t2.1 q k)
 have hf2:∀q k,G2 t2.1 q k→F2 k∧k<w.heap.size:=fun q k hk=>h2.sub t2 (List.mem_singleton.2 rfl) q k hk
 have hG3:∀t∈els.take i++t3::els.drop i,∀q k,G3 t.1 q k→((F k∨F2 k)∧k<w.heap.size)∧some k≠v.ownBlock:=fun t ht q k hk=>by
  rcases hk with ⟨_,h3,h4,h5⟩ | ⟨_,h3⟩
  ·exact⟨⟨.inl h4,h5⟩,hne _ _ _ h3⟩
  ·exact⟨⟨.inr (hf2 q k h3).1,(hf2 q k h3).2⟩,hne2 k (hf2 q k h3).1⟩
 have hfr:∀k,k<w.heap.size→some k≠v.ownBlock→w'.heap[k]? =w.heap[k]?:=fun k hk hn=>hg.block k hk hn
 refine Fam.close (G:=G3) ⟨fun t ht=>?_,?_,fun t ht q k hk=> .inl (hG3 t ht q k hk).1⟩ ?_ ?_ (fun t ht q k hk=>hnew k (hG3 t ht q k hk).1.2 (hG3 t ht q k hk).2) (fun g hg'=> .inr hg')
 ·rcases hmem t ht with rfl | hm
  ·obtain⟨a1,a2,a3⟩:=h2.el t2 (List.mem_singleton.2 rfl)
   refine⟨a1,a2,fun q y hq=>?_⟩
   obtain⟨u,a4,a5⟩:=a3 q y hq
   exact⟨u,a4,(a5.frame (w':=w') (fun k hk _=>hfr k (hf2 q k hk).2 (hne2 k (hf2 q k hk).1))).mono (fun k hk=> .inr ⟨rfl,hk⟩)⟩
  ·obtain⟨a1,a2,a3⟩:=h.el t hm
   refine⟨a1,a2,fun q y hq=>?_⟩
   obtain⟨u,a4,a5⟩:=a3 q y hq
   exact⟨u,a4,(a5.frame (w':=w') (fun k hk _=>hfr k (h.sub t hm q k hk).2 (hne _ _ _ hk))).mono (fun k hk=> .inl ⟨hlt t hm,hk,(h.sub t hm q k hk).1,(h.sub t hm q k hk).2⟩)⟩
 ·rintro a q a' q' k (⟨b1,b2,b3,b4⟩ | ⟨b1,b2⟩) (⟨c1,c2,c3,c4⟩ | ⟨c1,c2⟩)
  ·exact h.ap _ _ _ _ k b2 c2
  ·exact(hap k b3 (hf2 _ k c2).1).elim
  ·exact(hap k c3 (hf2 _ k b2).1).elim
  ·exact⟨b1.trans c1.symm,(h2.ap _ _ _ _ k b2 c2).2⟩
 ·rw [hfl,show(els.take i++t3::els.drop i).length=els.length+1 by simp;omega]
  exact hr
 ·have hp:((els.take i++t3::els.drop i).map (·.1)).Perm (t3.1::els.map (·.1)):=by
   have:=(List.perm_middle (a:=t3) (l₁:=els.take i) (l₂:=els.drop i)).map (·.1)
   rw [List.take_append_drop] at this
   exact this
  rw [hp.nodup_iff,h1]
  exact List.nodup_cons.2 ⟨fun hm=>by have:=List.mem_range.1 hm;simp [t3] at this,List.nodup_range⟩
end
section
variable {T:dX} {w w':World} {Fw:Nat→Nat→Prop} {ev:Nat→Value}
end
end Go.Proofs.YtcnfgfomholheaaGreatDoor.Z
end
section
namespace Go.Proofs.YtcnfgfomholheaaGreatDoor.Z
open Go.RowKit Go.ChangeShapes
set_option linter.unusedVariables false
section
variable {T:dX} {H:Type} {enc:TypeId × Value→H} {P:Program} {W:World} {base:Nat} {spare:Nat→Bool} {held:Bool} {α β:Type} {t e:TypeId} {m:Nat}
abbrev rG:Nat→Prop:=fun _=>True
def Opn (T:dX) (enc:TypeId × Value→H) (P:Program) (W:World) (base:Nat) (spare:Nat→Bool) (held:Bool) (m:Nat) (t:TypeId) {α:Type} (tc:α→List (C0 T.Tb)) (fit:α→Prop):Prop:=
 ∀fuel,fuel≤m→∀cs x,DataW.trod enc P W base spare held fuel t cs=some x→(x.1.weights P t).all (·≤reachBytes)=true→∃a,eP W rG (tc a) cs∧fit a
def Uu (T:dX) (enc:TypeId × Value→H) (P:Program) (W:World) (base:Nat) (spare:Nat→Bool) (held:Bool) (m:Nat) (fs:List Field) (o N:Nat) {α:Type} (tc:α→List (C0 T.Tb)) (fit:α→Prop):Prop:=
 o≤N∧∀n,n≤m→∀(cs:List Value) (xs:List (DataW H × List MemPlace)),cs.length=N→xs.length=fs.length→
  (∀(i:Nat) (f:Field),fs[i]? =some f→DataW.trod enc P W base spare held n f.type ((cs.drop f.offset).take (P.cellsOf f.type))=xs[i]?)→
  (DataW.weightsEach P (fs.map (·.type)) (xs.map (·.1))).all (·≤reachBytes)=true→∃a,eP W rG (tc a) (cs.drop o)∧fit a
theorem Dq:∀{x y:List (C0 T.Tb)} {u v:List Value},eP W rG x u→eP W rG y v→eP W rG (x++y) (u++v)
 | [],_,_,_,h,h'=>by cases h;exact h'
 | c::cs,_,_,_,⟨a,r,e,h1,h2⟩,h'=>by subst e;exact⟨a,_,rfl,h1,Dq h2 h'⟩
theorem Dt:∀{x:List (C0 T.Tb)} {u:List Value},eP W rG x u→∀{q:Nat} {c:C0 T.Tb},x[q]? =some c→∃v,u[q]? =some v∧Rd T.sz W rG (c.yZ T.enc) v
 | [],_,_,q,c,h=>by simp at h
 | c0::cs,_,⟨a,r,e,h1,h2⟩,0,c,h=>by
   subst e
   simp at h;subst h
   refine⟨a,rfl,?_⟩
   cases c0 with
   | sc v=>obtain⟨h3,h4⟩:=h1;subst h3;exact .sc _ h4
   | sl e l=>exact h1
 | c0::cs,_,⟨a,r,e,h1,h2⟩,q+1,c,h=>by subst e;simpa using Dt h2 (q:=q) (by simpa using h)
theorem sD {k:IntKind} (ht:P.underlying t=some (.int k)):Opn T enc P W base spare held m t (fun n:Int=>[.sc (.int k n)]) (fun x=>(Lit.int k x).wf=true):=by
 intro fuel _ cs x h _
 obtain⟨n,rfl,_,hw⟩:=DataW.trod_int ht h
 exact⟨n,⟨_,[],rfl,⟨rfl,rfl⟩,rfl⟩,hw⟩
theorem uU (ht:P.underlying t=some .string):Opn T enc P W base spare held m t (fun s:ByteArray=>[.sc (.string s)]) (fun s=>s.size≤140737488351232):=by
 intro fuel _ cs x h hw
 obtain⟨s,rfl,rfl,_⟩:=DataW.trod_string ht h
 refine⟨s,⟨_,[],rfl,⟨rfl,rfl⟩,rfl⟩,?_⟩
 have z:s.data.toList.length≤reachBytes:=by simpa [DataW.weights] using hw
 rw [Array.length_toList] at z
 exact z
theorem QT {γ:Type} (f:Nat→Option γ):∀(n:Nat) (l:List γ),(List.range n).mapM f=some l→l.length=n∧∀(i:Nat) a,l[i]? =some a→f i=some a:=by
 intro n l h
 have h1:=mapM_some_length h
 rw [List.length_range] at h1
 refine⟨h1,fun i a hi=>?_⟩
 have hl:i<n:=by
  rcases Nat.lt_or_ge i l.length with q | q
  ·omega
  ·rw [List.getElem?_eq_none q] at hi;cases hi
 have h2:=mapM_some_get h i i (by simp [hl])
 rw [h2,hi]
theorem QU {a:Addr} {n:Nat} {cs:List Value} (h:W.cells? base a n=some cs):cs.length=n∧∀(i:Nat) u,cs[i]? =some u→W.cell? (a.add i)=some u:=by
 unfold World.cells? at h
 by_cases hb:base≤a.block
 ·rw [if_pos hb] at h
  exact QT _ n cs h
 ·rw [if_neg hb] at h;cases h
theorem O4 {γ:Type} {Q:Nat→γ→Prop}:∀n:Nat,(∀i,i<n→∃a,Q i a)→∃l:List γ,l.length=n∧∀i p,l[i]? =some p→Q i p
 | 0,_=>⟨[],rfl,fun i p h=>by simp at h⟩
 | n+1,h=>by
   obtain⟨l,hl,hq⟩:=O4 n (fun i hi=>h i (by omega))
   obtain⟨a,ha⟩:=h n (by omega)
   refine⟨l++[a],by simp [hl],fun i p hi=>?_⟩
   rcases Nat.lt_or_ge i n with q | q
   ·rw [List.getElem?_append_left (by omega)] at hi
    exact hq i p hi
   ·rw [List.getElem?_append_right (by omega),hl] at hi
    have e:i - n=0:=by
     rcases Nat.eq_zero_or_pos (i - n) with z | z
     ·exact z
     ·rw [List.getElem?_eq_none (by simp;omega)] at hi;cases hi
    rw [e] at hi
    have e2:i=n:=by omega
    have e3:a=p:=by simpa using hi
    rw [e2,←e3]
    exact ha
theorem xX:∀(l:List (DataW H)) (y:DataW H),y∈l→(DataW.weightsAll P e l).all (·≤reachBytes)=true→(y.weights P e).all (·≤reachBytes)=true
 | a::r,y,hy,h=>by
   rw [DataW.weightsAll,List.all_append,Bool.and_eq_true] at h
   rcases List.mem_cons.1 hy with rfl | hy
   ·exact h.1
   ·exact xX r y hy h.2
theorem ou {fit:T.Tb e→Prop} {ei:TI} (dY:T.ti e=some ei) (hlen:∀a:T.Tb e,(T.cells e a).length=ei.size) (ht:P.underlying t=some (.slice e)) (hsz:P.cellsOf e=ei.size) (h0:Nat.ble 1 ei.size=true) (hB:Nat.ble 1 (P.bytesOf e)=true) (he:Opn T enc P W base spare held m e (T.cells e) fit):
  Opn T enc P W base spare held (m+1) t (fun l:List (T.Tb e)=>[.sl e l]) (fun l=>l.length≤140737488351232∧∀x∈l,fit x):=by
 intro fuel hfm cs x h hw
 rcases DataW.trod_slice ht h with ⟨rfl,rfl⟩ | ⟨a,len,cap,elems,rest,n,hn,rfl,rfl,hb,hl,hm,hlen2,hel,hsp,hns⟩
 ·exact⟨[],⟨_,[],rfl, .nil e none 0,rfl⟩,by simp,by simp⟩
 ·have hw2:(elems.length+rest.length)*P.bytesOf e≤reachBytes∧(DataW.weightsAll P e (elems.map (·.1))).all (·≤reachBytes)=true:=by
   simp only [DataW.weights,ht,List.all_cons,List.all_append,Bool.and_eq_true,decide_eq_true_eq,List.length_map] at hw
   exact⟨hw.1,hw.2.1⟩
  have hs:T.sz e=ei.size:=kV dY
  have each:∀i,i<len→∃p:T.Tb e,fit p∧∃c:List Value,eP W rG (T.cells e p) c∧∀j u,c[j]? =some u→W.cell? (a.add (i*T.sz e+j))=some u:=by
   intro i hi
   have h1:=hel i hi
   have hi':i<elems.length:=by omega
   rw [List.getElem?_eq_getElem hi'] at h1
   obtain⟨c,hcs,htr⟩:=Option.bind_eq_some_iff.1 h1
   obtain⟨hcl,hcc⟩:=QU hcs
   obtain⟨p,hK,hf⟩:=he n (by omega) c _ htr (xX _ _ (List.mem_map_of_mem (List.getElem_mem hi')) hw2.2)
   refine⟨p,hf,c,hK,fun j u hu=>?_⟩
   have:=hcc j u hu
   rw [add_add,hsz,←hs] at this
   exact this
  obtain⟨l,hll,hlq⟩:=O4 len each
  subst hll
  have key:∀(j:Nat) (l':List V) (q:Nat) (x:V),(l.map (T.enc e))[j]? =some l'→l'[q]? =some x→∃u,W.cell? (a.add (j*T.sz e+q))=some u∧Rd T.sz W rG x u:=by
   intro j l' q x hj hq
   rw [List.getElem?_map] at hj
   obtain⟨p,hp,rfl⟩:=Option.map_eq_some_iff.1 hj
   rw [T.gG,List.getElem?_map] at hq
   obtain⟨c0,hc0,rfl⟩:=Option.map_eq_some_iff.1 hq
   obtain⟨_,c,hc,hcc⟩:=hlq j p hp
   obtain⟨u,hu,hr⟩:=Dt hc hc0
   exact⟨u,hcc q u hu,hr⟩
  refine⟨l,⟨_,[],rfl,?_,rfl⟩,?_,fun x hx=>?_⟩
  ·show Rd T.sz W rG (.sl e (l.map (T.enc e))) _
   by_cases hnil:l=[]
   ·subst hnil;exact .nil e (some a) cap
   ·have hpos:0<l.length:=List.length_pos_iff.2 hnil
    have hlt:a.block<W.heap.size:=by
     have hz:0<(T.cells e l[0]).length:=by rw [hlen];exact Nat.le_of_ble_eq_true h0
     obtain⟨u,hu,_⟩:=key 0 (T.enc e l[0]) 0 _ (by simp [hpos]) (by rw [T.gG,List.getElem?_map,List.getElem?_eq_getElem hz];rfl)
     have:=World.block_lt_of_cell? W _ hu
     rwa [Ku] at this
    have:=Rd.sl (sz:=T.sz) (w:=W) (P:=rG) e (l.map (T.enc e)) a cap (fun j q=>((W.cell? (a.add (j*T.sz e+q))).getD undef)) (by simpa using hl) trivial hlt
     (fun j l' hj=>by
      rw [List.getElem?_map] at hj
      obtain⟨p,hp,rfl⟩:=Option.map_eq_some_iff.1 hj
      rw [T.gG,List.length_map,hlen,hs])
     (fun j l' q x hj hq=>by obtain⟨u,hu,_⟩:=key j l' q x hj hq;simp [hu])
     (fun j l' q x hj hq=>by obtain⟨u,hu,hr⟩:=key j l' q x hj hq;simp only [hu,Option.getD_some];exact hr)
    rw [List.length_map] at this
    exact this
  ·have h1:l.length*P.bytesOf e≤(elems.length+rest.length)*P.bytesOf e:=Nat.mul_le_mul_right _ (by omega)
   have h2:l.length*1≤l.length*P.bytesOf e:=Nat.mul_le_mul_left _ (Nat.le_of_ble_eq_true hB)
   have h3:=hw2.1
   have h4:reachBytes=140737488351232:=rfl
   omega
  ·obtain⟨i,hi,rfl⟩:=List.mem_iff_getElem.1 hx
   exact(hlq i _ (List.getElem?_eq_getElem hi)).1
theorem wB {tc:α→List (C0 T.Tb)} {fit:α→Prop} {f:Field} {o N:Nat} (ho:f.offset=o) (hT:N=o+P.cellsOf f.type) (h:Opn T enc P W base spare held m f.type tc fit):Uu T enc P W base spare held m [f] o N tc fit:=by
 subst ho hT
 refine⟨by omega,?_⟩
 intro n hn cs xs hl hx hq hw
 have h0:=hq 0 f rfl
 match xs,hx with
 | [y],_=>
   have e:(cs.drop f.offset).take (P.cellsOf f.type)=cs.drop f.offset:=List.take_of_length_le (by rw [List.length_drop];omega)
   rw [e] at h0
   refine h n hn _ y h0 ?_
   simpa [DataW.weightsEach] using hw
theorem lq {a:α→List (C0 T.Tb)} {b:β→List (C0 T.Tb)} {ab2:α→Prop} {ab3:β→Prop} {f:Field} {fs:List Field} {o N:Nat} (ho:f.offset=o) (h:Opn T enc P W base spare held m f.type a ab2) (hs:Uu T enc P W base spare held m fs (o+P.cellsOf f.type) N b ab3):
  Uu T enc P W base spare held m (f::fs) o N (fun p:α × β=>a p.1++b p.2) (fun p=>ab2 p.1∧ab3 p.2):=by
 subst ho
 have hle:=hs.1
 refine⟨by omega,?_⟩
 intro n hn cs xs hl hx hq hw
 match xs,hx with
 | y::ys,hx=>
   have h0:=hq 0 f rfl
   simp only [List.map_cons,DataW.weightsEach,List.all_append,Bool.and_eq_true] at hw
   obtain⟨p,hK,hf⟩:=h n hn _ y h0 hw.1
   obtain⟨q,hK2,hf2⟩:=hs.2 n hn cs ys hl (by simpa using hx) (fun i f' hf'=>hq (i+1) f' hf') hw.2
   refine⟨(p,q),?_,hf,hf2⟩
   have:=Dq hK hK2
   rwa [←List.drop_drop,List.take_append_drop] at this
theorem qW {fs:Array Field} {tc:α→List (C0 T.Tb)} {fit:α→Prop} (ht:P.underlying t=some (.struct fs)) (h:Uu T enc P W base spare held m fs.toList 0 (P.cellsOf t) tc fit) (g:α→β) {tc':β→List (C0 T.Tb)} {fit':β→Prop} (hg:∀a,tc' (g a)=tc a) (hf':∀a,fit a→fit' (g a)):Opn T enc P W base spare held (m+1) t tc' fit':=by
 intro fuel hfm cs x hx hw
 obtain⟨xs,n,hn,rfl,hl,hxl,hq⟩:=DataW.trod_struct ht hx
 obtain⟨a,h1,h2⟩:=h.2 n (by omega) cs xs hl (by simpa using hxl) (fun i f hf=>hq i f (by simpa using hf)) (by simpa [DataW.weights,ht] using hw)
 rw [List.drop_zero] at h1
 exact⟨g a,by rw [hg];exact h1,hf' a h2⟩
theorem Opn.fit {tc:α→List (C0 T.Tb)} {fit fit':α→Prop} (h:Opn T enc P W base spare held m t tc fit) (hf:∀a,fit a→fit' a):Opn T enc P W base spare held m t tc fit':=fun fuel hm cs x hx hw=>by
 obtain⟨a,h1,h2⟩:=h fuel hm cs x hx hw
 exact⟨a,h1,hf a h2⟩
theorem Opn.le {tc:α→List (C0 T.Tb)} {fit:α→Prop} {m':Nat} (h:Opn T enc P W base spare held m t tc fit) (hm:m'≤m):Opn T enc P W base spare held m' t tc fit:=fun fuel hf=>h fuel (Nat.le_trans hf hm)
theorem VU {f:FuncId} {args:List (Arg T.Tb)} {r:Bool} (h:aH T P f args (.c (.sc (.bool r)))) (hj:T.J W) {vs:List Value} (ha:nM W rG args vs):Calls P f vs.toArray W fun e w'=>e= .returned (.bool r)∧Below W.heap.size W w':=by
 refine(h.2 W vs rG hj ha).mono ?_
 rintro e w' ⟨v,G,rfl,hb,_,_,fv,hf,r',h1,_,_⟩
 have h2:fv=[v]:=hf
 rw [h2] at h1
 cases h1
 exact⟨rfl,hb⟩
theorem JR {ts:List TypeId} {ds:List (DataW H)} {j:Nat} {tc:α→List (C0 T.Tb)} {fit:α→Prop} {v:Value} {x:DataW H} {ps:List MemPlace} (hsz:(DataW.weightsEach P ts ds).all (·≤reachBytes)=true) (ht:ts[j]? =some t) (hd:ds[j]? =some x)
  (h:DataW.Trod enc P W base spare held t v x ps) (ho:∀m,Opn T enc P W base spare held m t tc fit):∃a,eP W rG (tc a) v.cells.toList∧fit a:=by
 obtain⟨fuel,hf⟩:=h
 exact ho fuel fuel (Nat.le_refl _) _ _ hf (List.all_eq_true.2 fun n hn=>List.all_eq_true.1 hsz n (DataW.weights_mem_each ht hd n hn))
end
end Go.Proofs.YtcnfgfomholheaaGreatDoor.Z
end
section
namespace Go.Proofs.YtcnfgfomholheaaGreatDoor.Z
open Go.RowKit
set_option linter.unusedVariables false
set_option linter.unusedSimpArgs false
section
variable {T:dX}
def Gq:List (Nat × Slot T)→Bool
 | []=>true
 | (_,s)::l=>match okS s with
   | true=>Gq l
   | false=>false
def Gs:List (Nat × dB T)→Bool
 | []=>true
 | (_,x)::l=>match uK x.cells with
   | true=>Gs l
   | false=>false
theorem LX (t:Nat):∀{l:List (Nat × Slot T)},Gq l=true→okS (lk (.c .un) l t)=true
 | [],_=>rfl
 | (k,s)::l,h=>by
   unfold Gq at h
   cases hs:okS s<;>rw [hs] at h
   ·cases h
   ·unfold lk
    cases Nat.beq k t
    ·exact LX t h
    ·exact hs
theorem LY (r:Nat):∀{l:List (Nat × dB T)},Gs l=true→uK (lk .no l r).cells=true
 | [],_=>rfl
 | (k,x)::l,h=>by
   unfold Gs at h
   cases hs:uK x.cells<;>rw [hs] at h
   ·cases h
   ·unfold lk
    cases Nat.beq k r
    ·exact LY r h
    ·exact hs
variable {σ σ':St T} {env env':Nat→Value} {F F':Nat→Nat→Prop} {w:World}
theorem IQ (hA:σ'.A=σ.A) (hF:∀k,(∀r,¬F r k)→∀r,¬F' r k) {c:Cell T} {v:Value} (hc:Si c=true) (he:∀r∈c.refs,env' r=env r) (h:iK σ env F w c v):iK σ' env' F' w c v:=by
 cases c with
 | un=>trivial
 | sc v'=>exact h
 | im p e l=>
   cases p with
   | none=>exact⟨h.1,fun _=>(h.2 trivial).mono (fun k hk=>hk.elim (fun⟨a,b⟩=> .inl ⟨by rw [hA];exact a,hF k b⟩) (fun⟨q,hq,_⟩=>by cases hq))⟩
   | some q=>cases hc
 | hd r=>exact⟨h.1.trans (he r (by simp [Cell.refs])).symm,h.2⟩
 | px r o=>obtain⟨g,h1,h2⟩:=h;exact⟨g,(he r (by simp [Cell.refs])).trans h1,h2⟩
theorem tY (hA:σ'.A=σ.A) (hF:∀k,(∀r,¬F r k)→∀r,¬F' r k):∀{cs:List (Cell T)} {vs:List Value},uK cs=true→(∀r∈refsOf cs,env' r=env r)→aY σ env F w cs vs→aY σ' env' F' w cs vs
 | [],_,_,_,h=>h
 | c::cs,_,hc,he,⟨v,r,e,h1,h2⟩=>by
   unfold uK at hc
   cases hcc:Si c<;>rw [hcc] at hc
   ·cases hc
   ·exact⟨v,r,e,IQ hA hF hcc (fun r hr=>he r (List.mem_append_left _ hr)) h1,tY hA hF hc (fun r hr=>he r (List.mem_append_right _ hr)) h2⟩
theorem Uw (hA:σ'.A=σ.A) (hF:∀k,(∀r,¬F r k)→∀r,¬F' r k) {s:Slot T} {v:Value} (hc:okS s=true) (he:∀r∈s.refs,env' r=env r) (h:bT σ env F w s v):bT σ' env' F' w s v:=by
 cases s with
 | ud=>exact h
 | c x=>exact IQ hA hF hc he h
 | ag l=>obtain⟨us,e,h1⟩:=h;exact⟨us,e,tY hA hF hc he h1⟩
 | tu l=>cases hc
 | pi p e l i o=>
   cases p with
   | none=>
     obtain⟨hi,ad,hv,h1⟩:=h
     obtain⟨c,h2⟩:=h1 trivial
     exact⟨hi,ad,hv,fun _=>⟨c,h2.mono (fun k hk=>hk.elim (fun⟨a,b⟩=> .inl ⟨by rw [hA];exact a,hF k b⟩) (fun⟨q,hq,_⟩=>by cases hq))⟩⟩
   | some q=>cases hc
 | pe r i o=>cases hc
 | pl r bv i o e l=>cases hc
 | fn f r=>cases hc
theorem WV (hA:σ'.A=σ.A) (hF:∀k,(∀r,¬F r k)→∀r,¬F' r k) {r:Nat} {x:dB T} (hx:uK x.cells=true) (hs:∀k,F' r k↔F r k) (he:env' r=env r) (hc:∀s∈refsOf x.cells,env' s=env s) (h:oJ σ env F w r x):oJ σ' env' F' w r x:=by
 cases x with
 | no=>exact fun k hk=>h k ((hs k).1 hk)
 | bx t cs=>
   obtain⟨g,arr,h1,h2,h3,h4,h5⟩:=h
   exact⟨g,arr,he.trans h1,(hs g).2 h2,fun k hk=>h3 k ((hs k).1 hk),h4,tY hA hF hx hc h5⟩
 | row bv e l=>
   have h1:Ow T.sz w (F r) (.sl e (l.map (T.enc e))) (env r):=h
   show Ow T.sz w (F' r) (.sl e (l.map (T.enc e))) (env' r)
   rw [he];exact h1.mono (fun k hk=>(hs k).2 hk)
 | sh bv e l=>
   have h1:Sh T.sz (jo σ.A F none) w (F r) e (l.map (T.enc e)) (env r):=h
   show Sh T.sz (jo σ'.A F' none) w (F' r) e (l.map (T.enc e)) (env' r)
   rw [he];exact h1.mono (fun k hk=>(hs k).2 hk) (fun k hk=>hk.elim (fun⟨a,b⟩=> .inl ⟨by rw [hA];exact a,hF k b⟩) (fun⟨q,hq,_⟩=>by cases hq))
 | hl e d i cs l=>
   obtain⟨raw,h1,h2,h3⟩:=h
   refine⟨raw,h1,?_,tY hA hF hx hc h3⟩
   rw [he];exact h2.mono (fun k hk=>(hs k).2 hk)
theorem IU {α:Type} {d:α} {s:Nat}:∀{l m:List (Nat × α)},(∃p∈l,p.1=s)→lk d (l++m) s=lk d l s
 | [],m,⟨p,hp,_⟩=>by cases hp
 | (k,x)::l,m,⟨p,hp,e⟩=>by
   rw [List.cons_append]
   unfold lk
   cases hb:Nat.beq k s
   ·refine IU ?_
    rcases List.mem_cons.1 hp with rfl | hp
    ·rw [show k=s from e] at hb;simp at hb
    ·exact⟨p,hp,e⟩
   ·rfl
theorem IV {α:Type} {d:α} {s:Nat}:∀{l m:List (Nat × α)},(∀p∈l,p.1≠s)→lk d (l++m) s=lk d m s
 | [],m,_=>rfl
 | (k,x)::l,m,h=>by
   rw [List.cons_append]
   have:Nat.beq k s=false:=fD (h (k,x) List.mem_cons_self)
   simp only [lk,this]
   exact IV (fun p hp=>h p (List.mem_cons_of_mem _ hp))
theorem Du {r:Nat} {x1:dB T} {ns:List (Nat × dB T)} (hct:Gq σ.tm=true) (hcr:Gs σ.rs=true) (hfr:∀p∈ns,jI σ p.1∧p.1≠r)
  (h:∀(W0:Fr) (a:Act) (w:World) (env:Nat→Value) (F:Nat→Nat→Prop),eU W0 σ a w env F→∃(bD:Nat→Value) (H:Nat→Nat→Prop),(∀s,(∀p∈ns,p.1≠s)→bD s=env s)∧(∀s k,H s k→(∃p∈ns,p.1=s)∧F r k)∧(∀s s' k,H s k→H s' k→s=s')∧
   ∀(σ1:St T) (F1:Nat→Nat→Prop),σ1.A=σ.A→(∀k,F1 r k↔F r k∧∀s,¬H s k)→(∀p∈ns,∀k,F1 p.1 k↔H p.1 k)→(∀k,(∀s,¬F s k)→∀s,¬F1 s k)→oJ σ1 bD F1 w r x1∧∀p∈ns,oJ σ1 bD F1 w p.1 (lk .no ns p.1)):lD σ ⟨σ.tm,(r,x1)::(ns++σ.rs),σ.n,σ.A⟩:=by
 rintro W0 a w ⟨env,F,hS⟩
 obtain⟨bD,H,he,hH,hHd,hR⟩:=h W0 a w env F hS
 let F1:Nat→Nat→Prop:=fun s k=>(s=r∧F r k∧∀s',¬H s' k)∨(s≠r∧H s k)∨(s≠r∧(∀p∈ns,p.1≠s)∧F s k)
 have hne:∀s k,H s k→s≠r:=fun s k hk e=>by
  obtain⟨⟨p,hp,e1⟩,_⟩:=hH s k hk
  exact(hfr p hp).2 (e1.trans e)
 have hF:∀k,(∀s,¬F s k)→∀s,¬F1 s k:=fun k hk s hs=>by
  rcases hs with ⟨_,h,_⟩ | ⟨_,h⟩ | ⟨_,_,h⟩
  ·exact hk r h
  ·exact hk r (hH s k h).2
  ·exact hk s h
 have hr1:∀k,F1 r k↔F r k∧∀s,¬H s k:=fun k=>⟨fun h=>by
  rcases h with ⟨_,h⟩ | ⟨h,_⟩ | ⟨h,_⟩
  ·exact h
  ·exact(h rfl).elim
  ·exact(h rfl).elim,fun h=> .inl ⟨rfl,h⟩⟩
 have hn1:∀p∈ns,∀k,F1 p.1 k↔H p.1 k:=fun p hp k=>⟨fun h=>by
  rcases h with ⟨h,_⟩ | ⟨_,h⟩ | ⟨_,h,_⟩
  ·exact((hfr p hp).2 h).elim
  ·exact h
  ·exact(h p hp rfl).elim,fun h=> .inr (.inl ⟨(hfr p hp).2,h⟩)⟩
 have hsaid:∀s,(¬jI σ s)→bD s=env s:=fun s hs=>he s (fun p hp e=>hs (e▸(hfr p hp).1))
 obtain⟨hRr,hRn⟩:=hR ⟨σ.tm,(r,x1)::(ns++σ.rs),σ.n,σ.A⟩ F1 rfl hr1 hn1 hF
 refine⟨bD,F1,hS.below,hS.tab,fun s hs=>(hsaid s (fun hu=>absurd hu.2 (Nat.not_lt.2 hs))).trans (hS.pin s hs),hS.acc,hS.size,hS.defers,fun s=>?_,fun s k hk=>?_,fun s s' k h1 h2=>?_,fun t=>?_⟩
 ·show oJ _ bD F1 w s (lk .no ((r,x1)::(ns++σ.rs)) s)
  by_cases e:r=s
  ·subst e
   have:Nat.beq r r=true:=by simp
   simp only [lk,this]
   exact hRr
  ·have:Nat.beq r s=false:=fD e
   simp only [lk,this]
   by_cases hm:∃p∈ns,p.1=s
   ·rw [IU hm]
    obtain⟨p,hp,rfl⟩:=hm
    exact hRn p hp
   ·have hm':∀p∈ns,p.1≠s:=fun p hp e=>hm ⟨p,hp,e⟩
    rw [IV hm']
    refine WV (σ:=σ) (σ':=⟨σ.tm,(r,x1)::(ns++σ.rs),σ.n,σ.A⟩) (env:=env) (F:=F) rfl hF (LY s hcr) (fun k=>⟨fun h=>?_,fun h=> .inr (.inr ⟨fun e'=>e e'.symm,hm',h⟩)⟩) (he s hm') (fun s' hs'=>hsaid s' (fun hu=>hu.1.2 s hs')) (hS.res s)
    rcases h with ⟨h,_⟩ | ⟨_,h⟩ | ⟨_,_,h⟩
    ·exact(e h.symm).elim
    ·exact(hm (hH s k h).1).elim
    ·exact h
 ·rcases hk with ⟨_,h,_⟩ | ⟨_,h⟩ | ⟨_,_,h⟩
  ·exact hS.own r k h
  ·exact hS.own r k (hH s k h).2
  ·exact hS.own s k h
 ·rcases h1 with ⟨e1,h1,n1⟩ | ⟨e1,h1⟩ | ⟨e1,m1,h1⟩<;>rcases h2 with ⟨e2,h2,n2⟩ | ⟨e2,h2⟩ | ⟨e2,m2,h2⟩
  ·rw [e1,e2]
  ·exact(n1 _ h2).elim
  ·exact(e2 (hS.apart _ _ k h2 h1)).elim
  ·exact(n2 _ h1).elim
  ·exact hHd _ _ k h1 h2
  ·exact(e2 (hS.apart _ _ k h2 (hH _ k h1).2)).elim
  ·exact(e1 (hS.apart _ _ k h1 h2)).elim
  ·exact(e1 (hS.apart _ _ k h1 (hH _ k h2).2)).elim
  ·exact hS.apart _ _ k h1 h2
 ·exact Uw (σ:=σ) (σ':=⟨σ.tm,(r,x1)::(ns++σ.rs),σ.n,σ.A⟩) (env:=env) (F:=F) rfl hF (LX t hct) (fun s hs=>hsaid s (fun hu=>hu.1.1 t hs)) (hS.tm t)
theorem WW {e d i d' i':Nat} {raw raw':List (List Value)} {l:List (T.Tb e)} (h:∀q,q<l.length→((q<d∨q=i)↔(q<d'∨q=i'))∧(q<d∨q=i→raw.getD q []=raw'.getD q [])):kY T e d i raw l=kY T e d' i' raw' l:=by
 unfold kY
 refine List.map_congr_left (fun q hq=>?_)
 obtain⟨h1,h2⟩:=h q (List.mem_range.1 hq)
 by_cases hc:q<d∨q=i
 ·rw [if_pos hc,if_pos (h1.1 hc),h2 hc]
 ·rw [if_neg hc,if_neg (fun h=>hc (h1.2 h))]
theorem YQ {e n:Nat} {raw:List (List Value)} {l:List (T.Tb e)} (h:l.length≤n):kY T e 0 n raw l=l.map (T.enc e):=by
 unfold kY
 refine List.ext_getElem (by simp) (fun q h1 h2=>?_)
 have hq:q<l.length:=by simpa using h2
 simp only [List.getElem_map,List.getElem_range]
 rw [if_neg (by omega),List.getD_eq_getElem?_getD,List.getElem?_eq_getElem hq];rfl
theorem Wp {r bv e:Nat} {l:List (T.Tb e)} (hx:σ.res r= .row bv e l) (hct:Gq σ.tm=true) (hcr:Gs σ.rs=true):lD σ ⟨σ.tm,(r, .hl e 0 l.length [] l)::([]++σ.rs),σ.n,σ.A⟩:=by
 refine Du hct hcr (fun p hp=>by cases hp) (fun W0 a w env F hS=>⟨env,fun _ _=>False,fun _ _=>rfl,fun _ _ h=>h.elim,fun _ _ _ h=>h.elim,fun σ1 F1 hA hr hn hF=>⟨⟨[],fun h=>absurd h (Nat.lt_irrefl _),?_,rfl⟩,fun p hp=>by cases hp⟩⟩)
 have h1:=hS.res r
 rw [hx] at h1
 rw [YQ (Nat.le_refl _)]
 exact Ow.mono h1 (fun k hk=>(hr k).2 ⟨hk,fun _ h=>h⟩)
theorem FX {r e i:Nat} {cs:List (Cell T)} {l:List (T.Tb e)} (hx:σ.res r= .hl e i i cs l) (hct:Gq σ.tm=true) (hcr:Gs σ.rs=true):lD σ ⟨σ.tm,(r, .hl e (i+1) l.length [] l)::([]++σ.rs),σ.n,σ.A⟩:=by
 refine Du hct hcr (fun p hp=>by cases hp) (fun W0 a w env F hS=>?_)
 have h1:=hS.res r
 rw [hx] at h1
 obtain⟨raw,h2,h3,h4⟩:=h1
 refine⟨env,fun _ _=>False,fun _ _=>rfl,fun _ _ h=>h.elim,fun _ _ _ h=>h.elim,fun σ1 F1 hA hr hn hF=>⟨⟨raw.take l.length,fun h=>absurd h (Nat.lt_irrefl _),?_,?_⟩,fun p hp=>by cases hp⟩⟩
 ·rw [←WW (d:=i) (i:=i) (raw:=raw) (fun q hq=>⟨by omega,fun _=>by rw [List.getD_eq_getElem?_getD,List.getD_eq_getElem?_getD,List.getElem?_take,if_pos hq]⟩)]
  exact Ow.mono h3 (fun k hk=>(hr k).2 ⟨hk,fun _ h=>h⟩)
 ·show(raw.take l.length).getD l.length []=[]
  rw [List.getD_eq_getElem?_getD,List.getElem?_take,if_neg (Nat.lt_irrefl _)];rfl
def opC (nx:Nat):List (C0 T.Tb)→List (Cell T)
 | []=>[]
 | .sc v::l=> .sc v::opC (nx+1) l
 | .sl e x::l=> .hd nx::opC (nx+1) l
def uS (nx:Nat):List (C0 T.Tb)→List (Nat × dB T)
 | []=>[]
 | .sc _::l=>uS (nx+1) l
 | .sl e x::l=>(nx, .row nx e x)::uS (nx+1) l
theorem zi {p:Nat × dB T}:∀{nx:Nat} {cs:List (C0 T.Tb)},p∈uS nx cs→∃q e x,q<cs.length∧cs[q]? =some (.sl e x)∧p=(nx+q, .row (nx+q) e x)
 | nx, .sc v::l,h=>by
   obtain⟨q,e,x,h1,h2,h3⟩:=zi (nx:=nx+1) (cs:=l) h
   exact⟨q+1,e,x,by simpa using h1,h2,by rw [h3,show nx+1+q=nx+(q+1) by omega]⟩
 | nx, .sl e x::l,h=>by
   rcases List.mem_cons.1 h with rfl | h
   ·exact⟨0,e,x,by simp,rfl,rfl⟩
   ·obtain⟨q,e,x,h1,h2,h3⟩:=zi (nx:=nx+1) (cs:=l) h
    exact⟨q+1,e,x,by simpa using h1,h2,by rw [h3,show nx+1+q=nx+(q+1) by omega]⟩
theorem YR {q e:Nat} {x:List (T.Tb e)}:∀{nx:Nat} {cs:List (C0 T.Tb)},cs[q]? =some (.sl e x)→lk .no (uS nx cs) (nx+q)=(.row (nx+q) e x:dB T):=by
 induction q with
 | zero=>
   intro nx cs h
   cases cs with
   | nil=>simp at h
   | cons c cs=>
     simp at h
     subst h
     show lk .no ((nx, .row nx e x)::uS (nx+1) cs) (nx+0)=_
     have:Nat.beq nx (nx+0)=true:=by simp
     simp only [lk,this];rfl
 | succ q ih=>
   intro nx cs h
   cases cs with
   | nil=>simp at h
   | cons c cs=>
     have h2:cs[q]? =some (.sl e x):=by simpa using h
     have h3:=ih (nx:=nx+1) h2
     rw [show nx+(q+1)=nx+1+q by omega]
     cases c with
     | sc v=>exact h3
     | sl e' x'=>
       show lk .no ((nx, .row nx e' x')::uS (nx+1) cs) (nx+1+q)=_
       have:Nat.beq nx (nx+1+q)=false:=fD (by omega)
       simp only [lk,this]
       exact h3
theorem ab4 {q e:Nat} {x:List (T.Tb e)}:∀{nx:Nat} {cs:List (C0 T.Tb)},cs[q]? =some (.sl e x)→(nx+q,(.row (nx+q) e x:dB T))∈uS nx cs:=by
 induction q with
 | zero=>
   intro nx cs h
   cases cs with
   | nil=>simp at h
   | cons c cs=>simp at h;subst h;exact List.mem_cons_self
 | succ q ih=>
   intro nx cs h
   cases cs with
   | nil=>simp at h
   | cons c cs=>
     have h3:=ih (nx:=nx+1) (show cs[q]? =some (.sl e x) by simpa using h)
     rw [show nx+(q+1)=nx+1+q by omega]
     cases c with
     | sc v=>exact h3
     | sl e' x'=>exact List.mem_cons_of_mem _ h3
theorem Sz {bD:Nat→Value} {F1:Nat→Nat→Prop} {G:Nat→Nat→Prop} {f:Nat→Value} {nx:Nat}:∀{cs:List (C0 T.Tb)} {off:Nat},(∀q c,cs[q]? =some c→Ow T.sz w (G (off+q)) (C0.yZ T.enc c) (f (off+q))∧∀e x,c= .sl e x→bD (nx+(off+q))=f (off+q))→aY σ bD F1 w (opC (nx+off) cs) ((List.range' off cs.length).map f)
 | [],off,h=>rfl
 | c::cs,off,h=>by
   obtain⟨h1,h2⟩:=h 0 c rfl
   rw [Nat.add_zero] at h1 h2
   have ih:=Sz (bD:=bD) (F1:=F1) (nx:=nx) (cs:=cs) (off:=off+1) (fun q c hq=>by
    have:=h (q+1) c (by simpa using hq)
    rw [show off+1+q=off+(q+1) by omega];exact this)
   rw [List.length_cons,List.range'_succ,List.map_cons]
   rw [show nx+(off+1)=nx+off+1 by omega] at ih
   cases c with
   | sc v=>
     refine⟨f off,_,rfl,?_,ih⟩
     have h3:f off=v:=by
      have h1':Ow T.sz w (G off) (.sc v) (f off):=h1
      generalize f off=u at h1'⊢
      cases h1';rfl
     exact⟨h3,Ow.one h1⟩
   | sl e x=>exact⟨f off,_,rfl,⟨(h2 e x rfl).symm,Ow.one h1⟩,ih⟩
theorem Ou {r e d n0 i nx:Nat} {cs0:List (Cell T)} {l:List (T.Tb e)} (hx:σ.res r= .hl e d n0 cs0 l) (hn0:l.length≤n0) (hdi:d≤i) (hi:i<l.length) (hct:Gq σ.tm=true) (hcr:Gs σ.rs=true) (hfr:∀p∈uS nx (T.cells e (bV T e l i)),σ.fresh p.1=true):
  lD σ ⟨σ.tm,(r, .hl e d i (opC nx (T.cells e (bV T e l i))) l)::(uS nx (T.cells e (bV T e l i))++σ.rs),σ.n,σ.A⟩:=by
 have YS:∀p∈uS nx (T.cells e (bV T e l i)),jI σ p.1∧p.1≠r:=fun p hp=>by
  obtain⟨h1,h2⟩:=St.IW (hfr p hp)
  exact⟨h1,fun e=>by rw [e,hx] at h2;cases h2⟩
 refine Du hct hcr YS (fun W0 a w env F hS=>?_)
 have h1:=hS.res r
 rw [hx] at h1
 obtain⟨raw,_,h3,_⟩:=h1
 have hxl:(kY T e d n0 raw l).length=l.length:=kN
 have hxi:(kY T e d n0 raw l)[i]? =some (T.enc e (bV T e l i)):=by rw [qP hi,if_neg (by omega)];rfl
 have hxj:∀(raw':List (List Value)) (j:Nat),j<l.length→j≠i→(∀q,q≠i→q<l.length→raw'.getD q []=raw.getD q [])→(kY T e d i raw' l)[j]? =(kY T e d n0 raw l)[j]?:=fun raw' j hj hne hr=>by
  rw [qP hj,qP hj]
  by_cases hc:j<d
  ·rw [if_pos (.inl hc),if_pos (.inl hc),hr j hne hj]
  ·rw [if_neg (by omega),if_neg (by omega)]
 generalize hxs:kY T e d n0 raw l=xs at h3 hxl hxi hxj
 generalize hv:env r=v at h3
 have hcs:T.cells e (bV T e l i)=T.cells e (bV T e l i):=rfl
 have henc:=T.gG e (bV T e l i)
 generalize T.cells e (bV T e l i)=cs at henc YS⊢
 cases h3 with
 | nil=>simp at hxl;omega
 | sl _ _ _ g cap cur f G hg hF hn hm hz hs hcell hr hG hd=>
   have hci:∀q c,cs[q]? =some c→xs[i]? =some (T.enc e (bV T e l i))∧(T.enc e (bV T e l i))[q]? =some (C0.yZ T.enc c):=fun q c hq=>⟨hxi,by rw [henc,List.getElem?_map,hq];rfl⟩
   have hcl:cs.length=T.sz e:=by rw [←hs i _ hxi,henc,List.length_map]
   refine⟨fun s=>if nx≤s∧s<nx+cs.length∧(∃p∈uS nx cs,p.1=s) then f i (s - nx) else env s,fun s k=>(∃p∈uS nx cs,p.1=s)∧G i (s - nx) k,fun s hs'=>if_neg (fun h=>by obtain⟨_,_,p,hp,e⟩:=h;exact hs' p hp e),fun s k hk=>⟨hk.1,(hG _ _ _ hk.2).1⟩,fun s s' k h1 h2=>?_,fun σ1 F1 hA hr1 hn1 hF1=>⟨?_,fun p hp=>?_⟩⟩
   ·obtain⟨⟨p,hp,rfl⟩,h1⟩:=h1
    obtain⟨⟨p',hp',rfl⟩,h2⟩:=h2
    obtain⟨q,_,_,_,_,rfl⟩:=zi hp
    obtain⟨q',_,_,_,_,rfl⟩:=zi hp'
    have:=(hd _ _ _ _ _ h1 h2).2
    dsimp only at this⊢
    omega
   ·let raw':List (List Value):=(List.range l.length).map (fun q=>if q=i then (List.range' 0 cs.length).map (f i) else raw.getD q [])
    have hraw:∀q,q<l.length→raw'.getD q []=if q=i then (List.range' 0 cs.length).map (f i) else raw.getD q []:=fun q hq=>by
     show((List.range l.length).map _).getD q []=_
     rw [List.getD_eq_getElem?_getD,List.getElem?_map,List.getElem?_range hq];rfl
    have hri:raw'.getD i []=(List.range' 0 cs.length).map (f i):=by rw [hraw i hi,if_pos rfl]
    have hrj:∀q,q≠i→q<l.length→raw'.getD q []=raw.getD q []:=fun q hq hl=>by rw [hraw q hl,if_neg hq]
    refine⟨raw',fun _=>by rw [hri,List.length_map,List.length_range',hcl],?_,?_⟩
    ·have hr0:¬(nx≤r∧r<nx+cs.length∧∃p∈uS nx cs,p.1=r):=fun⟨_,_,p,hp,e⟩=>(YS p hp).2 e
     show Ow T.sz w (F1 r) (.sl e (kY T e d i raw' l)) (if nx≤r∧r<nx+cs.length∧(∃p∈uS nx cs,p.1=r) then f i (r - nx) else env r)
     rw [if_neg hr0,hv,hxl,←kN (T:=T) (e:=e) (d:=d) (i:=i) (raw:=raw') (l:=l)]
     have aef:(kY T e d i raw' l)[i]? =some (((List.range' 0 cs.length).map (f i)).map V.sc):=by rw [qP hi,if_pos (.inr rfl),hri]
     have hget:∀j y,(kY T e d i raw' l)[j]? =some y→(j=i∧y=((List.range' 0 cs.length).map (f i)).map V.sc)∨(j≠i∧xs[j]? =some y):=fun j y hj=>by
      have hjl:j<l.length:=by have:=(List.getElem?_eq_some_iff.1 hj).1;rwa [kN] at this
      by_cases e1:j=i
      ·subst e1;rw [aef] at hj;exact .inl ⟨rfl,(Option.some.inj hj).symm⟩
      ·rw [hxj raw' j hjl e1 hrj] at hj;exact .inr ⟨e1,hj⟩
     have hcq:∀q x,(((List.range' 0 cs.length).map (f i)).map V.sc)[q]? =some x→∃c,cs[q]? =some c∧x=V.sc (f i q):=fun q x hq=>by
      have kH:q<cs.length:=by have:=(List.getElem?_eq_some_iff.1 hq).1;simpa using this
      refine⟨cs[q],List.getElem?_eq_getElem kH,?_⟩
      rw [List.getElem?_map,List.getElem?_map,List.getElem?_range' kH] at hq
      simp at hq
      exact hq.symm
     refine .sl (F1 r) e (kY T e d i raw' l) g cap cur f (fun j q k=>j≠i∧G j q k) hg ((hr1 g).2 ⟨hF,fun s hk=>(hG _ _ _ hk.2).2 rfl⟩) (by rw [kN,←hxl];exact hn) hm hz (fun j y hj=>?_) (fun j y q x hj hq=>?_) (fun j y q x hj hq=>?_) (fun j q k hk=>⟨(hr1 k).2 ⟨(hG _ _ _ hk.2).1,fun s hs'=>hk.1 (hd _ _ _ _ _ hk.2 hs'.2).1⟩,(hG _ _ _ hk.2).2⟩) (fun j q j' q' k h1 h2=>hd _ _ _ _ _ h1.2 h2.2)
     ·rcases hget j y hj with ⟨_,rfl⟩ | ⟨_,h⟩
      ·rw [List.length_map,List.length_map,List.length_range',hcl]
      ·exact hs j y h
     ·rcases hget j y hj with ⟨rfl,rfl⟩ | ⟨_,h⟩
      ·obtain⟨c,hc,rfl⟩:=hcq q x hq
       obtain⟨g1,g2⟩:=hci q c hc
       exact hcell j _ q _ g1 g2
      ·exact hcell j y q x h hq
     ·rcases hget j y hj with ⟨rfl,rfl⟩ | ⟨hne,h⟩
      ·obtain⟨c,hc,rfl⟩:=hcq q x hq
       obtain⟨g1,g2⟩:=hci q c hc
       exact .sc _ _ (Ow.one (hr j _ q _ g1 g2))
      ·exact(hr j y q x h hq).mono (fun k hk=>⟨hne,hk⟩)
    ·rw [hri]
     refine Sz (G:=G i) (off:=0) (fun q c hq=>?_)
     obtain⟨g1,g2⟩:=hci q c hq
     rw [Nat.zero_add]
     refine⟨hr i _ q _ g1 g2,fun e2 x2 hc=>?_⟩
     subst hc
     have kH:q<cs.length:=(List.getElem?_eq_some_iff.1 hq).1
     show(if nx≤nx+q∧nx+q<nx+cs.length∧(∃p∈uS nx cs,p.1=nx+q) then f i (nx+q - nx) else env (nx+q))=_
     rw [if_pos ⟨by omega,by omega,_,ab4 hq,rfl⟩,show nx+q - nx=q by omega]
   ·obtain⟨q,e2,x2,kH,hq,rfl⟩:=zi hp
    rw [YR hq]
    obtain⟨g1,g2⟩:=hci q _ hq
    have h4:=hr i _ q _ g1 g2
    show Ow T.sz w (F1 (nx+q)) (.sl e2 (x2.map (T.enc e2))) (if nx≤nx+q∧nx+q<nx+cs.length∧(∃p∈uS nx cs,p.1=nx+q) then f i (nx+q - nx) else env (nx+q))
    rw [if_pos ⟨by omega,by omega,_,hp,rfl⟩,show nx+q - nx=q by omega]
    exact Ow.mono h4 (fun k hk=>(hn1 _ hp k).2 ⟨⟨_,hp,rfl⟩,by show G i (nx+q - nx) k;rw [show nx+q - nx=q by omega];exact hk⟩)
end
end Go.Proofs.YtcnfgfomholheaaGreatDoor.Z
end
