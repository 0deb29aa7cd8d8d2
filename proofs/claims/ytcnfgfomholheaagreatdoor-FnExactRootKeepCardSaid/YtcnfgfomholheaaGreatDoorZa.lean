/- Several texts of this claim in one (a claim holds at most 60 files). -/
import Derived.OrdersHeld
import Derived.Deep.RegionHeld3
import Derived.Laws.BitsLemmas
import Derived.RowKit
import Derived.Below
import Derived.Laws.AppendOwn
import Derived.Laws.OwnMore
import Derived.Laws.MakeOwn
import Derived.Laws.Cover1
import Derived.WalkKit
import Derived.Laws.Cells
import Derived.Laws.Slices
import Derived.Laws.CopyRow
import Derived.Laws.Tables
import Derived.Laws.StructEq
import Derived.Laws.BytesString
import Derived.Laws.BytesArg
section
namespace Go.Proofs.YtcnfgfomholheaaGreatDoor.Z
open Go.RowKit
set_option linter.unusedVariables false
set_option linter.unusedSimpArgs false
inductive V where
 | sc (v:Value)
 | sl (e:Nat) (xs:List (List V))
section
variable {sz:Nat→Nat} {w w':World} {P P':Nat→Prop} {x:V} {v:Value}
inductive Rd (sz:Nat→Nat) (w:World) (P:Nat→Prop):V→Value→Prop
 | sc (v:Value) (h:v.oneCell'=true):Rd sz w P (.sc v) v
 | nil (e:Nat) (A:Option Addr) (c:Nat):Rd sz w P (.sl e []) (.slice A 0 c)
 | sl (e:Nat) (xs:List (List V)) (ad:Addr) (c:Nat) (f:Nat→Nat→Value) (hc:xs.length≤c) (hp:P ad.block) (hlt:ad.block<w.heap.size)
   (hs:∀(j:Nat) (l:List V),xs[j]? =some l→l.length=sz e)
   (hcell:∀(j:Nat) (l:List V) (q:Nat) (x:V),xs[j]? =some l→l[q]? =some x→w.cell? (ad.add (j*sz e+q))=some (f j q))
   (hr:∀(j:Nat) (l:List V) (q:Nat) (x:V),xs[j]? =some l→l[q]? =some x→Rd sz w P x (f j q)):Rd sz w P (.sl e xs) (.slice (some ad) xs.length c)
theorem Rd.mono (h:Rd sz w P x v) (hp:∀k,P k→P' k):Rd sz w P' x v:=by
 induction h with
 | sc v h=>exact .sc v h
 | nil e A c=>exact .nil e A c
 | sl e xs ad c f hc h1 hlt hs hcell hr ih=>exact .sl e xs ad c f hc (hp _ h1) hlt hs hcell ih
theorem Rd.bound (h:Rd sz w P x v):Rd sz w (fun k=>P k∧k<w.heap.size) x v:=by
 induction h with
 | sc v h=>exact .sc v h
 | nil e A c=>exact .nil e A c
 | sl e xs ad c f hc h1 hlt hs hcell hr ih=>exact .sl e xs ad c f hc ⟨h1,hlt⟩ hlt hs hcell ih
theorem Rd.frame (h:Rd sz w P x v) (hsz:w.heap.size≤w'.heap.size) (hf:∀k,P k→k<w.heap.size→w'.heap[k]? =w.heap[k]?):Rd sz w' P x v:=by
 induction h with
 | sc v h=>exact .sc v h
 | nil e A c=>exact .nil e A c
 | sl e xs ad c f hc h1 hlt hs hcell hr ih=>
   refine .sl e xs ad c f hc h1 (Nat.lt_of_lt_of_le hlt hsz) hs (fun j l q x hj hq=>?_) ih
   have h2:=hcell j l q x hj hq
   have h3:(ad.add (j*sz e+q)).block=ad.block:=by unfold Addr.add;split<;>rfl
   have h4:=World.block_lt_of_cell? w _ h2
   rw [h3] at h4
   exact(World.cell?_of_block (w:=w) (by rw [h3];exact hf _ h1 h4)).trans h2
theorem Rd.one (h:Rd sz w P x v):v.oneCell'=true:=by cases h<;>first | assumption | rfl
theorem Rd.slice {e:Nat} {xs:List (List V)} (h:Rd sz w P (.sl e xs) v):∃A c,v= .slice A xs.length c∧xs.length≤c:=by
 cases h with
 | nil e A c=>exact⟨A,c,rfl,Nat.zero_le _⟩
 | sl e xs ad c f hc hp hlt hs hcell hr=>exact⟨some ad,c,rfl,hc⟩
theorem Rd.elem {e:Nat} {xs:List (List V)} (h:Rd sz w P (.sl e xs) v) {j:Nat} {l:List V} (hj:xs[j]? =some l):
  ∃ad c,v= .slice (some ad) xs.length c∧P ad.block∧ad.block<w.heap.size∧xs.length≤c∧l.length=sz e∧∀q x,l[q]? =some x→∃u,w.cell? (ad.add (j*sz e+q))=some u∧Rd sz w P x u:=by
 cases h with
 | nil e A c=>simp at hj
 | sl e xs ad c f hc hp hlt hs hcell hr=>exact⟨ad,c,rfl,hp,hlt,hc,hs j l hj,fun q x hq=>⟨f j q,hcell j l q x hj hq,hr j l q x hj hq⟩⟩
inductive Ow (sz:Nat→Nat) (w:World):(Nat→Prop)→V→Value→Prop
 | sc (F:Nat→Prop) (v:Value) (h:v.oneCell'=true):Ow sz w F (.sc v) v
 | nil (F:Nat→Prop) (e:Nat):Ow sz w F (.sl e []) (.slice none 0 0)
 | sl (F:Nat→Prop) (e:Nat) (xs:List (List V)) (g cap:Nat) (cur:Array Value) (f:Nat→Nat→Value) (G:Nat→Nat→Nat→Prop)
   (hg:w.heap[g]? =some (.cells cur e (0,0))) (hF:F g) (hn:xs.length≤cap) (hm:cap≤maxLen) (hz:cur.size=cap*sz e)
   (hs:∀(j:Nat) (l:List V),xs[j]? =some l→l.length=sz e)
   (hcell:∀(j:Nat) (l:List V) (q:Nat) (x:V),xs[j]? =some l→l[q]? =some x→cur[j*sz e+q]? =some (f j q))
   (hr:∀(j:Nat) (l:List V) (q:Nat) (x:V),xs[j]? =some l→l[q]? =some x→Ow sz w (G j q) x (f j q))
   (hG:∀j q k,G j q k→F k∧k≠g) (hd:∀j q j' q' k,G j q k→G j' q' k→j=j'∧q=q'):Ow sz w F (.sl e xs) (.slice (some ⟨g,0,none⟩) xs.length cap)
variable {F F':Nat→Prop}
theorem Ow.mono (h:Ow sz w F x v):∀{F':Nat→Prop},(∀k,F k→F' k)→Ow sz w F' x v:=by
 induction h with
 | sc F v h=>exact fun _=> .sc _ v h
 | nil F e=>exact fun _=> .nil _ e
 | sl F e xs g cap cur f G hg hF hn hm hz hs hcell hr hG hd ih=>
   intro F' hp
   exact .sl F' e xs g cap cur f G hg (hp _ hF) hn hm hz hs hcell hr (fun j q k hk=>⟨hp _ (hG j q k hk).1,(hG j q k hk).2⟩) hd
theorem Ow.frame (h:Ow sz w F x v) (hf:∀k,F k→k<w.heap.size→w'.heap[k]? =w.heap[k]?):Ow sz w' F x v:=by
 induction h with
 | sc F v h=>exact .sc _ v h
 | nil F e=>exact .nil _ e
 | sl F e xs g cap cur f G hg hF hn hm hz hs hcell hr hG hd ih=>
   have hlt:g<w.heap.size:=(Array.getElem?_eq_some_iff.1 hg).1
   exact .sl F e xs g cap cur f G ((hf g hF hlt).trans hg) hF hn hm hz hs hcell (fun j l q x hj hq=>ih j l q x hj hq (fun k hk hl=>hf k (hG j q k hk).1 hl)) hG hd
theorem Ow.bound (h:Ow sz w F x v):Ow sz w (fun k=>F k∧k<w.heap.size) x v:=by
 induction h with
 | sc F v h=>exact .sc _ v h
 | nil F e=>exact .nil _ e
 | sl F e xs g cap cur f G hg hF hn hm hz hs hcell hr hG hd ih=>
   have hlt:g<w.heap.size:=(Array.getElem?_eq_some_iff.1 hg).1
   exact .sl _ e xs g cap cur f (fun j q k=>G j q k∧k<w.heap.size) hg ⟨hF,hlt⟩ hn hm hz hs hcell ih (fun j q k hk=>⟨⟨(hG j q k hk.1).1,hk.2⟩,(hG j q k hk.1).2⟩) (fun j q j' q' k h1 h2=>hd j q j' q' k h1.1 h2.1)
theorem Ow.one (h:Ow sz w F x v):v.oneCell'=true:=by cases h<;>first | assumption | rfl
theorem Ow.form {e:Nat} {xs:List (List V)} (h:Ow sz w F (.sl e xs) v):(xs=[]∧v= .slice none 0 0)∨∃g cap cur,v= .slice (some ⟨g,0,none⟩) xs.length cap∧F g∧w.heap[g]? =some (.cells cur e (0,0))∧xs.length≤cap∧cap≤maxLen∧cur.size=cap*sz e:=by
 cases h with
 | nil F e=>exact .inl ⟨rfl,rfl⟩
 | sl F e xs g cap cur f G hg hF hn hm hz hs hcell hr hG hd=>exact .inr ⟨g,cap,cur,rfl,hF,hg,hn,hm,hz⟩
theorem oP {g o:Nat} {cur:Array Value} {e:Nat} {fr:Nat × Nat} (h:w.heap[g]? =some (.cells cur e fr)):w.cell? ((⟨g,0,none⟩:Addr).add o)=cur[o]?:=by
 have:(⟨g,0,none⟩:Addr).add o=⟨g,o,none⟩:=by unfold Addr.add;split<;>simp_all
 rw [this];simp [World.cell?,h]
theorem Ow.rd (h:Ow sz w F x v):Rd sz w F x v:=by
 induction h with
 | sc F v h=>exact .sc v h
 | nil F e=>exact .nil e none 0
 | sl F e xs g cap cur f G hg hF hn hm hz hs hcell hr hG hd ih=>
   refine .sl e xs ⟨g,0,none⟩ cap f hn hF (Array.getElem?_eq_some_iff.1 hg).1 hs (fun j l q x hj hq=>?_) (fun j l q x hj hq=>(ih j l q x hj hq).mono (fun k hk=>(hG j q k hk).1))
   rw [oP hg];exact hcell j l q x hj hq
end
end Go.Proofs.YtcnfgfomholheaaGreatDoor.Z
end
section
namespace Go.Proofs.YtcnfgfomholheaaGreatDoor.Z
open Go.RowKit
set_option linter.unusedVariables false
inductive C0 (Tb:Nat→Type) where
 | sc (v:Value)
 | sl (e:Nat) (l:List (Tb e))
inductive TK where
 | one
 | num (k:IntKind)
 | text
 | slice (e:Nat)
 | str (iP:List (Nat × Nat))
structure TI where
 size:Nat
 bytes:Nat
 zero:List Value
 kind:TK
def C0.Bo {Tb:Nat→Type} (enc:(e:Nat)→Tb e→List V):C0 Tb→V
 | .sc v=> .sc v
 | .sl e l=> .sl e (l.map (enc e))
def C0.one {Tb:Nat→Type}:C0 Tb→Bool
 | .sc v=>v.oneCell'
 | .sl _ _=>true
structure dQ where
 Tb:Nat→Type
 df:(e:Nat)→Tb e
 cells:(e:Nat)→Tb e→List (C0 Tb)
 wR:(e:Nat)→List (C0 Tb)→Option (Tb e)
 enc:(e:Nat)→Tb e→List V
 el:Nat→Bool
 ti:Nat→Option TI
 fQ:∀e x,enc e x=(cells e x).map (C0.Bo enc)
 mk_eq:∀e cs x,wR e cs=some x→cells e x=cs
 one:∀e x c,c∈cells e x→c.one=true
 len:∀e x (i:TI),el e=true→ti e=some i→(cells e x).length=i.size
 J:World→Prop
 jk:∀{w w':World},Below w.heap.size w w'→J w→J w'
def dQ.sz (T:dQ) (e:Nat):Nat:=match T.ti e with
 | some i=>i.size
 | none=>0
def fD (P:Program) (t:Nat) (i:TI):Prop:=∃inf,P.info? t=some inf∧inf.size=i.size∧inf.bytes=i.bytes∧(∃z,inf.zero=some z∧z.cells=i.zero.toArray)∧i.zero.length=i.size∧0<i.size∧0<i.bytes∧match i.kind with
 | .one=>(∃d,P.underlying t=some d∧(∀fs,d≠ .struct fs)∧∀n e,d≠ .array n e)∧i.size=1
 | .num k=>P.underlying t=some (.int k)∧i.size=1
 | .text=>P.underlying t=some .string∧i.size=1
 | .slice e=>P.underlying t=some (.slice e)∧i.size=1
 | .str iP=>∃fs,P.underlying t=some (.struct fs)∧fs.toList.mapM (fun f=>(P.info? f.type).map fun i=>(f.offset,i.size))=some iP∧∀p∈iP,p.2≠0
def dQ.ok (T:dQ) (P:Program):Prop:=∀t i,T.ti t=some i→fD P t i
inductive Cell (T:dQ) where
 | un
 | sc (v:Value)
 | im (p:Option (Nat × Nat)) (e:Nat) (l:List (T.Tb e))
 | hd (r:Nat)
 | px (r o:Nat)
inductive Slot (T:dQ) where
 | ud
 | c (x:Cell T)
 | ag (l:List (Cell T))
 | tu (l:List (Bool × List (Cell T)))
 | pi (p:Option (Nat × Nat)) (e:Nat) (l:List (T.Tb e)) (i o:Nat)
 | pe (r i o:Nat)
 | pl (r bv i o e:Nat) (l:List (T.Tb e))
 | fn (f:FuncId) (r:Nat)
inductive dA (T:dQ) where
 | no
 | bx (t:Nat) (cs:List (Cell T))
 | row (bv e:Nat) (l:List (T.Tb e))
 | sh (bv e:Nat) (l:List (T.Tb e))
structure St (T:dQ) where
 tm:List (Nat × Slot T)
 rs:List (Nat × dA T)
 n:Nat
 A:Nat→Prop
def lk {α:Type} (d:α):List (Nat × α)→Nat→α
 | [],_=>d
 | (k,a)::r,t=>match Nat.beq k t with
   | true=>a
   | false=>lk d r t
section
variable {T:dQ}
def St.tmp (σ:St T) (t:Nat):Slot T:=lk (.c .un) σ.tm t
def St.res (σ:St T) (r:Nat):dA T:=lk .no σ.rs r
def St.put (σ:St T) (t:Nat) (s:Slot T):St T:=⟨(t,s)::σ.tm,σ.rs,σ.n,σ.A⟩
def Cell.refs:Cell T→List Nat
 | .im (some p) _ _=>[p.1,p.2]
 | .hd r=>[r]
 | .px r _=>[r]
 | _=>[]
def refsOf:List (Cell T)→List Nat
 | []=>[]
 | c::r=>c.refs++refsOf r
def Cm:List (Bool × List (Cell T))→List Nat
 | []=>[]
 | c::r=>refsOf c.2++Cm r
def Slot.refs:Slot T→List Nat
 | .ud=>[]
 | .c x=>x.refs
 | .ag l=>refsOf l
 | .tu l=>Cm l
 | .pi (some p) _ _ _ _=>[p.1,p.2]
 | .pi none _ _ _ _=>[]
 | .pe r _ _=>[r]
 | .pl r bv _ _ _ _=>[r,bv]
 | .fn _ r=>[r]
def dA.refs:dA T→List Nat
 | .bx _ cs=>refsOf cs
 | _=>[]
def iI (A:Nat→Prop) (F:Nat→Nat→Prop) (p:Option (Nat × Nat)) (k:Nat):Prop:=(A k∧∀r,¬F r k)∨∃q,p=some q∧F q.1 k
def St.live (σ:St T):Option (Nat × Nat)→Prop
 | none=>True
 | some q=>∃e l,σ.res q.1= .row q.2 e l
def gJ (σ:St T) (env:Nat→Value) (F:Nat→Nat→Prop) (w:World):Cell T→Value→Prop
 | .un,_=>True
 | .sc v',v=>v=v'∧v.oneCell'=true
 | .im p e l,v=>v.oneCell'=true∧(σ.live p→Rd T.sz w (iI σ.A F p) (.sl e (l.map (T.enc e))) v)
 | .hd r,v=>v=env r∧v.oneCell'=true
 | .px r o,v=>∃g,env r= .pointer (some ⟨g,0,none⟩)∧v= .pointer (some ⟨g,o,none⟩)
def aQ (σ:St T) (env:Nat→Value) (F:Nat→Nat→Prop) (w:World):List (Cell T)→List Value→Prop
 | [],vs=>vs=[]
 | c::cs,vs=>∃v r,vs=v::r∧gJ σ env F w c v∧aQ σ env F w cs r
def qW (σ:St T) (env:Nat→Value) (F:Nat→Nat→Prop) (w:World) (it:Bool × List (Cell T)) (v:Value):Prop:=
 match it.1 with
 | true=>∃us:Array Value,v= .agg us∧aQ σ env F w it.2 us.toList
 | false=>aQ σ env F w it.2 [v]
def kG (σ:St T) (env:Nat→Value) (F:Nat→Nat→Prop) (w:World):List (Bool × List (Cell T))→List Value→Prop
 | [],vs=>vs=[]
 | c::cs,vs=>∃v r,vs=v::r∧qW σ env F w c v∧kG σ env F w cs r
def bK (σ:St T) (env:Nat→Value) (F:Nat→Nat→Prop) (w:World):Slot T→Value→Prop
 | .ud,v=>v=undef
 | .c x,v=>gJ σ env F w x v
 | .ag l,v=>∃us:Array Value,v= .agg us∧aQ σ env F w l us.toList
 | .tu l,v=>∃us:Array Value,v= .tuple us∧kG σ env F w l us.toList
 | .pi p e l i o,v=>i<l.length∧∃ad,v= .pointer (some (ad.add (i*T.sz e+o)))∧(σ.live p→∃c,Rd T.sz w (iI σ.A F p) (.sl e (l.map (T.enc e))) (.slice (some ad) l.length c))
 | .pe r i o,v=>(∀bv e l,σ.res r= .row bv e l→i<l.length∧∃g c,env r= .slice (some ⟨g,0,none⟩) l.length c∧v= .pointer (some ((⟨g,0,none⟩:Addr).add (i*T.sz e+o))))∧∀bv e l,σ.res r= .sh bv e l→i<l.length∧∃g c,env r= .slice (some ⟨g,0,none⟩) l.length c∧v= .pointer (some ((⟨g,0,none⟩:Addr).add (i*T.sz e+o)))
 | .pl r bv i o e l,v=>gJ σ env F w (.im (some (r,bv)) e l) v∧∀e' l',σ.res r= .row bv e' l'→i<l'.length∧∃g c,F r g∧env r= .slice (some ⟨g,0,none⟩) l'.length c∧w.cell? ((⟨g,0,none⟩:Addr).add (i*T.sz e'+o))=some v
 | .fn f r,v=>∃g,env r= .pointer (some ⟨g,0,none⟩)∧v= .func (.func f) #[] #[.pointer (some ⟨g,0,none⟩)]
structure ShR (sz:Nat→Nat) (R:Nat→Prop) (w:World) (G:Nat→Prop) (e:Nat) (xs:List (List V)) (v:Value) (raw:List (List Value)):Prop where
 ow:Ow sz w G (.sl e (raw.map (fun l=>l.map V.sc))) v
 len:raw.length=xs.length
 els:∀(j:Nat) (r:List Value) (x:List V),raw[j]? =some r→xs[j]? =some x→r.length=x.length∧∀(q:Nat) (u:Value) (y:V),r[q]? =some u→x[q]? =some y→Rd sz w R y u
def Sh (sz:Nat→Nat) (R:Nat→Prop) (w:World) (G:Nat→Prop) (e:Nat) (xs:List (List V)) (v:Value):Prop:=∃raw,ShR sz R w G e xs v raw
def vP (σ:St T) (env:Nat→Value) (F:Nat→Nat→Prop) (w:World) (r:Nat):dA T→Prop
 | .no=>∀k,¬F r k
 | .bx t cs=>∃g arr,env r= .pointer (some ⟨g,0,none⟩)∧F r g∧(∀k,F r k→k=g)∧w.heap[g]? =some (.cells arr t (0,0))∧aQ σ env F w cs arr.toList
 | .row _ e l=>Ow T.sz w (F r) (.sl e (l.map (T.enc e))) (env r)
 | .sh _ e l=>Sh T.sz (iI σ.A F none) w (F r) e (l.map (T.enc e)) (env r)
structure Fr extends World where
 pn:Nat→Value
 X:Nat→Prop
 V:World
def Fr.may (W0:Fr) (k:Nat):Prop:=(W0.heap.size≤k∨W0.X k)∧W0.V.heap.size≤k
structure lM (W0:Fr) (w:World):Prop where
 os:w.os=W0.os
 tape:w.tape=W0.tape
 output:w.output=W0.output
 size:W0.heap.size≤w.heap.size
 block:∀k,k<W0.heap.size→¬W0.X k→w.heap[k]? =W0.heap[k]?
 base:Below W0.V.heap.size W0.V w
theorem lM.may {W0:Fr} {w:World} (h:lM W0 w) {k:Nat} (hk:w.heap.size≤k):W0.may k:=⟨.inl (Nat.le_trans h.size hk),Nat.le_trans h.base.size hk⟩
theorem lM.step {W0:Fr} {w w1:World} (h:lM W0 w) (h1:w1.os=w.os) (h2:w1.tape=w.tape) (h3:w1.output=w.output) (h4:w.heap.size≤w1.heap.size) (h5:∀k,k<w.heap.size→¬W0.may k→w1.heap[k]? =w.heap[k]?):lM W0 w1:=
 ⟨h1.trans h.os,h2.trans h.tape,h3.trans h.output,Nat.le_trans h.size h4,fun k hk hx=>(h5 k (Nat.lt_of_lt_of_le hk h.size) (fun hm=>hm.1.elim (fun h=>by omega) hx)).trans (h.block k hk hx),
  h1.trans h.base.os,h2.trans h.base.tape,h3.trans h.base.output,Nat.le_trans h.base.size h4,fun k hk=>(h5 k (Nat.lt_of_lt_of_le hk h.base.size) (fun hm=>by have:=hm.2;omega)).trans (h.base.block k hk)⟩
structure dU (W0:Fr) (σ:St T) (a:Act) (w:World) (env:Nat→Value) (F:Nat→Nat→Prop):Prop where
 below:lM W0 w
 tab:T.J W0.V
 pin:∀r,1000≤r→env r=W0.pn r
 acc:∀k,W0.may k→σ.A k
 size:a.tmps.size=σ.n
 defers:a.defers=[]
 res:∀r,vP σ env F w r (σ.res r)
 own:∀r k,F r k→W0.may k∧k<w.heap.size
 apart:∀r s k,F r k→F s k→r=s
 tm:∀t,bK σ env F w (σ.tmp t) (a.tmps.getD t undef)
def jg (W0:Fr) (σ:St T) (a:Act) (w:World):Prop:=∃env F,dU W0 σ a w env F
inductive R0 (Tb:Nat→Type) where
 | sc (v:Value)
 | ow (e:Nat) (l:List (Tb e))
 | im (e:Nat) (l:List (Tb e))
 | bx (t:Nat) (cs:List (C0 Tb))
inductive RS (Tb:Nat→Type) where
 | c (x:R0 Tb)
 | ag (l:List (R0 Tb))
 | tu (l:List (Bool × List (R0 Tb)))
inductive Arg (Tb:Nat→Type) where
 | c (x:C0 Tb)
 | ag (l:List (C0 Tb))
def qQ (w:World) (S:Nat→Prop):C0 T.Tb→Value→Prop
 | .sc v',v=>v=v'∧v.oneCell'=true
 | .sl e l,v=>Rd T.sz w S (.sl e (l.map (T.enc e))) v
def dS (w:World) (S:Nat→Prop):List (C0 T.Tb)→List Value→Prop
 | [],vs=>vs=[]
 | c::cs,vs=>∃v r,vs=v::r∧qQ w S c v∧dS w S cs r
def ArgRel (w:World) (S:Nat→Prop):Arg T.Tb→Value→Prop
 | .c x,v=>qQ w S x v
 | .ag l,v=>∃us:Array Value,v= .agg us∧dS w S l us.toList
def mD (w:World) (S:Nat→Prop):List (Arg T.Tb)→List Value→Prop
 | [],vs=>vs=[]
 | c::cs,vs=>∃v r,vs=v::r∧ArgRel w S c v∧mD w S cs r
def dF (w':World) (S:Nat→Prop) (G:Nat→Nat→Prop):Nat→List (R0 T.Tb)→List Value→Prop
 | _,[],vs=>vs=[]
 | i, .sc v'::cs,vs=>∃r,vs=v'::r∧v'.oneCell'=true∧dF w' S G (i+1) cs r
 | i, .ow e l::cs,vs=>∃v r,vs=v::r∧Ow T.sz w' (G i) (.sl e (l.map (T.enc e))) v∧dF w' S G (i+1) cs r
 | i, .im e l::cs,vs=>∃v r,vs=v::r∧Rd T.sz w' S (.sl e (l.map (T.enc e))) v∧dF w' S G (i+1) cs r
 | i, .bx t xs::cs,vs=>∃v r,vs=v::r∧(∃g us,v= .pointer (some ⟨g,0,none⟩)∧G i g∧(∀k,G i k→k=g)∧w'.heap[g]? =some (.cells us t (0,0))∧dS w' S xs us.toList)∧dF w' S G (i+1) cs r
def BG:List (Bool × List (R0 T.Tb))→List (R0 T.Tb)
 | []=>[]
 | it::l=>it.2++BG l
def RS.flat:RS T.Tb→List (R0 T.Tb)
 | .c x=>[x]
 | .ag l=>l
 | .tu l=>BG l
def wY:List (Bool × List (R0 T.Tb))→List Value→List Value→Prop
 | [],vs,fv=>vs=[]∧fv=[]
 | it::l,vs,fv=>∃v r f1 f2,vs=v::r∧fv=f1++f2∧f1.length=it.2.length∧(match it.1 with
   | true=>∃us:Array Value,v= .agg us∧us.toList=f1
   | false=>f1=[v])∧wY l r f2
def rM:RS T.Tb→Value→List Value→Prop
 | .c _,v,fv=>fv=[v]
 | .ag l,v,fv=>∃us:Array Value,v= .agg us∧us.toList=fv
 | .tu l,v,fv=>∃us:Array Value,v= .tuple us∧wY l us.toList fv
def Enters (P:Program) (f:FuncId):Prop:=∃fn,P.funcs[f]? =some fn∧(fn.name== "runtime.NumGoroutine")=false∧fn.body.isSome=true
def aG (T:dQ) (P:Program) (f:FuncId) (args:List (Arg T.Tb)) (res:RS T.Tb):Prop:=
 Enters P f∧∀(w:World) (vs:List Value) (S:Nat→Prop),T.J w→mD w S args vs→Calls P f vs.toArray w fun e w'=>∃v G,e= .returned v∧Below w.heap.size w w'∧
  (∀i k,G i k→w.heap.size≤k∧k<w'.heap.size)∧(∀i j k,G i k→G j k→i=j)∧
  ∃fv,rM res v fv∧dF w' (fun k=>S k∧k<w.heap.size∨w.heap.size≤k∧∀i,¬G i k) G 0 res.flat fv
end
end Go.Proofs.YtcnfgfomholheaaGreatDoor.Z
end
section
namespace Go.Proofs.YtcnfgfomholheaaGreatDoor.Z
open Go.RowKit
set_option linter.unusedVariables false
set_option linter.unusedSimpArgs false
section
variable {T:dQ} {σ σ1:St T} {env aZ:Nat→Value} {F F1:Nat→Nat→Prop} {w w1:World}
def Cell.vers:Cell T→List (Nat × Nat)
 | .im (some p) _ _=>[p]
 | _=>[]
def ou:List (Cell T)→List (Nat × Nat)
 | []=>[]
 | c::r=>c.vers++ou r
def CB:List (Bool × List (Cell T))→List (Nat × Nat)
 | []=>[]
 | c::r=>ou c.2++CB r
def Slot.vers:Slot T→List (Nat × Nat)
 | .ud=>[]
 | .c x=>x.vers
 | .ag l=>ou l
 | .tu l=>CB l
 | .pi (some p) _ _ _ _=>[p]
 | .pi none _ _ _ _=>[]
 | .pe _ _ _=>[]
 | .pl r bv _ _ _ _=>[(r,bv)]
 | .fn _ _=>[]
structure Calm (σ σ1:St T) (F F1:Nat→Nat→Prop) (w w1:World):Prop where
 acc:σ1.A=σ.A
 size:w.heap.size≤w1.heap.size
 st:∀k,k<w.heap.size→(∀r,¬F r k)→(∀r,¬F1 r k)∧w1.heap[k]? =w.heap[k]?
def Holds (σ σ1:St T) (F F1:Nat→Nat→Prop) (w w1:World) (q:Nat × Nat):Prop:=σ1.live (some q)→σ.live (some q)∧∀k,F q.1 k→k<w.heap.size→F1 q.1 k∧w1.heap[k]? =w.heap[k]?
theorem yC (hc:Calm σ σ1 F F1 w w1) {p:Option (Nat × Nat)} {x:V} {v:Value} (hq:∀q,p=some q→∀k,F q.1 k→k<w.heap.size→F1 q.1 k∧w1.heap[k]? =w.heap[k]?) (h:Rd T.sz w (iI σ.A F p) x v):Rd T.sz w1 (iI σ1.A F1 p) x v:=by
 have h2:=h.bound
 refine(h2.frame hc.size ?_).mono ?_
 ·rintro k ⟨hk,_⟩ hlt
  rcases hk with ⟨ha,hk⟩ | ⟨q,hp,hk⟩
  ·exact(hc.st k hlt hk).2
  ·exact(hq q hp k hk hlt).2
 ·rintro k ⟨hk,hlt⟩
  rcases hk with ⟨ha,hk⟩ | ⟨q,hp,hk⟩
  ·exact .inl ⟨by rw [hc.acc];exact ha,(hc.st k hlt hk).1⟩
  ·exact .inr ⟨q,hp,(hq q hp k hk hlt).1⟩
theorem CG (hc:Calm σ σ1 F F1 w w1) {c:Cell T} {v:Value} (h:gJ σ env F w c v) (he:∀r∈c.refs,aZ r=env r) (hv:∀q∈c.vers,Holds σ σ1 F F1 w w1 q):gJ σ1 aZ F1 w1 c v:=by
 cases c with
 | un=>trivial
 | sc v'=>exact h
 | im p e l=>
   refine⟨h.1,fun hl=>?_⟩
   cases p with
   | none=>exact yC hc (fun q hq=>by cases hq) (h.2 trivial)
   | some q=>
     have h1:=hv q (by simp [Cell.vers]) hl
     exact yC hc (fun q' hq=>by cases hq;exact h1.2) (h.2 h1.1)
 | hd r=>exact⟨h.1.trans (he r (by simp [Cell.refs])).symm,h.2⟩
 | px r o=>
   obtain⟨g,h1,h2⟩:=h
   exact⟨g,(he r (by simp [Cell.refs])).trans h1,h2⟩
theorem kD (hc:Calm σ σ1 F F1 w w1):∀{cs:List (Cell T)} {vs:List Value},aQ σ env F w cs vs→(∀r∈refsOf cs,aZ r=env r)→(∀q∈ou cs,Holds σ σ1 F F1 w w1 q)→aQ σ1 aZ F1 w1 cs vs
 | [],_,h,_,_=>h
 | c::cs,_,⟨v,r,e,h1,h2⟩,he,hv=>⟨v,r,e,CG hc h1 (fun r hr=>he r (List.mem_append_left _ hr)) (fun q hq=>hv q (List.mem_append_left _ hq)),kD hc h2 (fun r hr=>he r (List.mem_append_right _ hr)) (fun q hq=>hv q (List.mem_append_right _ hq))⟩
theorem WG (hc:Calm σ σ1 F F1 w w1) {it:Bool × List (Cell T)} {v:Value} (h:qW σ env F w it v) (he:∀r∈refsOf it.2,aZ r=env r) (hv:∀q∈ou it.2,Holds σ σ1 F F1 w w1 q):qW σ1 aZ F1 w1 it v:=by
 obtain⟨b,cs⟩:=it
 cases b with
 | true=>obtain⟨us,e,h⟩:=h;exact⟨us,e,kD hc h he hv⟩
 | false=>exact kD (vs:=[v]) hc h he hv
theorem Ir (hc:Calm σ σ1 F F1 w w1):∀{cs:List (Bool × List (Cell T))} {vs:List Value},kG σ env F w cs vs→(∀r∈Cm cs,aZ r=env r)→(∀q∈CB cs,Holds σ σ1 F F1 w w1 q)→kG σ1 aZ F1 w1 cs vs
 | [],_,h,_,_=>h
 | c::cs,_,⟨v,r,e,h1,h2⟩,he,hv=>⟨v,r,e,WG hc h1 (fun r hr=>he r (List.mem_append_left _ hr)) (fun q hq=>hv q (List.mem_append_left _ hq)),Ir hc h2 (fun r hr=>he r (List.mem_append_right _ hr)) (fun q hq=>hv q (List.mem_append_right _ hq))⟩
def OT (σ σ1:St T) (r:Nat):Prop:=(∀bv e l,σ1.res r= .row bv e l→∃Iu l0,σ.res r= .row Iu e l0∧l0.length=l.length)∧∀bv e l,σ1.res r= .sh bv e l→∃Iu l0,σ.res r= .sh Iu e l0∧l0.length=l.length
theorem xu (hc:Calm σ σ1 F F1 w w1) {s:Slot T} {v:Value} (h:bK σ env F w s v) (he:∀r∈s.refs,aZ r=env r) (hv:∀q∈s.vers,Holds σ σ1 F F1 w w1 q) (hp:∀r i o,(s= .pe r i o∨∃bv e l,s= .pl r bv i o e l)→OT σ σ1 r):bK σ1 aZ F1 w1 s v:=by
 cases s with
 | ud=>exact h
 | c x=>exact CG hc h he hv
 | ag l=>obtain⟨us,e,h⟩:=h;exact⟨us,e,kD hc h he hv⟩
 | tu l=>obtain⟨us,e,h⟩:=h;exact⟨us,e,Ir hc h he hv⟩
 | pi p e l i o=>
   obtain⟨hi,ad,hv',h⟩:=h
   refine⟨hi,ad,hv',fun hl=>?_⟩
   cases p with
   | none=>
     obtain⟨c,h⟩:=h trivial
     exact⟨c,yC hc (fun q hq=>by cases hq) h⟩
   | some q=>
     have h1:=hv q (by simp [Slot.vers]) hl
     obtain⟨c,h⟩:=h h1.1
     exact⟨c,yC hc (fun q' hq=>by cases hq;exact h1.2) h⟩
 | pe r i o=>
   refine⟨fun bv e l hr=>?_,fun bv e l hr=>?_⟩
   ·obtain⟨Iu,l0,h0,hl⟩:=(hp r i o (.inl rfl)).1 bv e l hr
    obtain⟨hi,g,c,h1,h2⟩:=h.1 Iu e l0 h0
    exact⟨hl▸hi,g,c,by rw [he r (by simp [Slot.refs]),h1,hl],h2⟩
   ·obtain⟨Iu,l0,h0,hl⟩:=(hp r i o (.inl rfl)).2 bv e l hr
    obtain⟨hi,g,c,h1,h2⟩:=h.2 Iu e l0 h0
    exact⟨hl▸hi,g,c,by rw [he r (by simp [Slot.refs]),h1,hl],h2⟩
 | fn f r=>
   obtain⟨g,h1,h2⟩:=h
   exact⟨g,(he r (by simp [Slot.refs])).trans h1,h2⟩
 | pl r bv i o e l=>
   refine⟨CG hc h.1 (fun q hq=>he q hq) (fun q hq=>hv q hq),fun e' l' hr=>?_⟩
   obtain⟨Iu,l0,h0,hl⟩:=(hp r i o (.inr ⟨bv,e,l,rfl⟩)).1 bv e' l' hr
   obtain⟨⟨e2,l2,h2⟩,hk⟩:=hv (r,bv) (by simp [Slot.vers]) ⟨e',l',hr⟩
   have e3:Iu=bv:=by rw [h0] at h2;cases h2;rfl
   subst e3
   obtain⟨hi,g,c,hF,h1,h3⟩:=h.2 e' l0 h0
   have hb:((⟨g,0,none⟩:Addr).add (i*T.sz e'+o)).block=g:=by unfold Addr.add;split<;>rfl
   have hlt:=World.block_lt_of_cell? w _ h3
   rw [hb] at hlt
   exact⟨hl▸hi,g,c,(hk g hF hlt).1,by rw [he r (by simp [Slot.refs]),h1,hl],(World.cell?_of_block (w:=w) (by rw [hb];exact(hk g hF hlt).2)).trans h3⟩
theorem Sh.rd {sz:Nat→Nat} {R P G:Nat→Prop} {e:Nat} {xs:List (List V)} {v:Value} (h:Sh sz R w G e xs v) (hG:∀k,G k→P k) (hR:∀k,R k→P k):Rd sz w P (.sl e xs) v:=by
 obtain⟨raw,h1,h2,h3⟩:=h
 generalize hm:raw.map (fun l=>l.map V.sc)=m at h1
 have hml:m.length=xs.length:=by rw [←hm,List.length_map,h2]
 cases h1 with
 | nil F e=>
   have:xs=[]:=List.eq_nil_of_length_eq_zero (by simpa using hml.symm)
   subst this
   exact .nil e none 0
 | sl F e m g cap cur f G' hg hF hn hmx hz hs hcell hr hG' hd=>
   rw [hml] at hn⊢
   have key:∀(j:Nat) (l:List V),xs[j]? =some l→∃r,raw[j]? =some r∧m[j]? =some (r.map V.sc):=fun j l hj=>by
    have hj':j<raw.length:=by rw [h2];exact(List.getElem?_eq_some_iff.1 hj).1
    exact⟨raw[j],List.getElem?_eq_getElem hj',by rw [←hm,List.getElem?_map,List.getElem?_eq_getElem hj'];rfl⟩
   have key2:∀(j:Nat) (l:List V) (q:Nat) (x:V),xs[j]? =some l→l[q]? =some x→cur[j*sz e+q]? =some (f j q)∧Rd sz w R x (f j q):=fun j l q x hj hq=>by
    obtain⟨r,k1,k2⟩:=key j l hj
    obtain⟨k3,k4⟩:=h3 j r l k1 hj
    have hq':q<r.length:=by rw [k3];exact(List.getElem?_eq_some_iff.1 hq).1
    have k5:(r.map V.sc)[q]? =some (.sc r[q]):=by rw [List.getElem?_map,List.getElem?_eq_getElem hq'];rfl
    have k6:=hr j _ q _ k2 k5
    have k7:f j q=r[q]:=by
     generalize f j q=fv at k6⊢
     generalize r[q]=rv at k6⊢
     cases k6;rfl
    exact⟨hcell j _ q _ k2 k5,by rw [k7];exact k4 q _ x (List.getElem?_eq_getElem hq') hq⟩
   refine .sl e xs ⟨g,0,none⟩ cap f hn (hG _ hF) (Array.getElem?_eq_some_iff.1 hg).1 (fun j l hj=>?_) (fun j l q x hj hq=>?_) (fun j l q x hj hq=>(key2 j l q x hj hq).2.mono hR)
   ·obtain⟨r,k1,k2⟩:=key j l hj
    rw [←(h3 j r l k1 hj).1,←hs j _ k2,List.length_map]
   ·rw [oP hg];exact(key2 j l q x hj hq).1
theorem Sh.form {sz:Nat→Nat} {R G:Nat→Prop} {e:Nat} {xs:List (List V)} {v:Value} (h:Sh sz R w G e xs v):(xs=[]∧v= .slice none 0 0)∨∃g cap cur,v= .slice (some ⟨g,0,none⟩) xs.length cap∧G g∧w.heap[g]? =some (.cells cur e (0,0))∧xs.length≤cap∧cap≤maxLen∧cur.size=cap*sz e:=by
 obtain⟨raw,h1,h2,h3⟩:=h
 rcases h1.form with ⟨k1,k2⟩ | ⟨g,cap,cur,k1,k2⟩
 ·refine .inl ⟨List.eq_nil_of_length_eq_zero ?_,k2⟩
  rw [←h2,←List.length_map (f:=fun l:List Value=>l.map V.sc),k1];rfl
 ·rw [List.length_map,h2] at k1 k2
  exact .inr ⟨g,cap,cur,k1,k2⟩
theorem Sh.one {sz:Nat→Nat} {R G:Nat→Prop} {e:Nat} {xs:List (List V)} {v:Value} (h:Sh sz R w G e xs v):v.oneCell'=true:=by
 obtain⟨raw,h1,h2,h3⟩:=h;exact h1.one
theorem Sh.mono {sz:Nat→Nat} {R R' G G':Nat→Prop} {e:Nat} {xs:List (List V)} {v:Value} (h:Sh sz R w G e xs v) (hG:∀k,G k→G' k) (hR:∀k,R k→R' k):Sh sz R' w G' e xs v:=by
 obtain⟨raw,h1,h2,h3⟩:=h
 exact⟨raw,h1.mono hG,h2,fun j r x hj hx=>⟨(h3 j r x hj hx).1,fun q u y hq hy=>((h3 j r x hj hx).2 q u y hq hy).mono hR⟩⟩
theorem Ow.abH {sz:Nat→Nat} {R:Nat→Prop} {w:World} {G:Nat→Prop} {e:Nat} {xs:List (List V)} {v:Value} (h:Ow sz w G (.sl e xs) v) (hR:∀k,G k→k<w.heap.size→v.ownBlock≠some k→R k):Sh sz R w (fun k=>G k∧v.ownBlock=some k) e xs v:=by
 cases h with
 | nil F e=>exact⟨[], .nil _ e,rfl,fun j r x h=>by simp at h⟩
 | sl F e xs g cap cur f G' hg hF hn hm hz hs hcell hr hG hd=>
   refine⟨(List.range xs.length).map (fun j=>(List.range (sz e)).map (f j)),?_,by simp,fun j r x hj hx=>?_⟩
   ·have hl:((List.range xs.length).map (fun j=>(List.range (sz e)).map (f j)) |>.map (fun l=>l.map V.sc)).length=xs.length:=by simp
    have get:∀j l,((List.range xs.length).map (fun j=>(List.range (sz e)).map (f j)) |>.map (fun l=>l.map V.sc))[j]? =some l→j<xs.length∧l=((List.range (sz e)).map (f j)).map V.sc:=fun j l hj=>by
     have hjl:j<xs.length:=by have:=(List.getElem?_eq_some_iff.1 hj).1;rwa [hl] at this
     rw [List.getElem?_map,List.getElem?_map,List.getElem?_range hjl] at hj
     exact⟨hjl,(Option.some.inj hj).symm⟩
    refine Ow.mono (F:=fun k=>G k∧k=g) ?_ (fun k hk=>⟨hk.1,by rw [hk.2];rfl⟩)
    generalize ((List.range xs.length).map (fun j=>(List.range (sz e)).map (f j)) |>.map (fun l=>l.map V.sc))=m at hl get⊢
    rw [←hl]
    refine .sl (fun k=>G k∧k=g) e _ g cap cur f (fun _ _ _=>False) hg ⟨hF,rfl⟩ (by rw [hl];exact hn) hm hz (fun j l hj=>by rw [(get j l hj).2];simp) (fun j l q x hj hq=>?_) (fun j l q x hj hq=>?_) (fun _ _ _ h=>h.elim) (fun _ _ _ _ _ h=>h.elim)
    ·obtain⟨h1,h2⟩:=get j l hj
     subst h2
     have hq':q<sz e:=by have:=(List.getElem?_eq_some_iff.1 hq).1;simpa using this
     have hll:=hs j xs[j] (List.getElem?_eq_getElem h1)
     exact hcell j xs[j] q (xs[j][q]'(by rw [hll];exact hq')) (List.getElem?_eq_getElem h1) (List.getElem?_eq_getElem (by rw [hll];exact hq'))
    ·obtain⟨h1,h2⟩:=get j l hj
     subst h2
     have hq':q<sz e:=by have:=(List.getElem?_eq_some_iff.1 hq).1;simpa using this
     have hll:=hs j xs[j] (List.getElem?_eq_getElem h1)
     rw [List.getElem?_map,List.getElem?_map,List.getElem?_range hq'] at hq
     simp only [Option.map_some,Option.some.injEq] at hq
     subst hq
     exact .sc _ _ (hr j xs[j] q (xs[j][q]'(by rw [hll];exact hq')) (List.getElem?_eq_getElem h1) (List.getElem?_eq_getElem (by rw [hll];exact hq'))).one
   ·have hjl:j<xs.length:=(List.getElem?_eq_some_iff.1 hx).1
    rw [List.getElem?_map,List.getElem?_range hjl] at hj
    simp only [Option.map_some,Option.some.injEq] at hj
    subst hj
    refine⟨by simpa using(hs j x hx).symm,fun q u y hq hy=>?_⟩
    have hq':q<sz e:=by have:=(List.getElem?_eq_some_iff.1 hq).1;simpa using this
    rw [List.getElem?_map,List.getElem?_range hq'] at hq
    simp only [Option.map_some,Option.some.injEq] at hq
    subst hq
    exact(hr j x q y hx hy).rd.bound.mono (fun k hk=>hR k (hG j q k hk.1).1 hk.2 (fun e=>(hG j q k hk.1).2 (by simpa [Value.ownBlock] using e.symm)))
structure Same (σ σ1:St T) (env aZ:Nat→Value) (F F1:Nat→Nat→Prop) (w w1:World) (r:Nat):Prop where
 env:aZ r=env r
 own:∀k,F1 r k↔F r k
 res:σ1.res r=σ.res r
 heap:∀k,F r k→w1.heap[k]? =w.heap[k]?
theorem Same.holds {q:Nat × Nat} (h:Same σ σ1 env aZ F F1 w w1 q.1):Holds σ σ1 F F1 w w1 q:=by
 rintro⟨e,l,hl⟩
 exact⟨⟨e,l,h.res.symm.trans hl⟩,fun k hk _=>⟨(h.own k).2 hk,h.heap k hk⟩⟩
theorem Same.OU {r:Nat} (h:Same σ σ1 env aZ F F1 w w1 r):OT σ σ1 r:=⟨fun bv e l hr=>⟨bv,l,h.res.symm.trans hr,rfl⟩,fun bv e l hr=>⟨bv,l,h.res.symm.trans hr,rfl⟩⟩
def Fine (σ σ1:St T) (env aZ:Nat→Value) (F F1:Nat→Nat→Prop) (w w1:World) (rs:List Nat) (vs:List (Nat × Nat)):Prop:=(∀r∈rs,aZ r=env r)∧∀q∈vs,Holds σ σ1 F F1 w w1 q
theorem Gg (hc:Calm σ σ1 F F1 w w1) {r:Nat} (hs:Same σ σ1 env aZ F F1 w w1 r) {x:dA T} (h:vP σ env F w r x) (hf:∀t cs,x= .bx t cs→Fine σ σ1 env aZ F F1 w w1 (refsOf cs) (ou cs)):vP σ1 aZ F1 w1 r x:=by
 cases x with
 | no=>exact fun k hk=>h k ((hs.own k).1 hk)
 | bx t cs=>
   obtain⟨g,arr,h1,h2,h3,h4,h5⟩:=h
   obtain⟨f1,f2⟩:=hf t cs rfl
   exact⟨g,arr,hs.env.trans h1,(hs.own g).2 h2,fun k hk=>h3 k ((hs.own k).1 hk),(hs.heap g h2).trans h4,kD hc h5 f1 f2⟩
 | row bv e l=>
   have h1:Ow T.sz w (F r) (.sl e (l.map (T.enc e))) (env r):=h
   have h2:=(h1.frame (w':=w1) (fun k hk _=>hs.heap k hk)).mono (fun k hk=>(hs.own k).2 hk)
   show Ow T.sz w1 (F1 r) (.sl e (l.map (T.enc e))) (aZ r)
   rw [hs.env];exact h2
 | sh bv e l=>
   obtain⟨raw,h1,h2,h3⟩:=h
   refine⟨raw,?_,h2,fun j r' x hj hx=>⟨(h3 j r' x hj hx).1,fun q u y hq hy=>yC hc (fun q hq=>by cases hq) ((h3 j r' x hj hx).2 q u y hq hy)⟩⟩
   rw [hs.env]
   exact(h1.frame (w':=w1) (fun k hk _=>hs.heap k hk)).mono (fun k hk=>(hs.own k).2 hk)
theorem CJ {c:Cell T} {q:Nat × Nat} (h:q∈c.vers):q.1∈c.refs∧q.2∈c.refs:=by
 cases c with
 | im p e l=>cases p<;>simp [Cell.vers,Cell.refs] at*;subst h;simp
 | _=>simp [Cell.vers] at h
theorem jU {q:Nat × Nat}:∀{cs:List (Cell T)},q∈ou cs→q.1∈refsOf cs∧q.2∈refsOf cs
 | [],h=>by simp [ou] at h
 | c::cs,h=>by
   rcases List.mem_append.1 h with h | h
   ·exact⟨List.mem_append_left _ (CJ h).1,List.mem_append_left _ (CJ h).2⟩
   ·exact⟨List.mem_append_right _ (jU h).1,List.mem_append_right _ (jU h).2⟩
theorem xP {q:Nat × Nat} {cs:List (Cell T)} (h:q∈ou cs):q.1∈refsOf cs:=(jU h).1
theorem wu {q:Nat × Nat}:∀{cs:List (Bool × List (Cell T))},q∈CB cs→q.1∈Cm cs∧q.2∈Cm cs
 | [],h=>by simp [CB] at h
 | c::cs,h=>by
   rcases List.mem_append.1 h with h | h
   ·exact⟨List.mem_append_left _ (jU h).1,List.mem_append_left _ (jU h).2⟩
   ·exact⟨List.mem_append_right _ (wu h).1,List.mem_append_right _ (wu h).2⟩
theorem EN {s:Slot T} {q:Nat × Nat} (h:q∈s.vers):q.1∈s.refs∧q.2∈s.refs:=by
 cases s with
 | ud=>simp [Slot.vers] at h
 | c x=>exact CJ h
 | ag l=>exact jU h
 | tu l=>exact wu h
 | pi p e l i o=>cases p<;>simp [Slot.vers,Slot.refs] at*;subst h;simp
 | pe r i o=>simp [Slot.vers] at h
 | pl r bv i o e l=>simp [Slot.vers,Slot.refs] at*;subst h;simp
 | fn f r=>simp [Slot.vers] at h
theorem Iw {s:Slot T} {q:Nat × Nat} (h:q∈s.vers):q.1∈s.refs:=(EN h).1
end
end Go.Proofs.YtcnfgfomholheaaGreatDoor.Z
end
section
namespace Go.Proofs.YtcnfgfomholheaaGreatDoor.Z
open Go.RowKit
set_option linter.unusedVariables false
set_option linter.unusedSimpArgs false
section
variable {T:dQ}
structure bf (T:dQ) where
 slot:Slot T
 rs:List (Nat × dA T)
 aX:List Nat
 nx:Nat
 aW:List Nat
def St.upd (σ:St T) (dst:Option Nat) (U:bf T):St T:=
 match dst with
 | some d=>⟨(d,U.slot)::σ.tm,U.rs++σ.rs,σ.n,σ.A⟩
 | none=>⟨σ.tm,U.rs++σ.rs,σ.n,σ.A⟩
theorem eY {k t:Nat} (h:k≠t):Nat.beq k t=false:=by
 cases hb:Nat.beq k t
 ·rfl
 ·exact absurd (Nat.eq_of_beq_eq_true hb) h
theorem EO {α:Type} (d:α) (t:Nat):∀(l m:List (Nat × α)),lk d (l++m) t=lk (lk d m t) l t
 | [],m=>rfl
 | (k,a)::l,m=>by
   simp only [List.cons_append,lk]
   cases Nat.beq k t
   ·exact EO d t l m
   ·rfl
theorem qU {α:Type} (d:α) (t:Nat):∀(l:List (Nat × α)),(∀p∈l,p.1≠t)→lk d l t=d
 | [],_=>rfl
 | (k,a)::l,h=>by
   have h1:Nat.beq k t=false:=eY (h (k,a) List.mem_cons_self)
   simp only [lk,h1]
   exact qU d t l (fun p hp=>h p (List.mem_cons_of_mem _ hp))
theorem St.dI (σ:St T) (dst:Option Nat) (U:bf T) (r:Nat):(σ.upd dst U).res r=lk (σ.res r) U.rs r:=by
 cases dst<;>exact EO _ _ _ _
theorem St.kH {σ:St T} {dst:Option Nat} {U:bf T} {r:Nat} (h:∀p∈U.rs,p.1≠r):(σ.upd dst U).res r=σ.res r:=by
 rw [St.dI];exact qU _ _ _ h
theorem St.Ut (σ:St T) (dst:Option Nat) (U:bf T):(σ.upd dst U).n=σ.n:=by cases dst<;>rfl
theorem St.gY (σ:St T) (dst:Option Nat) (U:bf T):(σ.upd dst U).A=σ.A:=by cases dst<;>rfl
theorem St.nJ (σ:St T) (U:bf T) (d:Nat):(σ.upd (some d) U).tmp d=U.slot:=by
 show lk _ ((d,U.slot)::σ.tm) d=_
 have:Nat.beq d d=true:=by simp [Nat.beq_eq]
 simp only [lk,this]
theorem St.uD (σ:St T) (U:bf T) {d t:Nat} (h:d≠t):(σ.upd (some d) U).tmp t=σ.tmp t:=by
 show lk _ ((d,U.slot)::σ.tm) t=_
 have:Nat.beq d t=false:=eY h
 simp only [lk,this]
 rfl
def jm (σ:St T) (r:Nat):Prop:=((∀t,r∉(σ.tmp t).refs)∧∀s,r∉(σ.res s).refs)∧r<1000
def H8 (σ:St T) (q:Nat × Nat):Prop:=(∀t,q∉(σ.tmp t).vers)∧∀s t cs,σ.res s= .bx t cs→q∉ou cs
theorem jm.VT {σ:St T} {q:Nat × Nat} (h:jm σ q.2):H8 σ q:=by
 refine⟨fun t hq=>h.1.1 t (EN hq).2,fun s t cs hs hq=>h.1.2 s ?_⟩
 rw [hs];exact(jU hq).2
theorem jm.ac6 {σ:St T} {q:Nat × Nat} (h:jm σ q.1):H8 σ q:=by
 refine⟨fun t hq=>h.1.1 t (Iw hq),fun s t cs hs hq=>h.1.2 s ?_⟩
 rw [hs];exact xP hq
variable {σ σ1:St T} {env aZ:Nat→Value} {F F1:Nat→Nat→Prop} {w w1:World} {W0:Fr} {a:Act}
def Told (σ σ1:St T) (env aZ:Nat→Value) (F F1:Nat→Nat→Prop) (w w1:World) (r:Nat):Prop:=
 jm σ r∨(aZ r=env r∧OT σ σ1 r∧∀b,Holds σ σ1 F F1 w w1 (r,b)∨H8 σ (r,b))
theorem dU.upd (h:dU W0 σ a w env F) (aW:Nat→Prop) {dst:Option Nat} {U:bf T} {v:Value} (below:lM W0 w1) (calm:Calm σ (σ.upd dst U) F F1 w w1)
  (same:∀r,¬aW r→Same σ (σ.upd dst U) env aZ F F1 w w1 r) (ad3:∀r,aW r→vP (σ.upd dst U) aZ F1 w1 r ((σ.upd dst U).res r))
  (own:∀r k,aW r→F1 r k→W0.may k∧k<w1.heap.size) (apart:∀r s k,aW r→F1 r k→F1 s k→r=s)
  (told:∀r,aW r→Told σ (σ.upd dst U) env aZ F F1 w w1 r) (hd:∀d,dst=some d→d<σ.n∧bK (σ.upd dst U) aZ F1 w1 U.slot v):jg W0 (σ.upd dst U) (a.put dst v) w1:=by
 have hold:∀q:Nat × Nat,(jm σ q.1→False)→(H8 σ q→False)→Holds σ (σ.upd dst U) F F1 w w1 q:=by
  intro q h1 h2
  by_cases hq:aW q.1
  ·rcases told q.1 hq with h3 | ⟨_,_,h3⟩
   ·exact(h1 h3).elim
   ·rcases h3 q.2 with h3 | h3
    ·exact h3
    ·exact(h2 h3).elim
  ·exact(same q.1 hq).holds
 have Yx:∀r,(jm σ r→False)→aZ r=env r:=by
  intro r h1
  by_cases hq:aW r
  ·rcases told r hq with h3 | ⟨h3,_,_⟩
   ·exact(h1 h3).elim
   ·exact h3
  ·exact(same r hq).env
 have ZE:∀t,Fine σ (σ.upd dst U) env aZ F F1 w w1 (σ.tmp t).refs (σ.tmp t).vers:=fun t=>
  ⟨fun r hr=>Yx r (fun hu=>hu.1.1 t hr),fun q hq=>hold q (fun hu=>hu.1.1 t (Iw hq)) (fun hu=>hu.1 t hq)⟩
 have Tt:∀t v,bK σ env F w (σ.tmp t) v→bK (σ.upd dst U) aZ F1 w1 (σ.tmp t) v:=by
  intro t v hv
  refine xu calm hv (ZE t).1 (ZE t).2 (fun r i o hs=>?_)
  by_cases hq:aW r
  ·rcases told r hq with h3 | ⟨_,h3,_⟩
   ·exact(h3.1.1 t (by rcases hs with hs | ⟨bv,e,l,hs⟩<;>rw [hs]<;>simp [Slot.refs])).elim
   ·exact h3
  ·exact(same r hq).OU
 refine⟨aZ,F1,below,h.tab,fun r hr=>(Yx r (fun hu=>absurd hu.2 (Nat.not_lt.2 hr))).trans (h.pin r hr),fun k hk=>(by rw [St.gY];exact h.acc k hk),?_,?_,?_,?_,?_,?_⟩
 ·rw [St.Ut,←h.size];cases dst<;>simp [Act.put]
 ·rw [←h.defers];cases dst<;>rfl
 ·intro r
  by_cases hq:aW r
  ·exact ad3 r hq
  ·rw [(same r hq).res]
   refine Gg calm (same r hq) (h.res r) (fun t cs hx=>?_)
   exact⟨fun s hs=>Yx s (fun hu=>hu.1.2 r (by rw [hx];exact hs)),fun q hqv=>hold q (fun hu=>hu.1.2 r (by rw [hx];exact xP hqv)) (fun hu=>hu.2 r t cs hx hqv)⟩
 ·intro r k hk
  by_cases hq:aW r
  ·exact own r k hq hk
  ·have h1:=h.own r k (((same r hq).own k).1 hk)
   exact⟨h1.1,Nat.lt_of_lt_of_le h1.2 calm.size⟩
 ·intro r s k hr hs
  by_cases hq:aW r
  ·exact apart r s k hq hr hs
  ·by_cases hq2:aW s
   ·exact(apart s r k hq2 hs hr).symm
   ·exact h.apart r s k (((same r hq).own k).1 hr) (((same s hq2).own k).1 hs)
 ·intro t
  cases dst with
  | none=>exact Tt t _ (h.tm t)
  | some d=>
    obtain⟨hdn,hs⟩:=hd d rfl
    by_cases e:d=t
    ·subst e
     rw [St.nJ]
     have:(a.put (some d) v).tmps.getD d undef=v:=by
      have:d<a.tmps.size:=by rw [h.size];exact hdn
      simp [Act.put,Array.getD,this]
     rw [this];exact hs
    ·rw [St.uD σ U e]
     have:(a.put (some d) v).tmps.getD t undef=a.tmps.getD t undef:=by
      simp [Act.put,Array.getD_eq_getD_getElem?,Array.getElem?_setIfInBounds_ne e]
     rw [this];exact Tt t _ (h.tm t)
theorem dU.quiet (h:dU W0 σ a w env F) {dst:Option Nat} {s:Slot T} {aX aW:List Nat} {nx:Nat} {v:Value} (hd:∀d,dst=some d→d<σ.n∧bK σ env F w s v):jg W0 (σ.upd dst ⟨s,[],aX,nx,aW⟩) (a.put dst v) w:=by
 have hr:∀r,(σ.upd dst ⟨s,[],aX,nx,aW⟩).res r=σ.res r:=fun r=>St.kH (fun p hp=>by cases hp)
 refine h.upd (F1:=F) (aZ:=env) (fun _=>False) h.below ⟨St.gY _ _ _,Nat.le_refl _,fun k _ hk=>⟨hk,rfl⟩⟩ (fun r _=>⟨rfl,fun _=>Iff.rfl,hr r,fun _ _=>rfl⟩) (fun _ h=>h.elim) (fun _ _ h=>h.elim) (fun _ _ _ h=>h.elim) (fun _ h=>h.elim) (fun d e=>?_)
 obtain⟨h1,h2⟩:=hd d e
 refine⟨h1,xu (σ:=σ) (env:=env) (F:=F) (w:=w) ⟨St.gY _ _ _,Nat.le_refl _,fun k _ hk=>⟨hk,rfl⟩⟩ h2 (fun _ _=>rfl) (fun q _ hl=>⟨?_,fun k hk _=>⟨hk,rfl⟩⟩) (fun r i o _=>⟨fun bv e l hx=>⟨bv,l,(hr r).symm.trans hx,rfl⟩,fun bv e l hx=>⟨bv,l,(hr r).symm.trans hx,rfl⟩⟩)⟩
 obtain⟨e,l,hl⟩:=hl
 exact⟨e,l,(hr q.1).symm.trans hl⟩
def gW (r:Nat):List Nat→Bool
 | []=>false
 | k::l=>match Nat.beq k r with
   | true=>true
   | false=>gW r l
theorem dV {r:Nat}:∀{l:List Nat},gW r l=true↔r∈l
 | []=>by simp [gW]
 | k::l=>by
   unfold gW
   cases h:Nat.beq k r
   ·have:k≠r:=by intro e;subst e;simp [Nat.beq_eq] at h
    simp only [List.mem_cons,dV (l:=l)]
    exact⟨.inr,fun h=>h.resolve_left (fun e=>this e.symm)⟩
   ·have:k=r:=Nat.eq_of_beq_eq_true h
    simp [this]
def nS (r:Nat):List (Nat × Slot T)→Bool
 | []=>true
 | (_,s)::l=>match gW r s.refs with
   | true=>false
   | false=>nS r l
def nT (r:Nat):List (Nat × dA T)→Bool
 | []=>true
 | (k,s)::l=>match Nat.beq k r with
   | true=>false
   | false=>match gW r s.refs with
     | true=>false
     | false=>nT r l
def St.fresh (σ:St T) (r:Nat):Bool:=match Nat.blt r 1000 with
 | true=>match nS r σ.tm with
   | true=>nT r σ.rs
   | false=>false
 | false=>false
theorem OV {r t:Nat}:∀{l:List (Nat × Slot T)},nS r l=true→r∉(lk (.c .un) l t).refs
 | [],_=>by simp [lk,Slot.refs,Cell.refs]
 | (k,s)::l,h=>by
   unfold nS at h
   cases hs:gW r s.refs<;>rw [hs] at h
   ·unfold lk
    cases Nat.beq k t
    ·exact OV h
    ·intro hm;rw [dV.2 hm] at hs;cases hs
   ·cases h
theorem OW {r t:Nat}:∀{l:List (Nat × dA T)},nT r l=true→r∉(lk .no l t).refs
 | [],_=>by simp [lk,dA.refs]
 | (k,s)::l,h=>by
   unfold nT at h
   cases hk:Nat.beq k r<;>rw [hk] at h
   ·cases hs:gW r s.refs<;>rw [hs] at h
    ·unfold lk
     cases Nat.beq k t
     ·exact OW h
     ·intro hm;rw [dV.2 hm] at hs;cases hs
    ·cases h
   ·cases h
theorem OX {r:Nat}:∀{l:List (Nat × dA T)},nT r l=true→lk .no l r= .no
 | [],_=>rfl
 | (k,s)::l,h=>by
   unfold nT at h
   cases hk:Nat.beq k r<;>rw [hk] at h
   ·cases hs:gW r s.refs<;>rw [hs] at h
    ·unfold lk
     rw [hk]
     exact OX h
    ·cases h
   ·cases h
theorem St.H6 {σ:St T} {r:Nat} (h:σ.fresh r=true):jm σ r∧σ.res r= .no:=by
 unfold St.fresh at h
 cases h0:Nat.blt r 1000<;>rw [h0] at h<;>dsimp only at h
 ·cases h
 cases h1:nS r σ.tm<;>rw [h1] at h<;>dsimp only at h
 ·cases h
 ·exact⟨⟨⟨fun t=>OV h1,fun s=>OW h⟩,by simpa [Nat.blt_eq] using h0⟩,OX h⟩
structure Agree (σ σ':St T) (ts aX aW:List Nat):Prop where
 tm:∀t∈ts,σ'.tmp t=σ.tmp t
 res:∀r∈aX,σ'.res r=σ.res r
 fr:∀r∈aW,σ.fresh r=true→σ'.fresh r=true
 n:σ'.n=σ.n
theorem Agree.refl (σ:St T) (ts aX aW:List Nat):Agree σ σ ts aX aW:=⟨fun _ _=>rfl,fun _ _=>rfl,fun _ _ h=>h,rfl⟩
theorem Agree.new {σ σ':St T} {ts aX aW:List Nat} (h:Agree σ σ' ts aX aW) {r:Nat} (hr:r∈aW) (hf:σ.fresh r=true):jm σ' r∧σ'.res r= .no:=St.H6 (h.fr r hr hf)
end
end Go.Proofs.YtcnfgfomholheaaGreatDoor.Z
end
section
namespace Go.Proofs.YtcnfgfomholheaaGreatDoor.Z
open Go.RowKit
set_option linter.unusedVariables false
set_option linter.unusedSimpArgs false
section
variable {T:dQ}
def jS (op:Op):List Nat:=op.operands.toList.filterMap fun | .tmp t=>some t | _=>none
def dY (P:Program) (W0:Fr) (o:Oper) (σ:St T) (U:bf T):Prop:=
 ∀(σ':St T) (a:Act) (w:World) (K:Act→World→Prop) (Q:Exit→Act→World→Prop),Agree σ σ' (jS o.op) U.aX U.aW→jg W0 σ' a w→(∀a' w',jg W0 (σ'.upd o.dst U) a' w'→K a' w')→Oper.wp P o a w K Q
inductive eF (T:dQ) where
 | done (U:bf T) (ob:Option Prop)
 | call (f:FuncId) (args:List (Slot T))
 | stuck
def qx:Option Prop→Prop
 | some p=>p
 | none=>True
def oq:List Value→Bool
 | []=>true
 | v::r=>match v.oneCell' with
   | true=>oq r
   | false=>false
def RQ:List Value→List (Cell T)
 | []=>[]
 | v::r=> .sc v::RQ r
def OY (v:Value):Slot T:=
 match v with
 | .agg cs=>match oq cs.toList with
   | true=> .ag (RQ cs.toList)
   | false=> .c .un
 | v=>match v.oneCell' with
   | true=> .c (.sc v)
   | false=> .c .un
def weak:Slot T→Slot T
 | .pl r bv _ _ e l=> .c (.im (some (r,bv)) e l)
 | s=>s
def dn (σ:St T):Operand→Slot T
 | .tmp t=>weak (σ.tmp t)
 | .const v=>OY v
 | .global _=> .c .un
 | .func f=> .c (.sc (.func (.func f) #[] #[]))
theorem Ed {σ:St T} {env:Nat→Value} {F:Nat→Nat→Prop} {w:World}:∀{l:List Value},oq l=true→aQ σ env F w (RQ l) l
 | [],_=>rfl
 | v::r,h=>by
   unfold oq at h
   cases hv:v.oneCell'<;>rw [hv] at h
   ·cases h
   ·exact⟨v,r,rfl,⟨rfl,hv⟩,Ed h⟩
theorem Bq {σ:St T} {env:Nat→Value} {F:Nat→Nat→Prop} {w:World} (v:Value):bK σ env F w (OY v) v:=by
 unfold OY
 split
 ·rename_i cs
  cases h:oq cs.toList
  ·trivial
  ·exact⟨cs,rfl,Ed h⟩
 ·cases h:v.oneCell'
  ·trivial
  ·exact⟨rfl,h⟩
variable {P:Program} {W0:Fr} {σ σ':St T} {a:Act} {w:World} {env:Nat→Value} {F:Nat→Nat→Prop} {o:Oper} {aX aW:List Nat}
theorem OA {s:Slot T} {v:Value} (h:bK σ env F w s v):bK σ env F w (weak s) v:=by
 cases s<;>first | exact h | exact h.1
theorem bD {x:Operand} (h:dU W0 σ' a w env F) (hA:Agree σ σ' (jS o.op) aX aW) (hx:x∈o.op.operands.toList):bK σ' env F w (dn σ x) (a.eval x):=by
 cases x with
 | tmp t=>
   have ht:t∈jS o.op:=List.mem_filterMap.2 ⟨.tmp t,hx,rfl⟩
   show bK σ' env F w (weak (σ.tmp t)) _
   rw [←hA.tm t ht];exact OA (h.tm t)
 | const v=>exact Bq v
 | global g=>trivial
 | func f=>exact⟨rfl,rfl⟩
def sv:Slot T→Option Value
 | .c (.sc v)=>some v
 | _=>none
theorem iY {s:Slot T} {v u:Value} (h:bK σ env F w s u) (hs:sv s=some v):u=v:=by
 cases s with
 | c x=>cases x<;>simp [sv] at hs;subst hs;exact h.1
 | _=>simp [sv] at hs
theorem jf {K:Act→World→Prop} {Q:Exit→Act→World→Prop} {v:Value} {w w':World} (hr:(execOp a.eval o).run P w= .ok (.value v) w') (h:K (a.put o.dst v) w'):Oper.wp P o a w K Q:=by
 unfold Oper.wp;rw [hr];exact h
theorem zK {K:Act→World→Prop} {Q:Exit→Act→World→Prop} {w w':World} (hr:(execOp a.eval o).run P w= .ok .skip w') (h:K (a.put o.dst undef) w'):Oper.wp P o a w K Q:=by
 unfold Oper.wp;rw [hr];exact h
theorem quiet_step {s:Slot T} {nx:Nat} (hd:∀d,o.dst=some d→d<σ.n)
  (hrun:∀(σ':St T) (a:Act) (w:World) (env:Nat→Value) (F:Nat→Nat→Prop),Agree σ σ' (jS o.op) aX aW→dU W0 σ' a w env F→∃v,(execOp a.eval o).run P w= .ok (.value v) w∧bK σ' env F w s v):dY P W0 o σ ⟨s,[],aX,nx,aW⟩:=by
 intro σ' a w K Q hA ⟨env,F,h⟩ hK
 obtain⟨v,hr,hs⟩:=hrun σ' a w env F hA h
 exact jf hr (hK _ _ (h.quiet (fun d hd'=>⟨by rw [hA.n];exact hd d hd',hs⟩)))
def bT (σ:St T):Option Nat→Bool
 | some d=>Nat.blt d σ.n
 | none=>false
theorem bg {d:Option Nat} (h:bT σ d=true):∀k,d=some k→k<σ.n:=by
 rintro k rfl;simpa [bT,Nat.blt_eq] using h
def OZ (op:BinOp) (a b:Int):Option Value:=
 match op with
 | .add=>some (.int .i64 (wrap64 (a+b)))
 | .sub=>some (.int .i64 (wrap64 (a - b)))
 | .mul=>some (.int .i64 (wrap64 (a*b)))
 | .eql=>some (.bool (a==b))
 | .neq=>some (.bool (a !=b))
 | .lss=>some (.bool (decide (a<b)))
 | .leq=>some (.bool (decide (a≤b)))
 | .gtr=>some (.bool (decide (a>b)))
 | .geq=>some (.bool (decide (a≥b)))
 | _=>none
def Yy (op:BinOp) (a b:ByteArray):Option Value:=
 match op with
 | .eql=>some (.bool (a.toList==b.toList))
 | .neq=>some (.bool !(a.toList==b.toList))
 | .lss=>some (.bool (Op.bytesLess a.toList b.toList))
 | .leq=>some (.bool (Op.bytesLess a.toList b.toList || a.toList==b.toList))
 | .gtr=>some (.bool !(Op.bytesLess a.toList b.toList || a.toList==b.toList))
 | .geq=>some (.bool !(Op.bytesLess a.toList b.toList))
 | _=>none
def MQ:IntKind→IntKind→Bool
 | .i64, .i64=>true
 | .u8, .u8=>true
 | .i32, .i32=>true
 | .u16, .u16=>true
 | .u32, .u32=>true
 | .u64, .u64=>true
 | _,_=>false
def pos:Int→Bool
 | .ofNat (_+1)=>true
 | _=>false
def Yz:Int→Bool
 | .ofNat _=>true
 | _=>false
def JU (k:IntKind) (op:BinOp) (a b:Int):Option Value:=
 match op with
 | .add=>some (.int k (k.wrap (a+b)))
 | .sub=>some (.int k (k.wrap (a - b)))
 | .mul=>some (.int k (k.wrap (a*b)))
 | .eql=>some (.bool (a==b))
 | .neq=>some (.bool (a !=b))
 | .lss=>some (.bool (decide (a<b)))
 | .leq=>some (.bool (decide (a≤b)))
 | .gtr=>some (.bool (decide (a>b)))
 | .geq=>some (.bool (decide (a≥b)))
 | .quo=>match pos b with
   | true=>some (.int k (k.wrap (a.tdiv b)))
   | false=>none
 | .rem=>match pos b with
   | true=>some (.int k (a.tmod b))
   | false=>none
 | .and=>some (.int k (k.wrap (BitVec.ofInt k.bits a &&& BitVec.ofInt k.bits b).toNat))
 | .or=>some (.int k (k.wrap (BitVec.ofInt k.bits a ||| BitVec.ofInt k.bits b).toNat))
 | .xor=>some (.int k (k.wrap (BitVec.ofInt k.bits a ^^^ BitVec.ofInt k.bits b).toNat))
 | .andNot=>some (.int k (k.wrap (BitVec.ofInt k.bits a &&& ~~~ BitVec.ofInt k.bits b).toNat))
 | _=>none
def ac9:IntKind→Bool
 | .i64=>true
 | _=>false
def abX:BinOp→Bool
 | .shl=>true
 | .shr=>true
 | _=>false
def isI:BinOp→Bool
 | .quo=>false
 | .rem=>false
 | .and=>false
 | .or=>false
 | .xor=>false
 | .andNot=>false
 | _=>true
def WH (op:BinOp) (k:IntKind) (a b:Int):Option Value:=
 match Yz b with
 | true=>match op with
   | .shl=>some (.int k (k.wrap (a*2 ^ min b.toNat k.bits)))
   | .shr=>some (.int k (a.fdiv (2 ^ min b.toNat k.bits)))
   | _=>none
 | false=>none
def O1 (op:BinOp) (x y:Value):Option Value:=
 match x,y with
 | .int k a, .int k' b=>match abX op with
   | true=>WH op k a b
   | false=>match MQ k k' with
     | true=>match ac9 k with
       | true=>match isI op with
         | true=>OZ op a b
         | false=>JU .i64 op a b
       | false=>JU k op a b
     | false=>none
 | .string a, .string b=>Yy op a b
 | _,_=>none
theorem wrap_i64 (n:Int):IntKind.i64.wrap n=wrap64 n:=by unfold wrap64;exact IntKind.wrap_i64 n
theorem abY {b:Int} (h:pos b=true):b≠0:=by
 intro e;subst e;cases h
theorem aaM {b:Int} (h:Yz b=true):¬b<0:=by
 unfold Yz at h;split at h
 ·simp
 ·cases h
theorem O4 {k k':IntKind} (h:MQ k k'=true):k=k':=by
 unfold MQ at h;split at h<;>first | rfl | cases h
theorem O5 {k:IntKind} {op:BinOp} {a b:Int} {r:Value} (h:JU k op a b=some r):r.oneCell'=true:=by
 unfold JU at h
 cases op<;>simp only [Option.some.injEq,reduceCtorEq] at h<;>first | (subst h;rfl) | (split at h<;>first | (cases h;done) | (cases h;rfl))
theorem YA {op:BinOp} {a b:Int} {r:Value} (h:OZ op a b=some r):r.oneCell'=true:=by
 unfold OZ at h;cases op<;>simp only [Option.some.injEq,reduceCtorEq] at h<;>subst h<;>rfl
theorem aaN {k:IntKind} {op:BinOp} {a b:Int} {r:Value} (h:WH op k a b=some r):r.oneCell'=true:=by
 unfold WH at h
 split at h
 ·cases op<;>simp only [Option.some.injEq,reduceCtorEq] at h<;>subst h<;>rfl
 ·cases h
theorem YB {op:BinOp} {u v r:Value} (h:O1 op u v=some r):r.oneCell'=true:=by
 unfold O1 at h
 split at h
 ·split at h
  ·exact aaN h
  ·split at h
   ·split at h
    ·split at h
     ·exact YA h
     ·exact O5 h
    ·exact O5 h
   ·cases h
 ·unfold Yy at h;cases op<;>simp only [Option.some.injEq,reduceCtorEq] at h<;>subst h<;>rfl
 ·cases h
theorem O6 {k:IntKind} {op:BinOp} {t:TypeId} {a b:Int} {r:Value} (w:World) (hs:abX op=false) (h:JU k op a b=some r):(binOp op t (.int k a) (.int k b):Sem Value).run P w= .ok r w:=by
 unfold JU at h
 cases op<;>simp only [Option.some.injEq,reduceCtorEq] at h<;>first
  | (subst h;simp [binOp,Op.intArith,Op.intCmp,Op.intBits,Sem.run_bind,Sem.run_pure];done)
  | (split at h
     ·rename_i hp
      simp only [Option.some.injEq] at h
      subst h
      simp [binOp,Op.intDiv,abY hp,Sem.run_bind,Sem.run_pure]
     ·cases h)
  | cases hs
theorem YC {op:BinOp} {t:TypeId} {a b:Int} {r:Value} (w:World) (h:OZ op a b=some r):(binOp op t (.int .i64 a) (.int .i64 b):Sem Value).run P w= .ok r w:=by
 unfold OZ at h
 cases op<;>simp only [Option.some.injEq,reduceCtorEq] at h<;>subst h<;>simp [binOp,Op.intArith,Op.intCmp,wrap_i64,Sem.run_bind,Sem.run_pure]
theorem aaO {k k':IntKind} {op:BinOp} {t:TypeId} {a b:Int} {r:Value} (w:World) (h:WH op k a b=some r):(binOp op t (.int k a) (.int k' b):Sem Value).run P w= .ok r w:=by
 unfold WH at h
 split at h
 ·rename_i hn
  cases op<;>simp only [Option.some.injEq,reduceCtorEq] at h<;>subst h<;>simp [binOp,Op.shift,aaM hn,Sem.run_bind,Sem.run_pure]
 ·cases h
theorem QE {op:BinOp} {t:TypeId} {x y:Operand} {k k':IntKind} {a b:Int} (w:World):(eqGuard op t x y (.int k a) (.int k' b)).run P w= .ok () w:=by
 cases op<;>simp [eqGuard]
theorem YD {op:BinOp} {t:TypeId} {x y:Operand} {u v r:Value} (w:World) (h:O1 op u v=some r):(do eqGuard op t x y u v;binOp op t u v:Sem Value).run P w= .ok r w:=by
 unfold O1 at h
 split at h
 ·rename_i k a k' b
  simp only [Sem.run_bind,QE,Result.andThen_ok]
  split at h
  ·exact aaO w h
  ·rename_i hs
   split at h
   ·rename_i hk
    have:=O4 hk
    subst this
    split at h
    ·rename_i hk
     have:k= .i64:=by cases k<;>first | rfl | cases hk
     subst this
     split at h
     ·exact YC w h
     ·exact O6 w hs h
    ·exact O6 w hs h
   ·cases h
 ·rename_i a b
  unfold Yy at h
  cases op<;>simp only [Option.some.injEq,reduceCtorEq] at h<;>subst h<;>simp [eqGuard,binOp,Op.stringOp,Sem.run_bind,Sem.run_pure]
 ·cases h
def JD (σ:St T) (dst:Option Nat):Option Value→eF T
 | some v=>match bT σ dst with
   | true=> .done ⟨.c (.sc v),[],[],0,[]⟩ none
   | false=> .stuck
 | none=> .stuck
def zo (σ:St T) (dst:Option Nat) (op:BinOp) (x y:Operand):eF T:=
 match sv (dn σ x) with
 | some u=>match sv (dn σ y) with
   | some v=>JD σ dst (O1 op u v)
   | none=> .stuck
 | none=> .stuck
theorem Lc {U:bf T} {ob:Option Prop} {dst:Option Nat} {r:Option Value} (h:JD σ dst r= .done U ob):∃v,r=some v∧bT σ dst=true∧U=⟨.c (.sc v),[],[],0,[]⟩∧ob=none:=by
 cases r with
 | none=>cases h
 | some v=>
   unfold JD at h
   cases hd:bT σ dst<;>rw [hd] at h
   ·cases h
   ·cases h;exact⟨v,rfl,rfl,rfl,rfl⟩
theorem FP {op:BinOp} {t ty:TypeId} {x y:Operand} {U:bf T} {ob:Option Prop} (ho:o.op= .binOp op t x y ty) (h:zo σ o.dst op x y= .done U ob):dY P W0 o σ U:=by
 unfold zo at h
 cases hx:sv (dn σ x) with
 | none=>rw [hx] at h;cases h
 | some u=>
   cases hy:sv (dn σ y) with
   | none=>rw [hx,hy] at h;cases h
   | some v=>
     rw [hx,hy] at h
     obtain⟨r,hr,hd,rfl,rfl⟩:=Lc h
     refine quiet_step (bg hd) (fun σ' a w env F hA hS=>⟨r,?_,⟨rfl,YB hr⟩⟩)
     have e1:=iY (bD hS hA (x:=x) (by simp [ho,Op.operands])) hx
     have e2:=iY (bD hS hA (x:=y) (by simp [ho,Op.operands])) hy
     have hrun:=YD (P:=P) (t:=t) (x:=x) (y:=y) w hr
     unfold execOp
     rw [ho]
     simp only [e1,e2,Sem.run_bind,Sem.run_pure] at hrun⊢
     rw [hrun];rfl
def ZF (op:UnOp) (x:Value):Option Value:=
 match op,x with
 | .not, .bool b=>some (.bool !b)
 | .neg, .int .i64 n=>some (.int .i64 (wrap64 (0 - n)))
 | _,_=>none
theorem aaP {op:UnOp} {u r:Value} (h:ZF op u=some r):r.oneCell'=true:=by
 unfold ZF at h
 split at h<;>first | (cases h;done) | (cases h;rfl)
def TT (σ:St T) (dst:Option Nat) (op:UnOp) (x:Operand):eF T:=
 match sv (dn σ x) with
 | some u=>JD σ dst (ZF op u)
 | none=> .stuck
theorem aaB {op:UnOp} {t:TypeId} {x:Operand} {U:bf T} {ob:Option Prop} (ho:o.op= .unOp op t x) (h:TT σ o.dst op x= .done U ob):dY P W0 o σ U:=by
 unfold TT at h
 cases hx:sv (dn σ x) with
 | none=>rw [hx] at h;cases h
 | some u=>
   rw [hx] at h
   obtain⟨r,hr,hd,rfl,rfl⟩:=Lc h
   refine quiet_step (bg hd) (fun σ' a w env F hA hS=>⟨r,?_,⟨rfl,aaP hr⟩⟩)
   have e1:=iY (bD hS hA (x:=x) (by simp [ho,Op.operands])) hx
   unfold execOp
   rw [ho]
   simp only [e1]
   unfold ZF at hr
   split at hr<;>first | (cases hr;done) | (cases hr;simp [Op.unary,Op.intArith,wrap_i64,Sem.run_bind,Sem.run_pure])
def oh (σ:St T) (dst:Option Nat) (x:Operand):eF T:=
 match bT σ dst with
 | true=> .done ⟨dn σ x,[],(dn σ x).refs,0,[]⟩ none
 | false=> .stuck
theorem KW {x:Operand} {U:bf T} {ob:Option Prop} (ho:o.op= .move x∨o.op= .assign x) (h:oh σ o.dst x= .done U ob):dY P W0 o σ U:=by
 unfold oh at h
 cases hd:bT σ o.dst<;>rw [hd] at h<;>cases h
 refine quiet_step (bg hd) (fun σ' a w env F hA hS=>⟨a.eval x,?_,bD hS hA ?_⟩)
 ·unfold execOp;rcases ho with ho | ho<;>rw [ho]<;>rfl
 ·rcases ho with ho | ho<;>simp [ho,Op.operands]
def Hl (σ:St T) (dst:Option Nat) (fn:Fn) (first cap:Array Operand):eF T:=
 match fn,first,cap with
 | .func f,⟨[]⟩,⟨[x]⟩=>match dn σ x with
   | .c (.px r 0)=>match bT σ dst with
     | true=> .done ⟨.fn f r,[],[r],0,[]⟩ none
     | false=> .stuck
   | _=> .stuck
 | _,_,_=> .stuck
theorem V3 {fn:Fn} {first cap:Array Operand} {U:bf T} {ob:Option Prop} (ho:o.op= .makeFunc fn first cap) (h:Hl σ o.dst fn first cap= .done U ob):dY P W0 o σ U:=by
 unfold Hl at h
 split at h
 ·rename_i f x
  split at h
  ·rename_i r hx
   cases hd:bT σ o.dst<;>rw [hd] at h<;>cases h
   refine quiet_step (bg hd) (fun σ' a w env F hA hS=>⟨.func (.func f) #[] #[a.eval x],?_,?_⟩)
   ·unfold execOp;rw [ho];simp [Go.Instr.makeFunc]
   ·have h1:=bD hS hA (x:=x) (by simp [ho,Op.operands])
    rw [hx] at h1
    obtain⟨g,h2,h3⟩:=h1
    exact⟨g,h2,by rw [h3]⟩
  ·cases h
 ·cases h
def Hf (σ:St T) (dst:Option Nat) (c x y:Operand):eF T:=
 match sv (dn σ c) with
 | some (.bool true)=>oh σ dst x
 | some (.bool false)=>oh σ dst y
 | _=> .stuck
theorem VU {c x y:Operand} {U:bf T} {ob:Option Prop} (ho:o.op= .pick c x y) (h:Hf σ o.dst c x y= .done U ob):dY P W0 o σ U:=by
 unfold Hf at h
 split at h
 ·rename_i hc
  unfold oh at h
  cases hd:bT σ o.dst<;>rw [hd] at h<;>cases h
  refine quiet_step (bg hd) (fun σ' a w env F hA hS=>⟨a.eval x,?_,bD hS hA (by simp [ho,Op.operands])⟩)
  have e1:=iY (bD hS hA (x:=c) (by simp [ho,Op.operands])) hc
  unfold execOp;rw [ho];simp [e1,asBool,Sem.run_bind,Sem.run_pure]
 ·rename_i hc
  unfold oh at h
  cases hd:bT σ o.dst<;>rw [hd] at h<;>cases h
  refine quiet_step (bg hd) (fun σ' a w env F hA hS=>⟨a.eval y,?_,bD hS hA (by simp [ho,Op.operands])⟩)
  have e1:=iY (bD hS hA (x:=c) (by simp [ho,Op.operands])) hc
  unfold execOp;rw [ho];simp [e1,asBool,Sem.run_bind,Sem.run_pure]
 ·cases h
def nth {α:Type}:List α→Nat→Option α
 | [],_=>none
 | x::_,0=>some x
 | _::l,n+1=>nth l n
def Uu:Bool × List (Cell T)→Slot T
 | (true,l)=> .ag l
 | (false,[c])=> .c c
 | (false,_)=> .c .un
theorem Ld {it:Bool × List (Cell T)}:∀{l:List (Bool × List (Cell T))} {vs:List Value} {i:Nat},kG σ env F w l vs→nth l i=some it→∃v,vs[i]? =some v∧qW σ env F w it v
 | [],_,_,_,h=>by cases h
 | x::l,_,0,⟨v,r,e,h1,_⟩,h=>by cases h;subst e;exact⟨v,rfl,h1⟩
 | x::l,_,i+1,⟨v,r,e,_,h2⟩,h=>by
   subst e
   obtain⟨u,h3,h4⟩:=Ld (i:=i) h2 h
   exact⟨u,by simpa using h3,h4⟩
theorem WI {it:Bool × List (Cell T)} {v:Value} (h:qW σ env F w it v):bK σ env F w (Uu it) v:=by
 obtain⟨b,l⟩:=it
 cases b with
 | true=>exact h
 | false=>
   match l,h with
   | [],_=>trivial
   | [c],⟨u,r,e,h1,_⟩=>cases e;exact h1
   | _::_::_,_=>trivial
def wU (σ:St T) (dst:Option Nat) (x:Operand) (i:Nat):eF T:=
 match dn σ x with
 | .tu l=>match nth l i with
   | some it=>match bT σ dst with
     | true=> .done ⟨Uu it,[],(Uu it).refs,0,[]⟩ none
     | false=> .stuck
   | none=> .stuck
 | _=> .stuck
theorem Ov {x:Operand} {i:Nat} {U:bf T} {ob:Option Prop} (ho:o.op= .extract x i) (h:wU σ o.dst x i= .done U ob):dY P W0 o σ U:=by
 unfold wU at h
 split at h
 ·rename_i l hx
  cases hn:nth l i with
  | none=>rw [hn] at h;cases h
  | some it=>
    rw [hn] at h
    dsimp only at h
    cases hd:bT σ o.dst<;>rw [hd] at h<;>cases h
    refine quiet_step (bg hd) (fun σ' a w env F hA hS=>?_)
    have e1:=bD hS hA (x:=x) (by simp [ho,Op.operands])
    rw [hx] at e1
    obtain⟨us,e2,h2⟩:=e1
    obtain⟨v,h3,h4⟩:=Ld h2 hn
    refine⟨v,?_,WI h4⟩
    have h5:us[i]? =some v:=by rw [←Array.getElem?_toList];exact h3
    unfold execOp;rw [ho]
    simp [e2,Instr.extract,h5,Sem.run_bind,Sem.run_pure]
 ·cases h
end
end Go.Proofs.YtcnfgfomholheaaGreatDoor.Z
end
section
namespace Go.Proofs.YtcnfgfomholheaaGreatDoor.Z
open Go.RowKit
set_option linter.unusedVariables false
set_option linter.unusedSimpArgs false
section
variable {T:dQ} {P:Program} {W0:Fr} {σ σ':St T} {a:Act} {w:World} {env:Nat→Value} {F:Nat→Nat→Prop} {o:Oper} {aX aW:List Nat}
theorem add_add (a:Addr) (m n:Nat):(a.add m).add n=a.add (m+n):=by
 unfold Addr.add
 by_cases hm:m=0<;>by_cases hn:n=0<;>simp [hm,hn,Nat.add_assoc]
theorem add_lit (g o n:Nat):(⟨g,o,none⟩:Addr).add n=⟨g,o+n,none⟩:=by unfold Addr.add;split<;>simp_all
theorem JL (a:Addr) (n:Nat):(a.add n).block=a.block:=by unfold Addr.add;split<;>rfl
inductive RdV (T:dQ) where
 | mk (p:Option (Nat × Nat)) (e:Nat) (l:List (T.Tb e))
def oJ (σ:St T):Option (Nat × Nat)→Bool
 | none=>true
 | some q=>match σ.res q.1 with
   | .row bv _ _=>Nat.beq bv q.2
   | _=>false
theorem qB {p:Option (Nat × Nat)} (h:oJ σ p=true):σ.live p:=by
 cases p with
 | none=>trivial
 | some q=>
   unfold oJ at h
   dsimp only at h
   cases hr:σ.res q.1 with
   | row bv e l=>
     rw [hr] at h
     have:bv=q.2:=Nat.eq_of_beq_eq_true h
     exact⟨e,l,by rw [hr,this]⟩
   | no=>rw [hr] at h;cases h
   | bx t cs=>rw [hr] at h;cases h
   | sh bv e l=>rw [hr] at h;cases h
def rV:Option (Nat × Nat)→List Nat
 | none=>[]
 | some q=>[q.1,q.2]
def Ij (σ:St T):Slot T→Option (RdV T)
 | .c (.im p e l)=>match oJ σ p with
   | true=>some ⟨p,e,l⟩
   | false=>none
 | .c (.hd r)=>match σ.res r with
   | .row bv e l=>some ⟨some (r,bv),e,l⟩
   | _=>none
 | _=>none
theorem zM {ts:List Nat} (hA:Agree σ σ' ts aX aW) {p:Option (Nat × Nat)} (hp:∀r∈rV p,r∈aX) (h:σ.live p):σ'.live p:=by
 cases p with
 | none=>trivial
 | some q=>
   obtain⟨e,l,hl⟩:=h
   exact⟨e,l,by rw [hA.res q.1 (hp q.1 (by simp [rV]))];exact hl⟩
theorem Ei {ts:List Nat} (h:dU W0 σ' a w env F) (hA:Agree σ σ' ts aX aW) {s:Slot T} {u:Value} (hs:bK σ' env F w s u) {p:Option (Nat × Nat)} {e:Nat} {l:List (T.Tb e)} (hr:Ij σ s=some ⟨p,e,l⟩) (hp:∀r∈rV p,r∈aX):
  σ'.live p∧Rd T.sz w (iI σ'.A F p) (.sl e (l.map (T.enc e))) u:=by
 unfold Ij at hr
 split at hr
 ·rename_i p' e' l'
  cases hl:oJ σ p'<;>rw [hl] at hr<;>cases hr
  have h1:=zM hA hp (qB hl)
  exact⟨h1,hs.2 h1⟩
 ·rename_i r
  cases hl:σ.res r with
  | row bv e' l'=>
    rw [hl] at hr
    cases hr
    have h1:σ'.res r= .row bv e l:=by rw [hA.res r (hp r (by simp [rV]))];exact hl
    have h2:=h.res r
    rw [h1] at h2
    refine⟨⟨e,l,h1⟩,?_⟩
    rw [hs.1]
    exact(Ow.rd h2).mono (fun k hk=> .inr ⟨(r,bv),rfl,hk⟩)
  | no=>rw [hl] at hr;cases hr
  | bx t cs=>rw [hl] at hr;cases hr
  | sh bv e l=>rw [hl] at hr;cases hr
 ·cases hr
def O7 (σ:St T) (s:Slot T):Option (Int × List Nat):=
 match s with
 | .c (.sc (.string b))=>some ((b.size:Int),[])
 | .c (.sc (.slice _ n _))=>some ((n:Int),[])
 | s=>match Ij σ s with
   | some ⟨p,e,l⟩=>some ((l.length:Int),rV p)
   | none=>none
def YE:TK→Slot T→Bool
 | .text, .c (.sc (.string _))=>true
 | .slice _, .c (.sc (.slice _ _ _))=>true
 | .slice _, .c (.im _ _ _)=>true
 | .slice _, .c (.hd _)=>true
 | _,_=>false
def MJ (σ:St T) (dst:Option Nat) (t:Nat) (x:Operand):eF T:=
 match T.ti t with
 | some i=>match YE i.kind (dn σ x) with
   | true=>match O7 σ (dn σ x) with
     | some (n,ts)=>match bT σ dst with
       | true=> .done ⟨.c (.sc (.int .i64 n)),[],ts,0,[]⟩ none
       | false=> .stuck
     | none=> .stuck
   | false=> .stuck
 | none=> .stuck
theorem zH {t ty e:TypeId} {b:Option Addr} {n c:Nat} (h:P.underlying t=some (.slice e)) (w:World):(Builtin.len_ #[t] ty #[.slice b n c]).run P w= .ok (.int .i64 n) w:=by
 simp [Builtin.len_,run_underlying h,goInt]
theorem Uw {t ty:TypeId} {b:ByteArray} (h:P.underlying t=some .string) (w:World):(Builtin.len_ #[t] ty #[.string b]).run P w= .ok (.int .i64 b.size) w:=by
 simp [Builtin.len_,run_underlying h,goInt]
theorem kY {b:Builtin} {args:Array Operand} {ts:Array TypeId} {v:Value} {w w':World} (hT:o.op= .call {callee:= .builtin b,args:=args,argTypes:=ts}) (h:(builtin b ts o.type (args.map fun | .const _=>true | _=>false) (args.map a.eval)).run P w= .ok (.value v) w'):(execOp a.eval o).run P w= .ok (.value v) w':=by
 unfold execOp
 rw [hT]
 simp only [resolve,invoke,Sem.run_bind,Sem.run_pure,Result.andThen_ok]
 exact h
theorem Yk (hT:T.ok P) {t:Nat} {x:Operand} {U:bf T} {ob:Option Prop} (ho:o.op= .call {callee:= .builtin .len,args:=#[x],argTypes:=#[t]}) (h:MJ σ o.dst t x= .done U ob):dY P W0 o σ U:=by
 unfold MJ at h
 cases hi:T.ti t with
 | none=>rw [hi] at h;cases h
 | some i=>
   rw [hi] at h
   dsimp only at h
   cases hk:YE i.kind (dn σ x) with
   | false=>rw [hk] at h;cases h
   | true=>
     rw [hk] at h
     dsimp only at h
     cases hl:O7 σ (dn σ x) with
     | none=>rw [hl] at h;cases h
     | some nt=>
       obtain⟨n,ts⟩:=nt
       rw [hl] at h
       dsimp only at h
       cases hd:bT σ o.dst<;>rw [hd] at h<;>cases h
       refine quiet_step (bg hd) (fun σ' a w env F hA hS=>⟨.int .i64 n,?_,⟨rfl,rfl⟩⟩)
       have e1:=bD hS hA (x:=x) (by simp [ho,Op.operands,Call.operands])
       obtain⟨inf,h1,h2,h3,h4,h5,h6,h7,h8⟩:=hT t i hi
       refine kY ho ?_
       simp only [List.map_toArray,List.map_cons,List.map_nil,builtin,Sem.run_bind,Sem.run_pure]
       unfold YE at hk
       split at hk
       ·rename_i hkind hsl
        rw [hkind] at h8
        rw [hsl] at e1 hl
        have e2:=e1.1
        simp only [O7,Option.some.injEq,Prod.mk.injEq] at hl
        rw [e2,Uw h8.1,←hl.1];rfl
       ·rename_i hkind hsl
        rw [hkind] at h8
        rw [hsl] at e1 hl
        have e2:=e1.1
        simp only [O7,Option.some.injEq,Prod.mk.injEq] at hl
        rw [e2,zH h8.1,←hl.1];rfl
       all_goals first
        | (cases hk;done)
        | (rename_i hkind hsl
           rw [hkind] at h8
           rw [hsl] at e1 hl
           simp only [O7] at hl
           split at hl
           ·rename_i p e l hr
            simp only [Option.some.injEq,Prod.mk.injEq] at hl
            obtain⟨h9,h10⟩:=Ei hS hA e1 hr (by rw [←hl.2];exact fun _ h=>h)
            obtain⟨A,c,h11,h12⟩:=h10.slice
            rw [h11,zH h8.1,←hl.1]
            simp
           ·cases hl)
theorem ji:∀{cs:List (Cell T)} {vs:List Value},aQ σ env F w cs vs→cs.length=vs.length
 | [],_,h=>by cases h;rfl
 | c::cs,_,⟨v,r,e,h1,h2⟩=>by subst e;simp [ji h2]
theorem uz:∀(n:Nat) {cs:List (Cell T)} {vs:List Value},aQ σ env F w cs vs→aQ σ env F w (cs.drop n) (vs.drop n)
 | 0,_,_,h=>h
 | n+1,[],_,h=>by cases h;rfl
 | n+1,c::cs,_,⟨v,r,e,h1,h2⟩=>by subst e;exact uz n h2
theorem uy:∀(n:Nat) {cs:List (Cell T)} {vs:List Value},aQ σ env F w cs vs→aQ σ env F w (cs.take n) (vs.take n)
 | 0,_,_,h=>rfl
 | n+1,[],_,h=>by cases h;rfl
 | n+1,c::cs,_,⟨v,r,e,h1,h2⟩=>by subst e;exact⟨v,_,rfl,h1,uy n h2⟩
theorem CO {c:Cell T}:∀{cs:List (Cell T)} {vs:List Value} {i:Nat},aQ σ env F w cs vs→nth cs i=some c→∃v,vs[i]? =some v∧gJ σ env F w c v
 | [],_,_,_,h=>by cases h
 | x::l,_,0,⟨v,r,e,h1,_⟩,h=>by cases h;subst e;exact⟨v,rfl,h1⟩
 | x::l,_,i+1,⟨v,r,e,_,h2⟩,h=>by
   subst e
   obtain⟨u,h3,h4⟩:=CO (i:=i) h2 h
   exact⟨u,by simpa using h3,h4⟩
def isStr:TK→Bool
 | .str _=>true
 | _=>false
theorem WJ {i:TI} {t:Nat} (h:fD P t i) (hs:isStr i.kind=false):(∃d,P.underlying t=some d∧(∀fs,d≠ .struct fs)∧∀n e,d≠ .array n e)∧i.size=1:=by
 obtain⟨inf,h1,h2,h3,h4,h5,h6,h7,h8⟩:=h
 cases hk:i.kind<;>rw [hk] at h8 hs<;>first | exact h8 | (cases hs;done) | exact⟨⟨_,h8.1,by simp,by simp⟩,h8.2⟩
theorem yD {i:TI} {t:Nat} (h:fD P t i) (hs:isStr i.kind=false) {ad:Addr} {v:Value} {w:World} (hc:w.cell? ad=some v):(Instr.loadAt t (.pointer (some ad))).run P w= .ok v w:=by
 obtain⟨⟨d,h1,h2,h3⟩,_⟩:=WJ h hs
 have hag:(isAgg t).run P w= .ok false w:=by
  unfold isAgg
  cases d<;>simp_all [Sem.run_bind,run_underlying h1]
 simp [Instr.loadAt,Instr.sureAddr,loadVar,Sem.run_bind,hag,hc]
theorem JV {i:TI} {t:Nat} (h:fD P t i) (hs:isStr i.kind=true) {ad:Addr} {us:List Value} {w:World} (hl:us.length=i.size) (hc:∀j v,us[j]? =some v→w.cell? (ad.add j)=some v):(Instr.loadAt t (.pointer (some ad))).run P w= .ok (.agg us.toArray) w:=by
 obtain⟨inf,h1,h2,h3,h4,h5,h6,h7,h8⟩:=h
 cases hk:i.kind<;>rw [hk] at h8 hs<;>first | (cases hs;done) | skip
 obtain⟨fs,h9,_,_⟩:=h8
 have hag:(isAgg t).run P w= .ok true w:=by unfold isAgg;simp [Sem.run_bind,run_underlying h9]
 have hsz:(sizeOf t).run P w= .ok us.length w:=by simp [sizeOf,typeInfo,h1,Sem.run_bind,h2,hl]
 simp [Instr.loadAt,Instr.sureAddr,loadVar,Sem.run_bind,hag,hsz,run_loadCells_list w ad us hc]
def toCell (p:Option (Nat × Nat)):C0 T.Tb→Cell T
 | .sc v=> .sc v
 | .sl e l=> .im p e l
def bZ (T:dQ) (e:Nat) (l:List (T.Tb e)) (i:Nat):T.Tb e:=l.getD i (T.df e)
def jP (i:TI) (cs:List (Cell T)) (o:Nat):Option (Slot T):=
 match isStr i.kind with
 | true=>match Nat.beq ((cs.drop o).take i.size).length i.size with
   | true=>some (.ag ((cs.drop o).take i.size))
   | false=>none
 | false=>match nth cs o with
   | some c=>some (.c c)
   | none=>none
theorem BP {i:TI} {t:Nat} (h:fD P t i) {cs:List (Cell T)} {vs:List Value} {b:Addr} {n:Nat} {s:Slot T} (hc:aQ σ env F w cs vs) (hv:∀j v,vs[j]? =some v→w.cell? (b.add j)=some v) (hl:jP i cs n=some s):
  ∃v,(Instr.loadAt t (.pointer (some (b.add n)))).run P w= .ok v w∧bK σ env F w s v:=by
 unfold jP at hl
 cases hs:isStr i.kind<;>rw [hs] at hl<;>dsimp only at hl
 ·cases hn:nth cs n with
  | none=>rw [hn] at hl;cases hl
  | some c=>
    rw [hn] at hl
    cases hl
    obtain⟨u,h1,h2⟩:=CO hc hn
    exact⟨u,yD h hs (hv n u h1),h2⟩
 ·cases hb:Nat.beq ((cs.drop n).take i.size).length i.size<;>rw [hb] at hl<;>cases hl
  have h1:=uy i.size (uz n hc)
  have h2:=ji h1
  have h3:=Nat.eq_of_beq_eq_true hb
  refine⟨_,JV h hs (us:=(vs.drop n).take i.size) (by omega) (fun j v hj=>?_),⟨_,rfl,by simpa using h1⟩⟩
  rw [add_add]
  refine hv (n+j) v ?_
  rw [List.getElem?_take] at hj
  split at hj
  ·rw [List.getElem?_drop] at hj;exact hj
  ·cases hj
theorem Ux {p:Option (Nat × Nat)} {c:C0 T.Tb} {u:Value} (h:Rd T.sz w (iI σ.A F p) (C0.Bo T.enc c) u):gJ σ env F w (toCell p c) u:=by
 cases c with
 | sc v=>cases h with | sc _ h=>exact⟨rfl,h⟩
 | sl e l=>exact⟨h.one,fun _=>h⟩
theorem zJ {p:Option (Nat × Nat)} {b:Addr}:∀{cs:List (C0 T.Tb)} {m:Nat},(∀q c,cs[q]? =some c→∃u,w.cell? (b.add (m+q))=some u∧Rd T.sz w (iI σ.A F p) (C0.Bo T.enc c) u)→∃vs,aQ σ env F w (cs.map (toCell p)) vs∧∀j v,vs[j]? =some v→w.cell? (b.add (m+j))=some v
 | [],_,_=>⟨[],rfl,fun j v h=>by simp at h⟩
 | c::cs,m,h=>by
   obtain⟨u,h1,h2⟩:=h 0 c rfl
   obtain⟨vs,h3,h4⟩:=zJ (cs:=cs) (m:=m+1) (fun q c hq=>by
    have:=h (q+1) c (by simpa using hq)
    rw [Nat.add_assoc,Nat.add_comm 1 q];exact this)
   refine⟨u::vs,⟨u,vs,rfl,Ux h2,h3⟩,fun j v hj=>?_⟩
   cases j with
   | zero=>cases hj;exact h1
   | succ j=>have:=h4 j v (by simpa using hj);rw [Nat.add_assoc,Nat.add_comm 1 j] at this;exact this
theorem Le {p:Option (Nat × Nat)} {e:Nat} {l:List (T.Tb e)} {ad:Addr} {n c:Nat} {i:Nat} (h:Rd T.sz w (iI σ.A F p) (.sl e (l.map (T.enc e))) (.slice (some ad) n c)) (hi:i<l.length):
  ∃vs,aQ σ env F w ((T.cells e (bZ T e l i)).map (toCell p)) vs∧∀j v,vs[j]? =some v→w.cell? ((ad.add (i*T.sz e)).add j)=some v:=by
 have hj:(l.map (T.enc e))[i]? =some (T.enc e (bZ T e l i)):=by simp [bZ,hi,List.getD_eq_getElem?_getD]
 obtain⟨ad',c',h1,_,_,_,_,h2⟩:=h.elem hj
 cases h1
 obtain⟨vs,h3,h4⟩:=zJ (σ:=σ) (env:=env) (cs:=T.cells e (bZ T e l i)) (p:=p) (F:=F) (w:=w) (b:=ad) (m:=i*T.sz e) (fun q c hq=>by
  refine h2 q (C0.Bo T.enc c) ?_
  rw [T.fQ,List.getElem?_map,hq];rfl)
 exact⟨vs,h3,fun j v hj=>by rw [add_add];exact h4 j v hj⟩
def plS (r bv i o:Nat):Slot T→Slot T
 | .c (.im (some (r',kM)) e l)=>match Nat.beq r' r with
   | true=>match Nat.beq kM bv with
     | true=> .pl r bv i o e l
     | false=> .c (.im (some (r',kM)) e l)
   | false=> .c (.im (some (r',kM)) e l)
 | s=>s
theorem aaQ {r bv i o:Nat} {s:Slot T} {v:Value} (h:bK σ env F w s v) (hp:∀e l,s= .c (.im (some (r,bv)) e l)→∀e' l',σ.res r= .row bv e' l'→i<l'.length∧∃g c,F r g∧env r= .slice (some ⟨g,0,none⟩) l'.length c∧w.cell? ((⟨g,0,none⟩:Addr).add (i*T.sz e'+o))=some v):bK σ env F w (plS r bv i o s) v:=by
 unfold plS
 split
 ·rename_i r' kM e l
  cases h1:Nat.beq r' r<;>dsimp only
  ·exact h
  cases h2:Nat.beq kM bv<;>dsimp only
  ·exact h
  have:=Nat.eq_of_beq_eq_true h1
  subst this
  have:=Nat.eq_of_beq_eq_true h2
  subst this
  exact⟨h,hp e l rfl⟩
 ·exact h
theorem abZ {i:TI} {t:Nat} (h:fD P t i) {cs:List (Cell T)} {n e:Nat} {p:Option (Nat × Nat)} {l:List (T.Tb e)} (hl:jP i cs n=some (.c (.im p e l))) {vs:List Value} {ad:Addr} (hc:aQ σ env F w cs vs) (hv:∀j v,vs[j]? =some v→w.cell? (ad.add j)=some v) {v:Value} (hr:(Instr.loadAt t (.pointer (some (ad.add n)))).run P w= .ok v w):w.cell? (ad.add n)=some v:=by
 unfold jP at hl
 cases hs:isStr i.kind<;>rw [hs] at hl<;>dsimp only at hl
 ·cases hn:nth cs n with
  | none=>rw [hn] at hl;cases hl
  | some c=>
    obtain⟨u,h1,h2⟩:=CO hc hn
    have h3:=yD h hs (hv n u h1)
    rw [hr] at h3
    cases h3
    exact hv n v h1
 ·split at hl<;>cases hl
def G8 (σ:St T) (dst:Option Nat) (t:Nat) (x:Operand):eF T:=
 match T.ti t with
 | some i=>match bT σ dst with
   | true=>match dn σ x with
     | .c (.px r n)=>match σ.res r with
       | .bx _ cs=>match jP i cs n with
         | some s=> .done ⟨s,[],r::s.refs,0,[]⟩ none
         | none=> .stuck
       | _=> .stuck
     | .pi p e l j n=>match oJ σ p with
       | true=>match jP i ((T.cells e (bZ T e l j)).map (toCell p)) n with
         | some s=> .done ⟨s,[],rV p++s.refs,0,[]⟩ none
         | none=> .stuck
       | false=> .stuck
     | .pe r j n=>match σ.res r with
       | .row bv e l=>match jP i ((T.cells e (bZ T e l j)).map (toCell (some (r,bv)))) n with
         | some s=> .done ⟨plS r bv j n s,[],r::bv::s.refs,0,[]⟩ none
         | none=> .stuck
       | _=> .stuck
     | _=> .stuck
   | false=> .stuck
 | none=> .stuck
theorem xq {t:Nat} {x:Operand} (ho:o.op= .load t x) {v:Value} (h:(Instr.loadAt t (a.eval x)).run P w= .ok v w):(execOp a.eval o).run P w= .ok (.value v) w:=by
 unfold execOp;rw [ho];simp only [Sem.run_bind,h];rfl
theorem VW (hT:T.ok P) {t:Nat} {x:Operand} {U:bf T} {ob:Option Prop} (ho:o.op= .load t x) (h:G8 σ o.dst t x= .done U ob):dY P W0 o σ U:=by
 unfold G8 at h
 cases hi:T.ti t with
 | none=>rw [hi] at h;cases h
 | some i=>
   rw [hi] at h
   dsimp only at h
   cases hd:bT σ o.dst<;>rw [hd] at h<;>dsimp only at h
   ·cases h
   have hty:=hT t i hi
   split at h
   ·rename_i r n hx
    split at h
    ·rename_i t' cs hr
     cases hs:jP i cs n with
     | none=>rw [hs] at h;cases h
     | some s=>
       rw [hs] at h
       cases h
       refine quiet_step (bg hd) (fun σ' a w env F hA hS=>?_)
       have e1:=bD hS hA (x:=x) (by simp [ho,Op.operands])
       rw [hx] at e1
       obtain⟨g,h1,h2⟩:=e1
       have h3:=hS.res r
       rw [hA.res r (by simp),hr] at h3
       obtain⟨g',arr,h4,h5,h6,h7,h8⟩:=h3
       rw [h1] at h4
       cases h4
       obtain⟨v,h9,h10⟩:=BP hty h8 (b:=⟨g,0,none⟩) (fun j v hj=>by rw [oP h7,←Array.getElem?_toList];exact hj) hs
       rw [add_lit,Nat.zero_add] at h9
       exact⟨v,xq ho (by rw [h2];exact h9),h10⟩
    ·cases h
   ·rename_i p e l j n hx
    cases hl:oJ σ p<;>rw [hl] at h<;>dsimp only at h
    ·cases h
    cases hs:jP i ((T.cells e (bZ T e l j)).map (toCell p)) n with
    | none=>rw [hs] at h;cases h
    | some s=>
      rw [hs] at h
      cases h
      refine quiet_step (bg hd) (fun σ' a w env F hA hS=>?_)
      have e1:=bD hS hA (x:=x) (by simp [ho,Op.operands])
      rw [hx] at e1
      obtain⟨hj,ad,h1,h2⟩:=e1
      obtain⟨c,h3⟩:=h2 (zM hA (fun r hr=>List.mem_append_left _ hr) (qB hl))
      obtain⟨vs,h4,h5⟩:=Le (σ:=σ') (env:=env) h3 hj
      obtain⟨v,h9,h10⟩:=BP hty h4 h5 hs
      rw [add_add] at h9
      exact⟨v,xq ho (by rw [h1];exact h9),h10⟩
   ·rename_i r j n hx
    split at h
    ·rename_i bv e l hr
     cases hs:jP i ((T.cells e (bZ T e l j)).map (toCell (some (r,bv)))) n with
     | none=>rw [hs] at h;cases h
     | some s=>
       rw [hs] at h
       cases h
       refine quiet_step (bg hd) (fun σ' a w env F hA hS=>?_)
       have e1:=bD hS hA (x:=x) (by simp [ho,Op.operands])
       rw [hx] at e1
       have hr':σ'.res r= .row bv e l:=by rw [hA.res r (by simp)];exact hr
       obtain⟨hj,g,c,h1,h2⟩:=e1.1 bv e l hr'
       have h3:=hS.res r
       rw [hr'] at h3
       have h3':Rd T.sz w (iI σ'.A F (some (r,bv))) (.sl e (l.map (T.enc e))) (env r):=(Ow.rd h3).mono (fun k hk=> .inr ⟨(r,bv),rfl,hk⟩)
       have hFg:F r g:=by
        rcases(show Ow T.sz w (F r) (.sl e (l.map (T.enc e))) (env r) from h3).form with ⟨h,_⟩ | ⟨g',c',_,h,hg,_⟩
        ·have h':=congrArg List.length h
         simp at h';subst h';simp at hj
        ·rw [h1] at h;simp only [Value.slice.injEq,Option.some.injEq,Addr.mk.injEq,and_true,true_and] at h;rw [h.1];exact hg
       rw [h1] at h3'
       obtain⟨vs,h4,h5⟩:=Le (σ:=σ') (env:=env) h3' hj
       obtain⟨v,h9,h10⟩:=BP hty h4 h5 hs
       have h11:∀e1 l1,s= .c (.im (some (r,bv)) e1 l1)→w.cell? (((⟨g,0,none⟩:Addr).add (j*T.sz e)).add n)=some v:=fun e1 l1 hs'=>by
        rw [hs'] at hs
        exact abZ hty hs h4 h5 h9
       rw [add_add] at h9 h11
       refine⟨v,xq ho (by rw [h2];exact h9),aaQ h10 (fun e1 l1 hs' e' l' hr2=>?_)⟩
       rw [hr'] at hr2
       cases hr2
       exact⟨hj,g,c,hFg,h1,h11 e1 l1 hs'⟩
    ·cases h
   ·cases h
end
end Go.Proofs.YtcnfgfomholheaaGreatDoor.Z
end
section
namespace Go.Proofs.YtcnfgfomholheaaGreatDoor.Z
open Go.RowKit
set_option linter.unusedVariables false
set_option linter.unusedSimpArgs false
section
variable {T:dQ} {P:Program} {W0:Fr} {σ σ':St T} {a:Act} {w:World} {env:Nat→Value} {F:Nat→Nat→Prop} {o:Oper} {aX aW:List Nat}
def yE (s:Slot T) (k:Nat):Option (Slot T):=
 match s with
 | .c (.px r n)=>some (.c (.px r (n+k)))
 | .pi p e l i n=>some (.pi p e l i (n+k))
 | .pe r i n=>some (.pe r i (n+k))
 | _=>none
def JE (σ:St T) (dst:Option Nat) (t:Nat) (x:Operand) (f:Nat):eF T:=
 match T.ti t with
 | some i=>match i.kind with
   | .str iP=>match nth iP f with
     | some (k,_)=>match yE (dn σ x) k with
       | some s=>match bT σ dst with
         | true=> .done ⟨s,[],s.refs,0,[]⟩ none
         | false=> .stuck
       | none=> .stuck
     | none=> .stuck
   | _=> .stuck
 | none=> .stuck
theorem yj {α:Type}:∀{l:List α} {i:Nat} {x:α},nth l i=some x→l[i]? =some x
 | [],_,_,h=>by cases h
 | y::l,0,_,h=>by cases h;rfl
 | y::l,i+1,_,h=>by simpa using yj (l:=l) h
theorem YF {fs:List Field}:∀{iP:List (Nat × Nat)},fs.mapM (fun f=>(P.info? f.type).map fun i=>(f.offset,i.size))=some iP→∀{j:Nat} {p:Nat × Nat},iP[j]? =some p→∃(fd:Field) (g:TypeInfo),fs[j]? =some fd∧fd.offset=p.1∧P.info? fd.type=some g∧g.size=p.2:=by
 induction fs with
 | nil=>intro iP h j p hp;simp at h;subst h;simp at hp
 | cons f fs ih=>
   intro iP h j p hp
   simp only [List.mapM_cons,Option.bind_eq_bind,Option.pure_def] at h
   cases hi:P.info? f.type with
   | none=>simp [hi] at h
   | some i=>
     cases hr:fs.mapM (fun f=>(P.info? f.type).map fun i=>(f.offset,i.size)) with
     | none=>simp [hi,hr] at h
     | some rest=>
       simp [hi,hr] at h
       subst h
       cases j with
       | zero=>simp at hp;subst hp;exact⟨f,i,rfl,rfl,hi,rfl⟩
       | succ j=>simpa using ih hr (by simpa using hp)
theorem Uy {fs:Array Field} {iP:List (Nat × Nat)} (h:fs.toList.mapM (fun f=>(P.info? f.type).map fun i=>(f.offset,i.size))=some iP) {j:Nat} {p:Nat × Nat} (hp:iP[j]? =some p):∃(fd:Field) (g:TypeInfo),fs[j]? =some fd∧fd.offset=p.1∧P.info? fd.type=some g∧g.size=p.2:=by
 obtain⟨fd,g,h1,h2⟩:=YF h hp
 exact⟨fd,g,by rw [←Array.getElem?_toList];exact h1,h2⟩
theorem Uz {s s':Slot T} {k:Nat} {u:Value} (h:bK σ env F w s u) (hs:yE s k=some s'):∃ad,u= .pointer (some ad)∧bK σ env F w s' (.pointer (some (ad.add k)))∨(∃r i n,s= .pe r i n∧(∀bv e l,σ.res r≠ .row bv e l)∧∀bv e l,σ.res r≠ .sh bv e l):=by
 unfold yE at hs
 split at hs
 ·cases hs
  obtain⟨g,h1,h2⟩:=h
  exact⟨_, .inl ⟨h2,g,h1,by rw [add_lit]⟩⟩
 ·cases hs
  obtain⟨h0,ad,h1,h2⟩:=h
  exact⟨_, .inl ⟨h1,h0,ad,by rw [add_add,Nat.add_assoc],h2⟩⟩
 ·rename_i r i n
  cases hs
  by_cases hr:∃bv e l,σ.res r= .row bv e l
  ·obtain⟨bv,e,l,hr⟩:=hr
   obtain⟨h1,g,c,h2,h3⟩:=h.1 bv e l hr
   refine⟨_, .inl ⟨h3,fun kM e' l' hr'=>?_,fun kM e' l' hr'=>?_⟩⟩
   ·rw [hr] at hr'
    cases hr'
    exact⟨h1,g,c,h2,by rw [add_add,Nat.add_assoc]⟩
   ·rw [hr] at hr'
    cases hr'
  ·by_cases hr2:∃bv e l,σ.res r= .sh bv e l
   ·obtain⟨bv,e,l,hr2⟩:=hr2
    obtain⟨h1,g,c,h2,h3⟩:=h.2 bv e l hr2
    refine⟨_, .inl ⟨h3,fun kM e' l' hr'=>?_,fun kM e' l' hr'=>?_⟩⟩
    ·rw [hr2] at hr'
     cases hr'
    ·rw [hr2] at hr'
     cases hr'
     exact⟨h1,g,c,h2,by rw [add_add,Nat.add_assoc]⟩
   ·exact⟨⟨0,0,none⟩, .inr ⟨r,i,n,rfl,fun bv e l h=>hr ⟨bv,e,l,h⟩,fun bv e l h=>hr2 ⟨bv,e,l,h⟩⟩⟩
 ·cases hs
def YG (σ:St T):Slot T→Bool
 | .pe r _ _=>match σ.res r with
   | .row _ _ _=>true
   | .sh _ _ _=>true
   | _=>false
 | _=>true
def zu (σ:St T) (dst:Option Nat) (t:Nat) (x:Operand) (f:Nat):eF T:=
 match YG σ (dn σ x) with
 | true=>JE σ dst t x f
 | false=> .stuck
theorem QF {s s':Slot T} {k:Nat} (hs:yE s k=some s'):s'.refs=s.refs:=by
 unfold yE at hs
 split at hs<;>first | (cases hs;done) | (cases hs;simp [Slot.refs,Cell.refs];try (split<;>rfl))
 rename_i p e l i n
 cases p<;>rfl
theorem UA {t:Nat} {x:Operand} {f:Nat} (ho:o.op= .fieldAddr t x f) {v:Value} (h:(Instr.fieldAt t (a.eval x) f).run P w= .ok v w):(execOp a.eval o).run P w= .ok (.value v) w:=by
 unfold execOp;rw [ho];simp only [Sem.run_bind,h];rfl
theorem Ue (hT:T.ok P) {t:Nat} {x:Operand} {f:Nat} {U:bf T} {ob:Option Prop} (ho:o.op= .fieldAddr t x f) (h:zu σ o.dst t x f= .done U ob):dY P W0 o σ U:=by
 unfold zu at h
 cases hp:YG σ (dn σ x)<;>rw [hp] at h<;>dsimp only at h
 ·cases h
 unfold JE at h
 cases hi:T.ti t with
 | none=>rw [hi] at h;cases h
 | some i=>
   rw [hi] at h
   dsimp only at h
   split at h
   ·rename_i iP hk
    cases hn:nth iP f with
    | none=>rw [hn] at h;cases h
    | some ks=>
      obtain⟨k,sz⟩:=ks
      rw [hn] at h
      dsimp only at h
      cases hs:yE (dn σ x) k with
      | none=>rw [hs] at h;cases h
      | some s=>
        rw [hs] at h
        dsimp only at h
        cases hd:bT σ o.dst<;>rw [hd] at h<;>cases h
        refine quiet_step (bg hd) (fun σ' a w env F hA hS=>?_)
        have e1:=bD hS hA (x:=x) (by simp [ho,Op.operands])
        obtain⟨inf,h1,h2,h3,h4,h5,h6,h7,h8⟩:=hT t i hi
        rw [hk] at h8
        obtain⟨fs,h9,h10,abN⟩:=h8
        obtain⟨fd,g,h11,h12,h13,ad4⟩:=Uy h10 (yj hn)
        have GZ:g.size≠0:=by rw [ad4];exact abN _ (List.mem_of_getElem? (yj hn))
        obtain⟨ad,h15 | ⟨r,j,n,h15,h16⟩⟩:=Uz e1 hs
        ·refine⟨_,UA ho ?_,h15.2⟩
         have hsz:∀w,(sizeOf fd.type).run P w= .ok g.size w:=fun w=>by simp [sizeOf,typeInfo,h13]
         rw [h15.1]
         simp [Instr.fieldAt,run_underlying h9,h11,Instr.sureAddr,fieldPlace,hsz,GZ,h12]
        ·exfalso
         rw [h15] at hp hs
         unfold YG at hp
         have:r∈s.refs:=by rw [QF hs];simp [Slot.refs]
         cases hr:σ.res r with
         | row bv e l=>exact h16.1 bv e l (by rw [hA.res r this];exact hr)
         | sh bv e l=>exact h16.2 bv e l (by rw [hA.res r this];exact hr)
         | no=>simp [hr] at hp
         | bx t cs=>simp [hr] at hp
   ·cases h
def rP (σ:St T) (dst:Option Nat) (t:Nat) (x i:Operand):eF T:=
 match T.ti t with
 | some ti=>match ti.kind with
   | .slice e'=>match T.ti e' with
     | some _=>match bT σ dst with
       | true=>match sv (dn σ i) with
         | some (.int _ n)=>match dn σ x with
           | .c (.im p e l)=>match oJ σ p with
             | true=>match Nat.beq e e' with
               | true=> .done ⟨.pi p e l n.toNat 0,[],rV p,0,[]⟩ (some (0≤n∧n<(l.length:Int)))
               | false=> .stuck
             | false=> .stuck
           | .c (.hd r)=>match σ.res r with
             | .row bv e l=>match Nat.beq e e' with
               | true=> .done ⟨.pe r n.toNat 0,[],[r],0,[]⟩ (some (0≤n∧n<(l.length:Int)))
               | false=> .stuck
             | _=> .stuck
           | _=> .stuck
         | _=> .stuck
       | false=> .stuck
     | none=> .stuck
   | _=> .stuck
 | none=> .stuck
theorem vZ {t e:TypeId} {ad:Addr} {n c:Nat} {k:IntKind} {i:Int} {inf:TypeInfo} (h:P.underlying t=some (.slice e)) (hi:P.info? e=some inf) (h0:0≤i) (h1:i<n) (w:World):(Instr.indexAt t (.slice (some ad) n c) (.int k i)).run P w= .ok (.pointer (some (ad.add (i.toNat*inf.size)))) w:=by
 have hsz:∀w,(sizeOf e).run P w= .ok inf.size w:=fun w=>by simp [sizeOf,typeInfo,hi]
 simp [Instr.indexAt,run_underlying h,asIntOf,h0,h1,hsz]
theorem zI {t:Nat} {x i:Operand} (ho:o.op= .indexAddr t x i) {v:Value} (h:(Instr.indexAt t (a.eval x) (a.eval i)).run P w= .ok v w):(execOp a.eval o).run P w= .ok (.value v) w:=by
 unfold execOp;rw [ho];simp only [Sem.run_bind,h];rfl
theorem kS {e:Nat} {i:TI} (h:T.ti e=some i):T.sz e=i.size:=by simp [dQ.sz,h]
theorem JC (hT:T.ok P) {t:Nat} {x i:Operand} {U:bf T} {ob:Option Prop} (ho:o.op= .indexAddr t x i) (h:rP σ o.dst t x i= .done U ob) (hob:qx ob):dY P W0 o σ U:=by
 unfold rP at h
 cases hi:T.ti t with
 | none=>rw [hi] at h;cases h
 | some ti=>
   rw [hi] at h
   dsimp only at h
   split at h
   ·rename_i e' hk
    cases he:T.ti e' with
    | none=>rw [he] at h;cases h
    | some ei=>
      rw [he] at h
      dsimp only at h
      cases hd:bT σ o.dst<;>rw [hd] at h<;>dsimp only at h
      ·cases h
      obtain⟨inf,h1,h2,h3,h4,h5,h6,h7,h8⟩:=hT t ti hi
      obtain⟨inf',g1,g2,_⟩:=hT e' ei he
      rw [hk] at h8
      split at h
      ·rename_i k n hn
       split at h
       ·rename_i p e l hx
        cases hl:oJ σ p<;>rw [hl] at h<;>dsimp only at h
        ·cases h
        cases hb:Nat.beq e e'<;>rw [hb] at h<;>cases h
        have hee:=Nat.eq_of_beq_eq_true hb
        subst hee
        refine quiet_step (bg hd) (fun σ' a w env F hA hS=>?_)
        have e1:=bD hS hA (x:=x) (by simp [ho,Op.operands])
        have e2:=iY (bD hS hA (x:=i) (by simp [ho,Op.operands])) hn
        rw [hx] at e1
        have hlv:=zM hA (fun r hr=>hr) (qB hl)
        have h10:=e1.2 hlv
        have hob:0≤n∧n<(l.length:Int):=hob
        have hlt:n.toNat<l.length:=by omega
        obtain⟨ad,c,h11,_,_,_,_,_⟩:=h10.elem (j:=n.toNat) (l:=T.enc e (l[n.toNat])) (by simp [hlt])
        refine⟨.pointer (some (ad.add (n.toNat*inf'.size))),zI ho ?_,hlt,ad,by rw [kS he,←g2];rfl,fun _=>⟨c,by rw [h11] at h10;simpa using h10⟩⟩
        rw [h11,e2]
        exact vZ h8.1 g1 hob.1 (by simpa using hob.2) w
       ·rename_i r hx
        split at h
        ·rename_i bv e l hr
         cases hb:Nat.beq e e'<;>rw [hb] at h<;>cases h
         have hee:=Nat.eq_of_beq_eq_true hb
         subst hee
         refine quiet_step (bg hd) (fun σ' a w env F hA hS=>?_)
         have e1:=bD hS hA (x:=x) (by simp [ho,Op.operands])
         have e2:=iY (bD hS hA (x:=i) (by simp [ho,Op.operands])) hn
         rw [hx] at e1
         have hr':σ'.res r= .row bv e l:=by rw [hA.res r (by simp)];exact hr
         have h10:=hS.res r
         rw [hr'] at h10
         have hob:0≤n∧n<(l.length:Int):=hob
         have hlt:n.toNat<l.length:=by omega
         have h12:Ow T.sz w (F r) (.sl e (l.map (T.enc e))) (env r):=h10
         have h13:∃g c,env r= .slice (some ⟨g,0,none⟩) l.length c:=by
          rcases h12.form with ⟨h,_⟩ | ⟨g,c,_,h,_⟩
          ·have h':=congrArg List.length h
           simp at h';subst h';simp at hlt
          ·exact⟨g,c,by simpa using h⟩
         obtain⟨g,c,GZ⟩:=h13
         refine⟨.pointer (some ((⟨g,0,none⟩:Addr).add (n.toNat*inf'.size))),zI ho ?_,?_⟩
         ·rw [e1.1,GZ,e2]
          exact vZ h8.1 g1 hob.1 (by simpa using hob.2) w
         ·refine⟨fun kM e' l' wo=>?_,fun kM e' l' wo=>?_⟩
          ·rw [hr'] at wo
           cases wo
           exact⟨hlt,g,c,GZ,by rw [kS he,←g2];rfl⟩
          ·rw [hr'] at wo
           cases wo
        ·cases h
       ·cases h
      ·cases h
   ·cases h
def bt (s:ByteArray) (i:Int):Int:=if h:i.toNat<s.size then ((s[i.toNat]'h).toNat:Int) else 0
def DZ (σ:St T) (dst:Option Nat) (t:Nat) (x i:Operand):eF T:=
 match T.ti t with
 | some ti=>match ti.kind with
   | .text=>match bT σ dst with
     | true=>match sv (dn σ i) with
       | some (.int _ n)=>match sv (dn σ x) with
         | some (.string b)=> .done ⟨.c (.sc (.int .u8 (bt b n))),[],[],0,[]⟩ (some (0≤n∧n<(b.size:Int)))
         | _=> .stuck
       | _=> .stuck
     | false=> .stuck
   | _=> .stuck
 | none=> .stuck
theorem Uf (hT:T.ok P) {t:Nat} {x i:Operand} {U:bf T} {ob:Option Prop} (ho:o.op= .index t x i) (h:DZ σ o.dst t x i= .done U ob) (hob:qx ob):dY P W0 o σ U:=by
 unfold DZ at h
 cases hi:T.ti t with
 | none=>rw [hi] at h;cases h
 | some ti=>
   rw [hi] at h
   dsimp only at h
   split at h
   ·rename_i hk
    cases hd:bT σ o.dst<;>rw [hd] at h<;>dsimp only at h
    ·cases h
    obtain⟨inf,h1,h2,h3,h4,h5,h6,h7,h8⟩:=hT t ti hi
    rw [hk] at h8
    split at h
    ·rename_i k n hn
     split at h
     ·rename_i b hb
      cases h
      refine quiet_step (bg hd) (fun σ' a w env F hA hS=>⟨_,?_,⟨rfl,rfl⟩⟩)
      have e1:=iY (bD hS hA (x:=x) (by simp [ho,Op.operands])) hb
      have e2:=iY (bD hS hA (x:=i) (by simp [ho,Op.operands])) hn
      have hob:0≤n∧n<(b.size:Int):=hob
      have hlt:n.toNat<b.size:=by omega
      unfold execOp;rw [ho]
      simp [e1,e2,Instr.index,asIntOf,run_underlying h8.1,hob.1,hlt,bt]
     ·cases h
    ·cases h
   ·cases h
end
end Go.Proofs.YtcnfgfomholheaaGreatDoor.Z
end
section
namespace Go.Proofs.YtcnfgfomholheaaGreatDoor.Z
open Go.RowKit
set_option linter.unusedVariables false
set_option linter.unusedSimpArgs false
section
variable {T:dQ} {P:Program} {W0:Fr} {σ σ' σ1:St T} {a:Act} {w w1:World} {env aZ:Nat→Value} {F F1:Nat→Nat→Prop} {o:Oper} {aX aW:List Nat}
def fu {α:Type} (f:Nat→α) (r:Nat) (x:α):Nat→α:=fun s=>match Nat.beq s r with
 | true=>x
 | false=>f s
theorem uO {α:Type} (f:Nat→α) (r:Nat) (x:α):fu f r x r=x:=by simp [fu,Nat.beq_eq]
theorem Em {α:Type} (f:Nat→α) {r s:Nat} (x:α) (h:s≠r):fu f r x s=f s:=by simp [fu,eY h]
structure Grew (w w1:World):Prop where
 os:w1.os=w.os
 tape:w1.tape=w.tape
 output:w1.output=w.output
 size:w.heap.size≤w1.heap.size
 block:∀k,k<w.heap.size→w1.heap[k]? =w.heap[k]?
theorem Grew.below (h:Grew w w1):Below w.heap.size w w1:=⟨h.os,h.tape,h.output,h.size,h.block⟩
theorem Grew.of_below (h:Below w.heap.size w w1):Grew w w1:=⟨h.os,h.tape,h.output,h.size,h.block⟩
theorem Grew.alloc (w:World) (o:Obj):Grew w (w.alloc o):= .of_below ((Below.refl _ _).alloc (Nat.le_refl _) o)
theorem Grew.drew (w:World):Grew w w.drew:=⟨rfl,rfl,rfl,Nat.le_refl _,fun _ _=>rfl⟩
theorem Grew.trans {w2:World} (h:Grew w w1) (k:Grew w1 w2):Grew w w2:=⟨k.os.trans h.os,k.tape.trans h.tape,k.output.trans h.output,Nat.le_trans h.size k.size,fun i hi=>(k.block i (Nat.lt_of_lt_of_le hi h.size)).trans (h.block i hi)⟩
theorem qF (h:lM W0 w) (g:Grew w w1):lM W0 w1:=h.step g.os g.tape g.output g.size (fun k hk _=>g.block k hk)
theorem fK (h:dU W0 σ a w env F) {r k:Nat} (hk:F r k):k<w.heap.size:=(h.own r k hk).2
theorem dU.fresh (h:dU W0 σ a w env F) {r:Nat} (hu:jm σ r) (hn:σ.res r= .no) (g:Grew w w1) {u:Value} {G:Nat→Prop} (hG:∀k,G k→w.heap.size≤k∧k<w1.heap.size) {x:dA T} {dst:Option Nat} {s:Slot T} {aX aW:List Nat} {nx:Nat} {v:Value}
  (hx:∀{σ1:St T} {aZ F1},Calm σ σ1 F F1 w w1→aZ r=u→(∀k,F1 r k↔G k)→(∀q,q≠r→aZ q=env q)→(∀q:Nat × Nat,q.1≠r→Holds σ σ1 F F1 w w1 q)→vP σ1 aZ F1 w1 r x)
  (hs:∀{σ1:St T} {aZ F1},Calm σ σ1 F F1 w w1→aZ r=u→(∀q,q≠r→aZ q=env q)→(∀q:Nat × Nat,q.1≠r→Holds σ σ1 F F1 w w1 q)→σ1.res r=x→bK σ1 aZ F1 w1 s v)
  (hd:∀d,dst=some d→d<σ.n):jg W0 (σ.upd dst ⟨s,[(r,x)],aX,nx,aW⟩) (a.put dst v) w1:=by
 have hres:∀q,q≠r→(σ.upd dst ⟨s,[(r,x)],aX,nx,aW⟩).res q=σ.res q:=fun q hq=>St.kH (fun p hp=>by simp at hp;subst hp;exact fun e=>hq e.symm)
 have jK:(σ.upd dst ⟨s,[(r,x)],aX,nx,aW⟩).res r=x:=by rw [St.dI];simp [lk]
 have hFo:∀k,k<w.heap.size→¬G k:=fun k hk hg=>by have:=(hG k hg).1;omega
 have calm:Calm σ (σ.upd dst ⟨s,[(r,x)],aX,nx,aW⟩) F (fu F r G) w w1:=⟨St.gY _ _ _,g.size,fun k hk hst=>⟨fun q hq=>by
  by_cases e:q=r
  ·subst e;rw [uO] at hq;exact hFo k hk hq
  ·rw [Em _ _ e] at hq;exact hst q hq,g.block k hk⟩⟩
 have same:∀q,q≠r→Same σ (σ.upd dst ⟨s,[(r,x)],aX,nx,aW⟩) env (fu env r u) F (fu F r G) w w1 q:=fun q hq=>
  ⟨Em _ _ hq,fun k=>by rw [Em _ _ hq],hres q hq,fun k hk=>g.block k (fK h hk)⟩
 refine h.upd (aZ:=fu env r u) (F1:=fu F r G) (fun q=>q=r) (qF h.below g) calm same ?_ ?_ ?_ (fun q hq=> .inl (by subst hq;exact hu)) (fun d hd'=>⟨hd d hd',?_⟩)
 ·rintro q rfl
  rw [jK]
  exact hx calm (uO _ _ _) (fun k=>by rw [uO]) (fun q hq=>Em _ _ hq) (fun q hq=>(same q.1 hq).holds)
 ·rintro q k rfl hk
  rw [uO] at hk
  exact⟨h.below.may (hG k hk).1,(hG k hk).2⟩
 ·rintro q s k rfl hk hk2
  rw [uO] at hk
  by_cases e:s=q
  ·exact e.symm
  ·rw [Em _ _ e] at hk2
   have:=fK h hk2
   have:=(hG k hk).1
   omega
 ·exact hs calm (uO _ _ _) (fun q hq=>Em _ _ hq) (fun q hq=>(same q.1 hq).holds) jK
theorem zD (w:World) (o:Obj):(w.alloc o).heap[w.heap.size]? =some o:=heap_alloc_new w o
theorem vX (w:World) (o:Obj):(w.alloc o).heap.size=w.heap.size+1:=by show(w.heap.push o).size=_;simp
theorem dU.ab1 (h:dU W0 σ a w env F) {r:Nat} (hu:jm σ r) (hn:σ.res r= .no) {t:Nat} {cs:List (Cell T)} {arr:Array Value} (hc:aQ σ env F w cs arr.toList) (hr:r∉refsOf cs) {dst:Option Nat} {aX aW:List Nat} {nx:Nat} (hd:∀d,dst=some d→d<σ.n):
  jg W0 (σ.upd dst ⟨.c (.px r 0),[(r, .bx t cs)],aX,nx,aW⟩) (a.put dst (.pointer (some ⟨w.heap.size,0,none⟩))) (w.alloc (.cells arr t)):=by
 refine h.fresh hu hn (Grew.alloc w _) (u:= .pointer (some ⟨w.heap.size,0,none⟩)) (G:=fun k=>k=w.heap.size) (fun k hk=>by subst hk;rw [vX];omega) ?_ ?_ hd
 ·intro σ1 aZ F1 calm he hG hoth hv
  exact⟨w.heap.size,arr,he,(hG _).2 rfl,fun k hk=>(hG k).1 hk,zD w _,kD calm hc (fun q hq=>hoth q (fun e=>hr (e▸hq))) (fun q hq=>hv q (fun e=>hr (e▸xP hq)))⟩
 ·intro σ1 aZ F1 calm he hoth hv hres
  exact⟨w.heap.size,he,rfl⟩
def D5 (σ:St T) (nx:Nat) (dst:Option Nat) (t:Nat) (cs:List (Cell T)):eF T:=
 match bT σ dst with
 | true=>match σ.fresh nx with
   | true=>match gW nx (refsOf cs) with
     | false=> .done ⟨.c (.px nx 0),[(nx, .bx t cs)],nx::refsOf cs,1,[nx]⟩ none
     | true=> .stuck
   | false=> .stuck
 | false=> .stuck
theorem O8 {nx t:Nat} {cs:List (Cell T)} {U:bf T} {ob:Option Prop} (h:D5 σ nx o.dst t cs= .done U ob)
  (hrun:∀(σ':St T) (a:Act) (w:World) (env:Nat→Value) (F:Nat→Nat→Prop),Agree σ σ' (jS o.op) (nx::refsOf cs) [nx]→dU W0 σ' a w env F→∃arr,(execOp a.eval o).run P w= .ok (.value (.pointer (some ⟨w.heap.size,0,none⟩))) (w.alloc (.cells arr t))∧aQ σ' env F w cs arr.toList):dY P W0 o σ U:=by
 unfold D5 at h
 cases hd:bT σ o.dst<;>rw [hd] at h<;>dsimp only at h
 ·cases h
 cases hf:σ.fresh nx<;>rw [hf] at h<;>dsimp only at h
 ·cases h
 cases hr:gW nx (refsOf cs)<;>rw [hr] at h<;>cases h
 intro σ' a w K Q hA ⟨env,F,hS⟩ hK
 obtain⟨arr,h1,h2⟩:=hrun σ' a w env F hA hS
 obtain⟨h3,h4⟩:=hA.new (by simp) hf
 refine jf h1 (hK _ _ ?_)
 refine hS.ab1 h3 h4 h2 (fun hm=>?_) (fun d hd'=>by rw [hA.n];exact bg hd d hd')
 rw [dV.2 hm] at hr;cases hr
def DW (σ:St T) (nx:Nat) (dst:Option Nat) (t:Nat):eF T:=
 match T.ti t with
 | some i=>match oq i.zero with
   | true=>D5 σ nx dst t (RQ i.zero)
   | false=> .stuck
 | none=> .stuck
theorem TV (hT:T.ok P) {nx t:Nat} {U:bf T} {ob:Option Prop} (ho:o.op= .alloc t) (h:DW σ nx o.dst t= .done U ob):dY P W0 o σ U:=by
 unfold DW at h
 cases hi:T.ti t with
 | none=>rw [hi] at h;cases h
 | some i=>
   rw [hi] at h
   dsimp only at h
   cases ha:oq i.zero<;>rw [ha] at h<;>dsimp only at h
   ·cases h
   refine O8 h (fun σ' a w env F hA hS=>?_)
   obtain⟨inf,h1,h2,h3,⟨z,h4,h4'⟩,h5,h6,h7,h8⟩:=hT t i hi
   refine⟨i.zero.toArray,?_,by simpa using Ed ha⟩
   unfold execOp;rw [ho]
   simp [Instr.alloc,zeroValue,typeInfo,h1,h4,newVar,newRow,h4',Sem.run_bind]
def cellsS:Slot T→Option (List (Cell T))
 | .c .un=>none
 | .c x=>some [x]
 | .ag l=>some l
 | _=>none
theorem lQ {s:Slot T} {u:Value} {cs:List (Cell T)} (h:bK σ env F w s u) (hs:cellsS s=some cs):aQ σ env F w cs u.cells.toList:=by
 unfold cellsS at hs
 split at hs<;>first | (cases hs;done) | cases hs
 ·rename_i x hx
  have h':gJ σ env F w x u:=h
  have h1:u.oneCell'=true:=by
   cases x with
   | un=>exact(hx rfl).elim
   | sc v=>exact h'.2
   | im p e l=>exact h'.1
   | hd r=>exact h'.2
   | px r o=>obtain⟨g,_,h2⟩:=h';rw [h2];rfl
  have h2:u.cells.toList=[u]:=by cases u<;>first | rfl | (simp [Value.oneCell'] at h1)
  rw [h2]
  exact⟨u,[],rfl,h',rfl⟩
 ·obtain⟨us,e,h⟩:=h;rw [e];exact h
def ML (σ:St T) (nx:Nat) (dst:Option Nat) (t:Nat) (x:Operand):eF T:=
 match cellsS (dn σ x) with
 | some cs=>D5 σ nx dst t cs
 | none=> .stuck
theorem Yi {nx t:Nat} {x:Operand} {U:bf T} {ob:Option Prop} (ho:o.op= .box t x) (h:ML σ nx o.dst t x= .done U ob):dY P W0 o σ U:=by
 unfold ML at h
 cases hc:cellsS (dn σ x) with
 | none=>rw [hc] at h;cases h
 | some cs=>
   rw [hc] at h
   refine O8 h (fun σ' a w env F hA hS=>?_)
   have e1:=bD hS hA (x:=x) (by simp [ho,Op.operands])
   refine⟨(a.eval x).cells,?_,lQ e1 hc⟩
   unfold execOp;rw [ho]
   simp [Instr.box,newVar,newRow,Sem.run_bind]
def UC:List (Cell T)→Bool
 | []=>true
 | .un::_=>false
 | _::l=>UC l
theorem O9 {vs:List Value}:∀{cs:List (Cell T)} {vs:List Value},UC cs=true→aQ σ env F w cs vs→∀v∈vs,v.oneCell'=true
 | [],_,_,h,v,hv=>by cases h;cases hv
 | c::cs,_,hs,⟨u,r,e,h1,h2⟩,v,hv=>by
   subst e
   rcases List.mem_cons.1 hv with rfl | hv
   ·cases c with
    | un=>cases hs
    | sc v'=>exact h1.2
    | im p e l=>exact h1.1
    | hd r=>exact h1.2
    | px r o=>obtain⟨g,_,h3⟩:=h1;rw [h3];rfl
   ·exact O9 (cs:=cs) (vs:=r) (by cases c<;>first | (cases hs;done) | exact hs) h2 v hv
theorem nD:∀{cs ds:List (Cell T)} {vs us:List Value},aQ σ env F w cs vs→aQ σ env F w ds us→aQ σ env F w (cs++ds) (vs++us)
 | [],_,_,_,h,h'=>by cases h;exact h'
 | c::cs,_,_,_,⟨u,r,e,h1,h2⟩,h'=>by subst e;exact⟨u,_,rfl,h1,nD h2 h'⟩
def splice {α:Type} (cs:List α) (n:Nat) (vs:List α):List α:=cs.take n++vs++cs.drop (n+vs.length)
def DT (σ:St T) (dst:Option Nat) (t:Nat) (x v:Operand):eF T:=
 match dst with
 | none=>match T.ti t with
   | some i=>match dn σ x with
     | .c (.px r n)=>match σ.res r with
       | .bx tb cs=>match cellsS (dn σ v) with
         | some vs=>match UC vs with
           | true=>match Nat.beq vs.length i.size with
             | true=>match Nat.ble (n+vs.length) cs.length with
               | true=> .done ⟨.ud,[(r, .bx tb (splice cs n vs))],r::refsOf (splice cs n vs),0,[r]⟩ none
               | false=> .stuck
             | false=> .stuck
           | false=> .stuck
         | none=> .stuck
       | _=> .stuck
     | _=> .stuck
   | none=> .stuck
 | some _=> .stuck
theorem xO {i:TI} {t:Nat} (h:fD P t i) {v:Value} {g n:Nat} {tb:Nat} {arr:Array Value} {w:World} (hg:w.heap[g]? =some (.cells arr tb (0,0))) (hl:v.cells.size=i.size) (hf:n+v.cells.size≤arr.size) (h1:∀u∈v.cells.toList,u.oneCell'=true):
  (Instr.storeAt t (.pointer (some ⟨g,n,none⟩)) v).run P w= .ok () (w.setRow g (splice arr.toList n v.cells.toList).toArray):=by
 obtain⟨inf,g1,g2,_⟩:=h
 have hsz:∀w,(sizeOf t).run P w= .ok i.size w:=fun w=>by simp [sizeOf,typeInfo,g1,g2]
 have hst:=run_storeCells_at P g n tb v.cells.toList 0 arr w hg (by simpa using hf) h1
 simp only [Nat.add_zero] at hst
 simp [Instr.storeAt,Instr.sureAddr,storeVar,hsz,hl,hst,splice]
theorem zL {t:Nat} {x v:Operand} (ho:o.op= .store t x v) {w':World} (h:(Instr.storeAt t (a.eval x) (a.eval v)).run P w= .ok () w'):(execOp a.eval o).run P w= .ok .skip w':=by
 unfold execOp;rw [ho];simp only [Sem.run_bind,h];rfl
theorem below_setRow (h:lM W0 w) {g:Nat} (hg:W0.may g) (cs:Array Value):lM W0 (w.setRow g cs):=
 h.step rfl rfl rfl (by rw [setRow_size];exact Nat.le_refl _) (fun k _ hk=>setRow_other w g k cs (fun e=>hk (e▸hg)))
theorem TY (hT:T.ok P) {t:Nat} {x v:Operand} {U:bf T} {ob:Option Prop} (ho:o.op= .store t x v) (h:DT σ o.dst t x v= .done U ob):dY P W0 o σ U:=by
 unfold DT at h
 split at h
 ·rename_i hdn
  cases hi:T.ti t with
  | none=>rw [hi] at h;cases h
  | some i=>
    rw [hi] at h
    dsimp only at h
    split at h
    ·rename_i r n hx
     split at h
     ·rename_i tb cs hr
      cases hc:cellsS (dn σ v) with
      | none=>rw [hc] at h;cases h
      | some vs=>
        rw [hc] at h
        dsimp only at h
        cases hs:UC vs<;>rw [hs] at h<;>dsimp only at h
        ·cases h
        cases hb:Nat.beq vs.length i.size<;>rw [hb] at h<;>dsimp only at h
        ·cases h
        cases hbl:Nat.ble (n+vs.length) cs.length<;>rw [hbl] at h<;>cases h
        intro σ' a w K Q hA ⟨env,F,hS⟩ hK
        have e1:=bD hS hA (x:=x) (by simp [ho,Op.operands])
        have e2:=bD hS hA (x:=v) (by simp [ho,Op.operands])
        rw [hx] at e1
        obtain⟨g,h1,h2⟩:=e1
        have hr':σ'.res r= .bx tb cs:=by rw [hA.res r (by simp)];exact hr
        have h3:=hS.res r
        rw [hr'] at h3
        obtain⟨g',arr,h4,h5,h6,h7,h8⟩:=h3
        rw [h1] at h4
        cases h4
        have hcv:=lQ e2 hc
        have hl1:=ji hcv
        have hl2:=ji h8
        have hb':=Nat.eq_of_beq_eq_true hb
        have Yv:=Nat.le_of_ble_eq_true hbl
        simp only [Array.length_toList] at hl1 hl2
        have hrun:=xO (hT t i hi) (v:=a.eval v) h7 (by omega) (by omega:n+(a.eval v).cells.size≤arr.size) (O9 (vs:=[]) hs hcv)
        refine zK (zL ho (by rw [h2];exact hrun)) (hK _ _ ?_)
        have hgW:=hS.own r g h5
        have hoth:∀q k,q≠r→F q k→k≠g:=fun q k hq hk e=>hq (hS.apart q r k hk (e▸h5))
        have hres:∀q,q≠r→(σ'.upd o.dst ⟨.ud,[(r, .bx tb (splice cs n vs))],r::refsOf (splice cs n vs),0,[r]⟩).res q=σ'.res q:=fun q hq=>St.kH (fun p hp=>by simp at hp;subst hp;exact fun e=>hq e.symm)
        have jK:(σ'.upd o.dst ⟨.ud,[(r, .bx tb (splice cs n vs))],r::refsOf (splice cs n vs),0,[r]⟩).res r= .bx tb (splice cs n vs):=by rw [St.dI];simp [lk]
        have calm:Calm σ' (σ'.upd o.dst ⟨.ud,[(r, .bx tb (splice cs n vs))],r::refsOf (splice cs n vs),0,[r]⟩) F F w (w.setRow g (splice arr.toList n (a.eval v).cells.toList).toArray):=⟨St.gY _ _ _,by rw [setRow_size];exact Nat.le_refl _,fun k hk hst=>⟨hst,setRow_other w g k _ (fun e=>hst r (e▸h5))⟩⟩
        have same:∀q,q≠r→Same σ' (σ'.upd o.dst ⟨.ud,[(r, .bx tb (splice cs n vs))],r::refsOf (splice cs n vs),0,[r]⟩) env env F F w (w.setRow g (splice arr.toList n (a.eval v).cells.toList).toArray) q:=fun q hq=>⟨rfl,fun _=>Iff.rfl,hres q hq,fun k hk=>setRow_other w g k _ (hoth q k hq hk)⟩
        have hold:∀q:Nat × Nat,Holds σ' (σ'.upd o.dst ⟨.ud,[(r, .bx tb (splice cs n vs))],r::refsOf (splice cs n vs),0,[r]⟩) F F w (w.setRow g (splice arr.toList n (a.eval v).cells.toList).toArray) q:=by
         intro q
         by_cases e:q.1=r
         ·rintro⟨e',l,hl⟩
          rw [e,jK] at hl
          cases hl
         ·exact(same q.1 e).holds
        refine hS.upd (aZ:=env) (F1:=F) (fun q=>q=r) (below_setRow hS.below hgW.1 _) calm same ?_ ?_ ?_ ?_ (fun d hd=>by rw [hdn] at hd;cases hd)
        ·rintro q rfl
         rw [jK]
         refine⟨g,_,h1,h5,h6,setRow_heap w g arr _ tb _ h7,?_⟩
         have hsp:aQ σ' env F w (splice cs n vs) (splice arr.toList n (a.eval v).cells.toList):=by
          unfold splice
          rw [show(a.eval v).cells.toList.length=vs.length from by simp [hl1]]
          exact nD (nD (uy n h8) hcv) (uz _ h8)
         simpa using kD calm hsp (fun _ _=>rfl) (fun q _=>hold q)
        ·rintro q k rfl hk
         have:=hS.own q k hk
         exact⟨this.1,by rw [setRow_size];exact this.2⟩
        ·rintro q s k rfl hk hk2
         exact hS.apart q s k hk hk2
        ·rintro q rfl
         exact .inr ⟨rfl,⟨fun bv e l hl=>(by rw [jK] at hl;cases hl),fun bv e l hl=>(by rw [jK] at hl;cases hl)⟩,fun b=> .inl (hold (q,b))⟩
     ·cases h
    ·cases h
 ·cases h
end
end Go.Proofs.YtcnfgfomholheaaGreatDoor.Z
end
section
namespace Go.Proofs.YtcnfgfomholheaaGreatDoor.Z
open Go.RowKit
set_option linter.unusedVariables false
set_option linter.unusedSimpArgs false
section
variable {T:dQ} {P:Program} {W0:Fr} {σ σ' σ1:St T} {a:Act} {w w1:World} {env aZ:Nat→Value} {F F1:Nat→Nat→Prop} {o:Oper} {aX aW:List Nat}
def Fv (σ:St T):Cell T→Option (C0 T.Tb × List (Nat × Nat))
 | .sc v=>some (.sc v,[])
 | .im none e l=>some (.sl e l,[])
 | .im (some q) e l=>match oJ σ (some q) with
   | true=>some (.sl e l,[q])
   | false=>none
 | .hd r=>match σ.res r with
   | .row bv e l=>some (.sl e l,[(r,bv)])
   | .sh bv e l=>some (.sl e l,[(r,bv)])
   | _=>none
 | _=>none
def En (σ:St T):List (Cell T)→Option (List (C0 T.Tb) × List (Nat × Nat))
 | []=>some ([],[])
 | c::cs=>match Fv σ c with
   | some (x,p)=>match En σ cs with
     | some (xs,ps)=>some (x::xs,p++ps)
     | none=>none
   | none=>none
def UD (σ:St T):Slot T→Option (Arg T.Tb × List (Nat × Nat))
 | .c x=>match Fv σ x with
   | some (y,p)=>some (.c y,p)
   | none=>none
 | .ag l=>match En σ l with
   | some (y,p)=>some (.ag y,p)
   | none=>none
 | _=>none
def zh (σ:St T):List (Slot T)→Option (List (Arg T.Tb) × List (Nat × Nat))
 | []=>some ([],[])
 | c::cs=>match UD σ c with
   | some (x,p)=>match zh σ cs with
     | some (xs,ps)=>some (x::xs,p++ps)
     | none=>none
   | none=>none
def jA (A:Nat→Prop) (F:Nat→Nat→Prop) (ps:List (Nat × Nat)) (k:Nat):Prop:=(A k∧∀r,¬F r k)∨∃q∈ps,F q.1 k
theorem Fz {ts:List Nat} (h:dU W0 σ' a w env F) (hA:Agree σ σ' ts aX aW) {c:Cell T} {v:Value} (hc:gJ σ' env F w c v) {x:C0 T.Tb} {ps:List (Nat × Nat)} (hx:Fv σ c=some (x,ps)) (hp:∀q∈ps,q.1∈aX):qQ w (jA σ'.A F ps) x v:=by
 unfold Fv at hx
 split at hx
 ·cases hx;exact hc
 ·cases hx
  exact(hc.2 trivial).mono (fun k hk=>hk.elim .inl (fun⟨q,hq,_⟩=>by cases hq))
 ·rename_i q e l
  cases hl:oJ σ (some q)<;>rw [hl] at hx<;>cases hx
  obtain⟨e',l',hl'⟩:=qB hl
  have h1:σ'.live (some q):=⟨e',l',by rw [hA.res q.1 (hp q (by simp))];exact hl'⟩
  exact(hc.2 h1).mono (fun k hk=>hk.elim .inl (fun⟨q',hq,hk⟩=>by cases hq;exact .inr ⟨q,by simp,hk⟩))
 ·rename_i r
  cases hr:σ.res r with
  | row bv e l=>
    rw [hr] at hx
    cases hx
    have h1:=h.res r
    rw [hA.res r (hp (r,bv) (by simp)),hr] at h1
    have h2:=(Ow.rd h1).mono (P':=jA σ'.A F [(r,bv)]) (fun k hk=> .inr ⟨(r,bv),by simp,hk⟩)
    rw [←hc.1] at h2
    exact h2
  | no=>rw [hr] at hx;cases hx
  | bx t cs=>rw [hr] at hx;cases hx
  | sh bv e l=>
    rw [hr] at hx
    cases hx
    have h1:=h.res r
    rw [hA.res r (hp (r,bv) (by simp)),hr] at h1
    rw [hc.1]
    show Rd T.sz w (jA σ'.A F [(r,bv)]) (.sl e (l.map (T.enc e))) (env r)
    exact Sh.rd h1 (fun k hk=> .inr ⟨(r,bv),by simp,hk⟩) (fun k hk=>hk.elim .inl (fun⟨q,hq,_⟩=>by cases hq))
 ·cases hx
theorem qo {S S':Nat→Prop} {x:C0 T.Tb} {v:Value} (h:qQ w S x v) (hS:∀k,S k→S' k):qQ w S' x v:=by
 cases x with
 | sc v'=>exact h
 | sl e l=>exact Rd.mono h hS
theorem oI {S S':Nat→Prop} (hS:∀k,S k→S' k):∀{x:List (C0 T.Tb)} {v:List Value},dS w S x v→dS w S' x v
 | [],_,h=>h
 | c::cs,_,⟨v,r,e,h1,h2⟩=>⟨v,r,e,qo h1 hS,oI hS h2⟩
theorem EP {S S':Nat→Prop} {x:Arg T.Tb} {v:Value} (h:ArgRel w S x v) (hS:∀k,S k→S' k):ArgRel w S' x v:=by
 cases x with
 | c x=>exact qo h hS
 | ag l=>obtain⟨us,e,h⟩:=h;exact⟨us,e,oI hS h⟩
theorem CP {S S':Nat→Prop} (hS:∀k,S k→S' k):∀{x:List (Arg T.Tb)} {v:List Value},mD w S x v→mD w S' x v
 | [],_,h=>h
 | c::cs,_,⟨v,r,e,h1,h2⟩=>⟨v,r,e,EP h1 hS,CP hS h2⟩
theorem nC {A:Nat→Prop} {p q:List (Nat × Nat)} {k:Nat}:(jA A F p k→jA A F (p++q) k)∧(jA A F q k→jA A F (p++q) k):=
 ⟨fun h=>h.imp id (fun⟨x,hx,hk⟩=>⟨x,List.mem_append_left _ hx,hk⟩),fun h=>h.imp id (fun⟨x,hx,hk⟩=>⟨x,List.mem_append_right _ hx,hk⟩)⟩
theorem Lh {ts:List Nat} (h:dU W0 σ' a w env F) (hA:Agree σ σ' ts aX aW):∀{cs:List (Cell T)} {vs:List Value} {xs:List (C0 T.Tb)} {ps:List (Nat × Nat)},aQ σ' env F w cs vs→En σ cs=some (xs,ps)→(∀q∈ps,q.1∈aX)→dS w (jA σ'.A F ps) xs vs
 | [],_,_,_,hc,hx,_=>by cases hx;exact hc
 | c::cs,_,_,_,⟨v,r,e,h1,h2⟩,hx,hp=>by
   unfold En at hx
   cases h3:Fv σ c with
   | none=>rw [h3] at hx;cases hx
   | some xp=>
     obtain⟨x,p⟩:=xp
     rw [h3] at hx
     dsimp only at hx
     cases h4:En σ cs with
     | none=>rw [h4] at hx;cases hx
     | some xp2=>
       obtain⟨xs,p2⟩:=xp2
       rw [h4] at hx
       cases hx
       exact⟨v,r,e,qo (Fz h hA h1 h3 (fun q hq=>hp q (List.mem_append_left _ hq))) (fun k=>nC.1),oI (fun k=>nC.2) (Lh h hA h2 h4 (fun q hq=>hp q (List.mem_append_right _ hq)))⟩
theorem YH {ts:List Nat} (h:dU W0 σ' a w env F) (hA:Agree σ σ' ts aX aW) {c:Slot T} {v:Value} (hc:bK σ' env F w c v) {x:Arg T.Tb} {ps:List (Nat × Nat)} (hx:UD σ c=some (x,ps)) (hp:∀q∈ps,q.1∈aX):ArgRel w (jA σ'.A F ps) x v:=by
 unfold UD at hx
 split at hx
 ·rename_i y
  cases h3:Fv σ y with
  | none=>rw [h3] at hx;cases hx
  | some xp=>obtain⟨z,p⟩:=xp;rw [h3] at hx;cases hx;exact Fz h hA hc h3 hp
 ·rename_i y
  cases h3:En σ y with
  | none=>rw [h3] at hx;cases hx
  | some xp=>obtain⟨z,p⟩:=xp;rw [h3] at hx;cases hx;obtain⟨us,e,hc⟩:=hc;exact⟨us,e,Lh h hA hc h3 hp⟩
 ·cases hx
def EJ (σ:St T):List Operand→List (Slot T)
 | []=>[]
 | x::l=>dn σ x::EJ σ l
theorem Lj (h:dU W0 σ' a w env F) (hA:Agree σ σ' (jS o.op) aX aW):∀{xs:List Operand} {as:List (Arg T.Tb)} {ps:List (Nat × Nat)},(∀x∈xs,x∈o.op.operands.toList)→zh σ (EJ σ xs)=some (as,ps)→(∀q∈ps,q.1∈aX)→mD w (jA σ'.A F ps) as (xs.map a.eval)
 | [],_,_,_,hx,_=>by cases hx;rfl
 | x::xs,_,_,ho,hx,hp=>by
   unfold EJ zh at hx
   cases h3:UD σ (dn σ x) with
   | none=>rw [h3] at hx;cases hx
   | some xp=>
     obtain⟨y,p⟩:=xp
     rw [h3] at hx
     dsimp only at hx
     cases h4:zh σ (EJ σ xs) with
     | none=>rw [h4] at hx;cases hx
     | some xp2=>
       obtain⟨ys,p2⟩:=xp2
       rw [h4] at hx
       cases hx
       exact⟨_,_,rfl,EP (YH h hA (bD h hA (ho x List.mem_cons_self)) h3 (fun q hq=>hp q (List.mem_append_left _ hq))) (fun k=>nC.1),
        CP (fun k=>nC.2) (Lj h hA (fun y hy=>ho y (List.mem_cons_of_mem _ hy)) h4 (fun q hq=>hp q (List.mem_append_right _ hq)))⟩
def oneOf:List (Nat × Nat)→Option (Option (Nat × Nat))
 | []=>some none
 | q::r=>match oneOf r with
   | some none=>some (some q)
   | some (some q')=>match Nat.beq q.1 q'.1 with
     | true=>match Nat.beq q.2 q'.2 with
       | true=>some (some q)
       | false=>none
     | false=>none
   | none=>none
theorem Iy {A:Nat→Prop}:∀{ps:List (Nat × Nat)} {p:Option (Nat × Nat)},oneOf ps=some p→∀k,jA A F ps k→iI A F p k
 | [],_,h,k,hk=>by
   cases h
   rcases hk with hk | ⟨q,hq,_⟩
   ·exact .inl hk
   ·cases hq
 | q::r,p,h,k,hk=>by
   unfold oneOf at h
   cases h1:oneOf r with
   | none=>rw [h1] at h;cases h
   | some p'=>
     rw [h1] at h
     have ih:=fun hk:jA A F r k=>Iy h1 k hk
     rcases hk with hk | ⟨x,hx,hk⟩
     ·exact .inl hk
     ·cases p' with
      | none=>
        cases h
        rcases List.mem_cons.1 hx with rfl | hx
        ·exact .inr ⟨x,rfl,hk⟩
        ·rcases ih (.inr ⟨x,hx,hk⟩) with h2 | ⟨q',hq,_⟩
         ·exact .inl h2
         ·cases hq
      | some q'=>
        dsimp only at h
        cases e1:Nat.beq q.1 q'.1<;>rw [e1] at h<;>dsimp only at h
        ·cases h
        cases e2:Nat.beq q.2 q'.2<;>rw [e2] at h<;>cases h
        have e3:=Nat.eq_of_beq_eq_true e1
        rcases List.mem_cons.1 hx with rfl | hx
        ·exact .inr ⟨x,rfl,hk⟩
        ·rcases ih (.inr ⟨x,hx,hk⟩) with h2 | ⟨q'',hq,h3⟩
         ·exact .inl h2
         ·cases hq;exact .inr ⟨q,rfl,by rw [e3];exact h3⟩
def RU (nx:Nat) (p:Option (Nat × Nat)) (i:Nat):R0 T.Tb→Cell T
 | .sc v=> .sc v
 | .ow e l=> .hd (nx+i)
 | .im e l=> .im p e l
 | .bx t cs=> .px (nx+i) 0
def oQ (nx:Nat) (p:Option (Nat × Nat)):Nat→List (R0 T.Tb)→List (Cell T)
 | _,[]=>[]
 | i,x::l=>RU nx p i x::oQ nx p (i+1) l
def Gh (nx:Nat) (p:Option (Nat × Nat)):Nat→List (Bool × List (R0 T.Tb))→List (Bool × List (Cell T))
 | _,[]=>[]
 | i,it::l=>(it.1,oQ nx p i it.2)::Gh nx p (i+it.2.length) l
def gX (nx:Nat) (p:Option (Nat × Nat)):RS T.Tb→Slot T
 | .c x=> .c (RU nx p 0 x)
 | .ag l=> .ag (oQ nx p 0 l)
 | .tu l=> .tu (Gh nx p 0 l)
def gu (nx:Nat):Nat→List (R0 T.Tb)→List (Nat × dA T)
 | _,[]=>[]
 | i, .ow e l::r=>(nx+i, .row (nx+i) e l)::gu nx (i+1) r
 | i, .bx t cs::r=>(nx+i, .bx t (cs.map (toCell none)))::gu nx (i+1) r
 | i,_::r=>gu nx (i+1) r
def jd:List (R0 T.Tb)→Bool
 | []=>false
 | .im _ _::_=>true
 | .bx _ _::_=>true
 | _::r=>jd r
def Eo:List (R0 T.Tb)→Bool
 | []=>false
 | .bx _ _::_=>true
 | _::r=>Eo r
def vK (σ:St T) (nx:Nat):Nat→Bool
 | 0=>true
 | n+1=>match σ.fresh (nx+n) with
   | true=>vK σ nx n
   | false=>false
def ids (nx:Nat):Nat→List Nat
 | 0=>[]
 | n+1=>(nx+n)::ids nx n
def vM:List (Nat × Nat)→List Nat
 | []=>[]
 | q::r=>q.1::vM r
def JF (σ:St T) (nx:Nat) (dst:Option Nat) (ps:List (Nat × Nat)) (res:RS T.Tb):Option (bf T):=
 match bT σ dst with
 | true=>match vK σ nx res.flat.length with
   | true=>match jd res.flat with
     | true=>match oneOf ps with
       | some none=>some ⟨gX nx none res,gu nx 0 res.flat,ids nx res.flat.length++(vM ps++(gX nx (none:Option (Nat × Nat)) res).refs),res.flat.length,ids nx res.flat.length⟩
       | some (some p)=>match Eo res.flat with
         | true=>none
         | false=>some ⟨gX nx (some p) res,gu nx 0 res.flat,ids nx res.flat.length++(vM ps++(gX nx (some p) res).refs),res.flat.length,ids nx res.flat.length⟩
       | none=>none
     | false=>some ⟨gX nx none res,gu nx 0 res.flat,ids nx res.flat.length++(vM ps++(gX nx (none:Option (Nat × Nat)) res).refs),res.flat.length,ids nx res.flat.length⟩
   | false=>none
 | false=>none
theorem Jz {nx r:Nat}:∀{n:Nat},r∈ids nx n↔nx≤r∧r<nx+n
 | 0=>by simp [ids]<;>omega
 | n+1=>by
   simp only [ids,List.mem_cons,Jz (n:=n)]
   omega
theorem xG {nx:Nat}:∀{n:Nat},vK σ nx n=true→∀r,nx≤r→r<nx+n→σ.fresh r=true
 | 0,_,r,h1,h2=>by omega
 | n+1,h,r,h1,h2=>by
   unfold vK at h
   cases hf:σ.fresh (nx+n)<;>rw [hf] at h<;>dsimp only at h
   ·cases h
   by_cases e:r=nx+n
   ·subst e;exact hf
   ·exact xG h r h1 (by omega)
theorem zf {r:Nat}:∀{ps:List (Nat × Nat)},r∈vM ps↔∃q∈ps,q.1=r
 | []=>by simp [vM]
 | q::ps=>by simp [vM,zf (ps:=ps)];exact or_congr ⟨fun h=>h.symm,fun h=>h.symm⟩ Iff.rfl
def BF:List (R0 T.Tb)→Nat→Bool
 | [],_=>false
 | .ow _ _::_,0=>true
 | .bx _ _::_,0=>true
 | _::_,0=>false
 | _::l,i+1=>BF l i
theorem y9 {nx:Nat}:∀{l:List (R0 T.Tb)} {i j:Nat} {d:dA T},j<l.length→lk d (gu nx i l) (nx+i+j)=match l[j]? with
  | some (.ow e x)=> .row (nx+i+j) e x
  | some (.bx t x)=> .bx t (x.map (toCell none))
  | _=>d
 | [],i,j,d,h=>by simp at h
 | x::l,i,0,d,_=>by
   have hno:∀p∈gu nx (i+1) l,p.1≠nx+i:=by
    have key:∀(l:List (R0 T.Tb)) (m:Nat),∀p∈gu nx m l,nx+m≤p.1:=by
     intro l
     induction l with
     | nil=>intro m p hp;cases hp
     | cons y l ih=>
       intro m p hp
       cases y<;>simp only [gu,List.mem_cons] at hp
       ·have:=ih (m+1) p hp;omega
       ·rcases hp with rfl | hp
        ·simp
        ·have:=ih (m+1) p hp;omega
       ·have:=ih (m+1) p hp;omega
       ·rcases hp with rfl | hp
        ·simp
        ·have:=ih (m+1) p hp;omega
    intro p hp e
    have:=key l (i+1) p hp
    omega
   cases x with
   | sc v=>simp only [gu,Nat.add_zero,List.getElem?_cons_zero];exact qU _ _ _ hno
   | ow e y=>simp [gu,lk,Nat.beq_eq]
   | im e y=>simp only [gu,Nat.add_zero,List.getElem?_cons_zero];exact qU _ _ _ hno
   | bx t y=>simp [gu,lk,Nat.beq_eq]
 | x::l,i,j+1,d,h=>by
   have ih:=y9 (nx:=nx) (l:=l) (i:=i+1) (j:=j) (d:=d) (by simpa using h)
   have e:nx+(i+1)+j=nx+i+(j+1):=by omega
   rw [e] at ih
   cases x with
   | sc v=>simp only [gu,List.getElem?_cons_succ];exact ih
   | ow e' y=>
     have hne:Nat.beq (nx+i) (nx+i+(j+1))=false:=eY (by omega)
     simp only [gu,lk,hne,List.getElem?_cons_succ];exact ih
   | im e' y=>simp only [gu,List.getElem?_cons_succ];exact ih
   | bx t y=>
     have hne:Nat.beq (nx+i) (nx+i+(j+1))=false:=eY (by omega)
     simp only [gu,lk,hne,List.getElem?_cons_succ];exact ih
theorem pR {nx:Nat}:∀{l:List (R0 T.Tb)} {i:Nat},∀p∈gu nx i l,nx+i≤p.1∧p.1<nx+i+l.length
 | [],_,p,h=>by cases h
 | x::l,i,p,h=>by
   cases x<;>simp only [gu,List.mem_cons] at h
   ·have:=pR p h;simp;omega
   ·rcases h with rfl | h
    ·simp
    ·have:=pR p h;simp;omega
   ·have:=pR p h;simp;omega
   ·rcases h with rfl | h
    ·simp
    ·have:=pR p h;simp;omega
end
end Go.Proofs.YtcnfgfomholheaaGreatDoor.Z
end
section
namespace Go.Proofs.YtcnfgfomholheaaGreatDoor.Z
open Go.RowKit
set_option linter.unusedVariables false
set_option linter.unusedSimpArgs false
section
variable {T:dQ} {P:Program} {W0:Fr} {σ σ' σ1:St T} {a:Act} {w w1:World} {env aZ:Nat→Value} {F F1:Nat→Nat→Prop} {o:Oper} {aX aW:List Nat}
theorem yt {S:Nat→Prop} {G:Nat→Nat→Prop}:∀{cs:List (R0 T.Tb)} {i:Nat} {vs:List Value},dF w1 S G i cs vs→cs.length=vs.length
 | [],_,_,h=>by cases h;rfl
 | .sc v::cs,i,_,⟨r,e,_,h⟩=>by subst e;simp [yt h]
 | .ow _ _::cs,i,_,⟨v,r,e,_,h⟩=>by subst e;simp [yt h]
 | .im _ _::cs,i,_,⟨v,r,e,_,h⟩=>by subst e;simp [yt h]
 | .bx _ _::cs,i,_,⟨v,r,e,_,h⟩=>by subst e;simp [yt h]
theorem TN {S:Nat→Prop} {G:Nat→Nat→Prop} {e:Nat} {l:List (T.Tb e)}:∀{cs:List (R0 T.Tb)} {i j:Nat} {vs:List Value},dF w1 S G i cs vs→cs[j]? =some (.ow e l)→∃v,vs[j]? =some v∧Ow T.sz w1 (G (i+j)) (.sl e (l.map (T.enc e))) v
 | [],_,_,_,_,h=>by simp at h
 | c::cs,i,0,_,h,hj=>by
   simp at hj
   subst hj
   obtain⟨v,r,e',h1,_⟩:=h
   exact⟨v,by rw [e'];rfl,h1⟩
 | c::cs,i,j+1,vs,h,hj=>by
   have key:∃v r,vs=v::r∧dF w1 S G (i+1) cs r:=by
    cases c with
    | sc v=>obtain⟨r,e',_,h⟩:=h;exact⟨_,r,e',h⟩
    | ow _ _=>obtain⟨v,r,e',_,h⟩:=h;exact⟨v,r,e',h⟩
    | im _ _=>obtain⟨v,r,e',_,h⟩:=h;exact⟨v,r,e',h⟩
    | bx _ _=>obtain⟨v,r,e',_,h⟩:=h;exact⟨v,r,e',h⟩
   obtain⟨v,r,e',h⟩:=key
   obtain⟨u,h1,h2⟩:=TN (j:=j) h (by simpa using hj)
   exact⟨u,by rw [e'];simpa using h1,by rw [show i+(j+1)=i+1+j by omega];exact h2⟩
theorem ZG {S:Nat→Prop} {G:Nat→Nat→Prop} {t:Nat} {xs:List (C0 T.Tb)}:∀{cs:List (R0 T.Tb)} {i j:Nat} {vs:List Value},dF w1 S G i cs vs→cs[j]? =some (.bx t xs)→∃v,vs[j]? =some v∧∃g us,v= .pointer (some ⟨g,0,none⟩)∧G (i+j) g∧(∀k,G (i+j) k→k=g)∧w1.heap[g]? =some (.cells us t (0,0))∧dS w1 S xs us.toList
 | [],_,_,_,_,h=>by simp at h
 | c::cs,i,0,_,h,hj=>by
   simp at hj
   subst hj
   obtain⟨v,r,e',h1,_⟩:=h
   exact⟨v,by rw [e'];rfl,h1⟩
 | c::cs,i,j+1,vs,h,hj=>by
   have key:∃v r,vs=v::r∧dF w1 S G (i+1) cs r:=by
    cases c with
    | sc v=>obtain⟨r,e',_,h⟩:=h;exact⟨_,r,e',h⟩
    | ow _ _=>obtain⟨v,r,e',_,h⟩:=h;exact⟨v,r,e',h⟩
    | im _ _=>obtain⟨v,r,e',_,h⟩:=h;exact⟨v,r,e',h⟩
    | bx _ _=>obtain⟨v,r,e',_,h⟩:=h;exact⟨v,r,e',h⟩
   obtain⟨v,r,e',h⟩:=key
   obtain⟨u,h1,h2⟩:=ZG (j:=j) h (by simpa using hj)
   exact⟨u,by rw [e'];simpa using h1,by rw [show i+(j+1)=i+1+j by omega];exact h2⟩
theorem vI {S:Nat→Prop} (hS:∀k,S k→iI σ1.A F1 none k):∀{cs:List (C0 T.Tb)} {vs:List Value},dS w1 S cs vs→aQ σ1 aZ F1 w1 (cs.map (toCell none)) vs
 | [],_,h=>h
 | .sc v'::cs,_,⟨v,r,e,h1,h2⟩=>⟨v,r,e,h1,vI hS h2⟩
 | .sl e' l::cs,_,⟨v,r,e,h1,h2⟩=>⟨v,r,e,⟨Rd.one h1,fun _=>Rd.mono h1 hS⟩,vI hS h2⟩
theorem qp {S:Nat→Prop} {G:Nat→Nat→Prop} {nx:Nat} {p:Option (Nat × Nat)}:∀{cs:List (R0 T.Tb)} {i:Nat} {vs:List Value},dF w1 S G i cs vs→(∀j v,vs[j]? =some v→aZ (nx+(i+j))=v)→
  (jd cs=true→∀k,S k→iI σ1.A F1 p k)→aQ σ1 aZ F1 w1 (oQ nx p i cs) vs
 | [],_,_,h,_,_=>h
 | .sc v::cs,i,_,⟨r,e,h1,h2⟩,he,hm=>by
   subst e
   exact⟨v,r,rfl,⟨rfl,h1⟩,qp h2 (fun j v hj=>by have:=he (j+1) v (by simpa using hj);rw [show i+1+j=i+(j+1) by omega];exact this) (fun h=>hm h)⟩
 | .ow e' l::cs,i,_,⟨v,r,e,h1,h2⟩,he,hm=>by
   subst e
   exact⟨v,r,rfl,⟨(he 0 v rfl).symm,h1.one⟩,qp h2 (fun j v hj=>by have:=he (j+1) v (by simpa using hj);rw [show i+1+j=i+(j+1) by omega];exact this) (fun h=>hm h)⟩
 | .im e' l::cs,i,_,⟨v,r,e,h1,h2⟩,he,hm=>by
   subst e
   exact⟨v,r,rfl,⟨h1.one,fun _=>h1.mono (hm rfl)⟩,qp h2 (fun j v hj=>by have:=he (j+1) v (by simpa using hj);rw [show i+1+j=i+(j+1) by omega];exact this) (fun _=>hm rfl)⟩
 | .bx t xs::cs,i,_,⟨v,r,e,⟨g,us,e1,_⟩,h2⟩,he,hm=>by
   subst e
   exact⟨v,r,rfl,⟨g,(he 0 v rfl).trans e1,e1⟩,qp h2 (fun j v hj=>by have:=he (j+1) v (by simpa using hj);rw [show i+1+j=i+(j+1) by omega];exact this) (fun _=>hm rfl)⟩
theorem wz {S:Nat→Prop} {G:Nat→Nat→Prop}:∀{cs ds:List (R0 T.Tb)} {i:Nat} {f1 f2:List Value},dF w1 S G i (cs++ds) (f1++f2)→f1.length=cs.length→dF w1 S G i cs f1∧dF w1 S G (i+cs.length) ds f2
 | [],ds,i,f1,f2,h,hl=>by
   have:f1=[]:=List.eq_nil_of_length_eq_zero (by simpa using hl)
   subst this;exact⟨rfl,h⟩
 | c::cs,ds,i,[],f2,h,hl=>by simp at hl
 | c::cs,ds,i,x::f1,f2,h,hl=>by
   have hl':f1.length=cs.length:=by simpa using hl
   cases c with
   | sc v=>
     obtain⟨r,e,h1,h2⟩:=h
     cases e
     obtain⟨h3,h4⟩:=wz h2 hl'
     exact⟨⟨f1,rfl,h1,h3⟩,by rw [List.length_cons,show i+(cs.length+1)=i+1+cs.length by omega];exact h4⟩
   | ow _ _=>
     obtain⟨v,r,e,h1,h2⟩:=h
     cases e
     obtain⟨h3,h4⟩:=wz h2 hl'
     exact⟨⟨_,f1,rfl,h1,h3⟩,by rw [List.length_cons,show i+(cs.length+1)=i+1+cs.length by omega];exact h4⟩
   | im _ _=>
     obtain⟨v,r,e,h1,h2⟩:=h
     cases e
     obtain⟨h3,h4⟩:=wz h2 hl'
     exact⟨⟨_,f1,rfl,h1,h3⟩,by rw [List.length_cons,show i+(cs.length+1)=i+1+cs.length by omega];exact h4⟩
   | bx _ _=>
     obtain⟨v,r,e,h1,h2⟩:=h
     cases e
     obtain⟨h3,h4⟩:=wz h2 hl'
     exact⟨⟨_,f1,rfl,h1,h3⟩,by rw [List.length_cons,show i+(cs.length+1)=i+1+cs.length by omega];exact h4⟩
theorem JW {ds:List (R0 T.Tb)}:∀{cs:List (R0 T.Tb)},jd cs=true→jd (cs++ds)=true
 | [],h=>by cases h
 | .sc _::cs,h=>JW (cs:=cs) h
 | .ow _ _::cs,h=>JW (cs:=cs) h
 | .im _ _::cs,h=>rfl
 | .bx _ _::cs,h=>rfl
theorem JX {ds:List (R0 T.Tb)}:∀{cs:List (R0 T.Tb)},jd ds=true→jd (cs++ds)=true
 | [],h=>h
 | .sc _::cs,h=>JX (cs:=cs) h
 | .ow _ _::cs,h=>JX (cs:=cs) h
 | .im _ _::cs,h=>rfl
 | .bx _ _::cs,h=>rfl
theorem FD {t:Nat} {xs:List (C0 T.Tb)}:∀{cs:List (R0 T.Tb)} {j:Nat},cs[j]? =some (.bx t xs)→jd cs=true∧Eo cs=true
 | [],_,h=>by simp at h
 | c::cs,0,h=>by simp at h;subst h;exact⟨rfl,rfl⟩
 | c::cs,j+1,h=>by
   have:=FD (cs:=cs) (j:=j) (by simpa using h)
   cases c<;>first | exact this | exact⟨rfl,this.2⟩ | exact⟨rfl,rfl⟩
theorem Oo {S:Nat→Prop} {G:Nat→Nat→Prop} {nx:Nat} {p:Option (Nat × Nat)}:∀{its:List (Bool × List (R0 T.Tb))} {i:Nat} {vs fv:List Value},wY its vs fv→dF w1 S G i (BG its) fv→(∀j v,fv[j]? =some v→aZ (nx+(i+j))=v)→
  (jd (BG its)=true→∀k,S k→iI σ1.A F1 p k)→kG σ1 aZ F1 w1 (Gh nx p i its) vs
 | [],_,_,_,h,_,_,_=>h.1
 | it::its,i,_,_,⟨v,r,f1,f2,e1,e2,hl,hv,hr⟩,hc,he,hm=>by
   subst e1 e2
   obtain⟨h1,h2⟩:=wz hc hl
   have h3:aQ σ1 aZ F1 w1 (oQ nx p i it.2) f1:=qp h1 (fun j v hj=>he j v (by rw [List.getElem?_append_left (List.getElem?_eq_some_iff.1 hj).1];exact hj)) (fun h=>hm (JW h))
   refine⟨v,r,rfl,?_,Oo hr h2 (fun j v hj=>?_) (fun h=>hm (JX h))⟩
   ·unfold qW
    cases hb:it.1<;>rw [hb] at hv<;>dsimp only at hv⊢
    ·rw [←hv];exact h3
    ·obtain⟨us,e,e'⟩:=hv
     exact⟨us,e,by rw [e'];exact h3⟩
   ·have:=he (f1.length+j) v (by rw [List.getElem?_append_right (by omega)];simpa using hj)
    rw [hl] at this
    rw [show i+it.2.length+j=i+(it.2.length+j) by omega];exact this
theorem vJ:∀{l:List (R0 T.Tb)} {j:Nat},(∀e x,l[j]?≠some (.ow e x))→(∀t x,l[j]?≠some (.bx t x))→BF l j=false
 | [],_,_,_=>rfl
 | c::l,0,h,h'=>by cases c<;>first | rfl | exact absurd rfl (h _ _) | exact absurd rfl (h' _ _)
 | c::l,j+1,h,h'=>by
   have:=vJ (l:=l) (j:=j) (fun e x=>by simpa using h e x) (fun e x=>by simpa using h' e x)
   cases c<;>exact this
theorem RV {t:Nat} {x:List (C0 T.Tb)}:∀{l:List (R0 T.Tb)} {j:Nat},l[j]? =some (.bx t x)→BF l j=true
 | [],_,h=>by simp at h
 | c::l,0,h=>by simp at h;subst h;rfl
 | c::l,j+1,h=>by
   have:=RV (l:=l) (j:=j) (by simpa using h)
   cases c<;>exact this
theorem FH {e:Nat} {x:List (T.Tb e)}:∀{l:List (R0 T.Tb)} {j:Nat},l[j]? =some (.ow e x)→BF l j=true
 | [],_,h=>by simp at h
 | c::l,0,h=>by simp at h;subst h;rfl
 | c::l,j+1,h=>by
   have:=FH (l:=l) (j:=j) (by simpa using h)
   cases c<;>exact this
theorem dU.called (h:dU W0 σ a w env F) (g:Grew w w1) {res:RS T.Tb} {v:Value} {fv:List Value} {G:Nat→Nat→Prop} {ps:List (Nat × Nat)} {p:Option (Nat × Nat)} {nx nx':Nat} {dst:Option Nat}
  (hfr:∀r,nx≤r→r<nx+res.flat.length→jm σ r∧σ.res r= .no) (hG:∀i k,G i k→w.heap.size≤k∧k<w1.heap.size) (hap:∀i j k,G i k→G j k→i=j) (hf:rM res v fv)
  (hc:dF w1 (fun k=>jA σ.A F ps k∧k<w.heap.size∨w.heap.size≤k∧∀i,¬G i k) G 0 res.flat fv) (hp:jd res.flat=true→oneOf ps=some p) (hpb:Eo res.flat=true→p=none) (hd:∀d,dst=some d→d<σ.n):
  jg W0 (σ.upd dst ⟨gX nx p res,gu nx 0 res.flat,aX,nx',aW⟩) (a.put dst v) w1:=by
 have hlen:=yt hc
 have hrs:∀r,¬(nx≤r∧r<nx+res.flat.length)→(σ.upd dst ⟨gX nx p res,gu nx 0 res.flat,aX,nx',aW⟩).res r=σ.res r:=fun r hr=>St.kH (fun q hq=>by have:=pR q hq;intro e;subst e;exact hr (by simpa using this))
 have ad5:∀j,j<res.flat.length→(σ.upd dst ⟨gX nx p res,gu nx 0 res.flat,aX,nx',aW⟩).res (nx+j)=match res.flat[j]? with
   | some (.ow e x)=> .row (nx+j) e x
   | some (.bx t x)=> .bx t (x.map (toCell none))
   | _=> .no:=fun j hj=>by
  rw [St.dI]
  have:=y9 (nx:=nx) (l:=res.flat) (i:=0) (j:=j) (d:=σ.res (nx+j)) hj
  simp only [Nat.add_zero] at this
  rw [this,(hfr (nx+j) (by omega) (by omega)).2]
  all_goals
   cases hx:res.flat[j]? with
   | none=>rfl
   | some x=>cases x<;>rfl
 let aZ:Nat→Value:=fun s=>if nx≤s∧s<nx+res.flat.length then fv.getD (s - nx) undef else env s
 let F1:Nat→Nat→Prop:=fun s k=>if nx≤s∧s<nx+res.flat.length then BF res.flat (s - nx)=true∧G (s - nx) k else F s k
 have he0:∀s,¬(nx≤s∧s<nx+res.flat.length)→aZ s=env s:=fun s hs=>if_neg hs
 have RP:∀s k,¬(nx≤s∧s<nx+res.flat.length)→(F1 s k↔F s k):=fun s k hs=>by show(if _ then _ else _)↔_;rw [if_neg hs]
 have hF1:∀s k,nx≤s→s<nx+res.flat.length→(F1 s k↔BF res.flat (s - nx)=true∧G (s - nx) k):=fun s k h1 h2=>by show(if _ then _ else _)↔_;rw [if_pos ⟨h1,h2⟩]
 have he1:∀j u,fv[j]? =some u→aZ (nx+(0+j))=u:=fun j u hj=>by
  have hlt:=(List.getElem?_eq_some_iff.1 hj).1
  show(if _ then _ else _)=_
  rw [if_pos (by omega),show nx+(0+j) - nx=j by omega,List.getD_eq_getElem?_getD,hj];rfl
 have hst:∀k,(∀r,¬F r k)→(∀i,¬G i k)→∀r,¬F1 r k:=fun k h1 h2 r hr=>by
  by_cases e:nx≤r∧r<nx+res.flat.length
  ·exact h2 _ ((hF1 r k e.1 e.2).1 hr).2
  ·exact h1 r ((RP r k e).1 hr)
 have hGn:∀k,k<w.heap.size→∀i,¬G i k:=fun k hk i hg=>by have:=(hG i k hg).1;omega
 have calm:Calm σ (σ.upd dst ⟨gX nx p res,gu nx 0 res.flat,aX,nx',aW⟩) F F1 w w1:=⟨St.gY _ _ _,g.size,fun k hk h1=>⟨hst k h1 (hGn k hk),g.block k hk⟩⟩
 have same:∀r,¬(nx≤r∧r<nx+res.flat.length)→Same σ (σ.upd dst ⟨gX nx p res,gu nx 0 res.flat,aX,nx',aW⟩) env aZ F F1 w w1 r:=fun r hr=>⟨he0 r hr,fun k=>RP r k hr,hrs r hr,fun k hk=>g.block k (fK h hk)⟩
 have UE:jd res.flat=true→∀k,(jA σ.A F ps k∧k<w.heap.size∨w.heap.size≤k∧∀i,¬G i k)→iI (σ.upd dst ⟨gX nx p res,gu nx 0 res.flat,aX,nx',aW⟩).A F1 p k:=fun him k hk=>by
  rcases hk with ⟨hk,hlt⟩ | ⟨hge,hk⟩
  ·rcases Iy (hp him) k hk with ⟨ha,h1⟩ | ⟨q,hq,h1⟩
   ·exact .inl ⟨by rw [St.gY];exact ha,hst k h1 (hGn k hlt)⟩
   ·refine .inr ⟨q,hq,?_⟩
    by_cases e:nx≤q.1∧q.1<nx+res.flat.length
    ·have h2:=h.res q.1
     rw [(hfr q.1 e.1 e.2).2] at h2
     exact(h2 k h1).elim
    ·exact(RP q.1 k e).2 h1
  ·exact .inl ⟨by rw [St.gY];exact h.acc k (h.below.may hge),hst k (fun r hr=>by have:=fK h hr;omega) hk⟩
 refine h.upd (aZ:=aZ) (F1:=F1) (fun r=>nx≤r∧r<nx+res.flat.length) (qF h.below g) calm same ?_ ?_ ?_ (fun r hr=> .inl (hfr r hr.1 hr.2).1) (fun d hd'=>⟨hd d hd',?_⟩)
 ·rintro r ⟨h1,h2⟩
  obtain⟨j,rfl⟩:∃j,r=nx+j:=⟨r - nx,by omega⟩
  have hj:j<res.flat.length:=by omega
  rw [ad5 j hj]
  cases hx:res.flat[j]? with
  | none=>simp at hx;omega
  | some x=>
    cases x with
    | sc u=>
      intro k hk
      have:=((hF1 _ k h1 h2).1 hk).1
      rw [show nx+j - nx=j by omega,vJ (fun e x h=>by rw [hx] at h;cases h) (fun e x h=>by rw [hx] at h;cases h)] at this
      cases this
    | bx t xs=>
      obtain⟨u,h3,g0,us,h4,h5,h6,h7,h8⟩:=ZG hc hx
      have h9:=he1 j u h3
      rw [Nat.zero_add] at h9 h5 h6
      obtain⟨hi1,hi2⟩:=FD hx
      have hS:∀k,(jA σ.A F ps k∧k<w.heap.size∨w.heap.size≤k∧∀i,¬G i k)→iI (σ.upd dst ⟨gX nx p res,gu nx 0 res.flat,aX,nx',aW⟩).A F1 none k:=fun k hk=>by
       rcases UE hi1 k hk with h10 | ⟨q,hq,_⟩
       ·exact .inl h10
       ·rw [hpb hi2] at hq;cases hq
      refine⟨g0,us,h9.trans h4,(hF1 _ g0 h1 h2).2 (by rw [show nx+j - nx=j by omega];exact⟨RV hx,h5⟩),fun k hk=>h6 k ?_,h7,vI hS h8⟩
      have:=((hF1 _ k h1 h2).1 hk).2
      rwa [show nx+j - nx=j by omega] at this
    | im e l=>
      intro k hk
      have:=((hF1 _ k h1 h2).1 hk).1
      rw [show nx+j - nx=j by omega,vJ (fun e x h=>by rw [hx] at h;cases h) (fun e x h=>by rw [hx] at h;cases h)] at this
      cases this
    | ow e l=>
      obtain⟨u,h3,h4⟩:=TN hc hx
      show Ow T.sz w1 (F1 (nx+j)) (.sl e (l.map (T.enc e))) (aZ (nx+j))
      have h5:=he1 j u h3
      rw [Nat.zero_add] at h5 h4
      rw [h5]
      exact h4.mono (fun k hk=>(hF1 _ k h1 h2).2 (by rw [show nx+j - nx=j by omega];exact⟨FH hx,hk⟩))
 ·rintro r k ⟨h1,h2⟩ hk
  have h3:=hG _ _ ((hF1 r k h1 h2).1 hk).2
  exact⟨h.below.may h3.1,h3.2⟩
 ·rintro r s k ⟨h1,h2⟩ hk hk2
  have h3:=((hF1 r k h1 h2).1 hk).2
  by_cases e:nx≤s∧s<nx+res.flat.length
  ·have h4:=((hF1 s k e.1 e.2).1 hk2).2
   have:=hap _ _ _ h3 h4
   omega
  ·have h4:=fK h ((RP s k e).1 hk2)
   have:=(hG _ _ h3).1
   omega
 ·cases res with
  | c x=>
    obtain rfl:fv=[v]:=hf
    have h1:aQ (σ.upd dst ⟨gX nx p (.c x),gu nx 0 (RS.c x).flat,aX,nx',aW⟩) aZ F1 w1 (oQ nx p 0 [x]) [v]:=qp hc he1 UE
    obtain⟨u,r,e,h2,_⟩:=h1
    cases e
    exact h2
  | ag l=>
    obtain⟨us,e,e'⟩:=hf
    exact⟨us,e,by rw [e'];exact qp hc he1 UE⟩
  | tu l=>
    obtain⟨us,e,e'⟩:=hf
    exact⟨us,e,Oo e' hc he1 UE⟩
theorem aaD {nx:Nat} {f:FuncId} {args:Array Operand} {ts:Array TypeId} {as:List (Arg T.Tb)} {ps:List (Nat × Nat)} {res:RS T.Tb} {U:bf T} (ho:o.op= .call {callee:= .value (.func f),args:=args,argTypes:=ts}) (ha:zh σ (EJ σ args.toList)=some (as,ps)) (hob:aG T P f as res) (hu:JF σ nx o.dst ps res=some U):dY P W0 o σ U:=by
 intro σ' a w K Q hA ⟨env,F,hS⟩ hK
 unfold JF at hu
 cases hd:bT σ o.dst<;>rw [hd] at hu<;>dsimp only at hu
 ·cases hu
 cases hf:vK σ nx res.flat.length<;>rw [hf] at hu<;>dsimp only at hu
 ·cases hu
 have hd':∀d,o.dst=some d→d<σ'.n:=fun d h=>by rw [hA.n];exact bg hd d h
 obtain⟨⟨fn,hfn,hname,hbody⟩,hcall⟩:=hob
 have main:∀(p:Option (Nat × Nat)) (him:jd res.flat=true→oneOf ps=some p) (hbx:Eo res.flat=true→p=none) (hU:U=⟨gX nx p res,gu nx 0 res.flat,ids nx res.flat.length++(vM ps++(gX nx p res).refs),res.flat.length,ids nx res.flat.length⟩),Oper.wp P o a w K Q:=by
  rintro p him hbx rfl
  have hargs:mD w (jA σ'.A F ps) as (args.toList.map a.eval):=Lj hS hA (fun x hx=>by rw [ho];simp only [Op.operands,Call.operands,Array.toList_append];exact List.mem_append_right _ hx) ha (fun q hq=>List.mem_append_right _ (List.mem_append_left _ (zf.2 ⟨q,hq,rfl⟩)))
  have hc:=hcall w _ _ (T.jk hS.below.base hS.tab) hargs
  have hrun:(execOp a.eval o).run P w= .ok (.enter f (args.toList.map a.eval).toArray) w:=by
   obtain⟨c,hbc⟩:=Option.isSome_iff_exists.1 hbody
   have h1:fn.name≠ "runtime.NumGoroutine" :=fun e=>by rw [e] at hname;simp at hname
   have hmap:Array.map a.eval args=(args.toList.map a.eval).toArray:=by apply Array.ext';simp
   unfold execOp
   rw [ho]
   simp [resolve,Deferred.ofValue,invoke,Act.eval,callFunc,hfn,h1,hbc,hmap]
  unfold Oper.wp
  rw [hrun,Oper.upon_enter]
  refine hc.mono ?_
  rintro e w1 ⟨v,G,rfl,hb,hG,hap,fv,hfv,hcells⟩
  refine hK _ _ (hS.called (Grew.of_below hb) (fun r h1 h2=>?_) hG hap hfv hcells him hbx hd')
  exact hA.new (Jz.2 ⟨h1,h2⟩) (xG hf r h1 h2)
 cases hi:jd res.flat<;>rw [hi] at hu<;>dsimp only at hu
 ·cases hu
  exact main none (fun h=>by rw [hi] at h;cases h) (fun _=>rfl) rfl
 ·cases hp:oneOf ps with
  | none=>rw [hp] at hu;cases hu
  | some p=>
    rw [hp] at hu
    cases p with
    | none=>
      cases hu
      exact main none (fun _=>hp) (fun _=>rfl) rfl
    | some p=>
      dsimp only at hu
      cases hb:Eo res.flat<;>rw [hb] at hu
      ·cases hu
       exact main (some p) (fun _=>hp) (fun h=>by rw [hb] at h;cases h) rfl
      ·cases hu
end
end Go.Proofs.YtcnfgfomholheaaGreatDoor.Z
end
section
namespace Go.Proofs.YtcnfgfomholheaaGreatDoor.Z
open Go.RowKit
set_option linter.unusedVariables false
set_option linter.unusedSimpArgs false
section
variable {T:dQ} {P:Program} {W0:Fr} {σ σ' σ1 σ2:St T} {a:Act} {w w1:World} {ops:Array Oper}
def UF (ops:Array Oper) (o:Oper):Option Nat:=
 match o.guard with
 | none=>none
 | some (j,_)=>match ops[j]? with
   | some oj=>oj.dst
   | none=>none
def zO (ops:Array Oper) (o:Oper):List Nat:=match UF ops o with
 | some t=>[t]
 | none=>[]
def BL (σ:St T) (ops:Array Oper) (o:Oper):Option Bool:=
 match o.guard with
 | none=>some true
 | some (_,want)=>match UF ops o with
   | some t=>match Nat.blt t σ.n with
     | true=>match σ.tmp t with
       | .c (.sc (.bool true))=>some want
       | .c (.sc (.bool false))=>some (!want)
       | .ud=>some false
       | _=>none
     | false=>none
   | none=>none
def GStep (P:Program) (W0:Fr) (ops:Array Oper) (o:Oper) (σ:St T) (U:bf T):Prop:=
 ∀(σ':St T) (a:Act) (w:World) (K:Act→World→Prop) (Q:Exit→Act→World→Prop),Agree σ σ' (jS o.op++zO ops o) U.aX U.aW→jg W0 σ' a w→(∀a' w',jg W0 (σ'.upd o.dst U) a' w'→K a' w')→
  if Region.wanted o (yielded ops a.tmps)=true then Oper.wp P o a w K Q else K (a.put o.dst undef) w
theorem Pg {o:Oper} {b:Bool} {aX aW:List Nat} (h:BL σ ops o=some b) (hA:Agree σ σ' (jS o.op++zO ops o) aX aW) (hS:jg W0 σ' a w):Region.wanted o (yielded ops a.tmps)=b:=by
 obtain⟨env,F,hS⟩:=hS
 unfold BL at h
 unfold Region.wanted
 cases hg:o.guard with
 | none=>rw [hg] at h;cases h;rfl
 | some jw=>
   obtain⟨j,want⟩:=jw
   rw [hg] at h
   dsimp only at h
   cases ht:UF ops o with
   | none=>rw [ht] at h;cases h
   | some t=>
     rw [ht] at h
     dsimp only at h
     cases hn:Nat.blt t σ.n<;>rw [hn] at h<;>dsimp only at h
     ·cases h
     have hlt:t<a.tmps.size:=by rw [hS.size,hA.n];simpa [Nat.blt_eq] using hn
     have htm:σ'.tmp t=σ.tmp t:=hA.tm t (List.mem_append_right _ (by simp [zO,ht]))
     have h1:=hS.tm t
     rw [htm] at h1
     have h2:((ops[j]?).bind (·.dst)).bind (a.tmps[·]?)=some (a.tmps.getD t undef):=by
      unfold UF at ht
      rw [hg] at ht
      dsimp only at ht
      cases ho:ops[j]? with
      | none=>rw [ho] at ht;cases ht
      | some oj=>rw [ho] at ht;dsimp only at ht;simp [ht,hlt,Array.getD]
     have hy:yielded ops a.tmps j=match a.tmps.getD t undef with
       | .bool b=>some b
       | _=>none:=by
      unfold yielded;rw [h2];cases a.tmps.getD t undef<;>rfl
     show(yielded ops a.tmps j==some want)=b
     rw [hy]
     split at h
     ·rename_i hs;rw [hs] at h1;cases h;rw [h1.1];cases b<;>rfl
     ·rename_i hs;rw [hs] at h1;cases h;rw [h1.1];cases want<;>rfl
     ·rename_i hs;rw [hs] at h1;cases h;rw [show a.tmps.getD t undef=undef from h1];rfl
     ·cases h
theorem aaR {ts ts' aX aW:List Nat} (h:Agree σ σ' (ts++ts') aX aW):Agree σ σ' ts aX aW:=⟨fun t ht=>h.tm t (List.mem_append_left _ ht),h.res,h.fr,h.n⟩
theorem wV {o:Oper} {U:bf T} (h:BL σ ops o=some true) (hL:dY P W0 o σ U):GStep P W0 ops o σ U:=by
 intro σ' a w K Q hA hS hK
 rw [Pg h hA hS,if_pos rfl]
 exact hL σ' a w K Q (aaR hA) hS hK
theorem Uj {o:Oper} (h:BL σ ops o=some false) (hd:bT σ o.dst=true):GStep P W0 ops o σ ⟨.ud,[],[],0,[]⟩:=by
 intro σ' a w K Q hA hS hK
 rw [Pg h hA hS,if_neg (by simp)]
 obtain⟨env,F,hS⟩:=hS
 exact hK _ _ (hS.quiet (fun d hd'=>⟨by rw [hA.n];exact bg hd d hd',rfl⟩))
theorem Ui {o:Oper} {b c:Bool} {rs:List (Nat × dA T)} {aX aW:List Nat} {nx:Nat} (e:b=c) (h:GStep P W0 ops o σ ⟨.c (.sc (.bool b)),rs,aX,nx,aW⟩):GStep P W0 ops o σ ⟨.c (.sc (.bool c)),rs,aX,nx,aW⟩:=e▸h
inductive Tr (P:Program) (W0:Fr) (ops:Array Oper):List Oper→St T→List (bf T)→St T→Prop
 | nil (σ:St T):Tr P W0 ops [] σ [] σ
 | cons {o:Oper} {l:List Oper} {σ σ2:St T} {U:bf T} {Us:List (bf T)} (h:GStep P W0 ops o σ U) (ht:Tr P W0 ops l (σ.upd o.dst U) Us σ2):Tr P W0 ops (o::l) σ (U::Us) σ2
theorem aaE {Q:Exit→Act→World→Prop} {l:List Oper} {Us:List (bf T)} (ht:Tr P W0 ops l σ Us σ2):∀{a:Act} {w:World},jg W0 σ a w→(∀a' w',jg W0 σ2 a' w'→Q .normal a' w')→wpList P ops Q l a w:=by
 induction ht with
 | nil σ=>exact fun hS hQ=>wpList_nil (hQ _ _ hS)
 | cons h ht ih=>
   intro a w hS hQ
   refine wpList_step (fun K hK=>?_)
   exact h _ a w K Q (Agree.refl _ _ _ _) hS (fun a' w' h'=>hK _ _ (ih h' hQ))
def needs (o:Oper):List Nat:=(o.after.toList.filter (fun e=>Region.binds .any e)).map (·.on)
def fE (D:Nat→Bool):Nat→List (Oper × bf T)→St T→St T
 | _,[],σ=>σ
 | i,(o,U)::l,σ=>fE D (i+1) l (match D i with
   | true=>σ.upd o.dst U
   | false=>σ)
def MR (U:bf T) (r:Nat):Prop:=∃p∈U.rs,p.1=r
theorem Ph {α:Type} {r:Nat}:∀{l:List (Nat × α)} {d d':α},(∃p∈l,p.1=r)→lk d l r=lk d' l r
 | [],_,_,⟨p,hp,_⟩=>by cases hp
 | (k,x)::l,d,d',⟨p,hp,e⟩=>by
   unfold lk
   cases hb:Nat.beq k r
   ·rcases List.mem_cons.1 hp with rfl | hp
    ·exact absurd hb (by rw [show k=r from e];simp [Nat.beq_eq])
    ·exact Ph ⟨p,hp,e⟩
   ·rfl
theorem zQ {α:Type} {r:Nat} {l:List (Nat × α)} {d:α} (h:¬∃p∈l,p.1=r):lk d l r=d:=qU _ _ _ (fun p hp e=>h ⟨p,hp,e⟩)
theorem Md {dst:Option Nat} {U:bf T} {r:Nat} (h:σ.res r=σ'.res r):(σ.upd dst U).res r=(σ'.upd dst U).res r:=by rw [St.dI,St.dI,h]
theorem Me {dst:Option Nat} {U:bf T} {t:Nat} (h:σ.tmp t=σ'.tmp t):(σ.upd dst U).tmp t=(σ'.upd dst U).tmp t:=by
 cases dst with
 | none=>exact h
 | some d=>
   by_cases e:d=t
   ·subst e;rw [St.nJ,St.nJ]
   ·rw [St.uD _ _ e,St.uD _ _ e,h]
theorem xQ {dst:Option Nat} {U:bf T} {t:Nat} (h:dst≠some t):(σ.upd dst U).tmp t=σ.tmp t:=by
 cases dst with
 | none=>rfl
 | some d=>exact St.uD _ _ (fun e=>h (by rw [e]))
theorem Iz (D:Nat→Bool):∀{l:List (Oper × bf T)} {i:Nat} {σ:St T},(fE D i l σ).n=σ.n
 | [],_,_=>rfl
 | (o,U)::l,i,σ=>by
   unfold fE
   rw [Iz D]
   cases D i
   ·rfl
   ·exact St.Ut _ _ _
theorem UG (D:Nat→Bool):∀{l:List (Oper × bf T)} {i:Nat} {σ:St T},(fE D i l σ).A=σ.A
 | [],_,_=>rfl
 | (o,U)::l,i,σ=>by
   unfold fE
   rw [UG D]
   cases D i
   ·rfl
   ·exact St.gY _ _ _
theorem JY {D D':Nat→Bool} {r:Nat}:∀{l:List (Oper × bf T)} {i:Nat} {σ σ':St T},σ.res r=σ'.res r→(∀j x,l[j]? =some x→MR x.2 r→D (i+j)=D' (i+j))→(fE D i l σ).res r=(fE D' i l σ').res r
 | [],_,_,_,h,_=>h
 | (o,U)::l,i,σ,σ',h,hD=>by
   unfold fE
   refine JY ?_ (fun j x hj hk=>by have:=hD (j+1) x (by simpa using hj) hk;rw [show i+1+j=i+(j+1) by omega];exact this)
   by_cases hk:MR U r
   ·have:=hD 0 (o,U) rfl hk
    rw [Nat.add_zero] at this
    rw [this]
    cases D' i
    ·exact h
    ·exact Md h
   ·have hno:∀s:St T,(s.upd o.dst U).res r=s.res r:=fun s=>by rw [St.dI];exact zQ hk
    cases D i<;>cases D' i<;>simp only [hno,h]
theorem JZ {D D':Nat→Bool} {t:Nat}:∀{l:List (Oper × bf T)} {i:Nat} {σ σ':St T},σ.tmp t=σ'.tmp t→(∀j x,l[j]? =some x→x.1.dst=some t→D (i+j)=D' (i+j))→(fE D i l σ).tmp t=(fE D' i l σ').tmp t
 | [],_,_,_,h,_=>h
 | (o,U)::l,i,σ,σ',h,hD=>by
   unfold fE
   refine JZ ?_ (fun j x hj hk=>by have:=hD (j+1) x (by simpa using hj) hk;rw [show i+1+j=i+(j+1) by omega];exact this)
   by_cases hk:o.dst=some t
   ·have:=hD 0 (o,U) rfl hk
    rw [Nat.add_zero] at this
    rw [this]
    cases D' i
    ·exact h
    ·exact Me h
   ·have hno:∀s:St T,(s.upd o.dst U).tmp t=s.tmp t:=fun s=>xQ hk
    cases D i<;>cases D' i<;>simp only [hno,h]
theorem xR {r:Nat}:(σ.fresh r=true)↔r<1000∧(∀p∈σ.tm,r∉p.2.refs)∧(∀p∈σ.rs,p.1≠r∧r∉p.2.refs):=by
 have h1:∀l:List (Nat × Slot T),nS r l=true↔∀p∈l,r∉p.2.refs:=by
  intro l
  induction l with
  | nil=>simp [nS]
  | cons x l ih=>
    unfold nS
    cases hh:gW r x.2.refs
    ·have:r∉x.2.refs:=fun h=>by rw [dV.2 h] at hh;cases hh
     simp [ih,this]
    ·have:r∈x.2.refs:=dV.1 hh
     simp [this]
 have h2:∀l:List (Nat × dA T),nT r l=true↔∀p∈l,p.1≠r∧r∉p.2.refs:=by
  intro l
  induction l with
  | nil=>simp [nT]
  | cons x l ih=>
    unfold nT
    cases hb:Nat.beq x.1 r
    ·have hne:x.1≠r:=fun e=>absurd hb (by rw [e];simp [Nat.beq_eq])
     cases hh:gW r x.2.refs
     ·have:r∉x.2.refs:=fun h=>by rw [dV.2 h] at hh;cases hh
      simp [ih,this,hne]
     ·have:r∈x.2.refs:=dV.1 hh
      simp [this]
    ·have:x.1=r:=Nat.eq_of_beq_eq_true hb
     simp [this]
 unfold St.fresh
 cases h0:Nat.blt r 1000
 ·simp only [Bool.false_eq_true,false_iff]
  intro h3
  have:Nat.blt r 1000=true:=by simpa [Nat.blt_eq] using h3.1
  rw [this] at h0;cases h0
 have hlt:r<1000:=by simpa [Nat.blt_eq] using h0
 cases h:nS r σ.tm
 ·simp only [Bool.false_eq_true,false_iff]
  intro h3
  rw [(h1 _).2 h3.2.1] at h;cases h
 ·simp only [h2]
  exact⟨fun h'=>⟨hlt,(h1 _).1 h,h'⟩,fun h'=>h'.2.2⟩
def bf.Ep (U:bf T) (r:Nat):Prop:=r∉U.slot.refs∧∀p∈U.rs,p.1≠r∧r∉p.2.refs
theorem WL {dst:Option Nat} {U:bf T} {r:Nat} (h:σ.fresh r=true) (hU:U.Ep r):(σ.upd dst U).fresh r=true:=by
 rw [xR] at h⊢
 have hrs:∀p∈U.rs++σ.rs,p.1≠r∧r∉p.2.refs:=fun p hp=>(List.mem_append.1 hp).elim (hU.2 p) (h.2.2 p)
 cases dst with
 | none=>exact⟨h.1,h.2.1,hrs⟩
 | some d=>exact⟨h.1,fun p hp=>(List.mem_cons.1 hp).elim (fun e=>e▸hU.1) (h.2.1 p),hrs⟩
theorem Ll {dst:Option Nat} {U:bf T} {r:Nat} (h:(σ.upd dst U).fresh r=true):σ.fresh r=true:=by
 rw [xR] at h⊢
 cases dst with
 | none=>exact⟨h.1,h.2.1,fun p hp=>h.2.2 p (List.mem_append_right _ hp)⟩
 | some d=>exact⟨h.1,fun p hp=>h.2.1 p (List.mem_cons_of_mem _ hp),fun p hp=>h.2.2 p (List.mem_append_right _ hp)⟩
theorem Lm {D:Nat→Bool} {r:Nat}:∀{l:List (Oper × bf T)} {i:Nat} {σ:St T},σ.fresh r=true→(∀j x,l[j]? =some x→D (i+j)=true→x.2.Ep r)→(fE D i l σ).fresh r=true
 | [],_,_,h,_=>h
 | (o,U)::l,i,σ,h,hq=>by
   unfold fE
   refine Lm ?_ (fun j x hj hD=>hq (j+1) x (by simpa using hj) (by rw [show i+(j+1)=i+1+j by omega];exact hD))
   cases hD:D i
   ·exact h
   ·exact WL h (hq 0 (o,U) rfl hD)
theorem aaS (hS:jg W0 σ a w) (ht:∀t,σ1.tmp t=σ.tmp t) (hr:∀r,σ1.res r=σ.res r) (hn:σ1.n=σ.n) (hA:σ1.A=σ.A):jg W0 σ1 a w:=by
 obtain⟨env,F,h⟩:=hS
 have calm:Calm σ σ1 F F w w:=⟨hA,Nat.le_refl _,fun k _ hk=>⟨hk,rfl⟩⟩
 have same:∀r,Same σ σ1 env env F F w w r:=fun r=>⟨rfl,fun _=>Iff.rfl,hr r,fun _ _=>rfl⟩
 refine⟨env,F,h.below,h.tab,h.pin,fun k hk=>(by rw [hA];exact h.acc k hk),h.size.trans hn.symm,h.defers,fun r=>?_,h.own,h.apart,fun t=>?_⟩
 ·rw [hr r];exact Gg calm (same r) (h.res r) (fun t cs _=>⟨fun _ _=>rfl,fun q _=>(same q.1).holds⟩)
 ·rw [ht t];exact xu calm (h.tm t) (fun _ _=>rfl) (fun q _=>(same q.1).holds) (fun r i o _=>(same r).OU)
end
end Go.Proofs.YtcnfgfomholheaaGreatDoor.Z
end
section
namespace Go.Proofs.YtcnfgfomholheaaGreatDoor.Z
open Go.RowKit
set_option linter.unusedVariables false
set_option linter.unusedSimpArgs false
section
variable {T:dQ} {P:Program} {W0:Fr} {σ σ' σ1 σ2:St T} {a:Act} {w w1:World} {ops:Array Oper}
def up (A:List Nat):List Nat→Nat
 | []=>0
 | k::r=>(2 ^ k ||| A.getD k 0) ||| up A r
def lg:List (Oper × bf T)→List Nat→List Nat
 | [],A=>A
 | x::l,A=>lg l (A++[up A (needs x.1)])
def xw {α:Type 0} (f:Nat→α→Bool):Nat→List α→Bool
 | _,[]=>true
 | i,x::l=>match f i x with
   | true=>xw f (i+1) l
   | false=>false
theorem uF {α:Type} {f:Nat→α→Bool}:∀{l:List α} {i:Nat},xw f i l=true→∀j x,l[j]? =some x→f (i+j) x=true
 | [],_,_,j,x,h=>by simp at h
 | y::l,i,h,j,x,hj=>by
   unfold xw at h
   cases hf:f i y<;>rw [hf] at h<;>dsimp only at h
   ·cases h
   cases j with
   | zero=>simp at hj;subst hj;exact hf
   | succ j=>have:=uF h j x (by simpa using hj);rw [show i+(j+1)=i+1+j by omega];exact this
theorem Pj:∀(l:List (Oper × bf T)) (A:List Nat),∃B,lg l A=A++B
 | [],A=>⟨[],by simp [lg]⟩
 | x::l,A=>by
   obtain⟨B,h⟩:=Pj l (A++[up A (needs x.1)])
   exact⟨[up A (needs x.1)]++B,by rw [lg,h,List.append_assoc]⟩
theorem RX:∀{l:List (Oper × bf T)} {A:List Nat} {i:Nat} {x:Oper × bf T},l[i]? =some x→∃B,B.length=A.length+i∧(lg l A).getD (A.length+i) 0=up B (needs x.1)∧∀k,k<A.length+i→B.getD k 0=(lg l A).getD k 0
 | [],A,i,x,h=>by simp at h
 | y::l,A,0,x,h=>by
   simp at h
   subst h
   obtain⟨B,hB⟩:=Pj l (A++[up A (needs y.1)])
   refine⟨A,rfl,?_,fun k hk=>?_⟩
   ·rw [lg,hB];simp [List.getD_eq_getElem?_getD]
   ·rw [lg,hB,List.append_assoc]
    have hk':k<A.length:=hk
    simp [List.getD_eq_getElem?_getD,List.getElem?_append_left hk']
 | y::l,A,i+1,x,h=>by
   obtain⟨B,h1,h2,h3⟩:=RX (l:=l) (A:=A++[up A (needs y.1)]) (i:=i) (x:=x) (by simpa using h)
   have e:(A++[up A (needs y.1)]).length+i=A.length+(i+1):=by simp;omega
   rw [e] at h1 h2 h3
   exact⟨B,h1,h2,h3⟩
theorem WM {A:List Nat} {j:Nat}:∀{ns:List Nat},(up A ns).testBit j=true→∃k∈ns,j=k∨(A.getD k 0).testBit j=true
 | [],h=>by simp [up] at h
 | k::r,h=>by
   unfold up at h
   rw [Nat.testBit_or,Nat.testBit_or,Bool.or_eq_true,Bool.or_eq_true] at h
   rcases h with (h | h) | h
   ·rw [Nat.testBit_two_pow] at h
    have hkj:k=j:=by simpa using h
    exact⟨k,List.mem_cons_self, .inl hkj.symm⟩
   ·exact⟨k,List.mem_cons_self, .inr h⟩
   ·obtain⟨m,hm,h2⟩:=WM h;exact⟨m,List.mem_cons_of_mem _ hm,h2⟩
def RY:Option Nat→Option Nat→Bool
 | some d,some d'=>!(Nat.beq d d')
 | _,_=>true
def sub (l m:List Nat):Bool:=l.all fun r=>gW r m
def UH (U:bf T):Bool:=sub U.slot.refs U.aX && sub U.aW U.aX && U.rs.all fun p=>gW p.1 U.aW && sub p.2.refs U.aX
def Pm (A:List Nat) (i:Nat) (x:Oper × bf T) (j:Nat) (y:Oper × bf T):Bool:=
 Nat.beq i j || (RY x.1.dst y.1.dst && x.2.aW.all fun r=>!gW r y.2.aX || (A.getD j 0).testBit i || (A.getD i 0).testBit j)
def noSlot (x:Oper × bf T):Bool:=match x.1.dst with
 | none=>match x.2.slot.refs with
   | []=>true
   | _=>false
 | some _=>true
def YI (ops:Array Oper) (A:List Nat) (zs:List (Oper × bf T)) (i:Nat) (x:Oper × bf T):Bool:=
 (noSlot x && (needs x.1).all (fun k=>Nat.blt k i)) && UH x.2 && xw (fun j y=>Pm A i x j y) 0 zs && (jS x.1.op++zO ops x.1).all fun t=>xw (fun j y=>RY y.1.dst (some t) || gW j (needs x.1) || (A.getD j 0).testBit i) 0 zs
def Oz (ops:Array Oper) (zs:List (Oper × bf T)):Bool:=xw (YI ops (lg zs []) zs) 0 zs
structure Facts (ops:Array Oper) (zs:List (Oper × bf T)):Prop where
 lt:∀(i:Nat) x,zs[i]? =some x→∀k∈needs x.1,k<i
 nod:∀(i:Nat) x,zs[i]? =some x→x.1.dst=none→x.2.slot.refs=[]
 slot:∀(i:Nat) x,zs[i]? =some x→∀r∈x.2.slot.refs,r∈x.2.aX
 aW:∀(i:Nat) x,zs[i]? =some x→∀r∈x.2.aW,r∈x.2.aX
 rs:∀(i:Nat) x,zs[i]? =some x→∀p∈x.2.rs,p.1∈x.2.aW∧∀r∈p.2.refs,r∈x.2.aX
 dst:∀(i j:Nat) x y d,zs[i]? =some x→zs[j]? =some y→i≠j→x.1.dst=some d→y.1.dst≠some d
 ord:∀(i j:Nat) x y r,zs[i]? =some x→zs[j]? =some y→i≠j→r∈x.2.aW→r∈y.2.aX→((lg zs []).getD j 0).testBit i=true∨((lg zs []).getD i 0).testBit j=true
 tm:∀(i j:Nat) x y t,zs[i]? =some x→zs[j]? =some y→t∈jS x.1.op++zO ops x.1→y.1.dst=some t→j∈needs x.1∨((lg zs []).getD j 0).testBit i=true
theorem Gi {l m:List Nat} (h:sub l m=true):∀r∈l,r∈m:=fun r hr=>dV.1 (List.all_eq_true.1 h r hr)
theorem Pn {d d':Option Nat} {t:Nat} (h:RY d d'=true) (h1:d=some t):d'≠some t:=by
 subst h1
 rintro rfl
 simp [RY,Nat.beq_eq] at h
theorem QG {zs:List (Oper × bf T)} (h:Oz ops zs=true):Facts ops zs:=by
 have h0:∀(i:Nat) x,zs[i]? =some x→YI ops (lg zs []) zs i x=true:=fun i x hx=>by have:=uF h i x hx;rwa [Nat.zero_add] at this
 have h1:∀(i:Nat) x,zs[i]? =some x→((((noSlot x=true∧(needs x.1).all (fun k=>Nat.blt k i)=true)∧UH x.2=true)∧xw (fun j y=>Pm (lg zs []) i x j y) 0 zs=true)∧((jS x.1.op++zO ops x.1).all fun t=>xw (fun j y=>RY y.1.dst (some t) || gW j (needs x.1) || ((lg zs []).getD j 0).testBit i) 0 zs)=true):=fun i x hx=>by
  have:=h0 i x hx
  unfold YI at this
  simpa only [Bool.and_eq_true] using this
 have h2:∀(i:Nat) x,zs[i]? =some x→((sub x.2.slot.refs x.2.aX=true∧sub x.2.aW x.2.aX=true)∧(x.2.rs.all fun p=>gW p.1 x.2.aW && sub p.2.refs x.2.aX)=true):=fun i x hx=>by
  have:=(h1 i x hx).1.1.2
  unfold UH at this
  simpa only [Bool.and_eq_true] using this
 have h3:∀(i j:Nat) x y,zs[i]? =some x→zs[j]? =some y→i≠j→(RY x.1.dst y.1.dst=true∧(x.2.aW.all fun r=>!gW r y.2.aX || ((lg zs []).getD j 0).testBit i || ((lg zs []).getD i 0).testBit j)=true):=fun i j x y hx hy hij=>by
  have:=uF (h1 i x hx).1.2 j y hy
  unfold Pm at this
  rw [Nat.zero_add,eY hij,Bool.false_or,Bool.and_eq_true] at this
  exact this
 refine⟨fun i x hx k hk=>?_,fun i x hx hd=>?_,fun i x hx=>Gi (h2 i x hx).1.1,fun i x hx=>Gi (h2 i x hx).1.2,fun i x hx p hp=>?_,fun i j x y d hx hy hij hd=>Pn (h3 i j x y hx hy hij).1 hd,fun i j x y r hx hy hij hr hr2=>?_,fun i j x y t hx hy ht hd=>?_⟩
 ·have:=List.all_eq_true.1 (h1 i x hx).1.1.1.2 k hk
  simpa [Nat.blt_eq] using this
 ·have:=(h1 i x hx).1.1.1.1
  unfold noSlot at this
  rw [hd] at this
  dsimp only at this
  split at this
  ·assumption
  ·cases this
 ·have:=List.all_eq_true.1 (h2 i x hx).2 p hp
  rw [Bool.and_eq_true] at this
  exact⟨dV.1 this.1,Gi this.2⟩
 ·have:=List.all_eq_true.1 (h3 i j x y hx hy hij).2 r hr
  rw [dV.2 hr2] at this
  simpa [Bool.or_eq_true] using this
 ·have:=uF (List.all_eq_true.1 (h1 i x hx).2 t ht) j y hy
  rw [Nat.zero_add,Bool.or_eq_true,Bool.or_eq_true] at this
  rcases this with (h4 | h4) | h4
  ·exact absurd rfl (Pn h4 hd)
  ·exact .inl (dV.1 h4)
  ·exact .inr h4
def Closed (zs:List (Oper × bf T)) (D:Nat→Bool):Prop:=∀(i:Nat) x,zs[i]? =some x→D i=true→∀k∈needs x.1,D k=true
theorem qG {zs:List (Oper × bf T)} (hf:Facts ops zs) {D:Nat→Bool} (hc:Closed zs D):∀(i:Nat) x,zs[i]? =some x→(∀k∈needs x.1,D k=true)→∀j,((lg zs []).getD i 0).testBit j=true→D j=true∧j<i:=by
 intro i
 induction i using Nat.strongRecOn with
 | _ i ih=>
   intro x hx hn j hj
   obtain⟨B,h1,h2,h3⟩:=RX (A:=[]) hx
   simp only [List.length_nil,Nat.zero_add] at h1 h2 h3
   rw [h2] at hj
   obtain⟨k,hk,h4⟩:=WM hj
   have hki:=hf.lt i x hx k hk
   rcases h4 with rfl | h4
   ·exact⟨hn _ hk,hki⟩
   ·rw [h3 k hki] at h4
    have hlen:i<zs.length:=(List.getElem?_eq_some_iff.1 hx).1
    have hkx:zs[k]? =some zs[k]:=List.getElem?_eq_getElem (by omega)
    have:=ih k hki _ hkx (hc k _ hkx (hn k hk)) j h4
    exact⟨this.1,by omega⟩
theorem WO {a b:Nat} (h:¬a<b):Nat.blt a b=false:=by
 cases hb:Nat.blt a b
 ·rfl
 ·exact absurd (by simpa [Nat.blt_eq] using hb) h
theorem qZ (D:Nat→Bool) (i:Nat) (o:Oper) (U:bf T) (l:List (Oper × bf T)) (σ:St T):fE D i ((o,U)::l) σ=fE D (i+1) l (match D i with
   | true=>σ.upd o.dst U
   | false=>σ):=rfl
theorem CQ {D:Nat→Bool}:∀{l:List (Oper × bf T)} {i:Nat} {σ:St T},(∀j,j<l.length→D (i+j)=false)→fE D i l σ=σ
 | [],_,_,_=>rfl
 | (o,U)::l,i,σ,h=>by
   unfold fE
   have h0:=h 0 (by simp)
   rw [Nat.add_zero] at h0
   rw [h0]
   exact CQ (fun j hj=>by have:=h (j+1) (by simpa using hj);rw [show i+1+j=i+(j+1) by omega];exact this)
theorem CS {D:Nat→Bool}:∀{l:List (Oper × bf T)} {i:Nat} {σ:St T},fE D (i+1) l σ=fE (fun j=>D (j+1)) i l σ
 | [],_,_=>rfl
 | (o,U)::l,i,σ=>by unfold fE;exact CS
theorem YJ {l:List Oper} {Us:List (bf T)} (ht:Tr P W0 ops l σ Us σ2):l.length=Us.length∧σ2=fE (fun _=>true) 0 (l.zip Us) σ∧∀(i:Nat) x,(l.zip Us)[i]? =some x→GStep P W0 ops x.1 (fE (fun j=>Nat.blt j i) 0 (l.zip Us) σ) x.2:=by
 induction ht with
 | nil σ=>exact⟨rfl,rfl,fun i x h=>by simp at h⟩
 | @cons o l σ σ2 U Us h ht ih=>
   obtain⟨h1,h2,h3⟩:=ih
   refine⟨by simp [h1],?_,?_⟩
   ·rw [h2]
    show _=fE _ 0 ((o,U)::l.zip Us) σ
    rw [qZ,CS]
   ·intro i x hx
    cases i with
    | zero=>
      simp at hx
      subst hx
      rw [CQ (D:=fun j=>Nat.blt j 0) (fun j _=>WO (by omega))]
      exact h
    | succ i=>
      have:=h3 i x (by simpa using hx)
      show GStep P W0 ops x.1 (fE _ 0 ((o,U)::l.zip Us) σ) x.2
      rw [qZ,CS]
      exact this
theorem Lp {D:Nat→Bool}:∀{l1:List (Oper × bf T)} {l2:List (Oper × bf T)} {i:Nat} {σ:St T},fE D i (l1++l2) σ=fE D (i+l1.length) l2 (fE D i l1 σ)
 | [],_,_,_=>rfl
 | (o,U)::l1,l2,i,σ=>by
   show fE D (i+1) (l1++l2) _=fE D _ l2 (fE D (i+1) l1 _)
   rw [Lp]
   congr 1
   simp;omega
theorem Lr {D D':Nat→Bool}:∀{l:List (Oper × bf T)} {i:Nat} {σ:St T},(∀j,j<l.length→D (i+j)=D' (i+j))→fE D i l σ=fE D' i l σ
 | [],_,_,_=>rfl
 | (o,U)::l,i,σ,h=>by
   unfold fE
   have h0:=h 0 (by simp)
   rw [Nat.add_zero] at h0
   rw [h0]
   exact Lr (fun j hj=>by have:=h (j+1) (by simpa using hj);rw [show i+1+j=i+(j+1) by omega];exact this)
theorem CU {D:Nat→Bool} {r:Nat}:∀{l:List (Oper × bf T)} {i:Nat} {σ:St T},(∀j x,l[j]? =some x→D (i+j)=true→¬MR x.2 r)→(fE D i l σ).res r=σ.res r
 | [],_,_,_=>rfl
 | (o,U)::l,i,σ,h=>by
   unfold fE
   rw [CU (fun j x hj hD=>h (j+1) x (by simpa using hj) (by rw [show i+(j+1)=i+1+j by omega];exact hD))]
   cases hD:D i
   ·rfl
   ·rw [St.dI];exact zQ (h 0 (o,U) rfl hD)
theorem CW {D:Nat→Bool} {t:Nat}:∀{l:List (Oper × bf T)} {i:Nat} {σ:St T},(∀j x,l[j]? =some x→D (i+j)=true→x.1.dst≠some t)→(fE D i l σ).tmp t=σ.tmp t
 | [],_,_,_=>rfl
 | (o,U)::l,i,σ,h=>by
   unfold fE
   rw [CW (fun j x hj hD=>h (j+1) x (by simpa using hj) (by rw [show i+(j+1)=i+1+j by omega];exact hD))]
   cases hD:D i
   ·rfl
   ·exact xQ (h 0 (o,U) rfl hD)
end
end Go.Proofs.YtcnfgfomholheaaGreatDoor.Z
end
section
namespace Go.Proofs.YtcnfgfomholheaaGreatDoor.Z
open Go.RowKit
set_option linter.unusedVariables false
set_option linter.unusedSimpArgs false
section
variable {T:dQ} {P:Program} {W0:Fr} {σ σ' σ1 σ2:St T} {a:Act} {w w1:World} {ops:Array Oper} {zs:List (Oper × bf T)}
theorem UJ (hf:Facts ops zs) {j:Nat} {y:Oper × bf T} (hy:zs[j]? =some y) {r:Nat} (h:r∉y.2.aX):y.2.Ep r:=
 ⟨fun hr=>h (hf.slot j y hy r hr),fun p hp=>⟨fun e=>h (e▸hf.aW j y hy p.1 (hf.rs j y hy p hp).1),fun hr=>h ((hf.rs j y hy p hp).2 r hr)⟩⟩
theorem UK (hf:Facts ops zs) {D:Nat→Bool} (hc:Closed zs D) {i:Nat} {x:Oper × bf T} (hx:zs[i]? =some x) (hi:D i=false) (hn:∀k∈needs x.1,D k=true):
  Agree (fE (fun j=>Nat.blt j i) 0 zs σ) (fE D 0 zs σ) (jS x.1.op++zO ops x.1) x.2.aX x.2.aW:=by
 have hblt:∀j,Nat.blt j i=true↔j<i:=fun j=>by simp [Nat.blt_eq]
 have hno:∀j,¬j<i→Nat.blt j i=false:=fun j h=>WO h
 have ab2:∀j,((lg zs []).getD i 0).testBit j=true→D j=true∧j<i:=fun j h=>qG hf hc i x hx hn j h
 have hdesc:∀j y,zs[j]? =some y→((lg zs []).getD j 0).testBit i=true→D j=false∧¬j<i:=by
  intro j y hy h
  constructor
  ·cases hD:D j
   ·rfl
   ·have:=(qG hf hc j y hy (hc j y hy hD) i h).1
    rw [hi] at this;cases this
  ·intro hlt
   have:=(qG hf (D:=fun _=>true) (fun _ _ _ _ _ _=>rfl) j y hy (fun _ _=>rfl) i h).2
   omega
 refine⟨fun t ht=>?_,fun r hr=>?_,fun r hr hfr=>?_,?_⟩
 ·refine JZ rfl (fun j y hj hd=>?_)
  rw [Nat.zero_add]
  rcases hf.tm i j x y t hx hj ht hd with h1 | h1
  ·rw [hn j h1,(hblt j).2 (hf.lt i x hx j h1)]
  ·have:=hdesc j y hj h1
   rw [this.1,hno j this.2]
 ·refine JY rfl (fun j y hj hk=>?_)
  rw [Nat.zero_add]
  obtain⟨p,hp,rfl⟩:=hk
  have hpc:=(hf.rs j y hj p hp).1
  by_cases e:j=i
  ·subst e;rw [hi,hno j (Nat.lt_irrefl j)]
  ·rcases hf.ord j i y x p.1 hj hx e hpc hr with h | h
   ·have:=ab2 j h
    rw [this.1,(hblt j).2 this.2]
   ·have:=hdesc j y hj h
    rw [this.1,hno j this.2]
 ·have hbase:σ.fresh r=true:=by
   have key:∀(l:List (Oper × bf T)) (m:Nat) (D:Nat→Bool) (s:St T),(fE D m l s).fresh r=true→s.fresh r=true:=by
    intro l
    induction l with
    | nil=>exact fun _ _ _ h=>h
    | cons z l ih=>
      intro m D s h
      obtain⟨o,U⟩:=z
      rw [qZ] at h
      have:=ih _ _ _ h
      cases hD:D m<;>rw [hD] at this
      ·exact this
      ·exact Ll this
   exact key _ _ _ _ hfr
  refine Lm hbase (fun j y hj hD=>?_)
  rw [Nat.zero_add] at hD
  have hji:j≠i:=fun e=>by rw [e,hi] at hD;cases hD
  by_cases ht:r∈y.2.aX
  ·rcases hf.ord i j x y r hx hj (fun e=>hji e.symm) hr ht with h | h
   ·have:=(hdesc j y hj h).1
    rw [hD] at this;cases this
   ·have hlt:=(ab2 j h).2
    have key:∀(l:List (Oper × bf T)) (m:Nat) (s:St T),(fE (fun q=>Nat.blt q i) m l s).fresh r=true→∀q z,l[q]? =some z→m+q<i→z.2.Ep r∨z.1.dst=none∧∀p∈z.2.rs,p.1≠r∧r∉p.2.refs:=by
     intro l
     induction l with
     | nil=>intro m s h q z hq;simp at hq
     | cons z0 l ih=>
       intro m s h q z hq hlt
       obtain⟨o,U⟩:=z0
       rw [qZ] at h
       cases q with
       | zero=>
         simp at hq
         subst hq
         have hb:Nat.blt m i=true:=(hblt m).2 (by omega)
         rw [hb] at h
         have h2:((s.upd o.dst U).fresh r)=true:=by
          have key2:∀(l:List (Oper × bf T)) (m:Nat) (D:Nat→Bool) (s:St T),(fE D m l s).fresh r=true→s.fresh r=true:=by
           intro l
           induction l with
           | nil=>exact fun _ _ _ h=>h
           | cons z l ih=>
             intro m D s h
             obtain⟨o,U⟩:=z
             rw [qZ] at h
             have:=ih _ _ _ h
             cases hD:D m<;>rw [hD] at this
             ·exact this
             ·exact Ll this
          exact key2 _ _ _ _ h
         rw [xR] at h2
         replace h2:=h2.2
         cases hd:o.dst with
         | none=>
           rw [hd] at h2
           exact .inr ⟨rfl,fun p hp=>h2.2 p (List.mem_append_left _ hp)⟩
         | some d=>
           rw [hd] at h2
           exact .inl ⟨h2.1 (d,U.slot) List.mem_cons_self,fun p hp=>h2.2 p (List.mem_append_left _ hp)⟩
       | succ q=>exact ih _ _ h q z (by simpa using hq) (by omega)
    rcases key zs 0 σ hfr j y hj (by omega) with h2 | ⟨h2,h3⟩
    ·exact h2
    ·exact⟨fun hrs=>(by rw [hf.nod j y hj h2] at hrs;cases hrs),h3⟩
  ·exact UJ hf hj ht
 ·rw [Iz,Iz]
def also (D:Nat→Bool) (i:Nat):Nat→Bool:=fun j=>match Nat.beq j i with
 | true=>true
 | false=>D j
theorem CX (D:Nat→Bool) (i:Nat):also D i i=true:=by simp [also,Nat.beq_eq]
theorem uP (D:Nat→Bool) {i j:Nat} (h:j≠i):also D i j=D j:=by simp [also,eY h]
theorem Po {α:Type}:∀{l:List α} {i:Nat} {x:α},l[i]? =some x→∃l1 l2,l=l1++x::l2∧l1.length=i
 | [],i,x,h=>by simp at h
 | y::l,0,x,h=>by simp at h;subst h;exact⟨[],l,rfl,rfl⟩
 | y::l,i+1,x,h=>by
   obtain⟨l1,l2,h1,h2⟩:=Po (l:=l) (i:=i) (by simpa using h)
   exact⟨y::l1,l2,by rw [h1];rfl,by simp [h2]⟩
theorem QH (hf:Facts ops zs) {D:Nat→Bool} (hc:Closed zs D) {i:Nat} {x:Oper × bf T} (hx:zs[i]? =some x) (hi:D i=false) (hn:∀k∈needs x.1,D k=true):
  (∀t,(fE (also D i) 0 zs σ).tmp t=((fE D 0 zs σ).upd x.1.dst x.2).tmp t)∧(∀r,(fE (also D i) 0 zs σ).res r=((fE D 0 zs σ).upd x.1.dst x.2).res r)∧(fE (also D i) 0 zs σ).n=((fE D 0 zs σ).upd x.1.dst x.2).n:=by
 obtain⟨l1,l2,hz,hl⟩:=Po hx
 have hsp:fE (also D i) 0 zs σ=fE (also D i) (i+1) l2 ((fE (also D i) 0 l1 σ).upd x.1.dst x.2):=by
  rw [hz,Lp,Nat.zero_add,hl]
  obtain⟨o,U⟩:=x
  rw [qZ,CX]
 have hl2:∀j y,l2[j]? =some y→zs[i+1+j]? =some y:=fun j y hj=>by
  rw [hz,List.getElem?_append_right (by omega),hl,show i+1+j - i=j+1 by omega];simpa using hj
 refine⟨fun t=>?_,fun r=>?_,by rw [Iz,St.Ut,Iz]⟩
 ·by_cases ht:x.1.dst=some t
  ·rw [hsp,CW (fun j y hj _ hd=>hf.dst i (i+1+j) x y t hx (hl2 j y hj) (by omega) ht hd),ht,St.nJ,St.nJ]
  ·rw [xQ ht]
   refine JZ rfl (fun j y hj hd=>?_)
   rw [Nat.zero_add]
   refine uP D (fun e=>?_)
   subst e
   rw [hx] at hj
   cases hj
   exact ht hd
 ·by_cases hk:MR x.2 r
  ·have h1:(fE (also D i) 0 zs σ).res r=((fE (also D i) 0 l1 σ).upd x.1.dst x.2).res r:=by
    rw [hsp]
    refine CU (fun j y hj hD hky=>?_)
    rw [uP D (by omega)] at hD
    have hy:=hl2 j y hj
    obtain⟨p,hp,rfl⟩:=hk
    obtain⟨p',hp',e⟩:=hky
    have hc1:=(hf.rs i x hx p hp).1
    have hc2:=(hf.rs _ y hy p' hp').1
    rw [e] at hc2
    rcases hf.ord i (i+1+j) x y p.1 hx hy (by omega) hc1 (hf.aW _ y hy _ hc2) with h | h
    ·have:=(qG hf hc _ y hy (hc _ y hy hD) i h).1
     rw [hi] at this;cases this
    ·have:=(qG hf hc i x hx hn _ h).2
     omega
   rw [h1,St.dI,St.dI]
   exact Ph hk
  ·rw [show((fE D 0 zs σ).upd x.1.dst x.2).res r=(fE D 0 zs σ).res r by rw [St.dI];exact zQ hk]
   refine JY rfl (fun j y hj hky=>?_)
   rw [Nat.zero_add]
   refine uP D (fun e=>?_)
   subst e
   rw [hx] at hj
   cases hj
   exact hk hky
def left (listed:Array Bool):Nat→Nat
 | 0=>0
 | n+1=>left listed n+match listed.getD n true with
   | true=>0
   | false=>1
theorem Pq {listed:Array Bool} {i:Nat} (hi:listed.getD i true=false):∀n,left (listed.setIfInBounds i true) n+(if i<n then 1 else 0)=left listed n
 | 0=>by simp [left]
 | n+1=>by
   have ih:=Pq hi n
   unfold left
   by_cases e:i=n
   ·subst e
    have h1:(listed.setIfInBounds i true).getD i true=true:=by
     by_cases h:i<listed.size<;>simp [Array.getD,h]
    rw [h1,hi]
    simp at ih⊢
    omega
   ·rw [getD_set_ne true e]
    have:(if i<n+1 then 1 else 0)=(if i<n then 1 else 0):=by
     by_cases h:i<n
     ·rw [if_pos h,if_pos (by omega)]
     ·rw [if_neg h,if_neg (by omega)]
    rw [this];omega
theorem Ls {listed:Array Bool}:∀{n:Nat},left listed n=0→∀j,j<n→listed.getD j true=true
 | 0,_,j,h=>by omega
 | n+1,h,j,hj=>by
   unfold left at h
   by_cases e:j=n
   ·subst e
    cases hb:listed.getD j true
    ·rw [hb] at h;simp at h
    ·rfl
   ·exact Ls (n:=n) (by omega) j (by omega)
theorem Lu {o:Oper} {k:Nat}:k∈needs o↔∃e∈o.after,Region.binds .any e=true∧e.on=k:=by
 unfold needs
 simp only [List.mem_map,List.mem_filter,Array.mem_toList_iff]
 exact⟨fun⟨e,⟨h1,h2⟩,h3⟩=>⟨e,h1,h2,h3⟩,fun⟨e,h1,h2,h3⟩=>⟨e,⟨h1,h2⟩,h3⟩⟩
theorem YK {Q:Exit→Act→World→Prop} {σ:St T} (hf:Facts ops zs) (hzo:∀(i:Nat) o,ops[i]? =some o→∃U,zs[i]? =some (o,U)) (hlen:zs.length=ops.size)
  (hg:∀(i:Nat) x,zs[i]? =some x→GStep P W0 ops x.1 (fE (fun j=>Nat.blt j i) 0 zs σ) x.2) (hQ:∀a' w',jg W0 (fE (fun _=>true) 0 zs σ) a' w'→Q .normal a' w'):
  ∀(fuel:Nat) (listed:Array Bool) (a:Act) (w:World),listed.size=ops.size→left listed ops.size≤fuel→Closed zs (fun j=>listed.getD j false)→jg W0 (fE (fun j=>listed.getD j false) 0 zs σ) a w→wpAny P .any ops Q fuel listed a w:=by
 intro fuel
 have hall:∀(listed:Array Bool) (a:Act) (w:World),listed.size=ops.size→(∀j,j<ops.size→listed.getD j true=true)→jg W0 (fE (fun j=>listed.getD j false) 0 zs σ) a w→Q .normal a w:=by
  intro listed a w hs h hS
  refine hQ _ _ ?_
  rw [Lr (D':=fun j=>listed.getD j false) (fun j hj=>?_)]
  ·exact hS
  ·have h1:j<listed.size:=by omega
   have h2:=h j (by omega)
   simp only [Nat.zero_add]
   simp [Array.getD,h1] at h2⊢
   exact h2
 induction fuel with
 | zero=>
   intro listed a w hs hl hc hS
   have h0:=Ls (Nat.le_zero.1 hl)
   refine⟨?_,hall listed a w hs h0 hS⟩
   refine List.eq_nil_iff_forall_not_mem.2 (fun j hj=>?_)
   obtain⟨h1,o,ho,_⟩:=mem_ready.1 hj
   have:=h0 j (Array.getElem?_eq_some_iff.1 ho).1
   rw [h1] at this;cases this
 | succ fuel ih=>
   intro listed a w hs hl hc hS
   refine⟨fun hr=>?_,fun i hi=>?_⟩
   ·refine hall listed a w hs (fun j hj=>?_) hS
    induction j using Nat.strongRecOn with
    | _ j ihj=>
      cases hb:listed.getD j true with
      | true=>rfl
      | false=>
        exfalso
        have ho:ops[j]? =some ops[j]:=Array.getElem?_eq_getElem hj
        obtain⟨U,hU⟩:=hzo j _ ho
        have hm:j∈Region.ready .any ops listed:=mem_ready.2 ⟨hb,_,ho,fun e he hbd=>by
         have hlt:=hf.lt j _ hU e.on (Lu.2 ⟨e,he,hbd,rfl⟩)
         have h1:=ihj e.on hlt (by omega)
         have h2:e.on<listed.size:=by omega
         simp [Array.getD,h2] at h1⊢
         exact h1⟩
        rw [hr] at hm;cases hm
   ·obtain⟨h1,o,ho,hall'⟩:=mem_ready.1 hi
    obtain⟨U,hU⟩:=hzo i o ho
    have hilt:i<ops.size:=(Array.getElem?_eq_some_iff.1 ho).1
    have hif:listed.getD i false=false:=by
     have h2:i<listed.size:=by omega
     simp [Array.getD,h2] at h1⊢
     exact h1
    have hn:∀k∈needs o,listed.getD k false=true:=fun k hk=>by
     obtain⟨e,he,hb,rfl⟩:=Lu.1 hk
     exact hall' e he hb
    have hA:=UK (σ:=σ) hf hc hU hif hn
    obtain⟨e1,e2,e3⟩:=QH (σ:=σ) hf hc hU hif hn
    have hD:∀j,also (fun j=>listed.getD j false) i j=(listed.setIfInBounds i true).getD j false:=fun j=>by
     by_cases e:j=i
     ·subst e;rw [CX];have h2:j<listed.size:=by omega
      simp [Array.getD,h2]
     ·rw [uP _ e,getD_set_ne false (fun h=>e h.symm)]
    have hfun:also (fun j=>listed.getD j false) i=fun j=>(listed.setIfInBounds i true).getD j false:=funext hD
    have hgs:=hg i (o,U) hU (fE (fun j=>listed.getD j false) 0 zs σ) a w (wpAny P .any ops Q fuel (listed.setIfInBounds i true)) Q hA hS (fun a' w' hS'=>by
     refine ih _ a' w' (by simpa using hs) ?_ ?_ ?_
     ·have:=Pq h1 ops.size
      rw [if_pos hilt] at this
      omega
     ·intro j y hy hDj k hk
      have ab3:also (fun j=>listed.getD j false) i j=true:=by rw [hD];exact hDj
      show(listed.setIfInBounds i true).getD k false=true
      rw [←hD]
      by_cases e:k=i
      ·subst e;exact CX _ _
      ·rw [uP _ e]
       by_cases e2:j=i
       ·subst e2;rw [hU] at hy;cases hy;exact hn k hk
       ·rw [uP _ e2] at ab3;exact hc j y hy ab3 k hk
     ·rw [←hfun]
      exact aaS hS' e1 e2 e3 (by rw [UG,St.gY,UG]))
    unfold wpOp
    rw [ho]
    dsimp only
    by_cases hw:Region.wanted o (yielded ops a.tmps)=true
    ·rw [if_pos hw] at hgs⊢;exact .inl hgs
    ·rw [if_neg hw] at hgs⊢;exact hgs
theorem YL (hS:jg W0 σ a w) (g:Grew w w1) (hsz:w1.heap.size=w.heap.size):jg W0 σ a w1:=by
 obtain⟨env,F,h⟩:=hS
 have calm:Calm σ σ F F w w1:=⟨rfl,g.size,fun k hk h=>⟨h,g.block k hk⟩⟩
 have same:∀r,Same σ σ env env F F w w1 r:=fun r=>⟨rfl,fun _=>Iff.rfl,rfl,fun k hk=>g.block k (fK h hk)⟩
 refine⟨env,F,qF h.below g,h.tab,h.pin,h.acc,h.size,h.defers,fun r=>Gg calm (same r) (h.res r) (fun t cs _=>⟨fun _ _=>rfl,fun q _=>(same q.1).holds⟩),fun r k hk=>?_,h.apart,fun t=>xu calm (h.tm t) (fun _ _=>rfl) (fun q _=>(same q.1).holds) (fun r i o _=>(same r).OU)⟩
 have:=h.own r k hk
 exact⟨this.1,by omega⟩
theorem aaF {Q:Exit→Act→World→Prop} {id:Nat} {Us:List (bf T)} (hm:P.follows .mixedOrders=true) (ht:Tr P W0 ops ops.toList σ Us σ2) (hd:Oz ops (ops.toList.zip Us)=true) (hS:jg W0 σ a w) (hQ:∀a' w',jg W0 σ2 a' w'→Q .normal a' w'):(Code.region id ops true).wp P Q a w:=by
 obtain⟨h1,h2,h3⟩:=YJ ht
 have hf:=QG hd
 have hlen:(ops.toList.zip Us).length=ops.size:=by rw [List.length_zip,←h1];simp
 refine wp_region_any hm (YK (σ:=σ) hf (fun i o ho=>?_) hlen h3 (fun a' w' h=>hQ a' w' (by rw [h2];exact h)) ops.size _ a w.drew (by simp) ?_ (fun i x hx hD=>?_) ?_)
 ·have hi:i<ops.size:=(Array.getElem?_eq_some_iff.1 ho).1
  have hi2:i<Us.length:=by rw [←h1];simpa using hi
  have ho':ops.toList[i]? =some o:=by rw [Array.getElem?_toList];exact ho
  exact⟨Us[i],by rw [List.getElem?_zip_eq_some];exact⟨ho',List.getElem?_eq_getElem hi2⟩⟩
 ·have key:∀(l:Array Bool) n,left l n≤n:=by
   intro l n
   induction n with
   | zero=>exact Nat.le_refl _
   | succ n ih=>unfold left;cases l.getD n true<;>simp<;>omega
  exact key _ _
 ·exfalso
  by_cases h:i<ops.size<;>simp [Array.getD,h] at hD
 ·rw [CQ (fun j hj=>?_)]
  ·exact YL hS (Grew.drew w) rfl
  ·by_cases h:0+j<ops.size<;>simp [Array.getD,h]
end
end Go.Proofs.YtcnfgfomholheaaGreatDoor.Z
end
section
namespace Go.Proofs.YtcnfgfomholheaaGreatDoor.Z
open Go.RowKit
set_option linter.unusedVariables false
set_option linter.unusedSimpArgs false
section
variable {T:dQ} {P:Program} {W0:Fr} {σ σ' σ1:St T} {a:Act} {w w1:World} {env aZ:Nat→Value} {F F1:Nat→Nat→Prop} {o:Oper} {aX aW:List Nat}
def rW {Tb:Nat→Type}:List (C0 Tb)→List Value→List (C0 Tb)
 | .sl e _::r, .slice none 0 0::vs=> .sl e []::rW r vs
 | .sc _::r,v::vs=> .sc v::rW r vs
 | _,_=>[]
def zeroE (T:dQ) (e:Nat) (z:List Value):Option (T.Tb e):=T.wR e (rW (T.cells e (T.df e)) z)
theorem CY:∀{cs:List (C0 T.Tb)} {vs:List Value} {q:Nat} {x:C0 T.Tb},(rW cs vs)[q]? =some x→∃v,vs[q]? =some v∧(x= .sc v∨∃e,x= .sl e []∧v= .slice none 0 0)
 | [],vs,q,x,h=>by simp [rW] at h
 | .sc u::r,[],q,x,h=>by simp [rW] at h
 | .sc u::r,v::vs,0,x,h=>by simp [rW] at h;exact⟨v,rfl, .inl h.symm⟩
 | .sc u::r,v::vs,q+1,x,h=>by simp [rW] at h;simpa using CY h
 | .sl e l::r,[],q,x,h=>by simp [rW] at h
 | .sl e l::r,v::vs,q,x,h=>by
   unfold rW at h
   split at h
   ·rename_i h1 h2
    cases h1;cases h2
    cases q with
    | zero=>simp at h;exact⟨_,rfl, .inr ⟨_,h.symm,rfl⟩⟩
    | succ q=>simpa using CY (by simpa using h)
   ·rename_i h1 h2;cases h1
   ·simp at h
def Hg (σ:St T) (nx:Nat) (dst:Option Nat) (t:Nat) (x y:Operand):eF T:=
 match T.ti t with
 | some ti=>match ti.kind with
   | .slice e=>match T.ti e with
     | some i=>match T.el e with
       | true=>match zeroE T e i.zero with
         | some z=>match sv (dn σ x) with
           | some (.int _ l)=>match sv (dn σ y) with
             | some (.int _ c)=>match bT σ dst with
               | true=>match σ.fresh nx with
                 | true=> .done ⟨.c (.hd nx),[(nx, .row nx e (List.replicate l.toNat z))],[nx],1,[nx]⟩ (some (0≤l∧l≤c∧(i.bytes:Int)*c≤281474976710656∧c≤9223372036854775807))
                 | false=> .stuck
               | false=> .stuck
             | _=> .stuck
           | _=> .stuck
         | none=> .stuck
       | false=> .stuck
     | none=> .stuck
   | _=> .stuck
 | none=> .stuck
theorem YM {z:Array Value} {c s j q:Nat} (hz:z.size=s) (hq:q<s) (hj:j<c):(madeCells z (c*s))[j*s+q]? =z[q]?:=by
 have h1:j*s+q<c*s:=by
  have:(j+1)*s≤c*s:=Nat.mul_le_mul_right s hj
  rw [Nat.succ_mul] at this;omega
 have h2:(j*s+q) % z.size=q:=by rw [hz,Nat.mul_comm,Nat.mul_add_mod];exact Nat.mod_eq_of_lt hq
 simp [madeCells,h1,h2]
 have:q<z.size:=by omega
 simp [this]
theorem aaT {e:Nat} {i:TI} {z:T.Tb e} {zv:Value} (hi:T.ti e=some i) (hel:T.el e=true) (hz:zeroE T e i.zero=some z) (hzv:zv.cells=i.zero.toArray) (hzl:i.zero.length=i.size) (h0:oq i.zero=true∨True) {l c:Nat} (hlc:l≤c) (hm:c≤maxLen) (w:World):
  Ow T.sz (w.alloc (.cells (madeCells zv.cells (c*i.size)) e)) (fun k=>k=w.heap.size) (.sl e ((List.replicate l z).map (T.enc e))) (.slice (some ⟨w.heap.size,0,none⟩) l c):=by
 have hcs:=T.mk_eq e _ z hz
 have hsz:T.sz e=i.size:=kS hi
 have hlen:=T.len e z i hel hi
 have hzs:zv.cells.size=i.size:=by rw [hzv];simpa using hzl
 have key:∀(j:Nat) (l':List V) (q:Nat) (x:V),((List.replicate l z).map (T.enc e))[j]? =some l'→l'[q]? =some x→∃v,i.zero[q]? =some v∧j<l∧q<i.size∧Ow T.sz (w.alloc (.cells (madeCells zv.cells (c*i.size)) e)) (fun _=>False) x v:=by
  intro j l' q x hj hq
  simp only [List.getElem?_map,List.getElem?_replicate] at hj
  split at hj
  ·rename_i hjl
   simp at hj
   subst hj
   rw [T.fQ,List.getElem?_map] at hq
   obtain⟨c0,h1,h2⟩:=Option.map_eq_some_iff.1 hq
   have h3:q<i.size:=by rw [←hlen];exact(List.getElem?_eq_some_iff.1 h1).1
   have h1':=h1
   rw [hcs] at h1'
   obtain⟨v,h4,h5⟩:=CY h1'
   refine⟨v,h4,hjl,h3,?_⟩
   rcases h5 with rfl | ⟨e',rfl,rfl⟩
   ·subst h2
    exact .sc _ v (T.one e z (.sc v) (List.mem_of_getElem? h1))
   ·subst h2
    exact .nil _ e'
  ·cases hj
 have hl2:l=((List.replicate l z).map (T.enc e)).length:=by simp
 have:=Ow.sl (sz:=T.sz) (w:=w.alloc (.cells (madeCells zv.cells (c*i.size)) e)) (fun k=>k=w.heap.size) e ((List.replicate l z).map (T.enc e)) w.heap.size c (madeCells zv.cells (c*i.size)) (fun j q=>i.zero[q]?.getD undef) (fun _ _ _=>False) (zD w _) rfl (by simpa using hlc) hm (by rw [size_madeCells,hsz])
  (fun j l' hj=>by
   simp only [List.getElem?_map,List.getElem?_replicate] at hj
   split at hj
   ·simp at hj;subst hj;rw [T.fQ,List.length_map,hlen,hsz]
   ·cases hj)
  (fun j l' q x hj hq=>by
   obtain⟨v,h1,h2,h3,_⟩:=key j l' q x hj hq
   rw [hsz,YM hzs h3 (by omega),hzv]
   simp [h1])
  (fun j l' q x hj hq=>by
   obtain⟨v,h1,h2,h3,h4⟩:=key j l' q x hj hq
   rw [h1];exact h4)
  (fun j q k h=>h.elim) (fun j q j' q' k h=>h.elim)
 rw [←hl2] at this
 exact this
theorem WQ {t:Nat} {x y:Operand} (ho:o.op= .makeSlice t x y) {v:Value} {w':World} (h:(Instr.makeSlice t (a.eval x) (a.eval y)).run P w= .ok v w'):(execOp a.eval o).run P w= .ok (.value v) w':=by
 unfold execOp;rw [ho];simp only [Sem.run_bind,h];rfl
theorem VX (hT:T.ok P) {nx t:Nat} {x y:Operand} {U:bf T} {ob:Option Prop} (ho:o.op= .makeSlice t x y) (h:Hg σ nx o.dst t x y= .done U ob) (hob:qx ob):dY P W0 o σ U:=by
 unfold Hg at h
 cases hi:T.ti t with
 | none=>rw [hi] at h;cases h
 | some ti=>
   rw [hi] at h
   dsimp only at h
   split at h
   ·rename_i e hk
    cases he:T.ti e with
    | none=>rw [he] at h;cases h
    | some i=>
      rw [he] at h
      dsimp only at h
      cases hel:T.el e<;>rw [hel] at h<;>dsimp only at h
      ·cases h
      cases hz:zeroE T e i.zero with
      | none=>rw [hz] at h;cases h
      | some z=>
        rw [hz] at h
        dsimp only at h
        split at h
        ·rename_i k1 l hl
         split at h
         ·rename_i k2 c hc
          cases hd:bT σ o.dst<;>rw [hd] at h<;>dsimp only at h
          ·cases h
          cases hf:σ.fresh nx<;>rw [hf] at h<;>cases h
          intro σ' a w K Q hA ⟨env,F,hS⟩ hK
          obtain⟨inf,h1,h2,h3,⟨zv,h4,h4'⟩,h5,h6,h7,h8⟩:=hT t ti hi
          obtain⟨inf',g1,g2,g3,⟨zv',g4,g4'⟩,g5,_⟩:=hT e i he
          rw [hk] at h8
          have hob:0≤l∧l≤c∧(i.bytes:Int)*c≤281474976710656∧c≤9223372036854775807:=hob
          have e1:=iY (bD hS hA (x:=x) (by simp [ho,Op.operands])) hl
          have e2:=iY (bD hS hA (x:=y) (by simp [ho,Op.operands])) hc
          have hrun:=run_make (P:=P) w t e inf' zv' h8.1 g1 g4 k1 k2 l c hob.1 hob.2.1 (by rw [g3];exact hob.2.2.1) hob.2.2.2
          obtain⟨hu,hn⟩:=hA.new (by simp) hf
          refine jf (WQ ho (by rw [e1,e2];exact hrun)) (hK _ _ ?_)
          refine hS.fresh hu hn (Grew.alloc w _) (u:= .slice (some ⟨w.heap.size,0,none⟩) l.toNat c.toNat) (G:=fun k=>k=w.heap.size) (fun k hk=>by subst hk;rw [vX];omega) ?_ ?_ (fun d hd'=>by rw [hA.n];exact bg hd d hd')
          ·intro σ1 aZ F1 calm henv hG hoth hv
           have:=aaT (T:=T) he hel hz g4' g5 (.inr trivial) (l:=l.toNat) (c:=c.toNat) (by omega) (by have:=hob.2.2.2;simp only [maxLen];omega) w
           rw [←g2] at this
           show Ow _ _ _ _ (aZ nx)
           rw [henv]
           exact this.mono (fun k hk=>(hG k).2 hk)
          ·intro σ1 aZ F1 calm henv hoth hv hres
           exact⟨henv.symm,rfl⟩
         ·cases h
        ·cases h
   ·cases h
end
end Go.Proofs.YtcnfgfomholheaaGreatDoor.Z
end
section
namespace Go.Proofs.YtcnfgfomholheaaGreatDoor.Z
open Go.RowKit
set_option linter.unusedVariables false
set_option linter.unusedSimpArgs false
theorem lS {α:Type} {cs vs:List α} {n:Nat} (h:n+vs.length≤cs.length):(splice cs n vs).length=cs.length:=by
 simp [splice];omega
theorem gy {α:Type} {cs vs:List α} {n m:Nat} (h:n+vs.length≤cs.length):(splice cs n vs)[m]? =if m<n then cs[m]? else if m<n+vs.length then vs[m - n]? else cs[m]?:=by
 unfold splice
 by_cases h1:m<n
 ·rw [if_pos h1,List.append_assoc,List.getElem?_append_left (by simp;omega),List.getElem?_take_of_lt h1]
 ·rw [if_neg h1]
  by_cases h2:m<n+vs.length
  ·rw [if_pos h2,List.append_assoc,List.getElem?_append_right (by simp;omega),List.getElem?_append_left (by simp;omega)]
   congr 1
   simp;omega
  ·rw [if_neg h2,List.getElem?_append_right (by simp;omega),List.getElem?_drop]
   congr 1
   simp;omega
section
variable {sz:Nat→Nat} {w:World} {F:Nat→Prop}
theorem OQ {e:Nat} {xs:List (List V)} {v:Value} (h:Ow sz w F (.sl e xs) v) {i o:Nat} {old new:List V} {us:List Value} (hi:xs[i]? =some old) (hl:new.length=sz e) (ho:o+us.length≤sz e)
  (hold:∀q x,new[q]? =some x→(q<o∨o+us.length≤q)→old[q]? =some x) (H:Nat→Nat→Prop) (hnew:∀q x u,new[o+q]? =some x→us[q]? =some u→Ow sz w (H q) x u)
  (hH:∀q k,H q k→¬F k) (hHd:∀q q' k,H q k→H q' k→q=q'):
  ∃g cap cur,v= .slice (some ⟨g,0,none⟩) xs.length cap∧F g∧w.heap[g]? =some (.cells cur e (0,0))∧i*sz e+o+us.length≤cur.size∧
   Ow sz (w.setRow g (splice cur.toList (i*sz e+o) us).toArray) (fun k=>F k∨∃q,H q k) (.sl e (xs.set i new)) v:=by
 cases h with
 | nil F e=>simp at hi
 | sl F e xs g cap cur f G hg hF hn hm hz hs hcell hr hG hd=>
   have hilt:i<xs.length:=(List.getElem?_eq_some_iff.1 hi).1
   have hfit:i*sz e+o+us.length≤cur.size:=by
    have:(i+1)*sz e≤cap*sz e:=Nat.mul_le_mul_right _ (by omega)
    rw [Nat.succ_mul] at this
    omega
   refine⟨g,cap,cur,rfl,hF,hg,hfit,?_⟩
   have hlen:(splice cur.toList (i*sz e+o) us).length=cur.size:=by rw [lS (by simpa using hfit)];simp
   have hne:∀k,k≠g→(w.setRow g (splice cur.toList (i*sz e+o) us).toArray).heap[k]? =w.heap[k]?:=fun k hk=>setRow_other w g k _ hk
   have hlx:(xs.set i new).length=xs.length:=by simp
   rw [←hlx]
   have WR:∀j l q x,(xs.set i new)[j]? =some l→l[q]? =some x→q<sz e∧((j=i∧o≤q∧q<o+us.length∧new[q]? =some x)∨(¬(j=i∧o≤q∧q<o+us.length)∧∃l',xs[j]? =some l'∧l'[q]? =some x)):=by
    intro j l q x hj hq
    rw [List.getElem?_set] at hj
    by_cases e1:i=j
    ·subst e1
     simp [hilt] at hj
     subst hj
     have h1:q<sz e:=by rw [←hl];exact(List.getElem?_eq_some_iff.1 hq).1
     refine⟨h1,?_⟩
     by_cases h2:o≤q∧q<o+us.length
     ·exact .inl ⟨rfl,h2.1,h2.2,hq⟩
     ·exact .inr ⟨fun h=>h2 ⟨h.2.1,h.2.2⟩,old,hi,hold q x hq (by omega)⟩
    ·rw [if_neg e1] at hj
     have h1:q<sz e:=by rw [←hs j l hj];exact(List.getElem?_eq_some_iff.1 hq).1
     exact⟨h1, .inr ⟨fun h=>e1 h.1.symm,l,hj,hq⟩⟩
   refine .sl _ e (xs.set i new) g cap _ (fun j q=>if j=i∧o≤q∧q<o+us.length then us[q - o]?.getD undef else f j q) (fun j q k=>if j=i∧o≤q∧q<o+us.length then H (q - o) k else G j q k) (setRow_heap w g cur _ e _ hg) (.inl hF) (by rw [hlx];exact hn) hm (by simpa using hlen.trans hz) ?_ ?_ ?_ ?_ ?_
   ·intro j l hj
    rw [List.getElem?_set] at hj
    by_cases e1:i=j
    ·subst e1;simp [hilt] at hj;subst hj;exact hl
    ·rw [if_neg e1] at hj;exact hs j l hj
   ·intro j l q x hj hq
    obtain⟨hqs,h1 | ⟨h1,l',h2,h3⟩⟩:=WR j l q x hj hq
    ·obtain⟨rfl,h2,h3,h4⟩:=h1
     rw [List.getElem?_toArray,gy (by simpa using hfit),if_neg (by omega),if_pos (by omega),if_pos ⟨rfl,h2,h3⟩]
     rw [show j*sz e+q - (j*sz e+o)=q - o by omega]
     have:q - o<us.length:=by omega
     simp [this]
    ·have hc:=hcell j l' q x h2 h3
     rw [if_neg h1,List.getElem?_toArray,gy (by simpa using hfit)]
     have hout:j*sz e+q<i*sz e+o∨i*sz e+o+us.length≤j*sz e+q:=by
      rcases Nat.lt_trichotomy j i with h | h | h
      ·have:(j+1)*sz e≤i*sz e:=Nat.mul_le_mul_right _ h
       rw [Nat.succ_mul] at this;omega
      ·subst h
       by_cases h5:o≤q
       ·by_cases h6:q<o+us.length
        ·exact(h1 ⟨rfl,h5,h6⟩).elim
        ·omega
       ·omega
      ·have:(i+1)*sz e≤j*sz e:=Nat.mul_le_mul_right _ h
       rw [Nat.succ_mul] at this;omega
     rcases hout with h | h
     ·rw [if_pos h];simpa using hc
     ·rw [if_neg (by omega),if_neg (by omega)];simpa using hc
   ·intro j l q x hj hq
    obtain⟨hqs,h1 | ⟨h1,l',h2,h3⟩⟩:=WR j l q x hj hq
    ·obtain⟨rfl,h2,h3,h4⟩:=h1
     have hlt:q - o<us.length:=by omega
     have h5:=hnew (q - o) x (us[q - o]) (by rw [show o+(q - o)=q by omega];exact h4) (by simp [hlt])
     have hc1:j=j∧o≤q∧q<o+us.length:=⟨rfl,h2,h3⟩
     rw [if_pos hc1,show us[q - o]?.getD undef=us[q - o] by simp [hlt]]
     exact(h5.frame (fun k hk _=>hne k (fun e=>hH _ k hk (e▸hF)))).mono (fun k hk=>by rw [if_pos hc1];exact hk)
    ·simp only [if_neg h1]
     exact(hr j l' q x h2 h3).frame (fun k hk _=>hne k (hG j q k hk).2)
   ·intro j q k hk
    by_cases h1:j=i∧o≤q∧q<o+us.length
    ·rw [if_pos h1] at hk
     exact⟨.inr ⟨_,hk⟩,fun e=>hH _ k hk (e▸hF)⟩
    ·rw [if_neg h1] at hk
     exact⟨.inl (hG j q k hk).1,(hG j q k hk).2⟩
   ·intro j q j' q' k hk hk'
    by_cases h1:j=i∧o≤q∧q<o+us.length
    ·rw [if_pos h1] at hk
     by_cases h2:j'=i∧o≤q'∧q'<o+us.length
     ·rw [if_pos h2] at hk'
      have:=hHd _ _ k hk hk'
      exact⟨h1.1.trans h2.1.symm,by omega⟩
     ·rw [if_neg h2] at hk'
      exact(hH _ k hk (hG j' q' k hk').1).elim
    ·rw [if_neg h1] at hk
     by_cases h2:j'=i∧o≤q'∧q'<o+us.length
     ·rw [if_pos h2] at hk'
      exact(hH _ k hk' (hG j q k hk).1).elim
     ·rw [if_neg h2] at hk'
      exact hd j q j' q' k hk hk'
end
section
variable {T:dQ} {P:Program} {W0:Fr} {σ σ' σ1:St T} {a:Act} {w w1:World} {env aZ:Nat→Value} {F F1:Nat→Nat→Prop} {o:Oper} {aX aW:List Nat}
def IB (σ:St T):C0 T.Tb→Cell T→Option (C0 T.Tb × Option Nat)
 | .sl e _, .sc (.slice none 0 0)=>some (.sl e [],none)
 | _, .sc v=>some (.sc v,none)
 | _, .hd r=>match σ.res r with
   | .row _ e l=>some (.sl e l,some r)
   | _=>none
 | _,_=>none
def kZ (σ:St T):List (C0 T.Tb)→List (Cell T)→Option (List (C0 T.Tb) × List (Option Nat))
 | c::cs,x::xs=>match IB σ c x with
   | some (y,r)=>match kZ σ cs xs with
     | some (ys,rs)=>some (y::ys,r::rs)
     | none=>none
   | none=>none
 | _,[]=>some ([],[])
 | _,_=>none
def dJ:List (Option Nat)→List Nat
 | []=>[]
 | some r::l=>r::dJ l
 | none::l=>dJ l
def jT:List Nat→Bool
 | []=>true
 | a::l=>match gW a l with
   | true=>false
   | false=>jT l
def iQ:List Nat→List (Nat × dA T)
 | []=>[]
 | r::l=>(r, .no)::iQ l
theorem jB {r:Nat}:∀{l:List (Option Nat)},r∈dJ l↔some r∈l
 | []=>by simp [dJ]
 | some q::l=>by simp [dJ,jB (l:=l)]
 | none::l=>by simp [dJ,jB (l:=l)]
theorem zF {r:Nat}:∀{l:List (Option Nat)} {i j:Nat},jT (dJ l)=true→l[i]? =some (some r)→l[j]? =some (some r)→i=j
 | [],i,j,_,h,_=>by simp at h
 | none::l,i,j,hn,h,h'=>by
   cases i with
   | zero=>simp at h
   | succ i=>cases j with
     | zero=>simp at h'
     | succ j=>have:=zF (l:=l) hn (by simpa using h) (by simpa using h');omega
 | some q::l,i,j,hn,h,h'=>by
   unfold dJ jT at hn
   cases hq:gW q (dJ l)<;>rw [hq] at hn<;>dsimp only at hn
   ·have hno:∀k,l[k]? =some (some q)→False:=fun k hk=>by
     have:q∈dJ l:=jB.2 (List.mem_of_getElem? hk)
     rw [dV.2 this] at hq;cases hq
    cases i with
    | zero=>
      simp at h;subst h
      cases j with
      | zero=>rfl
      | succ j=>exact(hno j (by simpa using h')).elim
    | succ i=>cases j with
      | zero=>simp at h';subst h';exact(hno i (by simpa using h)).elim
      | succ j=>have:=zF (l:=l) hn (by simpa using h) (by simpa using h');omega
   ·cases hn
theorem F7:∀{cs:List (C0 T.Tb)} {xs:List (Cell T)} {ys:List (C0 T.Tb)} {rs:List (Option Nat)},kZ σ cs xs=some (ys,rs)→ys.length=xs.length∧rs.length=xs.length
 | cs,[],ys,rs,h=>by
   have:kZ σ cs []=some ([],[]):=by cases cs<;>rfl
   rw [this] at h;cases h;exact⟨rfl,rfl⟩
 | [],x::xs,ys,rs,h=>by cases h
 | c::cs,x::xs,ys,rs,h=>by
   unfold kZ at h
   cases h1:IB σ c x with
   | none=>rw [h1] at h;cases h
   | some yr=>
     obtain⟨y,r⟩:=yr
     rw [h1] at h
     dsimp only at h
     cases h2:kZ σ cs xs with
     | none=>rw [h2] at h;cases h
     | some ysr=>
       obtain⟨ys',rs'⟩:=ysr
       rw [h2] at h
       cases h
       have:=F7 h2
       simp [this]
theorem ab4 (hS:dU W0 σ a w env F) {c y:C0 T.Tb} {x:Cell T} {r:Option Nat} {u:Value} (hσ:∀s,r=some s→σ.res s=σ1.res s) (hx:gJ σ env F w x u) (h:IB σ1 c x=some (y,r)):Ow T.sz w (fun k=>∃q,r=some q∧F q k) (y.Bo T.enc) u:=by
 unfold IB at h
 split at h
 ·cases h
  have:=hx.1
  subst this
  exact .nil _ _
 ·cases h
  obtain⟨h1,h2⟩:=hx
  subst h1
  exact .sc _ _ h2
 ·rename_i q
  cases hr:σ1.res q with
  | row b e l=>
    rw [hr] at h
    cases h
    have h1:=hS.res q
    rw [hσ q rfl,hr] at h1
    rw [hx.1]
    exact Ow.mono (show Ow T.sz w (F q) (.sl e (l.map (T.enc e))) (env q) from h1) (fun k hk=>⟨q,rfl,hk⟩)
  | no=>rw [hr] at h;cases h
  | bx t cs=>rw [hr] at h;cases h
  | sh bv e l=>rw [hr] at h;cases h
 ·cases h
theorem F8:∀{cs:List (C0 T.Tb)} {xs:List (Cell T)} {ys:List (C0 T.Tb)} {rs:List (Option Nat)},kZ σ cs xs=some (ys,rs)→∀r∈dJ rs,∃b e l,σ.res r= .row b e l
 | cs,[],ys,rs,h,r,hr=>by
   have:kZ σ cs []=some ([],[]):=by cases cs<;>rfl
   rw [this] at h;cases h;simp [dJ] at hr
 | [],x::xs,ys,rs,h,r,hr=>by cases h
 | c::cs,x::xs,ys,rs,h,r,hr=>by
   unfold kZ at h
   cases h1:IB σ c x with
   | none=>rw [h1] at h;cases h
   | some yr=>
     obtain⟨y1,r1⟩:=yr
     rw [h1] at h
     dsimp only at h
     cases h2:kZ σ cs xs with
     | none=>rw [h2] at h;cases h
     | some ysr=>
       obtain⟨ys',rs'⟩:=ysr
       rw [h2] at h
       cases h
       rcases List.mem_cons.1 (jB.1 hr) with h3 | h3
       ·subst h3
        unfold IB at h1
        split at h1
        ·cases h1
        ·cases h1
        ·rename_i q
         cases hq:σ.res q with
         | row b e l=>rw [hq] at h1;cases h1;exact⟨_,_,_,hq⟩
         | no=>rw [hq] at h1;cases h1
         | bx t cs=>rw [hq] at h1;cases h1
         | sh bv e l=>rw [hq] at h1;cases h1
        ·cases h1
       ·exact F8 h2 r (jB.2 h3)
theorem IC:∀{cs:List (C0 T.Tb)} {xs:List (Cell T)} {us:List Value} {ys:List (C0 T.Tb)} {rs:List (Option Nat)},aQ σ env F w xs us→kZ σ1 cs xs=some (ys,rs)→∀u∈us,u.oneCell'=true
 | cs,[],us,ys,rs,hx,h,u,hu=>by cases hx;cases hu
 | [],x::xs,us,ys,rs,hx,h,u,hu=>by cases h
 | c::cs,x::xs,us,ys,rs,⟨u1,us',e,h3,h4⟩,h,u,hu=>by
   subst e
   unfold kZ at h
   cases h1:IB σ1 c x with
   | none=>rw [h1] at h;cases h
   | some yr=>
     obtain⟨y1,r1⟩:=yr
     rw [h1] at h
     dsimp only at h
     cases h2:kZ σ1 cs xs with
     | none=>rw [h2] at h;cases h
     | some ysr=>
       obtain⟨ys',rs'⟩:=ysr
       rcases List.mem_cons.1 hu with rfl | hu
       ·unfold IB at h1
        split at h1
        ·exact h3.2
        ·exact h3.2
        ·exact h3.2
        ·cases h1
       ·exact IC h4 h2 u hu
theorem F9 (hS:dU W0 σ a w env F):∀{cs:List (C0 T.Tb)} {xs:List (Cell T)} {us:List Value} {ys:List (C0 T.Tb)} {rs:List (Option Nat)},aQ σ env F w xs us→kZ σ1 cs xs=some (ys,rs)→(∀s∈dJ rs,σ.res s=σ1.res s)→∀{q:Nat} {y:C0 T.Tb} {u:Value},ys[q]? =some y→us[q]? =some u→Ow T.sz w (fun k=>∃r,rs[q]? =some (some r)∧F r k) (y.Bo T.enc) u
 | cs,[],us,ys,rs,hx,h,hσ,q,y,u,hy,hu=>by
   have:kZ σ1 cs []=some ([],[]):=by cases cs<;>rfl
   rw [this] at h;cases h;simp at hy
 | [],x::xs,us,ys,rs,hx,h,hσ,q,y,u,hy,hu=>by cases h
 | c::cs,x::xs,us,ys,rs,⟨u1,us',e,h3,h4⟩,h,hσ,q,y,u,hy,hu=>by
   subst e
   unfold kZ at h
   cases h1:IB σ1 c x with
   | none=>rw [h1] at h;cases h
   | some yr=>
     obtain⟨y1,r1⟩:=yr
     rw [h1] at h
     dsimp only at h
     cases h2:kZ σ1 cs xs with
     | none=>rw [h2] at h;cases h
     | some ysr=>
       obtain⟨ys',rs'⟩:=ysr
       rw [h2] at h
       cases h
       cases q with
       | zero=>
         simp at hy hu
         subst hy;subst hu
         exact(ab4 hS (fun s hs=>hσ s (jB.2 (by simp [hs]))) h3 h1).mono (fun k ⟨q,e,hk⟩=>⟨q,by simp [e],hk⟩)
       | succ q=>simpa using F9 hS h4 h2 (fun s hs=>hσ s (jB.2 (List.mem_cons_of_mem _ (jB.1 hs)))) (q:=q) (by simpa using hy) (by simpa using hu)
theorem nH {r:Nat} {x:dA T}:∀{l:List Nat},r∈l→lk x (iQ l) r= .no
 | [],h=>by cases h
 | q::l,h=>by
   unfold iQ lk
   cases hb:Nat.beq q r
   ·rcases List.mem_cons.1 h with rfl | h
    ·exact absurd hb (by simp [Nat.beq_eq])
    ·exact nH h
   ·rfl
theorem oV {r:Nat} {x:dA T}:∀{l:List Nat},r∉l→lk x (iQ l) r=x
 | [],_=>rfl
 | q::l,h=>by
   unfold iQ lk
   rw [eY (fun e=>h (by simp [e]))]
   exact oV (fun hm=>h (List.mem_cons_of_mem _ hm))
def zn (σ:St T) (nx:Nat) (dst:Option Nat) (t:Nat) (x v:Operand):eF T:=
 match dst with
 | none=>match T.ti t with
   | some ti=>match dn σ x with
     | .pe r i n=>match σ.res r with
       | .row bv e l=>match T.ti e with
         | some ei=>match T.el e with
           | true=>match cellsS (dn σ v) with
             | some vs=>match kZ σ ((T.cells e (bZ T e l i)).drop n) vs with
               | some (ys,rs)=>match jT (r::dJ rs) with
                 | true=>match Nat.beq vs.length ti.size with
                   | true=>match Nat.ble (n+vs.length) ei.size with
                     | true=>match T.wR e (splice (T.cells e (bZ T e l i)) n ys) with
                       | some y=>match σ.fresh nx with
                         | true=> .done ⟨.ud,(r, .row nx e (l.set i y))::iQ (dJ rs),r::nx::dJ rs,1,r::nx::dJ rs⟩ none
                         | false=> .stuck
                       | none=> .stuck
                     | false=> .stuck
                   | false=> .stuck
                 | false=> .stuck
               | none=> .stuck
             | none=> .stuck
           | false=> .stuck
         | none=> .stuck
       | _=> .stuck
     | _=> .stuck
   | none=> .stuck
 | some _=> .stuck
theorem Qx (hT:T.ok P) {nx t:Nat} {x v:Operand} {U:bf T} {ob:Option Prop} (ho:o.op= .store t x v) (h:zn σ nx o.dst t x v= .done U ob):dY P W0 o σ U:=by
 unfold zn at h
 split at h
 ·rename_i hdn
  cases hi:T.ti t with
  | none=>rw [hi] at h;cases h
  | some ti=>
    rw [hi] at h
    dsimp only at h
    split at h
    ·rename_i r i n hx
     split at h
     ·rename_i bv e l hr
      cases dX:T.ti e with
      | none=>rw [dX] at h;cases h
      | some ei=>
        rw [dX] at h
        dsimp only at h
        cases hel:T.el e<;>rw [hel] at h<;>dsimp only at h
        ·cases h
        cases hc:cellsS (dn σ v) with
        | none=>rw [hc] at h;cases h
        | some vs=>
          rw [hc] at h
          dsimp only at h
          cases hk:kZ σ ((T.cells e (bZ T e l i)).drop n) vs with
          | none=>rw [hk] at h;cases h
          | some yr=>
            obtain⟨ys,rs⟩:=yr
            rw [hk] at h
            dsimp only at h
            cases hnd:jT (r::dJ rs)<;>rw [hnd] at h<;>dsimp only at h
            ·cases h
            cases hb:Nat.beq vs.length ti.size<;>rw [hb] at h<;>dsimp only at h
            ·cases h
            cases hbl:Nat.ble (n+vs.length) ei.size<;>rw [hbl] at h<;>dsimp only at h
            ·cases h
            cases hy:T.wR e (splice (T.cells e (bZ T e l i)) n ys) with
            | none=>rw [hy] at h;cases h
            | some y=>
              rw [hy] at h
              dsimp only at h
              cases hf:σ.fresh nx<;>rw [hf] at h<;>cases h
              intro σ' a w K Q hA ⟨env,F,hS⟩ hK
              have e1:=bD hS hA (x:=x) (by simp [ho,Op.operands])
              have e2:=bD hS hA (x:=v) (by simp [ho,Op.operands])
              rw [hx] at e1
              have hr':σ'.res r= .row bv e l:=by rw [hA.res r (by simp)];exact hr
              obtain⟨hil,g,cap,he,hp⟩:=e1.1 bv e l hr'
              obtain⟨hu,hno⟩:=hA.new (r:=nx) (by simp) hf
              have hnr:nx≠r:=fun e=>by rw [e,hr'] at hno;cases hno
              have hrr:r∉dJ rs:=fun hm=>by unfold jT at hnd;rw [dV.2 hm] at hnd;cases hnd
              have hnd':jT (dJ rs)=true:=by unfold jT at hnd;split at hnd<;>first | (cases hnd;done) | exact hnd
              have hrow:=F8 hk
              have hsame:∀q,(∃b e l,σ.res q= .row b e l)→q∈dJ rs→σ'.res q=σ.res q:=fun q _ hq=>hA.res q (by simp [hq])
              have hcv:=lQ e2 hc
              have hl1:=ji hcv
              simp only [Array.length_toList] at hl1
              have hb':=Nat.eq_of_beq_eq_true hb
              have Yv:=Nat.le_of_ble_eq_true hbl
              have hkl:=F7 hk
              have Uo:T.sz e=ei.size:=kS dX
              have hget:bZ T e l i=l[i]:=by simp [bZ,hil]
              have MP:(T.cells e (bZ T e l i)).length=ei.size:=T.len e _ ei hel dX
              have hmk:=T.mk_eq e _ y hy
              have hfit:n+ys.length≤(T.cells e (bZ T e l i)).length:=by rw [MP,hkl.1];exact Yv
              have h3:=hS.res r
              rw [hr'] at h3
              let H:Nat→Nat→Prop:=fun q k=>∃s,rs[q]? =some (some s)∧F s k
              have hHm:∀q k,H q k→∃s,s∈dJ rs∧F s k:=fun q k ⟨s,h1,h2⟩=>⟨s,jB.2 (List.mem_of_getElem? h1),h2⟩
              have hst:=OQ (us:=(a.eval v).cells.toList) (old:=T.enc e l[i]) (new:=T.enc e y) (i:=i) (o:=n) (show Ow T.sz w (F r) (.sl e (l.map (T.enc e))) (env r) from h3) (by simp [hil]) (by rw [T.fQ,List.length_map,hmk,lS hfit,MP,Uo]) (by rw [Uo];simp only [Array.length_toList];omega)
               (by
                intro q x' hq hqo
                rw [T.fQ,List.getElem?_map,hmk,gy hfit] at hq
                rw [T.fQ,List.getElem?_map,←hget]
                have:ys.length=(a.eval v).cells.toList.length:=by rw [hkl.1];simpa using hl1
                rcases hqo with h | h
                ·rw [if_pos h] at hq;exact hq
                ·rw [if_neg (by omega),if_neg (by omega)] at hq;exact hq)
               H
               (by
                intro q x' u hq Iq
                rw [T.fQ,List.getElem?_map,hmk,gy hfit] at hq
                have kU:q<(a.eval v).cells.toList.length:=(List.getElem?_eq_some_iff.1 Iq).1
                have:ys.length=(a.eval v).cells.toList.length:=by rw [hkl.1];simpa using hl1
                rw [if_neg (by omega),if_pos (by omega),show n+q - n=q by omega] at hq
                obtain⟨y0,hy0,rfl⟩:=Option.map_eq_some_iff.1 hq
                have key:=F9 hS (σ1:=σ) hcv hk (fun s hs=>hA.res s (by simp [hs])) hy0 Iq
                exact key)
               (fun q k hq hF=>by
                obtain⟨s,hs,hk2⟩:=hHm q k hq
                have:=hS.apart s r k hk2 hF
                exact hrr (this▸hs))
               (fun q q' k ⟨s,h1,h2⟩ ⟨s',h1',h2'⟩=>by
                have:=hS.apart s s' k h2 h2'
                subst this
                exact zF hnd' h1 h1')
              obtain⟨g',cap',cur,he',hFg,hg,Ur,how⟩:=hst
              rw [he] at he'
              simp only [Value.slice.injEq,Option.some.injEq,Addr.mk.injEq,and_true,true_and] at he'
              obtain⟨rfl,-,-⟩:=he'
              have hrun:=xO (hT t ti hi) (v:=a.eval v) (n:=i*T.sz e+n) hg (by omega) (by simpa using Ur) (IC hcv hk)
              refine zK (zL ho (by rw [hp,add_lit,Nat.zero_add];exact hrun)) (hK _ _ ?_)
              have hgW:=hS.own r g hFg
              let U1:bf T:=⟨.ud,(r, .row nx e (l.set i y))::iQ (dJ rs),r::nx::dJ rs,1,r::nx::dJ rs⟩
              let w1:World:=w.setRow g (splice cur.toList (i*T.sz e+n) (a.eval v).cells.toList).toArray
              let F1:Nat→Nat→Prop:=fun s k=>(s=r∧(F r k∨∃q,H q k))∨(s≠r∧s∉dJ rs∧F s k)
              have jK:(σ'.upd o.dst U1).res r= .row nx e (l.set i y):=by rw [St.dI];simp [U1,lk]
              have gV:∀s,s∈dJ rs→(σ'.upd o.dst U1).res s= .no:=fun s hs=>by
               rw [St.dI]
               show lk _ ((r,_)::iQ (dJ rs)) s=_
               unfold lk
               rw [eY (k:=r) (t:=s) (fun e=>hrr (by rw [e];exact hs))]
               exact nH hs
              have qE:∀s,s≠r→s∉dJ rs→(σ'.upd o.dst U1).res s=σ'.res s:=fun s h1 h2=>by
               rw [St.dI]
               show lk _ ((r,_)::iQ (dJ rs)) s=_
               unfold lk
               rw [eY (k:=r) (t:=s) (fun e=>h1 e.symm)]
               exact oV h2
              have hne:∀k,k≠g→w1.heap[k]? =w.heap[k]?:=fun k hk=>setRow_other w g k _ hk
              have hF1:∀s k,F1 s k→∃s',F s' k:=by
               rintro s k (⟨_,h | ⟨q,hq⟩⟩ | ⟨_,_,h⟩)
               ·exact⟨_,h⟩
               ·obtain⟨s',_,h⟩:=hHm q k hq;exact⟨_,h⟩
               ·exact⟨_,h⟩
              have calm:Calm σ' (σ'.upd o.dst U1) F F1 w w1:=⟨St.gY _ _ _,by rw [setRow_size];exact Nat.le_refl _,fun k hk hst=>⟨fun s hs=>by obtain⟨s',h⟩:=hF1 s k hs;exact hst s' h,hne k (fun e=>hst r (e▸hFg))⟩⟩
              refine hS.upd (aZ:=env) (F1:=F1) (fun s=>s=r∨s∈dJ rs) (below_setRow hS.below hgW.1 _) calm ?_ ?_ ?_ ?_ ?_ (fun d hd=>by rw [hdn] at hd;cases hd)
              ·intro s hs
               have h1:s≠r:=fun e=>hs (.inl e)
               have h2:s∉dJ rs:=fun e=>hs (.inr e)
               exact⟨rfl,fun k=>⟨fun h=>by
                rcases h with ⟨h,_⟩ | ⟨_,_,h⟩
                ·exact(h1 h).elim
                ·exact h,fun h=> .inr ⟨h1,h2,h⟩⟩,qE s h1 h2,fun k hk=>hne k (fun e=>h1 (hS.apart s r k hk (e▸hFg)))⟩
              ·intro s hs
               by_cases e1:s=r
               ·subst e1
                rw [jK]
                show Ow T.sz w1 (F1 s) (.sl e ((l.set i y).map (T.enc e))) (env s)
                rw [List.map_set]
                exact how.mono (fun k hk=> .inl ⟨rfl,hk⟩)
               ·have h2:=hs.resolve_left e1
                rw [gV s h2]
                rintro k (⟨h,_⟩ | ⟨_,h,_⟩)
                ·exact e1 h
                ·exact h h2
              ·intro s k hs hk
               obtain⟨s',h⟩:=hF1 s k hk
               have:=hS.own s' k h
               exact⟨this.1,by rw [setRow_size];exact this.2⟩
              ·intro s s' k hs h1 h2
               have hcon:∀q,q≠r→q∉dJ rs→F q k→¬(F r k∨∃q,H q k):=by
                rintro q hq1 hq2 hq (h | ⟨j,h⟩)
                ·exact hq1 (hS.apart q r k hq h)
                ·obtain⟨s',hs',h⟩:=hHm j k h
                 exact hq2 (hS.apart q s' k hq h▸hs')
               rcases h1 with ⟨rfl,h1⟩ | ⟨h1a,h1b,h1⟩<;>rcases h2 with ⟨h2',h2⟩ | ⟨Zy,h2b,h2⟩
               ·exact h2'.symm
               ·exact(hcon s' Zy h2b h2 h1).elim
               ·exact(hcon s h1a h1b h1 (h2'▸h2)).elim
               ·exact hS.apart s s' k h1 h2
              ·intro s hs
               refine .inr ⟨rfl,?_,fun b=>?_⟩
               ·refine⟨fun kM e' l' hl=>?_,fun kM e' l' hl=>?_⟩
                ·by_cases e1:s=r
                 ·subst e1
                  rw [jK] at hl
                  cases hl
                  exact⟨bv,l,hr',by simp⟩
                 ·rw [gV s (hs.resolve_left e1)] at hl;cases hl
                ·by_cases e1:s=r
                 ·subst e1
                  rw [jK] at hl
                  cases hl
                 ·rw [gV s (hs.resolve_left e1)] at hl;cases hl
               ·by_cases e1:s=r
                ·subst e1
                 by_cases e3:b=nx
                 ·subst e3;exact .inr (jm.VT hu)
                 ·refine .inl ?_
                  rintro⟨e',l',hl⟩
                  rw [jK] at hl
                  simp only [dA.row.injEq] at hl
                  exact(e3 hl.1.symm).elim
                ·refine .inl ?_
                 rintro⟨e',l',hl⟩
                 rw [gV s (hs.resolve_left e1)] at hl;cases hl
     ·cases h
    ·cases h
 ·cases h
end
end Go.Proofs.YtcnfgfomholheaaGreatDoor.Z
end
section
namespace Go.Proofs.YtcnfgfomholheaaGreatDoor.Z
open Go.RowKit
set_option linter.unusedVariables false
set_option linter.unusedSimpArgs false
inductive CK where
 | int
 | bool
 | text
def LC (P:Program) (t:TypeId):Option CK:=match P.underlying t with
 | some (.int _)=>some .int
 | some .bool=>some .bool
 | some .string=>some .text
 | _=>none
def J3 (P:Program):Nat→List Field→Option (List CK)
 | _,[]=>some []
 | j,f::fs=>match f.name== "_" with
   | true=>none
   | false=>match Nat.beq f.offset j with
     | true=>match LC P f.type with
       | some c=>match J3 P (j+1) fs with
         | some r=>some (c::r)
         | none=>none
       | none=>none
     | false=>none
def J4 (P:Program) (t:TypeId):Option (Bool × List CK):=match P.underlying t with
 | some (.struct fs)=>match P.stoodInHeld t || P.eqGuardType P.depth t with
   | true=>none
   | false=>match J3 P 0 fs.toList with
     | some l=>some (true,l)
     | none=>none
 | _=>match LC P t with
   | some c=>some (false,[c])
   | none=>none
def RZ:Value→Value→Option (CK × Bool)
 | .int k a, .int k' b=>match MQ k k' with
   | true=>some (.int,a==b)
   | false=>none
 | .bool a, .bool b=>some (.bool,a==b)
 | .string a, .string b=>some (.text,a.toList==b.toList)
 | _,_=>none
section
variable {T:dQ} {P:Program} {W0:Fr} {σ σ' σ1:St T} {a:Act} {w w1:World} {env aZ:Nat→Value} {F F1:Nat→Nat→Prop} {o:Oper} {aX aW:List Nat}
def CZ:List (Cell T)→List (Cell T)→Option (List CK × Bool)
 | [],[]=>some ([],true)
 | .sc u::r, .sc v::s=>match RZ u v with
   | some (k,b)=>match r,s with
     | [],[]=>some ([k],b)
     | r,s=>match CZ r s with
       | some (ks,c)=>some (k::ks,b && c)
       | none=>none
   | none=>none
 | _,_=>none
def eqS (op:BinOp) (b:Bool):Option Bool:=match op with
 | .eql=>some b
 | .neq=>some (!b)
 | _=>none
def TR (P:Program) (σ:St T) (dst:Option Nat) (op:BinOp) (t:TypeId) (x y:Operand):eF T:=
 match bT σ dst with
 | true=>match dn σ x,dn σ y with
   | .ag l, .ag m=>match CZ l m with
     | some (ks,b)=>match eqS op b with
       | some r=> .done ⟨.c (.sc (.bool r)),[],[],0,[]⟩ (some (J4 P t=some (true,ks)))
       | none=> .stuck
     | none=> .stuck
   | .c (.sc u), .c (.sc v)=>match RZ u v with
     | some (.bool,b)=>match eqS op b with
       | some r=> .done ⟨.c (.sc (.bool r)),[],[],0,[]⟩ (some (J4 P t=some (false,[.bool])))
       | none=> .stuck
     | _=> .stuck
   | _,_=> .stuck
 | false=> .stuck
theorem yF {t:TypeId} {c:CK} (h:LC P t=some c) {u v:Value} {b:Bool} (hv:RZ u v=some (c,b)) (d:Nat) (w:World):(Op.equalIn (d+1) t u v).run P w= .ok b w:=by
 unfold RZ at hv
 unfold LC at h
 split at hv
 ·rename_i k a k' b'
  split at hv
  ·rename_i hk
   cases hv
   have:=O4 hk
   subst this
   split at h<;>cases h
   rename_i hu
   exact run_equalIn_int w d t k _ a b' hu
  ·cases hv
 ·cases hv
  split at h<;>cases h
  rename_i hu
  exact run_equalIn_bool' w d t _ _ hu
 ·cases hv
  split at h<;>cases h
  rename_i hu
  exact run_equalIn_string w d t _ _ hu
 ·cases hv
theorem ER {t:TypeId} {c:CK} (h:LC P t=some c) {xs:Array Value} {j:Nat} {v:Value} (hv:xs[j]? =some v) (w:World):(part t xs j).run P w= .ok v w:=by
 have hag:(isAgg t).run P w= .ok false w:=by
  unfold LC at h
  unfold isAgg
  split at h<;>first | (cases h;done) | (rename_i hu;simp [Sem.run_bind,run_underlying hu])
 simp [part,Sem.run_bind,hag,hv]
theorem C9 {d:Nat} {xs ys:Array Value} {w:World}:∀{fs:List Field} {j:Nat} {ks:List CK} {l m:List (Cell T)} {b:Bool},J3 P j fs=some ks→CZ l m=some (ks,b)→(∀i c,l[i]? =some c→∃v,xs[j+i]? =some v∧∀u,c=Cell.sc u→v=u)→(∀i c,m[i]? =some c→∃v,ys[j+i]? =some v∧∀u,c=Cell.sc u→v=u)→(Op.eqFields (d+1) xs ys fs).run P w= .ok b w
 | [],j,ks,l,m,b,h1,h2,hx,hy=>by
   cases h1
   unfold CZ at h2
   split at h2
   ·cases h2;simp [Op.eqFields]
   ·split at h2
    ·split at h2
     ·cases h2
     ·split at h2<;>cases h2
    ·cases h2
   ·cases h2
 | f::fs,j,ks,l,m,b,h1,h2,hx,hy=>by
   unfold J3 at h1
   have hn:(f.name== "_")=false:=by
    cases hn:f.name== "_"
    ·rfl
    ·rw [hn] at h1;cases h1
   rw [hn] at h1
   dsimp only at h1
   cases ho:Nat.beq f.offset j<;>rw [ho] at h1<;>dsimp only at h1
   ·cases h1
   have ho:=Nat.eq_of_beq_eq_true ho
   cases hc:LC P f.type with
   | none=>rw [hc] at h1;cases h1
   | some c=>
     rw [hc] at h1
     dsimp only at h1
     cases hr:J3 P (j+1) fs with
     | none=>rw [hr] at h1;cases h1
     | some rest=>
       rw [hr] at h1
       cases h1
       have hne:f.name≠ "_" :=by simpa using hn
       have key:∀(u v:Value) (r s:List (Cell T)) (b0:Bool),l= .sc u::r→m= .sc v::s→RZ u v=some (c,b0)→(∀b1,(Op.eqFields (d+1) xs ys fs).run P w= .ok b1 w→(Op.eqFields (d+1) xs ys (f::fs)).run P w= .ok (b0 && b1) w):=by
        intro u v r s b0 hl hm hv b1 hb1
        obtain⟨u',h3,h3'⟩:=hx 0 (.sc u) (by simp [hl])
        obtain⟨v',h4,h4'⟩:=hy 0 (.sc v) (by simp [hm])
        have h5:=h3' u rfl
        have h6:=h4' v rfl
        subst h5;subst h6
        rw [Nat.add_zero] at h3 h4
        have p1:=ER hc h3 w
        have p2:=ER hc h4 w
        have p3:=yF hc hv d w
        rw [Op.eqFields]
        simp only [if_pos hne,ho,Sem.run_bind,p1,p2,p3,Result.andThen_ok]
        cases b0
        ·simp
        ·simpa using hb1
       unfold CZ at h2
       split at h2
       ·cases h2
       ·rename_i u r v s
        split at h2
        ·rename_i k b0 hv
         split at h2
         ·simp only [Option.some.injEq,Prod.mk.injEq,List.cons.injEq] at h2
          obtain⟨⟨rfl,rfl⟩,rfl⟩:=h2
          have hfs:fs=[]:=by
           cases fs with
           | nil=>rfl
           | cons g gs=>
             exfalso
             unfold J3 at hr
             split at hr
             ·cases hr
             ·split at hr
              ·split at hr
               ·split at hr<;>cases hr
               ·cases hr
              ·cases hr
          subst hfs
          have:=key u v [] [] b0 rfl rfl hv true (by simp [Op.eqFields])
          simpa using this
         ·split at h2
          ·rename_i ks' c' hl'
           simp only [Option.some.injEq,Prod.mk.injEq,List.cons.injEq] at h2
           obtain⟨⟨rfl,rfl⟩,rfl⟩:=h2
           refine key u v r s b0 rfl rfl hv c' (C9 hr hl' (fun i c hi=>?_) (fun i c hi=>?_))
           ·have:=hx (i+1) c (by simpa using hi)
            rwa [show j+(i+1)=j+1+i by omega] at this
           ·have:=hy (i+1) c (by simpa using hi)
            rwa [show j+(i+1)=j+1+i by omega] at this
          ·cases h2
        ·cases h2
       ·cases h2
theorem cells_at {cs:List (Cell T)} {vs:List Value} (h:aQ σ env F w cs vs):∀(i:Nat) (c:Cell T),cs[i]? =some c→∃v:Value,vs[i]? =some v∧∀u:Value,c=Cell.sc u→v=u:=by
 induction cs generalizing vs with
 | nil=>intro i c hi;simp at hi
 | cons x cs ih=>
   obtain⟨v,r,e,h1,h2⟩:=h
   subst e
   intro i c hi
   cases i with
   | zero=>simp at hi;subst hi;exact⟨v,rfl,fun u hu=>by subst hu;exact h1.1⟩
   | succ i=>simpa using ih h2 i c (by simpa using hi)
theorem Pv {op:BinOp} {b r:Bool} (h:eqS op b=some r):(op= .eql∧r=b)∨(op= .neq∧r=!b):=by
 unfold eqS at h;cases op<;>simp only [Option.some.injEq,reduceCtorEq] at h<;>simp [←h]
theorem aaA {op:BinOp} {t ty:TypeId} {x y:Operand} {U:bf T} {ob:Option Prop} (ho:o.op= .binOp op t x y ty) (h:TR P σ o.dst op t x y= .done U ob) (hob:qx ob):dY P W0 o σ U:=by
 unfold TR at h
 cases hd:bT σ o.dst<;>rw [hd] at h<;>dsimp only at h
 ·cases h
 split at h
 ·rename_i l m hl hm
  split at h
  ·rename_i ks b he
   split at h
   ·rename_i r hr
    cases h
    refine quiet_step (bg hd) (fun σ' a w env F hA hS=>⟨.bool r,?_,⟨rfl,rfl⟩⟩)
    have e1:=bD hS hA (x:=x) (by simp [ho,Op.operands])
    have e2:=bD hS hA (x:=y) (by simp [ho,Op.operands])
    rw [hl] at e1
    rw [hm] at e2
    obtain⟨us,g1,g2⟩:=e1
    obtain⟨vs,g3,g4⟩:=e2
    have hob:J4 P t=some (true,ks):=hob
    unfold J4 at hob
    split at hob
    ·rename_i fs hfs
     split at hob
     ·cases hob
     ·rename_i hst
      split at hob
      ·rename_i ks' hks
       cases hob
       simp only [Bool.or_eq_false_iff] at hst
       have hf:P.fieldsOf t=fs:=by simp [Program.fieldsOf,hfs]
       have hrun:(Op.equalIn 10000 t (.agg us) (.agg vs)).run P w= .ok b w:=by
        rw [run_equalIn_struct (P:=P) w 9999 t us vs (by rw [hf];exact hfs) hst.1,hf]
        exact C9 (d:=9998) hks he (fun i c hi=>by simpa using cells_at g2 i c hi) (fun i c hi=>by simpa using cells_at g4 i c hi)
       unfold execOp;rw [ho]
       simp only [g1,g3,Sem.run_bind,run_eqGuard_agg (P:=P) w op t x y us vs hst.2,Result.andThen_ok]
       rcases Pv hr with ⟨rfl,rfl⟩ | ⟨rfl,rfl⟩
       ·rw [run_eql_struct,hrun];rfl
       ·rw [run_neq_struct,hrun];rfl
      ·cases hob
    ·split at hob<;>cases hob
   ·cases h
  ·cases h
 ·rename_i u v hu hv
  split at h
  ·rename_i b hb
   split at h
   ·rename_i r hr
    cases h
    refine quiet_step (bg hd) (fun σ' a w env F hA hS=>⟨.bool r,?_,⟨rfl,rfl⟩⟩)
    have e1:=bD hS hA (x:=x) (by simp [ho,Op.operands])
    have e2:=bD hS hA (x:=y) (by simp [ho,Op.operands])
    rw [hu] at e1
    rw [hv] at e2
    have g1:=e1.1
    have g2:=e2.1
    have hob:J4 P t=some (false,[.bool]):=hob
    have hck:LC P t=some .bool:=by
     unfold J4 at hob
     split at hob
     ·split at hob
      ·cases hob
      ·split at hob<;>cases hob
     ·split at hob
      ·rename_i hc;cases hob;exact hc
      ·cases hob
    unfold RZ at hb
    split at hb
    ·split at hb<;>cases hb
    ·rename_i p q
     cases hb
     have hrun:=yF (P:=P) hck (u:= .bool p) (v:= .bool q) rfl 9999 w
     unfold execOp;rw [ho]
     rcases Pv hr with ⟨rfl,rfl⟩ | ⟨rfl,rfl⟩
     ·simp [g1,g2,Sem.run_bind,eqGuard,binOp,Op.equal,Op.maxDepth,hrun]
     ·simp [g1,g2,Sem.run_bind,eqGuard,binOp,Op.equal,Op.maxDepth,hrun]
    ·cases hb
    ·cases hb
   ·cases h
  ·cases h
 ·cases h
end
end Go.Proofs.YtcnfgfomholheaaGreatDoor.Z
end
section
namespace Go.Proofs.YtcnfgfomholheaaGreatDoor.Z
open Go.RowKit
set_option linter.unusedVariables false
set_option linter.unusedSimpArgs false
section
variable {T:dQ} {P:Program} {W0:Fr} {σ σ' σ1:St T} {a:Act} {w w1:World} {env aZ:Nat→Value} {F F1:Nat→Nat→Prop} {o:Oper} {aX aW:List Nat}
def numOf (T:dQ) (e:Nat) (y:T.Tb e):Int:=match T.cells e y with
 | [.sc (.int .u8 n)]=>n
 | _=>0
def WS (T:dQ) (e:Nat):Prop:=∀y:T.Tb e,T.cells e y=[.sc (.int .u8 (numOf T e y))]
def G9 (σ:St T) (dst:Option Nat) (ts td:Nat) (x:Operand):eF T:=
 match T.ti ts with
 | some si=>match T.ti td with
   | some di=>match bT σ dst with
     | true=>match di.kind with
       | .num k=>match si.kind with
         | .num _=>match sv (dn σ x) with
           | some (.int _ n)=> .done ⟨.c (.sc (.int k (k.wrap n))),[],[],0,[]⟩ none
           | _=> .stuck
         | _=> .stuck
       | .text=>match si.kind with
         | .text=>match sv (dn σ x) with
           | some (.string b)=> .done ⟨.c (.sc (.string b)),[],[],0,[]⟩ none
           | _=> .stuck
         | .slice e=>match T.ti e with
           | some ei=>match ei.kind with
             | .num .u8=>match Ij σ (dn σ x) with
               | some ⟨p,e',l⟩=>match Nat.beq e' e with
                 | true=> .done ⟨.c (.sc (.string (strOfNums (l.map (numOf T e'))))),[],rV p,0,[]⟩ (some (WS T e'))
                 | false=> .stuck
               | none=> .stuck
             | _=> .stuck
           | none=> .stuck
         | _=> .stuck
       | _=> .stuck
     | false=> .stuck
   | none=> .stuck
 | none=> .stuck
theorem wB {ts td:Nat} {x:Operand} (ho:o.op= .convert ts td x) {v:Value} (h:(convert ts td (a.eval x)).run P w= .ok v w):(execOp a.eval o).run P w= .ok (.value v) w:=by
 unfold execOp;rw [ho];simp only [Sem.run_bind,h];rfl
theorem WT {e:Nat} {ei:TI} {P':Nat→Prop} {l:List (T.Tb e)} {v:Value} {ts td:Nat} (dX:T.ti e=some ei) (hsz:ei.size=1) (hn:WS T e) (hs:P.underlying ts=some (.slice e)) (he:P.underlying e=some (.int .u8)) (hd:P.underlying td=some .string) (h:Rd T.sz w P' (.sl e (l.map (T.enc e))) v):
  (convert ts td v).run P w= .ok (.string (strOfNums (l.map (numOf T e)))) w:=by
 generalize hx:l.map (T.enc e)=xs at h
 cases h with
 | nil e A c=>
   have:l=[]:=by simpa using hx
   subst this
   have h0:strOfNums ([]:List Int)=ByteArray.empty:=rfl
   simp only [List.map_nil]
   rw [h0,run_convert_bytes_string w ts td e A 0 c hs he hd]
   cases A with
   | none=>simp [Conv.bytesToString]
   | some ad=>simpa using run_bytesToString (P:=P) w ad 0 c [] (by simpa using run_loadCells_list (P:=P) w ad [] (fun j v hj=>by simp at hj))
 | sl e xs ad c f hc hp hlt hss hcell hr=>
   subst hx
   have hl:(loadCells ad l.length).run P w= .ok ((l.map (numOf T e)).map (Value.int .u8)).toArray w:=by
    have:=run_loadCells_list (P:=P) w ad ((l.map (numOf T e)).map (Value.int .u8)) (fun j v hj=>by
     simp only [List.map_map,List.getElem?_map] at hj
     obtain⟨y,hy,hv⟩:=Option.map_eq_some_iff.1 hj
     have h1:(l.map (T.enc e))[j]? =some (T.enc e y):=by simp [hy]
     have h2:T.enc e y=[.sc (.int .u8 (numOf T e y))]:=by rw [T.fQ,hn y];rfl
     have h3:=hcell j _ 0 (.sc (.int .u8 (numOf T e y))) h1 (by rw [h2];rfl)
     have h4:=hr j _ 0 (.sc (.int .u8 (numOf T e y))) h1 (by rw [h2];rfl)
     have h5:T.sz e=1:=by rw [kS dX,hsz]
     rw [h5] at h3
     simp only [Nat.mul_one,Nat.add_zero] at h3
     rw [h3]
     generalize f j 0=u at h4
     cases h4
     exact congrArg some hv)
    simpa using this
   rw [run_convert_bytes_string w ts td e _ _ c hs he hd,List.length_map,run_bytesToString w ad l.length c _ hl,foldl_push_bytes]
   simp [strOfNums,ByteArray.empty,ByteArray.emptyWithCapacity]
   rfl
theorem VY (hT:T.ok P) {ts td:Nat} {x:Operand} {U:bf T} {ob:Option Prop} (ho:o.op= .convert ts td x) (h:G9 σ o.dst ts td x= .done U ob) (hob:qx ob):dY P W0 o σ U:=by
 unfold G9 at h
 cases hsi:T.ti ts with
 | none=>rw [hsi] at h;cases h
 | some si=>
   rw [hsi] at h
   dsimp only at h
   cases hdi:T.ti td with
   | none=>rw [hdi] at h;cases h
   | some di=>
     rw [hdi] at h
     dsimp only at h
     cases hd:bT σ o.dst<;>rw [hd] at h<;>dsimp only at h
     ·cases h
     obtain⟨sinf,s1,s2,s3,s4,s5,s6,s7,s8⟩:=hT ts si hsi
     obtain⟨adY,d1,d2,d3,d4,d5,d6,d7,d8⟩:=hT td di hdi
     split at h
     ·rename_i k hk
      rw [hk] at d8
      split at h
      ·rename_i k' hk'
       rw [hk'] at s8
       split at h
       ·rename_i k'' n hn
        cases h
        refine quiet_step (bg hd) (fun σ' a w env F hA hS=>⟨.int k (k.wrap n),wB ho ?_,⟨rfl,rfl⟩⟩)
        have e1:=iY (bD hS hA (x:=x) (by simp [ho,Op.operands])) hn
        simp [convert,run_underlying s8.1,run_underlying d8.1,e1,Conv.intToInt]
       ·cases h
      ·cases h
     ·rename_i hk
      rw [hk] at d8
      split at h
      ·rename_i hk'
       rw [hk'] at s8
       split at h
       ·rename_i b hn
        cases h
        refine quiet_step (bg hd) (fun σ' a w env F hA hS=>⟨.string b,wB ho ?_,⟨rfl,rfl⟩⟩)
        have e1:=iY (bD hS hA (x:=x) (by simp [ho,Op.operands])) hn
        simp [convert,run_underlying s8.1,run_underlying d8.1,e1]
       ·cases h
      ·rename_i e hk'
       rw [hk'] at s8
       cases dX:T.ti e with
       | none=>rw [dX] at h;cases h
       | some ei=>
         rw [dX] at h
         dsimp only at h
         split at h
         ·rename_i hek
          cases hr:Ij σ (dn σ x) with
          | none=>rw [hr] at h;cases h
          | some pel=>
            obtain⟨p,e',l⟩:=pel
            rw [hr] at h
            dsimp only at h
            cases hb:Nat.beq e' e<;>rw [hb] at h<;>cases h
            have hee:=Nat.eq_of_beq_eq_true hb
            subst hee
            obtain⟨adZ,g1,g2,g3,g4,g5,g6,g7,g8⟩:=hT e' ei dX
            rw [hek] at g8
            refine quiet_step (bg hd) (fun σ' a w env F hA hS=>⟨_,wB ho ?_,⟨rfl,rfl⟩⟩)
            have e1:=bD hS hA (x:=x) (by simp [ho,Op.operands])
            obtain⟨h9,h10⟩:=Ei hS hA e1 hr (fun _ h=>h)
            exact WT dX g8.2 hob s8.1 g8.1 d8.1 h10
         ·cases h
      ·cases h
     ·cases h
end
end Go.Proofs.YtcnfgfomholheaaGreatDoor.Z
end
