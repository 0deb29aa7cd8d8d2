/- Several texts of this claim in one (a claim holds at most 60 files). -/
import Derived.OrdersHeld
import Derived.Deep.RegionHeld3
import Derived.Laws.BitsLemmas
import Derived.RowKit
import Derived.Below
import Derived.Laws.AppendOwn
import Derived.Laws.OwnMore
import Derived.Laws.MakeOwn
import Derived.Laws.Cover1
import Derived.WalkKit
import Derived.Laws.Cells
import Derived.Laws.Slices
import Derived.Laws.CopyRow
import Derived.Laws.Tables
import Derived.Laws.StructEq
import Derived.Laws.BytesString
import Derived.Laws.BytesArg
section
namespace Go.Proofs.YtcnfgfomholheaaGreatDoor.Z
open Go.RowKit
set_option linter.unusedVariables false
set_option linter.unusedSimpArgs false
inductive V where
 | sc (v:Value)
 | sl (e:Nat) (xs:List (List V))
section
variable {sz:Nat→Nat} {w w':World} {P P':Nat→Prop} {x:V} {v:Value}
inductive Rd (sz:Nat→Nat) (w:World) (P:Nat→Prop):V→Value→Prop
 | sc (v:Value) (h:v.oneCell'=true):Rd sz w P (.sc v) v
 | nil (e:Nat) (A:Option Addr) (c:Nat):Rd sz w P (.sl e []) (.slice A 0 c)
 | sl (e:Nat) (xs:List (List V)) (ad:Addr) (c:Nat) (f:Nat→Nat→Value) (hc:xs.length≤c) (hp:P ad.block) (hlt:ad.block<w.heap.size)
   (hs:∀(j:Nat) (l:List V),xs[j]? =some l→l.length=sz e)
   (hcell:∀(j:Nat) (l:List V) (q:Nat) (x:V),xs[j]? =some l→l[q]? =some x→w.cell? (ad.add (j*sz e+q))=some (f j q))
   (hr:∀(j:Nat) (l:List V) (q:Nat) (x:V),xs[j]? =some l→l[q]? =some x→Rd sz w P x (f j q)):Rd sz w P (.sl e xs) (.slice (some ad) xs.length c)
theorem Rd.mono (h:Rd sz w P x v) (hp:∀k,P k→P' k):Rd sz w P' x v:=by
 induction h with
 | sc v h=>exact .sc v h
 | nil e A c=>exact .nil e A c
 | sl e xs ad c f hc h1 hlt hs hcell hr ih=>exact .sl e xs ad c f hc (hp _ h1) hlt hs hcell ih
theorem Rd.bound (h:Rd sz w P x v):Rd sz w (fun k=>P k∧k<w.heap.size) x v:=by
 induction h with
 | sc v h=>exact .sc v h
 | nil e A c=>exact .nil e A c
 | sl e xs ad c f hc h1 hlt hs hcell hr ih=>exact .sl e xs ad c f hc ⟨h1,hlt⟩ hlt hs hcell ih
theorem Rd.frame (h:Rd sz w P x v) (hsz:w.heap.size≤w'.heap.size) (hf:∀k,P k→k<w.heap.size→w'.heap[k]? =w.heap[k]?):Rd sz w' P x v:=by
 induction h with
 | sc v h=>exact .sc v h
 | nil e A c=>exact .nil e A c
 | sl e xs ad c f hc h1 hlt hs hcell hr ih=>
   refine .sl e xs ad c f hc h1 (Nat.lt_of_lt_of_le hlt hsz) hs (fun j l q x hj hq=>?_) ih
   have h2:=hcell j l q x hj hq
   have h3:(ad.add (j*sz e+q)).block=ad.block:=by unfold Addr.add;split<;>rfl
   have h4:=World.block_lt_of_cell? w _ h2
   rw [h3] at h4
   exact(World.cell?_of_block (w:=w) (by rw [h3];exact hf _ h1 h4)).trans h2
theorem Rd.one (h:Rd sz w P x v):v.oneCell'=true:=by cases h<;>first | assumption | rfl
theorem Rd.slice {e:Nat} {xs:List (List V)} (h:Rd sz w P (.sl e xs) v):∃A c,v= .slice A xs.length c∧xs.length≤c:=by
 cases h with
 | nil e A c=>exact⟨A,c,rfl,Nat.zero_le _⟩
 | sl e xs ad c f hc hp hlt hs hcell hr=>exact⟨some ad,c,rfl,hc⟩
theorem Rd.elem {e:Nat} {xs:List (List V)} (h:Rd sz w P (.sl e xs) v) {j:Nat} {l:List V} (hj:xs[j]? =some l):
  ∃ad c,v= .slice (some ad) xs.length c∧P ad.block∧ad.block<w.heap.size∧xs.length≤c∧l.length=sz e∧∀q x,l[q]? =some x→∃u,w.cell? (ad.add (j*sz e+q))=some u∧Rd sz w P x u:=by
 cases h with
 | nil e A c=>simp at hj
 | sl e xs ad c f hc hp hlt hs hcell hr=>exact⟨ad,c,rfl,hp,hlt,hc,hs j l hj,fun q x hq=>⟨f j q,hcell j l q x hj hq,hr j l q x hj hq⟩⟩
inductive Ow (sz:Nat→Nat) (w:World):(Nat→Prop)→V→Value→Prop
 | sc (F:Nat→Prop) (v:Value) (h:v.oneCell'=true):Ow sz w F (.sc v) v
 | nil (F:Nat→Prop) (e:Nat):Ow sz w F (.sl e []) (.slice none 0 0)
 | sl (F:Nat→Prop) (e:Nat) (xs:List (List V)) (g cap:Nat) (cur:Array Value) (f:Nat→Nat→Value) (G:Nat→Nat→Nat→Prop)
   (hg:w.heap[g]? =some (.cells cur e (0,0))) (hF:F g) (hn:xs.length≤cap) (hm:cap≤maxLen) (hz:cur.size=cap*sz e)
   (hs:∀(j:Nat) (l:List V),xs[j]? =some l→l.length=sz e)
   (hcell:∀(j:Nat) (l:List V) (q:Nat) (x:V),xs[j]? =some l→l[q]? =some x→cur[j*sz e+q]? =some (f j q))
   (hr:∀(j:Nat) (l:List V) (q:Nat) (x:V),xs[j]? =some l→l[q]? =some x→Ow sz w (G j q) x (f j q))
   (hG:∀j q k,G j q k→F k∧k≠g) (hd:∀j q j' q' k,G j q k→G j' q' k→j=j'∧q=q'):Ow sz w F (.sl e xs) (.slice (some ⟨g,0,none⟩) xs.length cap)
variable {F F':Nat→Prop}
theorem Ow.mono (h:Ow sz w F x v):∀{F':Nat→Prop},(∀k,F k→F' k)→Ow sz w F' x v:=by
 induction h with
 | sc F v h=>exact fun _=> .sc _ v h
 | nil F e=>exact fun _=> .nil _ e
 | sl F e xs g cap cur f G hg hF hn hm hz hs hcell hr hG hd ih=>
   intro F' hp
   exact .sl F' e xs g cap cur f G hg (hp _ hF) hn hm hz hs hcell hr (fun j q k hk=>⟨hp _ (hG j q k hk).1,(hG j q k hk).2⟩) hd
theorem Ow.frame (h:Ow sz w F x v) (hf:∀k,F k→k<w.heap.size→w'.heap[k]? =w.heap[k]?):Ow sz w' F x v:=by
 induction h with
 | sc F v h=>exact .sc _ v h
 | nil F e=>exact .nil _ e
 | sl F e xs g cap cur f G hg hF hn hm hz hs hcell hr hG hd ih=>
   have hlt:g<w.heap.size:=(Array.getElem?_eq_some_iff.1 hg).1
   exact .sl F e xs g cap cur f G ((hf g hF hlt).trans hg) hF hn hm hz hs hcell (fun j l q x hj hq=>ih j l q x hj hq (fun k hk hl=>hf k (hG j q k hk).1 hl)) hG hd
theorem Ow.bound (h:Ow sz w F x v):Ow sz w (fun k=>F k∧k<w.heap.size) x v:=by
 induction h with
 | sc F v h=>exact .sc _ v h
 | nil F e=>exact .nil _ e
 | sl F e xs g cap cur f G hg hF hn hm hz hs hcell hr hG hd ih=>
   have hlt:g<w.heap.size:=(Array.getElem?_eq_some_iff.1 hg).1
   exact .sl _ e xs g cap cur f (fun j q k=>G j q k∧k<w.heap.size) hg ⟨hF,hlt⟩ hn hm hz hs hcell ih (fun j q k hk=>⟨⟨(hG j q k hk.1).1,hk.2⟩,(hG j q k hk.1).2⟩) (fun j q j' q' k h1 h2=>hd j q j' q' k h1.1 h2.1)
theorem Ow.one (h:Ow sz w F x v):v.oneCell'=true:=by cases h<;>first | assumption | rfl
theorem Ow.form {e:Nat} {xs:List (List V)} (h:Ow sz w F (.sl e xs) v):(xs=[]∧v= .slice none 0 0)∨∃g cap cur,v= .slice (some ⟨g,0,none⟩) xs.length cap∧F g∧w.heap[g]? =some (.cells cur e (0,0))∧xs.length≤cap∧cap≤maxLen∧cur.size=cap*sz e:=by
 cases h with
 | nil F e=>exact .inl ⟨rfl,rfl⟩
 | sl F e xs g cap cur f G hg hF hn hm hz hs hcell hr hG hd=>exact .inr ⟨g,cap,cur,rfl,hF,hg,hn,hm,hz⟩
theorem qG {g o:Nat} {cur:Array Value} {e:Nat} {fr:Nat × Nat} (h:w.heap[g]? =some (.cells cur e fr)):w.cell? ((⟨g,0,none⟩:Addr).add o)=cur[o]?:=by
 have:(⟨g,0,none⟩:Addr).add o=⟨g,o,none⟩:=by unfold Addr.add;split<;>simp_all
 rw [this];simp [World.cell?,h]
theorem Ow.rd (h:Ow sz w F x v):Rd sz w F x v:=by
 induction h with
 | sc F v h=>exact .sc v h
 | nil F e=>exact .nil e none 0
 | sl F e xs g cap cur f G hg hF hn hm hz hs hcell hr hG hd ih=>
   refine .sl e xs ⟨g,0,none⟩ cap f hn hF (Array.getElem?_eq_some_iff.1 hg).1 hs (fun j l q x hj hq=>?_) (fun j l q x hj hq=>(ih j l q x hj hq).mono (fun k hk=>(hG j q k hk).1))
   rw [qG hg];exact hcell j l q x hj hq
end
end Go.Proofs.YtcnfgfomholheaaGreatDoor.Z
end
section
namespace Go.Proofs.YtcnfgfomholheaaGreatDoor.Z
open Go.RowKit
set_option linter.unusedVariables false
inductive C0 (Tb:Nat→Type) where
 | sc (v:Value)
 | sl (e:Nat) (l:List (Tb e))
inductive TK where
 | one
 | num (k:IntKind)
 | text
 | slice (e:Nat)
 | str (jr:List (Nat × Nat))
structure TI where
 size:Nat
 bytes:Nat
 zero:List Value
 kind:TK
def C0.DX {Tb:Nat→Type} (enc:(e:Nat)→Tb e→List V):C0 Tb→V
 | .sc v=> .sc v
 | .sl e l=> .sl e (l.map (enc e))
def C0.one {Tb:Nat→Type}:C0 Tb→Bool
 | .sc v=>v.oneCell'
 | .sl _ _=>true
structure dV where
 Tb:Nat→Type
 df:(e:Nat)→Tb e
 cells:(e:Nat)→Tb e→List (C0 Tb)
 yN:(e:Nat)→List (C0 Tb)→Option (Tb e)
 enc:(e:Nat)→Tb e→List V
 el:Nat→Bool
 ti:Nat→Option TI
 gZ:∀e x,enc e x=(cells e x).map (C0.DX enc)
 mk_eq:∀e cs x,yN e cs=some x→cells e x=cs
 one:∀e x c,c∈cells e x→c.one=true
 len:∀e x (i:TI),el e=true→ti e=some i→(cells e x).length=i.size
 J:World→Prop
 jk:∀{w w':World},Below w.heap.size w w'→J w→J w'
def dV.sz (T:dV) (e:Nat):Nat:=match T.ti e with
 | some i=>i.size
 | none=>0
def fK (P:Program) (t:Nat) (i:TI):Prop:=∃inf,P.info? t=some inf∧inf.size=i.size∧inf.bytes=i.bytes∧(∃z,inf.zero=some z∧z.cells=i.zero.toArray)∧i.zero.length=i.size∧0<i.size∧0<i.bytes∧match i.kind with
 | .one=>(∃d,P.underlying t=some d∧(∀fs,d≠ .struct fs)∧∀n e,d≠ .array n e)∧i.size=1
 | .num k=>P.underlying t=some (.int k)∧i.size=1
 | .text=>P.underlying t=some .string∧i.size=1
 | .slice e=>P.underlying t=some (.slice e)∧i.size=1
 | .str jr=>∃fs,P.underlying t=some (.struct fs)∧fs.toList.mapM (fun f=>(P.info? f.type).map fun i=>(f.offset,i.size))=some jr∧∀p∈jr,p.2≠0
def dV.ok (T:dV) (P:Program):Prop:=∀t i,T.ti t=some i→fK P t i
inductive Cell (T:dV) where
 | un
 | sc (v:Value)
 | im (p:Option (Nat × Nat)) (e:Nat) (l:List (T.Tb e))
 | hd (r:Nat)
 | px (r o:Nat)
inductive Slot (T:dV) where
 | ud
 | c (x:Cell T)
 | ag (l:List (Cell T))
 | tu (l:List (Bool × List (Cell T)))
 | pi (p:Option (Nat × Nat)) (e:Nat) (l:List (T.Tb e)) (i o:Nat)
 | pe (r i o:Nat)
 | pl (r bv i o e:Nat) (l:List (T.Tb e))
 | fn (f:FuncId) (r:Nat)
inductive dK (T:dV) where
 | no
 | bx (t:Nat) (cs:List (Cell T))
 | row (bv e:Nat) (l:List (T.Tb e))
 | sh (bv e:Nat) (l:List (T.Tb e))
structure St (T:dV) where
 tm:List (Nat × Slot T)
 rs:List (Nat × dK T)
 n:Nat
 A:Nat→Prop
def lk {α:Type} (d:α):List (Nat × α)→Nat→α
 | [],_=>d
 | (k,a)::r,t=>match Nat.beq k t with
   | true=>a
   | false=>lk d r t
section
variable {T:dV}
def St.tmp (σ:St T) (t:Nat):Slot T:=lk (.c .un) σ.tm t
def St.res (σ:St T) (r:Nat):dK T:=lk .no σ.rs r
def St.put (σ:St T) (t:Nat) (s:Slot T):St T:=⟨(t,s)::σ.tm,σ.rs,σ.n,σ.A⟩
def Cell.refs:Cell T→List Nat
 | .im (some p) _ _=>[p.1,p.2]
 | .hd r=>[r]
 | .px r _=>[r]
 | _=>[]
def refsOf:List (Cell T)→List Nat
 | []=>[]
 | c::r=>c.refs++refsOf r
def Ew:List (Bool × List (Cell T))→List Nat
 | []=>[]
 | c::r=>refsOf c.2++Ew r
def Slot.refs:Slot T→List Nat
 | .ud=>[]
 | .c x=>x.refs
 | .ag l=>refsOf l
 | .tu l=>Ew l
 | .pi (some p) _ _ _ _=>[p.1,p.2]
 | .pi none _ _ _ _=>[]
 | .pe r _ _=>[r]
 | .pl r bv _ _ _ _=>[r,bv]
 | .fn _ r=>[r]
def dK.refs:dK T→List Nat
 | .bx _ cs=>refsOf cs
 | _=>[]
def jM (A:Nat→Prop) (F:Nat→Nat→Prop) (p:Option (Nat × Nat)) (k:Nat):Prop:=(A k∧∀r,¬F r k)∨∃q,p=some q∧F q.1 k
def St.live (σ:St T):Option (Nat × Nat)→Prop
 | none=>True
 | some q=>∃e l,σ.res q.1= .row q.2 e l
def jg (σ:St T) (env:Nat→Value) (F:Nat→Nat→Prop) (w:World):Cell T→Value→Prop
 | .un,_=>True
 | .sc v',v=>v=v'∧v.oneCell'=true
 | .im p e l,v=>v.oneCell'=true∧(σ.live p→Rd T.sz w (jM σ.A F p) (.sl e (l.map (T.enc e))) v)
 | .hd r,v=>v=env r∧v.oneCell'=true
 | .px r o,v=>∃g,env r= .pointer (some ⟨g,0,none⟩)∧v= .pointer (some ⟨g,o,none⟩)
def aW (σ:St T) (env:Nat→Value) (F:Nat→Nat→Prop) (w:World):List (Cell T)→List Value→Prop
 | [],vs=>vs=[]
 | c::cs,vs=>∃v r,vs=v::r∧jg σ env F w c v∧aW σ env F w cs r
def um (σ:St T) (env:Nat→Value) (F:Nat→Nat→Prop) (w:World) (it:Bool × List (Cell T)) (v:Value):Prop:=
 match it.1 with
 | true=>∃us:Array Value,v= .agg us∧aW σ env F w it.2 us.toList
 | false=>aW σ env F w it.2 [v]
def lS (σ:St T) (env:Nat→Value) (F:Nat→Nat→Prop) (w:World):List (Bool × List (Cell T))→List Value→Prop
 | [],vs=>vs=[]
 | c::cs,vs=>∃v r,vs=v::r∧um σ env F w c v∧lS σ env F w cs r
def bY (σ:St T) (env:Nat→Value) (F:Nat→Nat→Prop) (w:World):Slot T→Value→Prop
 | .ud,v=>v=undef
 | .c x,v=>jg σ env F w x v
 | .ag l,v=>∃us:Array Value,v= .agg us∧aW σ env F w l us.toList
 | .tu l,v=>∃us:Array Value,v= .tuple us∧lS σ env F w l us.toList
 | .pi p e l i o,v=>i<l.length∧∃ad,v= .pointer (some (ad.add (i*T.sz e+o)))∧(σ.live p→∃c,Rd T.sz w (jM σ.A F p) (.sl e (l.map (T.enc e))) (.slice (some ad) l.length c))
 | .pe r i o,v=>(∀bv e l,σ.res r= .row bv e l→i<l.length∧∃g c,env r= .slice (some ⟨g,0,none⟩) l.length c∧v= .pointer (some ((⟨g,0,none⟩:Addr).add (i*T.sz e+o))))∧∀bv e l,σ.res r= .sh bv e l→i<l.length∧∃g c,env r= .slice (some ⟨g,0,none⟩) l.length c∧v= .pointer (some ((⟨g,0,none⟩:Addr).add (i*T.sz e+o)))
 | .pl r bv i o e l,v=>jg σ env F w (.im (some (r,bv)) e l) v∧∀e' l',σ.res r= .row bv e' l'→i<l'.length∧∃g c,F r g∧env r= .slice (some ⟨g,0,none⟩) l'.length c∧w.cell? ((⟨g,0,none⟩:Addr).add (i*T.sz e'+o))=some v
 | .fn f r,v=>∃g,env r= .pointer (some ⟨g,0,none⟩)∧v= .func (.func f) #[] #[.pointer (some ⟨g,0,none⟩)]
structure ShR (sz:Nat→Nat) (R:Nat→Prop) (w:World) (G:Nat→Prop) (e:Nat) (xs:List (List V)) (v:Value) (raw:List (List Value)):Prop where
 ow:Ow sz w G (.sl e (raw.map (fun l=>l.map V.sc))) v
 len:raw.length=xs.length
 els:∀(j:Nat) (r:List Value) (x:List V),raw[j]? =some r→xs[j]? =some x→r.length=x.length∧∀(q:Nat) (u:Value) (y:V),r[q]? =some u→x[q]? =some y→Rd sz w R y u
def Sh (sz:Nat→Nat) (R:Nat→Prop) (w:World) (G:Nat→Prop) (e:Nat) (xs:List (List V)) (v:Value):Prop:=∃raw,ShR sz R w G e xs v raw
def xO (σ:St T) (env:Nat→Value) (F:Nat→Nat→Prop) (w:World) (r:Nat):dK T→Prop
 | .no=>∀k,¬F r k
 | .bx t cs=>∃g arr,env r= .pointer (some ⟨g,0,none⟩)∧F r g∧(∀k,F r k→k=g)∧w.heap[g]? =some (.cells arr t (0,0))∧aW σ env F w cs arr.toList
 | .row _ e l=>Ow T.sz w (F r) (.sl e (l.map (T.enc e))) (env r)
 | .sh _ e l=>Sh T.sz (jM σ.A F none) w (F r) e (l.map (T.enc e)) (env r)
structure Fr extends World where
 pn:Nat→Value
 X:Nat→Prop
 V:World
def Fr.may (W0:Fr) (k:Nat):Prop:=(W0.heap.size≤k∨W0.X k)∧W0.V.heap.size≤k
structure nI (W0:Fr) (w:World):Prop where
 os:w.os=W0.os
 tape:w.tape=W0.tape
 output:w.output=W0.output
 size:W0.heap.size≤w.heap.size
 block:∀k,k<W0.heap.size→¬W0.X k→w.heap[k]? =W0.heap[k]?
 base:Below W0.V.heap.size W0.V w
theorem nI.may {W0:Fr} {w:World} (h:nI W0 w) {k:Nat} (hk:w.heap.size≤k):W0.may k:=⟨.inl (Nat.le_trans h.size hk),Nat.le_trans h.base.size hk⟩
theorem nI.step {W0:Fr} {w w1:World} (h:nI W0 w) (h1:w1.os=w.os) (h2:w1.tape=w.tape) (h3:w1.output=w.output) (h4:w.heap.size≤w1.heap.size) (h5:∀k,k<w.heap.size→¬W0.may k→w1.heap[k]? =w.heap[k]?):nI W0 w1:=
 ⟨h1.trans h.os,h2.trans h.tape,h3.trans h.output,Nat.le_trans h.size h4,fun k hk hx=>(h5 k (Nat.lt_of_lt_of_le hk h.size) (fun hm=>hm.1.elim (fun h=>by omega) hx)).trans (h.block k hk hx),
  h1.trans h.base.os,h2.trans h.base.tape,h3.trans h.base.output,Nat.le_trans h.base.size h4,fun k hk=>(h5 k (Nat.lt_of_lt_of_le hk h.base.size) (fun hm=>by have:=hm.2;omega)).trans (h.base.block k hk)⟩
structure dZ (W0:Fr) (σ:St T) (a:Act) (w:World) (env:Nat→Value) (F:Nat→Nat→Prop):Prop where
 below:nI W0 w
 tab:T.J W0.V
 pin:∀r,1000≤r→env r=W0.pn r
 acc:∀k,W0.may k→σ.A k
 size:a.tmps.size=σ.n
 defers:a.defers=[]
 res:∀r,xO σ env F w r (σ.res r)
 own:∀r k,F r k→W0.may k∧k<w.heap.size
 apart:∀r s k,F r k→F s k→r=s
 tm:∀t,bY σ env F w (σ.tmp t) (a.tmps.getD t undef)
def jO (W0:Fr) (σ:St T) (a:Act) (w:World):Prop:=∃env F,dZ W0 σ a w env F
inductive R0 (Tb:Nat→Type) where
 | sc (v:Value)
 | ow (e:Nat) (l:List (Tb e))
 | im (e:Nat) (l:List (Tb e))
 | bx (t:Nat) (cs:List (C0 Tb))
inductive RS (Tb:Nat→Type) where
 | c (x:R0 Tb)
 | ag (l:List (R0 Tb))
 | tu (l:List (Bool × List (R0 Tb)))
inductive Arg (Tb:Nat→Type) where
 | c (x:C0 Tb)
 | ag (l:List (C0 Tb))
def uf (w:World) (S:Nat→Prop):C0 T.Tb→Value→Prop
 | .sc v',v=>v=v'∧v.oneCell'=true
 | .sl e l,v=>Rd T.sz w S (.sl e (l.map (T.enc e))) v
def dX (w:World) (S:Nat→Prop):List (C0 T.Tb)→List Value→Prop
 | [],vs=>vs=[]
 | c::cs,vs=>∃v r,vs=v::r∧uf w S c v∧dX w S cs r
def ArgRel (w:World) (S:Nat→Prop):Arg T.Tb→Value→Prop
 | .c x,v=>uf w S x v
 | .ag l,v=>∃us:Array Value,v= .agg us∧dX w S l us.toList
def oh (w:World) (S:Nat→Prop):List (Arg T.Tb)→List Value→Prop
 | [],vs=>vs=[]
 | c::cs,vs=>∃v r,vs=v::r∧ArgRel w S c v∧oh w S cs r
def dI (w':World) (S:Nat→Prop) (G:Nat→Nat→Prop):Nat→List (R0 T.Tb)→List Value→Prop
 | _,[],vs=>vs=[]
 | i, .sc v'::cs,vs=>∃r,vs=v'::r∧v'.oneCell'=true∧dI w' S G (i+1) cs r
 | i, .ow e l::cs,vs=>∃v r,vs=v::r∧Ow T.sz w' (G i) (.sl e (l.map (T.enc e))) v∧dI w' S G (i+1) cs r
 | i, .im e l::cs,vs=>∃v r,vs=v::r∧Rd T.sz w' S (.sl e (l.map (T.enc e))) v∧dI w' S G (i+1) cs r
 | i, .bx t xs::cs,vs=>∃v r,vs=v::r∧(∃g us,v= .pointer (some ⟨g,0,none⟩)∧G i g∧(∀k,G i k→k=g)∧w'.heap[g]? =some (.cells us t (0,0))∧dX w' S xs us.toList)∧dI w' S G (i+1) cs r
def D9:List (Bool × List (R0 T.Tb))→List (R0 T.Tb)
 | []=>[]
 | it::l=>it.2++D9 l
def RS.flat:RS T.Tb→List (R0 T.Tb)
 | .c x=>[x]
 | .ag l=>l
 | .tu l=>D9 l
def yS:List (Bool × List (R0 T.Tb))→List Value→List Value→Prop
 | [],vs,fv=>vs=[]∧fv=[]
 | it::l,vs,fv=>∃v r f1 f2,vs=v::r∧fv=f1++f2∧f1.length=it.2.length∧(match it.1 with
   | true=>∃us:Array Value,v= .agg us∧us.toList=f1
   | false=>f1=[v])∧yS l r f2
def uO:RS T.Tb→Value→List Value→Prop
 | .c _,v,fv=>fv=[v]
 | .ag l,v,fv=>∃us:Array Value,v= .agg us∧us.toList=fv
 | .tu l,v,fv=>∃us:Array Value,v= .tuple us∧yS l us.toList fv
def Enters (P:Program) (f:FuncId):Prop:=∃fn,P.funcs[f]? =some fn∧(fn.name== "runtime.NumGoroutine")=false∧fn.body.isSome=true
def aG (T:dV) (P:Program) (f:FuncId) (args:List (Arg T.Tb)) (res:RS T.Tb):Prop:=
 Enters P f∧∀(w:World) (vs:List Value) (S:Nat→Prop),T.J w→oh w S args vs→Calls P f vs.toArray w fun e w'=>∃v G,e= .returned v∧Below w.heap.size w w'∧
  (∀i k,G i k→w.heap.size≤k∧k<w'.heap.size)∧(∀i j k,G i k→G j k→i=j)∧
  ∃fv,uO res v fv∧dI w' (fun k=>S k∧k<w.heap.size∨w.heap.size≤k∧∀i,¬G i k) G 0 res.flat fv
end
end Go.Proofs.YtcnfgfomholheaaGreatDoor.Z
end
section
namespace Go.Proofs.YtcnfgfomholheaaGreatDoor.Z
open Go.RowKit
set_option linter.unusedVariables false
set_option linter.unusedSimpArgs false
section
variable {T:dV} {σ σ1:St T} {env bC:Nat→Value} {F F1:Nat→Nat→Prop} {w w1:World}
def Cell.vers:Cell T→List (Nat × Nat)
 | .im (some p) _ _=>[p]
 | _=>[]
def qj:List (Cell T)→List (Nat × Nat)
 | []=>[]
 | c::r=>c.vers++qj r
def Ey:List (Bool × List (Cell T))→List (Nat × Nat)
 | []=>[]
 | c::r=>qj c.2++Ey r
def Slot.vers:Slot T→List (Nat × Nat)
 | .ud=>[]
 | .c x=>x.vers
 | .ag l=>qj l
 | .tu l=>Ey l
 | .pi (some p) _ _ _ _=>[p]
 | .pi none _ _ _ _=>[]
 | .pe _ _ _=>[]
 | .pl r bv _ _ _ _=>[(r,bv)]
 | .fn _ _=>[]
structure Calm (σ σ1:St T) (F F1:Nat→Nat→Prop) (w w1:World):Prop where
 acc:σ1.A=σ.A
 size:w.heap.size≤w1.heap.size
 st:∀k,k<w.heap.size→(∀r,¬F r k)→(∀r,¬F1 r k)∧w1.heap[k]? =w.heap[k]?
def Holds (σ σ1:St T) (F F1:Nat→Nat→Prop) (w w1:World) (q:Nat × Nat):Prop:=σ1.live (some q)→σ.live (some q)∧∀k,F q.1 k→k<w.heap.size→F1 q.1 k∧w1.heap[k]? =w.heap[k]?
theorem zY (hc:Calm σ σ1 F F1 w w1) {p:Option (Nat × Nat)} {x:V} {v:Value} (hq:∀q,p=some q→∀k,F q.1 k→k<w.heap.size→F1 q.1 k∧w1.heap[k]? =w.heap[k]?) (h:Rd T.sz w (jM σ.A F p) x v):Rd T.sz w1 (jM σ1.A F1 p) x v:=by
 have h2:=h.bound
 refine(h2.frame hc.size ?_).mono ?_
 ·rintro k ⟨hk,_⟩ hlt
  rcases hk with ⟨ha,hk⟩ | ⟨q,hp,hk⟩
  ·exact(hc.st k hlt hk).2
  ·exact(hq q hp k hk hlt).2
 ·rintro k ⟨hk,hlt⟩
  rcases hk with ⟨ha,hk⟩ | ⟨q,hp,hk⟩
  ·exact .inl ⟨by rw [hc.acc];exact ha,(hc.st k hlt hk).1⟩
  ·exact .inr ⟨q,hp,(hq q hp k hk hlt).1⟩
theorem Ez (hc:Calm σ σ1 F F1 w w1) {c:Cell T} {v:Value} (h:jg σ env F w c v) (he:∀r∈c.refs,bC r=env r) (hv:∀q∈c.vers,Holds σ σ1 F F1 w w1 q):jg σ1 bC F1 w1 c v:=by
 cases c with
 | un=>trivial
 | sc v'=>exact h
 | im p e l=>
   refine⟨h.1,fun hl=>?_⟩
   cases p with
   | none=>exact zY hc (fun q hq=>by cases hq) (h.2 trivial)
   | some q=>
     have h1:=hv q (by simp [Cell.vers]) hl
     exact zY hc (fun q' hq=>by cases hq;exact h1.2) (h.2 h1.1)
 | hd r=>exact⟨h.1.trans (he r (by simp [Cell.refs])).symm,h.2⟩
 | px r o=>
   obtain⟨g,h1,h2⟩:=h
   exact⟨g,(he r (by simp [Cell.refs])).trans h1,h2⟩
theorem lJ (hc:Calm σ σ1 F F1 w w1):∀{cs:List (Cell T)} {vs:List Value},aW σ env F w cs vs→(∀r∈refsOf cs,bC r=env r)→(∀q∈qj cs,Holds σ σ1 F F1 w w1 q)→aW σ1 bC F1 w1 cs vs
 | [],_,h,_,_=>h
 | c::cs,_,⟨v,r,e,h1,h2⟩,he,hv=>⟨v,r,e,Ez hc h1 (fun r hr=>he r (List.mem_append_left _ hr)) (fun q hq=>hv q (List.mem_append_left _ hq)),lJ hc h2 (fun r hr=>he r (List.mem_append_right _ hr)) (fun q hq=>hv q (List.mem_append_right _ hq))⟩
theorem Y4 (hc:Calm σ σ1 F F1 w w1) {it:Bool × List (Cell T)} {v:Value} (h:um σ env F w it v) (he:∀r∈refsOf it.2,bC r=env r) (hv:∀q∈qj it.2,Holds σ σ1 F F1 w w1 q):um σ1 bC F1 w1 it v:=by
 obtain⟨b,cs⟩:=it
 cases b with
 | true=>obtain⟨us,e,h⟩:=h;exact⟨us,e,lJ hc h he hv⟩
 | false=>exact lJ (vs:=[v]) hc h he hv
theorem J3 (hc:Calm σ σ1 F F1 w w1):∀{cs:List (Bool × List (Cell T))} {vs:List Value},lS σ env F w cs vs→(∀r∈Ew cs,bC r=env r)→(∀q∈Ey cs,Holds σ σ1 F F1 w w1 q)→lS σ1 bC F1 w1 cs vs
 | [],_,h,_,_=>h
 | c::cs,_,⟨v,r,e,h1,h2⟩,he,hv=>⟨v,r,e,Y4 hc h1 (fun r hr=>he r (List.mem_append_left _ hr)) (fun q hq=>hv q (List.mem_append_left _ hq)),J3 hc h2 (fun r hr=>he r (List.mem_append_right _ hr)) (fun q hq=>hv q (List.mem_append_right _ hq))⟩
def Rk (σ σ1:St T) (r:Nat):Prop:=(∀bv e l,σ1.res r= .row bv e l→∃J4 l0,σ.res r= .row J4 e l0∧l0.length=l.length)∧∀bv e l,σ1.res r= .sh bv e l→∃J4 l0,σ.res r= .sh J4 e l0∧l0.length=l.length
theorem yY (hc:Calm σ σ1 F F1 w w1) {s:Slot T} {v:Value} (h:bY σ env F w s v) (he:∀r∈s.refs,bC r=env r) (hv:∀q∈s.vers,Holds σ σ1 F F1 w w1 q) (hp:∀r i o,(s= .pe r i o∨∃bv e l,s= .pl r bv i o e l)→Rk σ σ1 r):bY σ1 bC F1 w1 s v:=by
 cases s with
 | ud=>exact h
 | c x=>exact Ez hc h he hv
 | ag l=>obtain⟨us,e,h⟩:=h;exact⟨us,e,lJ hc h he hv⟩
 | tu l=>obtain⟨us,e,h⟩:=h;exact⟨us,e,J3 hc h he hv⟩
 | pi p e l i o=>
   obtain⟨hi,ad,hv',h⟩:=h
   refine⟨hi,ad,hv',fun hl=>?_⟩
   cases p with
   | none=>
     obtain⟨c,h⟩:=h trivial
     exact⟨c,zY hc (fun q hq=>by cases hq) h⟩
   | some q=>
     have h1:=hv q (by simp [Slot.vers]) hl
     obtain⟨c,h⟩:=h h1.1
     exact⟨c,zY hc (fun q' hq=>by cases hq;exact h1.2) h⟩
 | pe r i o=>
   refine⟨fun bv e l hr=>?_,fun bv e l hr=>?_⟩
   ·obtain⟨J4,l0,h0,hl⟩:=(hp r i o (.inl rfl)).1 bv e l hr
    obtain⟨hi,g,c,h1,h2⟩:=h.1 J4 e l0 h0
    exact⟨hl▸hi,g,c,by rw [he r (by simp [Slot.refs]),h1,hl],h2⟩
   ·obtain⟨J4,l0,h0,hl⟩:=(hp r i o (.inl rfl)).2 bv e l hr
    obtain⟨hi,g,c,h1,h2⟩:=h.2 J4 e l0 h0
    exact⟨hl▸hi,g,c,by rw [he r (by simp [Slot.refs]),h1,hl],h2⟩
 | fn f r=>
   obtain⟨g,h1,h2⟩:=h
   exact⟨g,(he r (by simp [Slot.refs])).trans h1,h2⟩
 | pl r bv i o e l=>
   refine⟨Ez hc h.1 (fun q hq=>he q hq) (fun q hq=>hv q hq),fun e' l' hr=>?_⟩
   obtain⟨J4,l0,h0,hl⟩:=(hp r i o (.inr ⟨bv,e,l,rfl⟩)).1 bv e' l' hr
   obtain⟨⟨e2,l2,h2⟩,hk⟩:=hv (r,bv) (by simp [Slot.vers]) ⟨e',l',hr⟩
   have e3:J4=bv:=by rw [h0] at h2;cases h2;rfl
   subst e3
   obtain⟨hi,g,c,hF,h1,h3⟩:=h.2 e' l0 h0
   have hb:((⟨g,0,none⟩:Addr).add (i*T.sz e'+o)).block=g:=by unfold Addr.add;split<;>rfl
   have hlt:=World.block_lt_of_cell? w _ h3
   rw [hb] at hlt
   exact⟨hl▸hi,g,c,(hk g hF hlt).1,by rw [he r (by simp [Slot.refs]),h1,hl],(World.cell?_of_block (w:=w) (by rw [hb];exact(hk g hF hlt).2)).trans h3⟩
theorem Sh.rd {sz:Nat→Nat} {R P G:Nat→Prop} {e:Nat} {xs:List (List V)} {v:Value} (h:Sh sz R w G e xs v) (hG:∀k,G k→P k) (hR:∀k,R k→P k):Rd sz w P (.sl e xs) v:=by
 obtain⟨raw,h1,h2,h3⟩:=h
 generalize hm:raw.map (fun l=>l.map V.sc)=m at h1
 have hml:m.length=xs.length:=by rw [←hm,List.length_map,h2]
 cases h1 with
 | nil F e=>
   have:xs=[]:=List.eq_nil_of_length_eq_zero (by simpa using hml.symm)
   subst this
   exact .nil e none 0
 | sl F e m g cap cur f G' hg hF hn hmx hz hs hcell hr hG' hd=>
   rw [hml] at hn⊢
   have key:∀(j:Nat) (l:List V),xs[j]? =some l→∃r,raw[j]? =some r∧m[j]? =some (r.map V.sc):=fun j l hj=>by
    have hj':j<raw.length:=by rw [h2];exact(List.getElem?_eq_some_iff.1 hj).1
    exact⟨raw[j],List.getElem?_eq_getElem hj',by rw [←hm,List.getElem?_map,List.getElem?_eq_getElem hj'];rfl⟩
   have key2:∀(j:Nat) (l:List V) (q:Nat) (x:V),xs[j]? =some l→l[q]? =some x→cur[j*sz e+q]? =some (f j q)∧Rd sz w R x (f j q):=fun j l q x hj hq=>by
    obtain⟨r,k1,k2⟩:=key j l hj
    obtain⟨k3,k4⟩:=h3 j r l k1 hj
    have hq':q<r.length:=by rw [k3];exact(List.getElem?_eq_some_iff.1 hq).1
    have k5:(r.map V.sc)[q]? =some (.sc r[q]):=by rw [List.getElem?_map,List.getElem?_eq_getElem hq'];rfl
    have k6:=hr j _ q _ k2 k5
    have k7:f j q=r[q]:=by
     generalize f j q=fv at k6⊢
     generalize r[q]=rv at k6⊢
     cases k6;rfl
    exact⟨hcell j _ q _ k2 k5,by rw [k7];exact k4 q _ x (List.getElem?_eq_getElem hq') hq⟩
   refine .sl e xs ⟨g,0,none⟩ cap f hn (hG _ hF) (Array.getElem?_eq_some_iff.1 hg).1 (fun j l hj=>?_) (fun j l q x hj hq=>?_) (fun j l q x hj hq=>(key2 j l q x hj hq).2.mono hR)
   ·obtain⟨r,k1,k2⟩:=key j l hj
    rw [←(h3 j r l k1 hj).1,←hs j _ k2,List.length_map]
   ·rw [qG hg];exact(key2 j l q x hj hq).1
theorem Sh.form {sz:Nat→Nat} {R G:Nat→Prop} {e:Nat} {xs:List (List V)} {v:Value} (h:Sh sz R w G e xs v):(xs=[]∧v= .slice none 0 0)∨∃g cap cur,v= .slice (some ⟨g,0,none⟩) xs.length cap∧G g∧w.heap[g]? =some (.cells cur e (0,0))∧xs.length≤cap∧cap≤maxLen∧cur.size=cap*sz e:=by
 obtain⟨raw,h1,h2,h3⟩:=h
 rcases h1.form with ⟨k1,k2⟩ | ⟨g,cap,cur,k1,k2⟩
 ·refine .inl ⟨List.eq_nil_of_length_eq_zero ?_,k2⟩
  rw [←h2,←List.length_map (f:=fun l:List Value=>l.map V.sc),k1];rfl
 ·rw [List.length_map,h2] at k1 k2
  exact .inr ⟨g,cap,cur,k1,k2⟩
theorem Sh.one {sz:Nat→Nat} {R G:Nat→Prop} {e:Nat} {xs:List (List V)} {v:Value} (h:Sh sz R w G e xs v):v.oneCell'=true:=by
 obtain⟨raw,h1,h2,h3⟩:=h;exact h1.one
theorem Sh.mono {sz:Nat→Nat} {R R' G G':Nat→Prop} {e:Nat} {xs:List (List V)} {v:Value} (h:Sh sz R w G e xs v) (hG:∀k,G k→G' k) (hR:∀k,R k→R' k):Sh sz R' w G' e xs v:=by
 obtain⟨raw,h1,h2,h3⟩:=h
 exact⟨raw,h1.mono hG,h2,fun j r x hj hx=>⟨(h3 j r x hj hx).1,fun q u y hq hy=>((h3 j r x hj hx).2 q u y hq hy).mono hR⟩⟩
theorem Ow.adX {sz:Nat→Nat} {R:Nat→Prop} {w:World} {G:Nat→Prop} {e:Nat} {xs:List (List V)} {v:Value} (h:Ow sz w G (.sl e xs) v) (hR:∀k,G k→k<w.heap.size→v.ownBlock≠some k→R k):Sh sz R w (fun k=>G k∧v.ownBlock=some k) e xs v:=by
 cases h with
 | nil F e=>exact⟨[], .nil _ e,rfl,fun j r x h=>by simp at h⟩
 | sl F e xs g cap cur f G' hg hF hn hm hz hs hcell hr hG hd=>
   refine⟨(List.range xs.length).map (fun j=>(List.range (sz e)).map (f j)),?_,by simp,fun j r x hj hx=>?_⟩
   ·have hl:((List.range xs.length).map (fun j=>(List.range (sz e)).map (f j)) |>.map (fun l=>l.map V.sc)).length=xs.length:=by simp
    have get:∀j l,((List.range xs.length).map (fun j=>(List.range (sz e)).map (f j)) |>.map (fun l=>l.map V.sc))[j]? =some l→j<xs.length∧l=((List.range (sz e)).map (f j)).map V.sc:=fun j l hj=>by
     have hjl:j<xs.length:=by have:=(List.getElem?_eq_some_iff.1 hj).1;rwa [hl] at this
     rw [List.getElem?_map,List.getElem?_map,List.getElem?_range hjl] at hj
     exact⟨hjl,(Option.some.inj hj).symm⟩
    refine Ow.mono (F:=fun k=>G k∧k=g) ?_ (fun k hk=>⟨hk.1,by rw [hk.2];rfl⟩)
    generalize ((List.range xs.length).map (fun j=>(List.range (sz e)).map (f j)) |>.map (fun l=>l.map V.sc))=m at hl get⊢
    rw [←hl]
    refine .sl (fun k=>G k∧k=g) e _ g cap cur f (fun _ _ _=>False) hg ⟨hF,rfl⟩ (by rw [hl];exact hn) hm hz (fun j l hj=>by rw [(get j l hj).2];simp) (fun j l q x hj hq=>?_) (fun j l q x hj hq=>?_) (fun _ _ _ h=>h.elim) (fun _ _ _ _ _ h=>h.elim)
    ·obtain⟨h1,h2⟩:=get j l hj
     subst h2
     have hq':q<sz e:=by have:=(List.getElem?_eq_some_iff.1 hq).1;simpa using this
     have hll:=hs j xs[j] (List.getElem?_eq_getElem h1)
     exact hcell j xs[j] q (xs[j][q]'(by rw [hll];exact hq')) (List.getElem?_eq_getElem h1) (List.getElem?_eq_getElem (by rw [hll];exact hq'))
    ·obtain⟨h1,h2⟩:=get j l hj
     subst h2
     have hq':q<sz e:=by have:=(List.getElem?_eq_some_iff.1 hq).1;simpa using this
     have hll:=hs j xs[j] (List.getElem?_eq_getElem h1)
     rw [List.getElem?_map,List.getElem?_map,List.getElem?_range hq'] at hq
     simp only [Option.map_some,Option.some.injEq] at hq
     subst hq
     exact .sc _ _ (hr j xs[j] q (xs[j][q]'(by rw [hll];exact hq')) (List.getElem?_eq_getElem h1) (List.getElem?_eq_getElem (by rw [hll];exact hq'))).one
   ·have hjl:j<xs.length:=(List.getElem?_eq_some_iff.1 hx).1
    rw [List.getElem?_map,List.getElem?_range hjl] at hj
    simp only [Option.map_some,Option.some.injEq] at hj
    subst hj
    refine⟨by simpa using(hs j x hx).symm,fun q u y hq hy=>?_⟩
    have hq':q<sz e:=by have:=(List.getElem?_eq_some_iff.1 hq).1;simpa using this
    rw [List.getElem?_map,List.getElem?_range hq'] at hq
    simp only [Option.map_some,Option.some.injEq] at hq
    subst hq
    exact(hr j x q y hx hy).rd.bound.mono (fun k hk=>hR k (hG j q k hk.1).1 hk.2 (fun e=>(hG j q k hk.1).2 (by simpa [Value.ownBlock] using e.symm)))
structure Same (σ σ1:St T) (env bC:Nat→Value) (F F1:Nat→Nat→Prop) (w w1:World) (r:Nat):Prop where
 env:bC r=env r
 own:∀k,F1 r k↔F r k
 res:σ1.res r=σ.res r
 heap:∀k,F r k→w1.heap[k]? =w.heap[k]?
theorem Same.holds {q:Nat × Nat} (h:Same σ σ1 env bC F F1 w w1 q.1):Holds σ σ1 F F1 w w1 q:=by
 rintro⟨e,l,hl⟩
 exact⟨⟨e,l,h.res.symm.trans hl⟩,fun k hk _=>⟨(h.own k).2 hk,h.heap k hk⟩⟩
theorem Same.Rl {r:Nat} (h:Same σ σ1 env bC F F1 w w1 r):Rk σ σ1 r:=⟨fun bv e l hr=>⟨bv,l,h.res.symm.trans hr,rfl⟩,fun bv e l hr=>⟨bv,l,h.res.symm.trans hr,rfl⟩⟩
def Fine (σ σ1:St T) (env bC:Nat→Value) (F F1:Nat→Nat→Prop) (w w1:World) (rs:List Nat) (vs:List (Nat × Nat)):Prop:=(∀r∈rs,bC r=env r)∧∀q∈vs,Holds σ σ1 F F1 w w1 q
theorem Iy (hc:Calm σ σ1 F F1 w w1) {r:Nat} (hs:Same σ σ1 env bC F F1 w w1 r) {x:dK T} (h:xO σ env F w r x) (hf:∀t cs,x= .bx t cs→Fine σ σ1 env bC F F1 w w1 (refsOf cs) (qj cs)):xO σ1 bC F1 w1 r x:=by
 cases x with
 | no=>exact fun k hk=>h k ((hs.own k).1 hk)
 | bx t cs=>
   obtain⟨g,arr,h1,h2,h3,h4,h5⟩:=h
   obtain⟨f1,f2⟩:=hf t cs rfl
   exact⟨g,arr,hs.env.trans h1,(hs.own g).2 h2,fun k hk=>h3 k ((hs.own k).1 hk),(hs.heap g h2).trans h4,lJ hc h5 f1 f2⟩
 | row bv e l=>
   have h1:Ow T.sz w (F r) (.sl e (l.map (T.enc e))) (env r):=h
   have h2:=(h1.frame (w':=w1) (fun k hk _=>hs.heap k hk)).mono (fun k hk=>(hs.own k).2 hk)
   show Ow T.sz w1 (F1 r) (.sl e (l.map (T.enc e))) (bC r)
   rw [hs.env];exact h2
 | sh bv e l=>
   obtain⟨raw,h1,h2,h3⟩:=h
   refine⟨raw,?_,h2,fun j r' x hj hx=>⟨(h3 j r' x hj hx).1,fun q u y hq hy=>zY hc (fun q hq=>by cases hq) ((h3 j r' x hj hx).2 q u y hq hy)⟩⟩
   rw [hs.env]
   exact(h1.frame (w':=w1) (fun k hk _=>hs.heap k hk)).mono (fun k hk=>(hs.own k).2 hk)
theorem EC {c:Cell T} {q:Nat × Nat} (h:q∈c.vers):q.1∈c.refs∧q.2∈c.refs:=by
 cases c with
 | im p e l=>cases p<;>simp [Cell.vers,Cell.refs] at*;subst h;simp
 | _=>simp [Cell.vers] at h
theorem kW {q:Nat × Nat}:∀{cs:List (Cell T)},q∈qj cs→q.1∈refsOf cs∧q.2∈refsOf cs
 | [],h=>by simp [qj] at h
 | c::cs,h=>by
   rcases List.mem_append.1 h with h | h
   ·exact⟨List.mem_append_left _ (EC h).1,List.mem_append_left _ (EC h).2⟩
   ·exact⟨List.mem_append_right _ (kW h).1,List.mem_append_right _ (kW h).2⟩
theorem zx {q:Nat × Nat} {cs:List (Cell T)} (h:q∈qj cs):q.1∈refsOf cs:=(kW h).1
theorem xX {q:Nat × Nat}:∀{cs:List (Bool × List (Cell T))},q∈Ey cs→q.1∈Ew cs∧q.2∈Ew cs
 | [],h=>by simp [Ey] at h
 | c::cs,h=>by
   rcases List.mem_append.1 h with h | h
   ·exact⟨List.mem_append_left _ (kW h).1,List.mem_append_left _ (kW h).2⟩
   ·exact⟨List.mem_append_right _ (xX h).1,List.mem_append_right _ (xX h).2⟩
theorem GN {s:Slot T} {q:Nat × Nat} (h:q∈s.vers):q.1∈s.refs∧q.2∈s.refs:=by
 cases s with
 | ud=>simp [Slot.vers] at h
 | c x=>exact EC h
 | ag l=>exact kW h
 | tu l=>exact xX h
 | pi p e l i o=>cases p<;>simp [Slot.vers,Slot.refs] at*;subst h;simp
 | pe r i o=>simp [Slot.vers] at h
 | pl r bv i o e l=>simp [Slot.vers,Slot.refs] at*;subst h;simp
 | fn f r=>simp [Slot.vers] at h
theorem J5 {s:Slot T} {q:Nat × Nat} (h:q∈s.vers):q.1∈s.refs:=(GN h).1
end
end Go.Proofs.YtcnfgfomholheaaGreatDoor.Z
end
section
namespace Go.Proofs.YtcnfgfomholheaaGreatDoor.Z
open Go.RowKit
set_option linter.unusedVariables false
set_option linter.unusedSimpArgs false
section
variable {T:dV}
structure bD (T:dV) where
 slot:Slot T
 rs:List (Nat × dK T)
 bf:List Nat
 nx:Nat
 aZ:List Nat
def St.upd (σ:St T) (dst:Option Nat) (U:bD T):St T:=
 match dst with
 | some d=>⟨(d,U.slot)::σ.tm,U.rs++σ.rs,σ.n,σ.A⟩
 | none=>⟨σ.tm,U.rs++σ.rs,σ.n,σ.A⟩
theorem gq {k t:Nat} (h:k≠t):Nat.beq k t=false:=by
 cases hb:Nat.beq k t
 ·rfl
 ·exact absurd (Nat.eq_of_beq_eq_true hb) h
theorem GU {α:Type} (d:α) (t:Nat):∀(l m:List (Nat × α)),lk d (l++m) t=lk (lk d m t) l t
 | [],m=>rfl
 | (k,a)::l,m=>by
   simp only [List.cons_append,lk]
   cases Nat.beq k t
   ·exact GU d t l m
   ·rfl
theorem uh {α:Type} (d:α) (t:Nat):∀(l:List (Nat × α)),(∀p∈l,p.1≠t)→lk d l t=d
 | [],_=>rfl
 | (k,a)::l,h=>by
   have h1:Nat.beq k t=false:=gq (h (k,a) List.mem_cons_self)
   simp only [lk,h1]
   exact uh d t l (fun p hp=>h p (List.mem_cons_of_mem _ hp))
theorem St.dL (σ:St T) (dst:Option Nat) (U:bD T) (r:Nat):(σ.upd dst U).res r=lk (σ.res r) U.rs r:=by
 cases dst<;>exact GU _ _ _ _
theorem St.lT {σ:St T} {dst:Option Nat} {U:bD T} {r:Nat} (h:∀p∈U.rs,p.1≠r):(σ.upd dst U).res r=σ.res r:=by
 rw [St.dL];exact uh _ _ _ h
theorem St.WW (σ:St T) (dst:Option Nat) (U:bD T):(σ.upd dst U).n=σ.n:=by cases dst<;>rfl
theorem St.iQ (σ:St T) (dst:Option Nat) (U:bD T):(σ.upd dst U).A=σ.A:=by cases dst<;>rfl
theorem St.pq (σ:St T) (U:bD T) (d:Nat):(σ.upd (some d) U).tmp d=U.slot:=by
 show lk _ ((d,U.slot)::σ.tm) d=_
 have:Nat.beq d d=true:=by simp [Nat.beq_eq]
 simp only [lk,this]
theorem St.wz (σ:St T) (U:bD T) {d t:Nat} (h:d≠t):(σ.upd (some d) U).tmp t=σ.tmp t:=by
 show lk _ ((d,U.slot)::σ.tm) t=_
 have:Nat.beq d t=false:=gq h
 simp only [lk,this]
 rfl
def jT (σ:St T) (r:Nat):Prop:=((∀t,r∉(σ.tmp t).refs)∧∀s,r∉(σ.res s).refs)∧r<1000
def JH (σ:St T) (q:Nat × Nat):Prop:=(∀t,q∉(σ.tmp t).vers)∧∀s t cs,σ.res s= .bx t cs→q∉qj cs
theorem jT.YC {σ:St T} {q:Nat × Nat} (h:jT σ q.2):JH σ q:=by
 refine⟨fun t hq=>h.1.1 t (GN hq).2,fun s t cs hs hq=>h.1.2 s ?_⟩
 rw [hs];exact(kW hq).2
theorem jT.afg {σ:St T} {q:Nat × Nat} (h:jT σ q.1):JH σ q:=by
 refine⟨fun t hq=>h.1.1 t (J5 hq),fun s t cs hs hq=>h.1.2 s ?_⟩
 rw [hs];exact zx hq
variable {σ σ1:St T} {env bC:Nat→Value} {F F1:Nat→Nat→Prop} {w w1:World} {W0:Fr} {a:Act}
def Told (σ σ1:St T) (env bC:Nat→Value) (F F1:Nat→Nat→Prop) (w w1:World) (r:Nat):Prop:=
 jT σ r∨(bC r=env r∧Rk σ σ1 r∧∀b,Holds σ σ1 F F1 w w1 (r,b)∨JH σ (r,b))
theorem dZ.upd (h:dZ W0 σ a w env F) (aZ:Nat→Prop) {dst:Option Nat} {U:bD T} {v:Value} (below:nI W0 w1) (calm:Calm σ (σ.upd dst U) F F1 w w1)
  (same:∀r,¬aZ r→Same σ (σ.upd dst U) env bC F F1 w w1 r) (agb:∀r,aZ r→xO (σ.upd dst U) bC F1 w1 r ((σ.upd dst U).res r))
  (own:∀r k,aZ r→F1 r k→W0.may k∧k<w1.heap.size) (apart:∀r s k,aZ r→F1 r k→F1 s k→r=s)
  (told:∀r,aZ r→Told σ (σ.upd dst U) env bC F F1 w w1 r) (hd:∀d,dst=some d→d<σ.n∧bY (σ.upd dst U) bC F1 w1 U.slot v):jO W0 (σ.upd dst U) (a.put dst v) w1:=by
 have hold:∀q:Nat × Nat,(jT σ q.1→False)→(JH σ q→False)→Holds σ (σ.upd dst U) F F1 w w1 q:=by
  intro q h1 h2
  by_cases hq:aZ q.1
  ·rcases told q.1 hq with h3 | ⟨_,_,h3⟩
   ·exact(h1 h3).elim
   ·rcases h3 q.2 with h3 | h3
    ·exact h3
    ·exact(h2 h3).elim
  ·exact(same q.1 hq).holds
 have aaP:∀r,(jT σ r→False)→bC r=env r:=by
  intro r h1
  by_cases hq:aZ r
  ·rcases told r hq with h3 | ⟨h3,_,_⟩
   ·exact(h1 h3).elim
   ·exact h3
  ·exact(same r hq).env
 have abS:∀t,Fine σ (σ.upd dst U) env bC F F1 w w1 (σ.tmp t).refs (σ.tmp t).vers:=fun t=>
  ⟨fun r hr=>aaP r (fun hu=>hu.1.1 t hr),fun q hq=>hold q (fun hu=>hu.1.1 t (J5 hq)) (fun hu=>hu.1 t hq)⟩
 have VL:∀t v,bY σ env F w (σ.tmp t) v→bY (σ.upd dst U) bC F1 w1 (σ.tmp t) v:=by
  intro t v hv
  refine yY calm hv (abS t).1 (abS t).2 (fun r i o hs=>?_)
  by_cases hq:aZ r
  ·rcases told r hq with h3 | ⟨_,h3,_⟩
   ·exact(h3.1.1 t (by rcases hs with hs | ⟨bv,e,l,hs⟩<;>rw [hs]<;>simp [Slot.refs])).elim
   ·exact h3
  ·exact(same r hq).Rl
 refine⟨bC,F1,below,h.tab,fun r hr=>(aaP r (fun hu=>absurd hu.2 (Nat.not_lt.2 hr))).trans (h.pin r hr),fun k hk=>(by rw [St.iQ];exact h.acc k hk),?_,?_,?_,?_,?_,?_⟩
 ·rw [St.WW,←h.size];cases dst<;>simp [Act.put]
 ·rw [←h.defers];cases dst<;>rfl
 ·intro r
  by_cases hq:aZ r
  ·exact agb r hq
  ·rw [(same r hq).res]
   refine Iy calm (same r hq) (h.res r) (fun t cs hx=>?_)
   exact⟨fun s hs=>aaP s (fun hu=>hu.1.2 r (by rw [hx];exact hs)),fun q hqv=>hold q (fun hu=>hu.1.2 r (by rw [hx];exact zx hqv)) (fun hu=>hu.2 r t cs hx hqv)⟩
 ·intro r k hk
  by_cases hq:aZ r
  ·exact own r k hq hk
  ·have h1:=h.own r k (((same r hq).own k).1 hk)
   exact⟨h1.1,Nat.lt_of_lt_of_le h1.2 calm.size⟩
 ·intro r s k hr hs
  by_cases hq:aZ r
  ·exact apart r s k hq hr hs
  ·by_cases hq2:aZ s
   ·exact(apart s r k hq2 hs hr).symm
   ·exact h.apart r s k (((same r hq).own k).1 hr) (((same s hq2).own k).1 hs)
 ·intro t
  cases dst with
  | none=>exact VL t _ (h.tm t)
  | some d=>
    obtain⟨hdn,hs⟩:=hd d rfl
    by_cases e:d=t
    ·subst e
     rw [St.pq]
     have:(a.put (some d) v).tmps.getD d undef=v:=by
      have:d<a.tmps.size:=by rw [h.size];exact hdn
      simp [Act.put,Array.getD,this]
     rw [this];exact hs
    ·rw [St.wz σ U e]
     have:(a.put (some d) v).tmps.getD t undef=a.tmps.getD t undef:=by
      simp [Act.put,Array.getD_eq_getD_getElem?,Array.getElem?_setIfInBounds_ne e]
     rw [this];exact VL t _ (h.tm t)
theorem dZ.quiet (h:dZ W0 σ a w env F) {dst:Option Nat} {s:Slot T} {bf aZ:List Nat} {nx:Nat} {v:Value} (hd:∀d,dst=some d→d<σ.n∧bY σ env F w s v):jO W0 (σ.upd dst ⟨s,[],bf,nx,aZ⟩) (a.put dst v) w:=by
 have hr:∀r,(σ.upd dst ⟨s,[],bf,nx,aZ⟩).res r=σ.res r:=fun r=>St.lT (fun p hp=>by cases hp)
 refine h.upd (F1:=F) (bC:=env) (fun _=>False) h.below ⟨St.iQ _ _ _,Nat.le_refl _,fun k _ hk=>⟨hk,rfl⟩⟩ (fun r _=>⟨rfl,fun _=>Iff.rfl,hr r,fun _ _=>rfl⟩) (fun _ h=>h.elim) (fun _ _ h=>h.elim) (fun _ _ _ h=>h.elim) (fun _ h=>h.elim) (fun d e=>?_)
 obtain⟨h1,h2⟩:=hd d e
 refine⟨h1,yY (σ:=σ) (env:=env) (F:=F) (w:=w) ⟨St.iQ _ _ _,Nat.le_refl _,fun k _ hk=>⟨hk,rfl⟩⟩ h2 (fun _ _=>rfl) (fun q _ hl=>⟨?_,fun k hk _=>⟨hk,rfl⟩⟩) (fun r i o _=>⟨fun bv e l hx=>⟨bv,l,(hr r).symm.trans hx,rfl⟩,fun bv e l hx=>⟨bv,l,(hr r).symm.trans hx,rfl⟩⟩)⟩
 obtain⟨e,l,hl⟩:=hl
 exact⟨e,l,(hr q.1).symm.trans hl⟩
def jR (r:Nat):List Nat→Bool
 | []=>false
 | k::l=>match Nat.beq k r with
   | true=>true
   | false=>jR r l
theorem iE {r:Nat}:∀{l:List Nat},jR r l=true↔r∈l
 | []=>by simp [jR]
 | k::l=>by
   unfold jR
   cases h:Nat.beq k r
   ·have:k≠r:=by intro e;subst e;simp [Nat.beq_eq] at h
    simp only [List.mem_cons,iE (l:=l)]
    exact⟨.inr,fun h=>h.resolve_left (fun e=>this e.symm)⟩
   ·have:k=r:=Nat.eq_of_beq_eq_true h
    simp [this]
def pU (r:Nat):List (Nat × Slot T)→Bool
 | []=>true
 | (_,s)::l=>match jR r s.refs with
   | true=>false
   | false=>pU r l
def pV (r:Nat):List (Nat × dK T)→Bool
 | []=>true
 | (k,s)::l=>match Nat.beq k r with
   | true=>false
   | false=>match jR r s.refs with
     | true=>false
     | false=>pV r l
def St.fresh (σ:St T) (r:Nat):Bool:=match Nat.blt r 1000 with
 | true=>match pU r σ.tm with
   | true=>pV r σ.rs
   | false=>false
 | false=>false
theorem Rn {r t:Nat}:∀{l:List (Nat × Slot T)},pU r l=true→r∉(lk (.c .un) l t).refs
 | [],_=>by simp [lk,Slot.refs,Cell.refs]
 | (k,s)::l,h=>by
   unfold pU at h
   cases hs:jR r s.refs<;>rw [hs] at h
   ·unfold lk
    cases Nat.beq k t
    ·exact Rn h
    ·intro hm;rw [iE.2 hm] at hs;cases hs
   ·cases h
theorem Ro {r t:Nat}:∀{l:List (Nat × dK T)},pV r l=true→r∉(lk .no l t).refs
 | [],_=>by simp [lk,dK.refs]
 | (k,s)::l,h=>by
   unfold pV at h
   cases hk:Nat.beq k r<;>rw [hk] at h
   ·cases hs:jR r s.refs<;>rw [hs] at h
    ·unfold lk
     cases Nat.beq k t
     ·exact Ro h
     ·intro hm;rw [iE.2 hm] at hs;cases hs
    ·cases h
   ·cases h
theorem Rq {r:Nat}:∀{l:List (Nat × dK T)},pV r l=true→lk .no l r= .no
 | [],_=>rfl
 | (k,s)::l,h=>by
   unfold pV at h
   cases hk:Nat.beq k r<;>rw [hk] at h
   ·cases hs:jR r s.refs<;>rw [hs] at h
    ·unfold lk
     rw [hk]
     exact Rq h
    ·cases h
   ·cases h
theorem St.JF {σ:St T} {r:Nat} (h:σ.fresh r=true):jT σ r∧σ.res r= .no:=by
 unfold St.fresh at h
 cases h0:Nat.blt r 1000<;>rw [h0] at h<;>dsimp only at h
 ·cases h
 cases h1:pU r σ.tm<;>rw [h1] at h<;>dsimp only at h
 ·cases h
 ·exact⟨⟨⟨fun t=>Rn h1,fun s=>Ro h⟩,by simpa [Nat.blt_eq] using h0⟩,Rq h⟩
structure Agree (σ σ':St T) (ts bf aZ:List Nat):Prop where
 tm:∀t∈ts,σ'.tmp t=σ.tmp t
 res:∀r∈bf,σ'.res r=σ.res r
 fr:∀r∈aZ,σ.fresh r=true→σ'.fresh r=true
 n:σ'.n=σ.n
theorem Agree.refl (σ:St T) (ts bf aZ:List Nat):Agree σ σ ts bf aZ:=⟨fun _ _=>rfl,fun _ _=>rfl,fun _ _ h=>h,rfl⟩
theorem Agree.new {σ σ':St T} {ts bf aZ:List Nat} (h:Agree σ σ' ts bf aZ) {r:Nat} (hr:r∈aZ) (hf:σ.fresh r=true):jT σ' r∧σ'.res r= .no:=St.JF (h.fr r hr hf)
end
end Go.Proofs.YtcnfgfomholheaaGreatDoor.Z
end
section
namespace Go.Proofs.YtcnfgfomholheaaGreatDoor.Z
open Go.RowKit
set_option linter.unusedVariables false
set_option linter.unusedSimpArgs false
section
variable {T:dV}
def kU (op:Op):List Nat:=op.operands.toList.filterMap fun | .tmp t=>some t | _=>none
def eU (P:Program) (W0:Fr) (o:Oper) (σ:St T) (U:bD T):Prop:=
 ∀(σ':St T) (a:Act) (w:World) (K:Act→World→Prop) (Q:Exit→Act→World→Prop),Agree σ σ' (kU o.op) U.bf U.aZ→jO W0 σ' a w→(∀a' w',jO W0 (σ'.upd o.dst U) a' w'→K a' w')→Oper.wp P o a w K Q
inductive eY (T:dV) where
 | done (U:bD T) (ob:Option Prop)
 | call (f:FuncId) (args:List (Slot T))
 | stuck
def sD:Option Prop→Prop
 | some p=>p
 | none=>True
def qh:List Value→Bool
 | []=>true
 | v::r=>match v.oneCell' with
   | true=>qh r
   | false=>false
def Vh:List Value→List (Cell T)
 | []=>[]
 | v::r=> .sc v::Vh r
def Rt (v:Value):Slot T:=
 match v with
 | .agg cs=>match qh cs.toList with
   | true=> .ag (Vh cs.toList)
   | false=> .c .un
 | v=>match v.oneCell' with
   | true=> .c (.sc v)
   | false=> .c .un
def weak:Slot T→Slot T
 | .pl r bv _ _ e l=> .c (.im (some (r,bv)) e l)
 | s=>s
def dD (σ:St T):Operand→Slot T
 | .tmp t=>weak (σ.tmp t)
 | .const v=>Rt v
 | .global _=> .c .un
 | .func f=> .c (.sc (.func (.func f) #[] #[]))
theorem F5 {σ:St T} {env:Nat→Value} {F:Nat→Nat→Prop} {w:World}:∀{l:List Value},qh l=true→aW σ env F w (Vh l) l
 | [],_=>rfl
 | v::r,h=>by
   unfold qh at h
   cases hv:v.oneCell'<;>rw [hv] at h
   ·cases h
   ·exact⟨v,r,rfl,⟨rfl,hv⟩,F5 h⟩
theorem DY {σ:St T} {env:Nat→Value} {F:Nat→Nat→Prop} {w:World} (v:Value):bY σ env F w (Rt v) v:=by
 unfold Rt
 split
 ·rename_i cs
  cases h:qh cs.toList
  ·trivial
  ·exact⟨cs,rfl,F5 h⟩
 ·cases h:v.oneCell'
  ·trivial
  ·exact⟨rfl,h⟩
variable {P:Program} {W0:Fr} {σ σ':St T} {a:Act} {w:World} {env:Nat→Value} {F:Nat→Nat→Prop} {o:Oper} {bf aZ:List Nat}
theorem QX {s:Slot T} {v:Value} (h:bY σ env F w s v):bY σ env F w (weak s) v:=by
 cases s<;>first | exact h | exact h.1
theorem bI {x:Operand} (h:dZ W0 σ' a w env F) (hA:Agree σ σ' (kU o.op) bf aZ) (hx:x∈o.op.operands.toList):bY σ' env F w (dD σ x) (a.eval x):=by
 cases x with
 | tmp t=>
   have ht:t∈kU o.op:=List.mem_filterMap.2 ⟨.tmp t,hx,rfl⟩
   show bY σ' env F w (weak (σ.tmp t)) _
   rw [←hA.tm t ht];exact QX (h.tm t)
 | const v=>exact DY v
 | global g=>trivial
 | func f=>exact⟨rfl,rfl⟩
def sv:Slot T→Option Value
 | .c (.sc v)=>some v
 | _=>none
theorem jF {s:Slot T} {v u:Value} (h:bY σ env F w s u) (hs:sv s=some v):u=v:=by
 cases s with
 | c x=>cases x<;>simp [sv] at hs;subst hs;exact h.1
 | _=>simp [sv] at hs
theorem jJ {K:Act→World→Prop} {Q:Exit→Act→World→Prop} {v:Value} {w w':World} (hr:(execOp a.eval o).run P w= .ok (.value v) w') (h:K (a.put o.dst v) w'):Oper.wp P o a w K Q:=by
 unfold Oper.wp;rw [hr];exact h
theorem Cj {K:Act→World→Prop} {Q:Exit→Act→World→Prop} {w w':World} (hr:(execOp a.eval o).run P w= .ok .skip w') (h:K (a.put o.dst undef) w'):Oper.wp P o a w K Q:=by
 unfold Oper.wp;rw [hr];exact h
theorem quiet_step {s:Slot T} {nx:Nat} (hd:∀d,o.dst=some d→d<σ.n)
  (hrun:∀(σ':St T) (a:Act) (w:World) (env:Nat→Value) (F:Nat→Nat→Prop),Agree σ σ' (kU o.op) bf aZ→dZ W0 σ' a w env F→∃v,(execOp a.eval o).run P w= .ok (.value v) w∧bY σ' env F w s v):eU P W0 o σ ⟨s,[],bf,nx,aZ⟩:=by
 intro σ' a w K Q hA ⟨env,F,h⟩ hK
 obtain⟨v,hr,hs⟩:=hrun σ' a w env F hA h
 exact jJ hr (hK _ _ (h.quiet (fun d hd'=>⟨by rw [hA.n];exact hd d hd',hs⟩)))
def bZ (σ:St T):Option Nat→Bool
 | some d=>Nat.blt d σ.n
 | none=>false
theorem bG {d:Option Nat} (h:bZ σ d=true):∀k,d=some k→k<σ.n:=by
 rintro k rfl;simpa [bZ,Nat.blt_eq] using h
def Ru (op:BinOp) (a b:Int):Option Value:=
 match op with
 | .add=>some (.int .i64 (wrap64 (a+b)))
 | .sub=>some (.int .i64 (wrap64 (a - b)))
 | .mul=>some (.int .i64 (wrap64 (a*b)))
 | .eql=>some (.bool (a==b))
 | .neq=>some (.bool (a !=b))
 | .lss=>some (.bool (decide (a<b)))
 | .leq=>some (.bool (decide (a≤b)))
 | .gtr=>some (.bool (decide (a>b)))
 | .geq=>some (.bool (decide (a≥b)))
 | _=>none
def aaQ (op:BinOp) (a b:ByteArray):Option Value:=
 match op with
 | .eql=>some (.bool (a.toList==b.toList))
 | .neq=>some (.bool !(a.toList==b.toList))
 | .lss=>some (.bool (Op.bytesLess a.toList b.toList))
 | .leq=>some (.bool (Op.bytesLess a.toList b.toList || a.toList==b.toList))
 | .gtr=>some (.bool !(Op.bytesLess a.toList b.toList || a.toList==b.toList))
 | .geq=>some (.bool !(Op.bytesLess a.toList b.toList))
 | _=>none
def Px:IntKind→IntKind→Bool
 | .i64, .i64=>true
 | .u8, .u8=>true
 | .i32, .i32=>true
 | .u16, .u16=>true
 | .u32, .u32=>true
 | .u64, .u64=>true
 | _,_=>false
def pos:Int→Bool
 | .ofNat (_+1)=>true
 | _=>false
def aaR:Int→Bool
 | .ofNat _=>true
 | _=>false
def MB (k:IntKind) (op:BinOp) (a b:Int):Option Value:=
 match op with
 | .add=>some (.int k (k.wrap (a+b)))
 | .sub=>some (.int k (k.wrap (a - b)))
 | .mul=>some (.int k (k.wrap (a*b)))
 | .eql=>some (.bool (a==b))
 | .neq=>some (.bool (a !=b))
 | .lss=>some (.bool (decide (a<b)))
 | .leq=>some (.bool (decide (a≤b)))
 | .gtr=>some (.bool (decide (a>b)))
 | .geq=>some (.bool (decide (a≥b)))
 | .quo=>match pos b with
   | true=>some (.int k (k.wrap (a.tdiv b)))
   | false=>none
 | .rem=>match pos b with
   | true=>some (.int k (a.tmod b))
   | false=>none
 | .and=>some (.int k (k.wrap (BitVec.ofInt k.bits a &&& BitVec.ofInt k.bits b).toNat))
 | .or=>some (.int k (k.wrap (BitVec.ofInt k.bits a ||| BitVec.ofInt k.bits b).toNat))
 | .xor=>some (.int k (k.wrap (BitVec.ofInt k.bits a ^^^ BitVec.ofInt k.bits b).toNat))
 | .andNot=>some (.int k (k.wrap (BitVec.ofInt k.bits a &&& ~~~ BitVec.ofInt k.bits b).toNat))
 | _=>none
def afj:IntKind→Bool
 | .i64=>true
 | _=>false
def aee:BinOp→Bool
 | .shl=>true
 | .shr=>true
 | _=>false
def isI:BinOp→Bool
 | .quo=>false
 | .rem=>false
 | .and=>false
 | .or=>false
 | .xor=>false
 | .andNot=>false
 | _=>true
def Y5 (op:BinOp) (k:IntKind) (a b:Int):Option Value:=
 match aaR b with
 | true=>match op with
   | .shl=>some (.int k (k.wrap (a*2 ^ min b.toNat k.bits)))
   | .shr=>some (.int k (a.fdiv (2 ^ min b.toNat k.bits)))
   | _=>none
 | false=>none
def Rw (op:BinOp) (x y:Value):Option Value:=
 match x,y with
 | .int k a, .int k' b=>match aee op with
   | true=>Y5 op k a b
   | false=>match Px k k' with
     | true=>match afj k with
       | true=>match isI op with
         | true=>Ru op a b
         | false=>MB .i64 op a b
       | false=>MB k op a b
     | false=>none
 | .string a, .string b=>aaQ op a b
 | _,_=>none
theorem wrap_i64 (n:Int):IntKind.i64.wrap n=wrap64 n:=by unfold wrap64;exact IntKind.wrap_i64 n
theorem aef {b:Int} (h:pos b=true):b≠0:=by
 intro e;subst e;cases h
theorem acZ {b:Int} (h:aaR b=true):¬b<0:=by
 unfold aaR at h;split at h
 ·simp
 ·cases h
theorem Rx {k k':IntKind} (h:Px k k'=true):k=k':=by
 unfold Px at h;split at h<;>first | rfl | cases h
theorem Ry {k:IntKind} {op:BinOp} {a b:Int} {r:Value} (h:MB k op a b=some r):r.oneCell'=true:=by
 unfold MB at h
 cases op<;>simp only [Option.some.injEq,reduceCtorEq] at h<;>first | (subst h;rfl) | (split at h<;>first | (cases h;done) | (cases h;rfl))
theorem aaS {op:BinOp} {a b:Int} {r:Value} (h:Ru op a b=some r):r.oneCell'=true:=by
 unfold Ru at h;cases op<;>simp only [Option.some.injEq,reduceCtorEq] at h<;>subst h<;>rfl
theorem ac0 {k:IntKind} {op:BinOp} {a b:Int} {r:Value} (h:Y5 op k a b=some r):r.oneCell'=true:=by
 unfold Y5 at h
 split at h
 ·cases op<;>simp only [Option.some.injEq,reduceCtorEq] at h<;>subst h<;>rfl
 ·cases h
theorem aaT {op:BinOp} {u v r:Value} (h:Rw op u v=some r):r.oneCell'=true:=by
 unfold Rw at h
 split at h
 ·split at h
  ·exact ac0 h
  ·split at h
   ·split at h
    ·split at h
     ·exact aaS h
     ·exact Ry h
    ·exact Ry h
   ·cases h
 ·unfold aaQ at h;cases op<;>simp only [Option.some.injEq,reduceCtorEq] at h<;>subst h<;>rfl
 ·cases h
theorem Rz {k:IntKind} {op:BinOp} {t:TypeId} {a b:Int} {r:Value} (w:World) (hs:aee op=false) (h:MB k op a b=some r):(binOp op t (.int k a) (.int k b):Sem Value).run P w= .ok r w:=by
 unfold MB at h
 cases op<;>simp only [Option.some.injEq,reduceCtorEq] at h<;>first
  | (subst h;simp [binOp,Op.intArith,Op.intCmp,Op.intBits,Sem.run_bind,Sem.run_pure];done)
  | (split at h
     ·rename_i hp
      simp only [Option.some.injEq] at h
      subst h
      simp [binOp,Op.intDiv,aef hp,Sem.run_bind,Sem.run_pure]
     ·cases h)
  | cases hs
theorem aaU {op:BinOp} {t:TypeId} {a b:Int} {r:Value} (w:World) (h:Ru op a b=some r):(binOp op t (.int .i64 a) (.int .i64 b):Sem Value).run P w= .ok r w:=by
 unfold Ru at h
 cases op<;>simp only [Option.some.injEq,reduceCtorEq] at h<;>subst h<;>simp [binOp,Op.intArith,Op.intCmp,wrap_i64,Sem.run_bind,Sem.run_pure]
theorem ac1 {k k':IntKind} {op:BinOp} {t:TypeId} {a b:Int} {r:Value} (w:World) (h:Y5 op k a b=some r):(binOp op t (.int k a) (.int k' b):Sem Value).run P w= .ok r w:=by
 unfold Y5 at h
 split at h
 ·rename_i hn
  cases op<;>simp only [Option.some.injEq,reduceCtorEq] at h<;>subst h<;>simp [binOp,Op.shift,acZ hn,Sem.run_bind,Sem.run_pure]
 ·cases h
theorem Uf {op:BinOp} {t:TypeId} {x y:Operand} {k k':IntKind} {a b:Int} (w:World):(eqGuard op t x y (.int k a) (.int k' b)).run P w= .ok () w:=by
 cases op<;>simp [eqGuard]
theorem aaV {op:BinOp} {t:TypeId} {x y:Operand} {u v r:Value} (w:World) (h:Rw op u v=some r):(do eqGuard op t x y u v;binOp op t u v:Sem Value).run P w= .ok r w:=by
 unfold Rw at h
 split at h
 ·rename_i k a k' b
  simp only [Sem.run_bind,Uf,Result.andThen_ok]
  split at h
  ·exact ac1 w h
  ·rename_i hs
   split at h
   ·rename_i hk
    have:=Rx hk
    subst this
    split at h
    ·rename_i hk
     have:k= .i64:=by cases k<;>first | rfl | cases hk
     subst this
     split at h
     ·exact aaU w h
     ·exact Rz w hs h
    ·exact Rz w hs h
   ·cases h
 ·rename_i a b
  unfold aaQ at h
  cases op<;>simp only [Option.some.injEq,reduceCtorEq] at h<;>subst h<;>simp [eqGuard,binOp,Op.stringOp,Sem.run_bind,Sem.run_pure]
 ·cases h
def LU (σ:St T) (dst:Option Nat):Option Value→eY T
 | some v=>match bZ σ dst with
   | true=> .done ⟨.c (.sc v),[],[],0,[]⟩ none
   | false=> .stuck
 | none=> .stuck
def BG (σ:St T) (dst:Option Nat) (op:BinOp) (x y:Operand):eY T:=
 match sv (dD σ x) with
 | some u=>match sv (dD σ y) with
   | some v=>LU σ dst (Rw op u v)
   | none=> .stuck
 | none=> .stuck
theorem Oi {U:bD T} {ob:Option Prop} {dst:Option Nat} {r:Option Value} (h:LU σ dst r= .done U ob):∃v,r=some v∧bZ σ dst=true∧U=⟨.c (.sc v),[],[],0,[]⟩∧ob=none:=by
 cases r with
 | none=>cases h
 | some v=>
   unfold LU at h
   cases hd:bZ σ dst<;>rw [hd] at h
   ·cases h
   ·cases h;exact⟨v,rfl,rfl,rfl,rfl⟩
theorem Ic {op:BinOp} {t ty:TypeId} {x y:Operand} {U:bD T} {ob:Option Prop} (ho:o.op= .binOp op t x y ty) (h:BG σ o.dst op x y= .done U ob):eU P W0 o σ U:=by
 unfold BG at h
 cases hx:sv (dD σ x) with
 | none=>rw [hx] at h;cases h
 | some u=>
   cases hy:sv (dD σ y) with
   | none=>rw [hx,hy] at h;cases h
   | some v=>
     rw [hx,hy] at h
     obtain⟨r,hr,hd,rfl,rfl⟩:=Oi h
     refine quiet_step (bG hd) (fun σ' a w env F hA hS=>⟨r,?_,⟨rfl,aaT hr⟩⟩)
     have e1:=jF (bI hS hA (x:=x) (by simp [ho,Op.operands])) hx
     have e2:=jF (bI hS hA (x:=y) (by simp [ho,Op.operands])) hy
     have hrun:=aaV (P:=P) (t:=t) (x:=x) (y:=y) w hr
     unfold execOp
     rw [ho]
     simp only [e1,e2,Sem.run_bind,Sem.run_pure] at hrun⊢
     rw [hrun];rfl
def unV (op:UnOp) (x:Value):Option Value:=
 match op,x with
 | .not, .bool b=>some (.bool !b)
 | .neg, .int .i64 n=>some (.int .i64 (wrap64 (0 - n)))
 | _,_=>none
theorem ac2 {op:UnOp} {u r:Value} (h:unV op u=some r):r.oneCell'=true:=by
 unfold unV at h
 split at h<;>first | (cases h;done) | (cases h;rfl)
def Wu (σ:St T) (dst:Option Nat) (op:UnOp) (x:Operand):eY T:=
 match sv (dD σ x) with
 | some u=>LU σ dst (unV op u)
 | none=> .stuck
theorem acO {op:UnOp} {t:TypeId} {x:Operand} {U:bD T} {ob:Option Prop} (ho:o.op= .unOp op t x) (h:Wu σ o.dst op x= .done U ob):eU P W0 o σ U:=by
 unfold Wu at h
 cases hx:sv (dD σ x) with
 | none=>rw [hx] at h;cases h
 | some u=>
   rw [hx] at h
   obtain⟨r,hr,hd,rfl,rfl⟩:=Oi h
   refine quiet_step (bG hd) (fun σ' a w env F hA hS=>⟨r,?_,⟨rfl,ac2 hr⟩⟩)
   have e1:=jF (bI hS hA (x:=x) (by simp [ho,Op.operands])) hx
   unfold execOp
   rw [ho]
   simp only [e1]
   unfold unV at hr
   split at hr<;>first | (cases hr;done) | (cases hr;simp [Op.unary,Op.intArith,wrap_i64,Sem.run_bind,Sem.run_pure])
def qg (σ:St T) (dst:Option Nat) (x:Operand):eY T:=
 match bZ σ dst with
 | true=> .done ⟨dD σ x,[],(dD σ x).refs,0,[]⟩ none
 | false=> .stuck
theorem Oc {x:Operand} {U:bD T} {ob:Option Prop} (ho:o.op= .move x∨o.op= .assign x) (h:qg σ o.dst x= .done U ob):eU P W0 o σ U:=by
 unfold qg at h
 cases hd:bZ σ o.dst<;>rw [hd] at h<;>cases h
 refine quiet_step (bG hd) (fun σ' a w env F hA hS=>⟨a.eval x,?_,bI hS hA ?_⟩)
 ·unfold execOp;rcases ho with ho | ho<;>rw [ho]<;>rfl
 ·rcases ho with ho | ho<;>simp [ho,Op.operands]
def Ju (σ:St T) (dst:Option Nat) (fn:Fn) (first cap:Array Operand):eY T:=
 match fn,first,cap with
 | .func f,⟨[]⟩,⟨[x]⟩=>match dD σ x with
   | .c (.px r 0)=>match bZ σ dst with
     | true=> .done ⟨.fn f r,[],[r],0,[]⟩ none
     | false=> .stuck
   | _=> .stuck
 | _,_,_=> .stuck
theorem YI {fn:Fn} {first cap:Array Operand} {U:bD T} {ob:Option Prop} (ho:o.op= .makeFunc fn first cap) (h:Ju σ o.dst fn first cap= .done U ob):eU P W0 o σ U:=by
 unfold Ju at h
 split at h
 ·rename_i f x
  split at h
  ·rename_i r hx
   cases hd:bZ σ o.dst<;>rw [hd] at h<;>cases h
   refine quiet_step (bG hd) (fun σ' a w env F hA hS=>⟨.func (.func f) #[] #[a.eval x],?_,?_⟩)
   ·unfold execOp;rw [ho];simp [Go.Instr.makeFunc]
   ·have h1:=bI hS hA (x:=x) (by simp [ho,Op.operands])
    rw [hx] at h1
    obtain⟨g,h2,h3⟩:=h1
    exact⟨g,h2,by rw [h3]⟩
  ·cases h
 ·cases h
def Js (σ:St T) (dst:Option Nat) (c x y:Operand):eY T:=
 match sv (dD σ c) with
 | some (.bool true)=>qg σ dst x
 | some (.bool false)=>qg σ dst y
 | _=> .stuck
theorem YD {c x y:Operand} {U:bD T} {ob:Option Prop} (ho:o.op= .pick c x y) (h:Js σ o.dst c x y= .done U ob):eU P W0 o σ U:=by
 unfold Js at h
 split at h
 ·rename_i hc
  unfold qg at h
  cases hd:bZ σ o.dst<;>rw [hd] at h<;>cases h
  refine quiet_step (bG hd) (fun σ' a w env F hA hS=>⟨a.eval x,?_,bI hS hA (by simp [ho,Op.operands])⟩)
  have e1:=jF (bI hS hA (x:=c) (by simp [ho,Op.operands])) hc
  unfold execOp;rw [ho];simp [e1,asBool,Sem.run_bind,Sem.run_pure]
 ·rename_i hc
  unfold qg at h
  cases hd:bZ σ o.dst<;>rw [hd] at h<;>cases h
  refine quiet_step (bG hd) (fun σ' a w env F hA hS=>⟨a.eval y,?_,bI hS hA (by simp [ho,Op.operands])⟩)
  have e1:=jF (bI hS hA (x:=c) (by simp [ho,Op.operands])) hc
  unfold execOp;rw [ho];simp [e1,asBool,Sem.run_bind,Sem.run_pure]
 ·cases h
def nth {α:Type}:List α→Nat→Option α
 | [],_=>none
 | x::_,0=>some x
 | _::l,n+1=>nth l n
def WX:Bool × List (Cell T)→Slot T
 | (true,l)=> .ag l
 | (false,[c])=> .c c
 | (false,_)=> .c .un
theorem Oj {it:Bool × List (Cell T)}:∀{l:List (Bool × List (Cell T))} {vs:List Value} {i:Nat},lS σ env F w l vs→nth l i=some it→∃v,vs[i]? =some v∧um σ env F w it v
 | [],_,_,_,h=>by cases h
 | x::l,_,0,⟨v,r,e,h1,_⟩,h=>by cases h;subst e;exact⟨v,rfl,h1⟩
 | x::l,_,i+1,⟨v,r,e,_,h2⟩,h=>by
   subst e
   obtain⟨u,h3,h4⟩:=Oj (i:=i) h2 h
   exact⟨u,by simpa using h3,h4⟩
theorem Y6 {it:Bool × List (Cell T)} {v:Value} (h:um σ env F w it v):bY σ env F w (WX it) v:=by
 obtain⟨b,l⟩:=it
 cases b with
 | true=>exact h
 | false=>
   match l,h with
   | [],_=>trivial
   | [c],⟨u,r,e,h1,_⟩=>cases e;exact h1
   | _::_::_,_=>trivial
def yP (σ:St T) (dst:Option Nat) (x:Operand) (i:Nat):eY T:=
 match dD σ x with
 | .tu l=>match nth l i with
   | some it=>match bZ σ dst with
     | true=> .done ⟨WX it,[],(WX it).refs,0,[]⟩ none
     | false=> .stuck
   | none=> .stuck
 | _=> .stuck
theorem QT {x:Operand} {i:Nat} {U:bD T} {ob:Option Prop} (ho:o.op= .extract x i) (h:yP σ o.dst x i= .done U ob):eU P W0 o σ U:=by
 unfold yP at h
 split at h
 ·rename_i l hx
  cases hn:nth l i with
  | none=>rw [hn] at h;cases h
  | some it=>
    rw [hn] at h
    dsimp only at h
    cases hd:bZ σ o.dst<;>rw [hd] at h<;>cases h
    refine quiet_step (bG hd) (fun σ' a w env F hA hS=>?_)
    have e1:=bI hS hA (x:=x) (by simp [ho,Op.operands])
    rw [hx] at e1
    obtain⟨us,e2,h2⟩:=e1
    obtain⟨v,h3,h4⟩:=Oj h2 hn
    refine⟨v,?_,Y6 h4⟩
    have h5:us[i]? =some v:=by rw [←Array.getElem?_toList];exact h3
    unfold execOp;rw [ho]
    simp [e2,Instr.extract,h5,Sem.run_bind,Sem.run_pure]
 ·cases h
end
end Go.Proofs.YtcnfgfomholheaaGreatDoor.Z
end
section
namespace Go.Proofs.YtcnfgfomholheaaGreatDoor.Z
open Go.RowKit
set_option linter.unusedVariables false
set_option linter.unusedSimpArgs false
section
variable {T:dV} {P:Program} {W0:Fr} {σ σ':St T} {a:Act} {w:World} {env:Nat→Value} {F:Nat→Nat→Prop} {o:Oper} {bf aZ:List Nat}
theorem add_add (a:Addr) (m n:Nat):(a.add m).add n=a.add (m+n):=by
 unfold Addr.add
 by_cases hm:m=0<;>by_cases hn:n=0<;>simp [hm,hn,Nat.add_assoc]
theorem add_lit (g o n:Nat):(⟨g,o,none⟩:Addr).add n=⟨g,o+n,none⟩:=by unfold Addr.add;split<;>simp_all
theorem L8 (a:Addr) (n:Nat):(a.add n).block=a.block:=by unfold Addr.add;split<;>rfl
inductive RdV (T:dV) where
 | mk (p:Option (Nat × Nat)) (e:Nat) (l:List (T.Tb e))
def uV (σ:St T):Option (Nat × Nat)→Bool
 | none=>true
 | some q=>match σ.res q.1 with
   | .row bv _ _=>Nat.beq bv q.2
   | _=>false
theorem wB {p:Option (Nat × Nat)} (h:uV σ p=true):σ.live p:=by
 cases p with
 | none=>trivial
 | some q=>
   unfold uV at h
   dsimp only at h
   cases hr:σ.res q.1 with
   | row bv e l=>
     rw [hr] at h
     have:bv=q.2:=Nat.eq_of_beq_eq_true h
     exact⟨e,l,by rw [hr,this]⟩
   | no=>rw [hr] at h;cases h
   | bx t cs=>rw [hr] at h;cases h
   | sh bv e l=>rw [hr] at h;cases h
def uU:Option (Nat × Nat)→List Nat
 | none=>[]
 | some q=>[q.1,q.2]
def JU (σ:St T):Slot T→Option (RdV T)
 | .c (.im p e l)=>match uV σ p with
   | true=>some ⟨p,e,l⟩
   | false=>none
 | .c (.hd r)=>match σ.res r with
   | .row bv e l=>some ⟨some (r,bv),e,l⟩
   | _=>none
 | _=>none
theorem CB {ts:List Nat} (hA:Agree σ σ' ts bf aZ) {p:Option (Nat × Nat)} (hp:∀r∈uU p,r∈bf) (h:σ.live p):σ'.live p:=by
 cases p with
 | none=>trivial
 | some q=>
   obtain⟨e,l,hl⟩:=h
   exact⟨e,l,by rw [hA.res q.1 (hp q.1 (by simp [uU]))];exact hl⟩
theorem F9 {ts:List Nat} (h:dZ W0 σ' a w env F) (hA:Agree σ σ' ts bf aZ) {s:Slot T} {u:Value} (hs:bY σ' env F w s u) {p:Option (Nat × Nat)} {e:Nat} {l:List (T.Tb e)} (hr:JU σ s=some ⟨p,e,l⟩) (hp:∀r∈uU p,r∈bf):
  σ'.live p∧Rd T.sz w (jM σ'.A F p) (.sl e (l.map (T.enc e))) u:=by
 unfold JU at hr
 split at hr
 ·rename_i p' e' l'
  cases hl:uV σ p'<;>rw [hl] at hr<;>cases hr
  have h1:=CB hA hp (wB hl)
  exact⟨h1,hs.2 h1⟩
 ·rename_i r
  cases hl:σ.res r with
  | row bv e' l'=>
    rw [hl] at hr
    cases hr
    have h1:σ'.res r= .row bv e l:=by rw [hA.res r (hp r (by simp [uU]))];exact hl
    have h2:=h.res r
    rw [h1] at h2
    refine⟨⟨e,l,h1⟩,?_⟩
    rw [hs.1]
    exact(Ow.rd h2).mono (fun k hk=> .inr ⟨(r,bv),rfl,hk⟩)
  | no=>rw [hl] at hr;cases hr
  | bx t cs=>rw [hl] at hr;cases hr
  | sh bv e l=>rw [hl] at hr;cases hr
 ·cases hr
def RD (σ:St T) (s:Slot T):Option (Int × List Nat):=
 match s with
 | .c (.sc (.string b))=>some ((b.size:Int),[])
 | .c (.sc (.slice _ n _))=>some ((n:Int),[])
 | s=>match JU σ s with
   | some ⟨p,e,l⟩=>some ((l.length:Int),uU p)
   | none=>none
def aaW:TK→Slot T→Bool
 | .text, .c (.sc (.string _))=>true
 | .slice _, .c (.sc (.slice _ _ _))=>true
 | .slice _, .c (.im _ _ _)=>true
 | .slice _, .c (.hd _)=>true
 | _,_=>false
def Pj (σ:St T) (dst:Option Nat) (t:Nat) (x:Operand):eY T:=
 match T.ti t with
 | some i=>match aaW i.kind (dD σ x) with
   | true=>match RD σ (dD σ x) with
     | some (n,ts)=>match bZ σ dst with
       | true=> .done ⟨.c (.sc (.int .i64 n)),[],ts,0,[]⟩ none
       | false=> .stuck
     | none=> .stuck
   | false=> .stuck
 | none=> .stuck
theorem Cc {t ty e:TypeId} {b:Option Addr} {n c:Nat} (h:P.underlying t=some (.slice e)) (w:World):(Builtin.len_ #[t] ty #[.slice b n c]).run P w= .ok (.int .i64 n) w:=by
 simp [Builtin.len_,run_underlying h,goInt]
theorem WY {t ty:TypeId} {b:ByteArray} (h:P.underlying t=some .string) (w:World):(Builtin.len_ #[t] ty #[.string b]).run P w= .ok (.int .i64 b.size) w:=by
 simp [Builtin.len_,run_underlying h,goInt]
theorem mJ {b:Builtin} {args:Array Operand} {ts:Array TypeId} {v:Value} {w w':World} (hT:o.op= .call {callee:= .builtin b,args:=args,argTypes:=ts}) (h:(builtin b ts o.type (args.map fun | .const _=>true | _=>false) (args.map a.eval)).run P w= .ok (.value v) w'):(execOp a.eval o).run P w= .ok (.value v) w':=by
 unfold execOp
 rw [hT]
 simp only [resolve,invoke,Sem.run_bind,Sem.run_pure,Result.andThen_ok]
 exact h
theorem aaE (hT:T.ok P) {t:Nat} {x:Operand} {U:bD T} {ob:Option Prop} (ho:o.op= .call {callee:= .builtin .len,args:=#[x],argTypes:=#[t]}) (h:Pj σ o.dst t x= .done U ob):eU P W0 o σ U:=by
 unfold Pj at h
 cases hi:T.ti t with
 | none=>rw [hi] at h;cases h
 | some i=>
   rw [hi] at h
   dsimp only at h
   cases hk:aaW i.kind (dD σ x) with
   | false=>rw [hk] at h;cases h
   | true=>
     rw [hk] at h
     dsimp only at h
     cases hl:RD σ (dD σ x) with
     | none=>rw [hl] at h;cases h
     | some nt=>
       obtain⟨n,ts⟩:=nt
       rw [hl] at h
       dsimp only at h
       cases hd:bZ σ o.dst<;>rw [hd] at h<;>cases h
       refine quiet_step (bG hd) (fun σ' a w env F hA hS=>⟨.int .i64 n,?_,⟨rfl,rfl⟩⟩)
       have e1:=bI hS hA (x:=x) (by simp [ho,Op.operands,Call.operands])
       obtain⟨inf,h1,h2,h3,h4,h5,h6,h7,h8⟩:=hT t i hi
       refine mJ ho ?_
       simp only [List.map_toArray,List.map_cons,List.map_nil,builtin,Sem.run_bind,Sem.run_pure]
       unfold aaW at hk
       split at hk
       ·rename_i hkind hsl
        rw [hkind] at h8
        rw [hsl] at e1 hl
        have e2:=e1.1
        simp only [RD,Option.some.injEq,Prod.mk.injEq] at hl
        rw [e2,WY h8.1,←hl.1];rfl
       ·rename_i hkind hsl
        rw [hkind] at h8
        rw [hsl] at e1 hl
        have e2:=e1.1
        simp only [RD,Option.some.injEq,Prod.mk.injEq] at hl
        rw [e2,Cc h8.1,←hl.1];rfl
       all_goals first
        | (cases hk;done)
        | (rename_i hkind hsl
           rw [hkind] at h8
           rw [hsl] at e1 hl
           simp only [RD] at hl
           split at hl
           ·rename_i p e l hr
            simp only [Option.some.injEq,Prod.mk.injEq] at hl
            obtain⟨h9,h10⟩:=F9 hS hA e1 hr (by rw [←hl.2];exact fun _ h=>h)
            obtain⟨A,c,h11,h12⟩:=h10.slice
            rw [h11,Cc h8.1,←hl.1]
            simp
           ·cases hl)
theorem jQ:∀{cs:List (Cell T)} {vs:List Value},aW σ env F w cs vs→cs.length=vs.length
 | [],_,h=>by cases h;rfl
 | c::cs,_,⟨v,r,e,h1,h2⟩=>by subst e;simp [jQ h2]
theorem wu:∀(n:Nat) {cs:List (Cell T)} {vs:List Value},aW σ env F w cs vs→aW σ env F w (cs.drop n) (vs.drop n)
 | 0,_,_,h=>h
 | n+1,[],_,h=>by cases h;rfl
 | n+1,c::cs,_,⟨v,r,e,h1,h2⟩=>by subst e;exact wu n h2
theorem wo:∀(n:Nat) {cs:List (Cell T)} {vs:List Value},aW σ env F w cs vs→aW σ env F w (cs.take n) (vs.take n)
 | 0,_,_,h=>rfl
 | n+1,[],_,h=>by cases h;rfl
 | n+1,c::cs,_,⟨v,r,e,h1,h2⟩=>by subst e;exact⟨v,_,rfl,h1,wo n h2⟩
theorem ED {c:Cell T}:∀{cs:List (Cell T)} {vs:List Value} {i:Nat},aW σ env F w cs vs→nth cs i=some c→∃v,vs[i]? =some v∧jg σ env F w c v
 | [],_,_,_,h=>by cases h
 | x::l,_,0,⟨v,r,e,h1,_⟩,h=>by cases h;subst e;exact⟨v,rfl,h1⟩
 | x::l,_,i+1,⟨v,r,e,_,h2⟩,h=>by
   subst e
   obtain⟨u,h3,h4⟩:=ED (i:=i) h2 h
   exact⟨u,by simpa using h3,h4⟩
def isStr:TK→Bool
 | .str _=>true
 | _=>false
theorem Y7 {i:TI} {t:Nat} (h:fK P t i) (hs:isStr i.kind=false):(∃d,P.underlying t=some d∧(∀fs,d≠ .struct fs)∧∀n e,d≠ .array n e)∧i.size=1:=by
 obtain⟨inf,h1,h2,h3,h4,h5,h6,h7,h8⟩:=h
 cases hk:i.kind<;>rw [hk] at h8 hs<;>first | exact h8 | (cases hs;done) | exact⟨⟨_,h8.1,by simp,by simp⟩,h8.2⟩
theorem zZ {i:TI} {t:Nat} (h:fK P t i) (hs:isStr i.kind=false) {ad:Addr} {v:Value} {w:World} (hc:w.cell? ad=some v):(Instr.loadAt t (.pointer (some ad))).run P w= .ok v w:=by
 obtain⟨⟨d,h1,h2,h3⟩,_⟩:=Y7 h hs
 have hag:(isAgg t).run P w= .ok false w:=by
  unfold isAgg
  cases d<;>simp_all [Sem.run_bind,run_underlying h1]
 simp [Instr.loadAt,Instr.sureAddr,loadVar,Sem.run_bind,hag,hc]
theorem MC {i:TI} {t:Nat} (h:fK P t i) (hs:isStr i.kind=true) {ad:Addr} {us:List Value} {w:World} (hl:us.length=i.size) (hc:∀j v,us[j]? =some v→w.cell? (ad.add j)=some v):(Instr.loadAt t (.pointer (some ad))).run P w= .ok (.agg us.toArray) w:=by
 obtain⟨inf,h1,h2,h3,h4,h5,h6,h7,h8⟩:=h
 cases hk:i.kind<;>rw [hk] at h8 hs<;>first | (cases hs;done) | skip
 obtain⟨fs,h9,_,_⟩:=h8
 have hag:(isAgg t).run P w= .ok true w:=by unfold isAgg;simp [Sem.run_bind,run_underlying h9]
 have hsz:(sizeOf t).run P w= .ok us.length w:=by simp [sizeOf,typeInfo,h1,Sem.run_bind,h2,hl]
 simp [Instr.loadAt,Instr.sureAddr,loadVar,Sem.run_bind,hag,hsz,run_loadCells_list w ad us hc]
def toCell (p:Option (Nat × Nat)):C0 T.Tb→Cell T
 | .sc v=> .sc v
 | .sl e l=> .im p e l
def bP (T:dV) (e:Nat) (l:List (T.Tb e)) (i:Nat):T.Tb e:=l.getD i (T.df e)
def kQ (i:TI) (cs:List (Cell T)) (o:Nat):Option (Slot T):=
 match isStr i.kind with
 | true=>match Nat.beq ((cs.drop o).take i.size).length i.size with
   | true=>some (.ag ((cs.drop o).take i.size))
   | false=>none
 | false=>match nth cs o with
   | some c=>some (.c c)
   | none=>none
theorem Ei {i:TI} {t:Nat} (h:fK P t i) {cs:List (Cell T)} {vs:List Value} {b:Addr} {n:Nat} {s:Slot T} (hc:aW σ env F w cs vs) (hv:∀j v,vs[j]? =some v→w.cell? (b.add j)=some v) (hl:kQ i cs n=some s):
  ∃v,(Instr.loadAt t (.pointer (some (b.add n)))).run P w= .ok v w∧bY σ env F w s v:=by
 unfold kQ at hl
 cases hs:isStr i.kind<;>rw [hs] at hl<;>dsimp only at hl
 ·cases hn:nth cs n with
  | none=>rw [hn] at hl;cases hl
  | some c=>
    rw [hn] at hl
    cases hl
    obtain⟨u,h1,h2⟩:=ED hc hn
    exact⟨u,zZ h hs (hv n u h1),h2⟩
 ·cases hb:Nat.beq ((cs.drop n).take i.size).length i.size<;>rw [hb] at hl<;>cases hl
  have h1:=wo i.size (wu n hc)
  have h2:=jQ h1
  have h3:=Nat.eq_of_beq_eq_true hb
  refine⟨_,MC h hs (us:=(vs.drop n).take i.size) (by omega) (fun j v hj=>?_),⟨_,rfl,by simpa using h1⟩⟩
  rw [add_add]
  refine hv (n+j) v ?_
  rw [List.getElem?_take] at hj
  split at hj
  ·rw [List.getElem?_drop] at hj;exact hj
  ·cases hj
theorem WZ {p:Option (Nat × Nat)} {c:C0 T.Tb} {u:Value} (h:Rd T.sz w (jM σ.A F p) (C0.DX T.enc c) u):jg σ env F w (toCell p c) u:=by
 cases c with
 | sc v=>cases h with | sc _ h=>exact⟨rfl,h⟩
 | sl e l=>exact⟨h.one,fun _=>h⟩
theorem Ci {p:Option (Nat × Nat)} {b:Addr}:∀{cs:List (C0 T.Tb)} {m:Nat},(∀q c,cs[q]? =some c→∃u,w.cell? (b.add (m+q))=some u∧Rd T.sz w (jM σ.A F p) (C0.DX T.enc c) u)→∃vs,aW σ env F w (cs.map (toCell p)) vs∧∀j v,vs[j]? =some v→w.cell? (b.add (m+j))=some v
 | [],_,_=>⟨[],rfl,fun j v h=>by simp at h⟩
 | c::cs,m,h=>by
   obtain⟨u,h1,h2⟩:=h 0 c rfl
   obtain⟨vs,h3,h4⟩:=Ci (cs:=cs) (m:=m+1) (fun q c hq=>by
    have:=h (q+1) c (by simpa using hq)
    rw [Nat.add_assoc,Nat.add_comm 1 q];exact this)
   refine⟨u::vs,⟨u,vs,rfl,WZ h2,h3⟩,fun j v hj=>?_⟩
   cases j with
   | zero=>cases hj;exact h1
   | succ j=>have:=h4 j v (by simpa using hj);rw [Nat.add_assoc,Nat.add_comm 1 j] at this;exact this
theorem Ol {p:Option (Nat × Nat)} {e:Nat} {l:List (T.Tb e)} {ad:Addr} {n c:Nat} {i:Nat} (h:Rd T.sz w (jM σ.A F p) (.sl e (l.map (T.enc e))) (.slice (some ad) n c)) (hi:i<l.length):
  ∃vs,aW σ env F w ((T.cells e (bP T e l i)).map (toCell p)) vs∧∀j v,vs[j]? =some v→w.cell? ((ad.add (i*T.sz e)).add j)=some v:=by
 have hj:(l.map (T.enc e))[i]? =some (T.enc e (bP T e l i)):=by simp [bP,hi,List.getD_eq_getElem?_getD]
 obtain⟨ad',c',h1,_,_,_,_,h2⟩:=h.elem hj
 cases h1
 obtain⟨vs,h3,h4⟩:=Ci (σ:=σ) (env:=env) (cs:=T.cells e (bP T e l i)) (p:=p) (F:=F) (w:=w) (b:=ad) (m:=i*T.sz e) (fun q c hq=>by
  refine h2 q (C0.DX T.enc c) ?_
  rw [T.gZ,List.getElem?_map,hq];rfl)
 exact⟨vs,h3,fun j v hj=>by rw [add_add];exact h4 j v hj⟩
def plS (r bv i o:Nat):Slot T→Slot T
 | .c (.im (some (r',lY)) e l)=>match Nat.beq r' r with
   | true=>match Nat.beq lY bv with
     | true=> .pl r bv i o e l
     | false=> .c (.im (some (r',lY)) e l)
   | false=> .c (.im (some (r',lY)) e l)
 | s=>s
theorem ac3 {r bv i o:Nat} {s:Slot T} {v:Value} (h:bY σ env F w s v) (hp:∀e l,s= .c (.im (some (r,bv)) e l)→∀e' l',σ.res r= .row bv e' l'→i<l'.length∧∃g c,F r g∧env r= .slice (some ⟨g,0,none⟩) l'.length c∧w.cell? ((⟨g,0,none⟩:Addr).add (i*T.sz e'+o))=some v):bY σ env F w (plS r bv i o s) v:=by
 unfold plS
 split
 ·rename_i r' lY e l
  cases h1:Nat.beq r' r<;>dsimp only
  ·exact h
  cases h2:Nat.beq lY bv<;>dsimp only
  ·exact h
  have:=Nat.eq_of_beq_eq_true h1
  subst this
  have:=Nat.eq_of_beq_eq_true h2
  subst this
  exact⟨h,hp e l rfl⟩
 ·exact h
theorem aeg {i:TI} {t:Nat} (h:fK P t i) {cs:List (Cell T)} {n e:Nat} {p:Option (Nat × Nat)} {l:List (T.Tb e)} (hl:kQ i cs n=some (.c (.im p e l))) {vs:List Value} {ad:Addr} (hc:aW σ env F w cs vs) (hv:∀j v,vs[j]? =some v→w.cell? (ad.add j)=some v) {v:Value} (hr:(Instr.loadAt t (.pointer (some (ad.add n)))).run P w= .ok v w):w.cell? (ad.add n)=some v:=by
 unfold kQ at hl
 cases hs:isStr i.kind<;>rw [hs] at hl<;>dsimp only at hl
 ·cases hn:nth cs n with
  | none=>rw [hn] at hl;cases hl
  | some c=>
    obtain⟨u,h1,h2⟩:=ED hc hn
    have h3:=zZ h hs (hv n u h1)
    rw [hr] at h3
    cases h3
    exact hv n v h1
 ·split at hl<;>cases hl
def Jp (σ:St T) (dst:Option Nat) (t:Nat) (x:Operand):eY T:=
 match T.ti t with
 | some i=>match bZ σ dst with
   | true=>match dD σ x with
     | .c (.px r n)=>match σ.res r with
       | .bx _ cs=>match kQ i cs n with
         | some s=> .done ⟨s,[],r::s.refs,0,[]⟩ none
         | none=> .stuck
       | _=> .stuck
     | .pi p e l j n=>match uV σ p with
       | true=>match kQ i ((T.cells e (bP T e l j)).map (toCell p)) n with
         | some s=> .done ⟨s,[],uU p++s.refs,0,[]⟩ none
         | none=> .stuck
       | false=> .stuck
     | .pe r j n=>match σ.res r with
       | .row bv e l=>match kQ i ((T.cells e (bP T e l j)).map (toCell (some (r,bv)))) n with
         | some s=> .done ⟨plS r bv j n s,[],r::bv::s.refs,0,[]⟩ none
         | none=> .stuck
       | _=> .stuck
     | _=> .stuck
   | false=> .stuck
 | none=> .stuck
theorem yX {t:Nat} {x:Operand} (ho:o.op= .load t x) {v:Value} (h:(Instr.loadAt t (a.eval x)).run P w= .ok v w):(execOp a.eval o).run P w= .ok (.value v) w:=by
 unfold execOp;rw [ho];simp only [Sem.run_bind,h];rfl
theorem YE (hT:T.ok P) {t:Nat} {x:Operand} {U:bD T} {ob:Option Prop} (ho:o.op= .load t x) (h:Jp σ o.dst t x= .done U ob):eU P W0 o σ U:=by
 unfold Jp at h
 cases hi:T.ti t with
 | none=>rw [hi] at h;cases h
 | some i=>
   rw [hi] at h
   dsimp only at h
   cases hd:bZ σ o.dst<;>rw [hd] at h<;>dsimp only at h
   ·cases h
   have hty:=hT t i hi
   split at h
   ·rename_i r n hx
    split at h
    ·rename_i t' cs hr
     cases hs:kQ i cs n with
     | none=>rw [hs] at h;cases h
     | some s=>
       rw [hs] at h
       cases h
       refine quiet_step (bG hd) (fun σ' a w env F hA hS=>?_)
       have e1:=bI hS hA (x:=x) (by simp [ho,Op.operands])
       rw [hx] at e1
       obtain⟨g,h1,h2⟩:=e1
       have h3:=hS.res r
       rw [hA.res r (by simp),hr] at h3
       obtain⟨g',arr,h4,h5,h6,h7,h8⟩:=h3
       rw [h1] at h4
       cases h4
       obtain⟨v,h9,h10⟩:=Ei hty h8 (b:=⟨g,0,none⟩) (fun j v hj=>by rw [qG h7,←Array.getElem?_toList];exact hj) hs
       rw [add_lit,Nat.zero_add] at h9
       exact⟨v,yX ho (by rw [h2];exact h9),h10⟩
    ·cases h
   ·rename_i p e l j n hx
    cases hl:uV σ p<;>rw [hl] at h<;>dsimp only at h
    ·cases h
    cases hs:kQ i ((T.cells e (bP T e l j)).map (toCell p)) n with
    | none=>rw [hs] at h;cases h
    | some s=>
      rw [hs] at h
      cases h
      refine quiet_step (bG hd) (fun σ' a w env F hA hS=>?_)
      have e1:=bI hS hA (x:=x) (by simp [ho,Op.operands])
      rw [hx] at e1
      obtain⟨hj,ad,h1,h2⟩:=e1
      obtain⟨c,h3⟩:=h2 (CB hA (fun r hr=>List.mem_append_left _ hr) (wB hl))
      obtain⟨vs,h4,h5⟩:=Ol (σ:=σ') (env:=env) h3 hj
      obtain⟨v,h9,h10⟩:=Ei hty h4 h5 hs
      rw [add_add] at h9
      exact⟨v,yX ho (by rw [h1];exact h9),h10⟩
   ·rename_i r j n hx
    split at h
    ·rename_i bv e l hr
     cases hs:kQ i ((T.cells e (bP T e l j)).map (toCell (some (r,bv)))) n with
     | none=>rw [hs] at h;cases h
     | some s=>
       rw [hs] at h
       cases h
       refine quiet_step (bG hd) (fun σ' a w env F hA hS=>?_)
       have e1:=bI hS hA (x:=x) (by simp [ho,Op.operands])
       rw [hx] at e1
       have hr':σ'.res r= .row bv e l:=by rw [hA.res r (by simp)];exact hr
       obtain⟨hj,g,c,h1,h2⟩:=e1.1 bv e l hr'
       have h3:=hS.res r
       rw [hr'] at h3
       have h3':Rd T.sz w (jM σ'.A F (some (r,bv))) (.sl e (l.map (T.enc e))) (env r):=(Ow.rd h3).mono (fun k hk=> .inr ⟨(r,bv),rfl,hk⟩)
       have hFg:F r g:=by
        rcases(show Ow T.sz w (F r) (.sl e (l.map (T.enc e))) (env r) from h3).form with ⟨h,_⟩ | ⟨g',c',_,h,hg,_⟩
        ·have h':=congrArg List.length h
         simp at h';subst h';simp at hj
        ·rw [h1] at h;simp only [Value.slice.injEq,Option.some.injEq,Addr.mk.injEq,and_true,true_and] at h;rw [h.1];exact hg
       rw [h1] at h3'
       obtain⟨vs,h4,h5⟩:=Ol (σ:=σ') (env:=env) h3' hj
       obtain⟨v,h9,h10⟩:=Ei hty h4 h5 hs
       have h11:∀e1 l1,s= .c (.im (some (r,bv)) e1 l1)→w.cell? (((⟨g,0,none⟩:Addr).add (j*T.sz e)).add n)=some v:=fun e1 l1 hs'=>by
        rw [hs'] at hs
        exact aeg hty hs h4 h5 h9
       rw [add_add] at h9 h11
       refine⟨v,yX ho (by rw [h2];exact h9),ac3 h10 (fun e1 l1 hs' e' l' hr2=>?_)⟩
       rw [hr'] at hr2
       cases hr2
       exact⟨hj,g,c,hFg,h1,h11 e1 l1 hs'⟩
    ·cases h
   ·cases h
end
end Go.Proofs.YtcnfgfomholheaaGreatDoor.Z
end
section
namespace Go.Proofs.YtcnfgfomholheaaGreatDoor.Z
open Go.RowKit
set_option linter.unusedVariables false
set_option linter.unusedSimpArgs false
section
variable {T:dV} {P:Program} {W0:Fr} {σ σ':St T} {a:Act} {w:World} {env:Nat→Value} {F:Nat→Nat→Prop} {o:Oper} {bf aZ:List Nat}
def Aa (s:Slot T) (k:Nat):Option (Slot T):=
 match s with
 | .c (.px r n)=>some (.c (.px r (n+k)))
 | .pi p e l i n=>some (.pi p e l i (n+k))
 | .pe r i n=>some (.pe r i (n+k))
 | _=>none
def LV (σ:St T) (dst:Option Nat) (t:Nat) (x:Operand) (f:Nat):eY T:=
 match T.ti t with
 | some i=>match i.kind with
   | .str jr=>match nth jr f with
     | some (k,_)=>match Aa (dD σ x) k with
       | some s=>match bZ σ dst with
         | true=> .done ⟨s,[],s.refs,0,[]⟩ none
         | false=> .stuck
       | none=> .stuck
     | none=> .stuck
   | _=> .stuck
 | none=> .stuck
theorem zM {α:Type}:∀{l:List α} {i:Nat} {x:α},nth l i=some x→l[i]? =some x
 | [],_,_,h=>by cases h
 | y::l,0,_,h=>by cases h;rfl
 | y::l,i+1,_,h=>by simpa using zM (l:=l) h
theorem aaX {fs:List Field}:∀{jr:List (Nat × Nat)},fs.mapM (fun f=>(P.info? f.type).map fun i=>(f.offset,i.size))=some jr→∀{j:Nat} {p:Nat × Nat},jr[j]? =some p→∃(fd:Field) (g:TypeInfo),fs[j]? =some fd∧fd.offset=p.1∧P.info? fd.type=some g∧g.size=p.2:=by
 induction fs with
 | nil=>intro jr h j p hp;simp at h;subst h;simp at hp
 | cons f fs ih=>
   intro jr h j p hp
   simp only [List.mapM_cons,Option.bind_eq_bind,Option.pure_def] at h
   cases hi:P.info? f.type with
   | none=>simp [hi] at h
   | some i=>
     cases hr:fs.mapM (fun f=>(P.info? f.type).map fun i=>(f.offset,i.size)) with
     | none=>simp [hi,hr] at h
     | some rest=>
       simp [hi,hr] at h
       subst h
       cases j with
       | zero=>simp at hp;subst hp;exact⟨f,i,rfl,rfl,hi,rfl⟩
       | succ j=>simpa using ih hr (by simpa using hp)
theorem W9 {fs:Array Field} {jr:List (Nat × Nat)} (h:fs.toList.mapM (fun f=>(P.info? f.type).map fun i=>(f.offset,i.size))=some jr) {j:Nat} {p:Nat × Nat} (hp:jr[j]? =some p):∃(fd:Field) (g:TypeInfo),fs[j]? =some fd∧fd.offset=p.1∧P.info? fd.type=some g∧g.size=p.2:=by
 obtain⟨fd,g,h1,h2⟩:=aaX h hp
 exact⟨fd,g,by rw [←Array.getElem?_toList];exact h1,h2⟩
theorem Xa {s s':Slot T} {k:Nat} {u:Value} (h:bY σ env F w s u) (hs:Aa s k=some s'):∃ad,u= .pointer (some ad)∧bY σ env F w s' (.pointer (some (ad.add k)))∨(∃r i n,s= .pe r i n∧(∀bv e l,σ.res r≠ .row bv e l)∧∀bv e l,σ.res r≠ .sh bv e l):=by
 unfold Aa at hs
 split at hs
 ·cases hs
  obtain⟨g,h1,h2⟩:=h
  exact⟨_, .inl ⟨h2,g,h1,by rw [add_lit]⟩⟩
 ·cases hs
  obtain⟨h0,ad,h1,h2⟩:=h
  exact⟨_, .inl ⟨h1,h0,ad,by rw [add_add,Nat.add_assoc],h2⟩⟩
 ·rename_i r i n
  cases hs
  by_cases hr:∃bv e l,σ.res r= .row bv e l
  ·obtain⟨bv,e,l,hr⟩:=hr
   obtain⟨h1,g,c,h2,h3⟩:=h.1 bv e l hr
   refine⟨_, .inl ⟨h3,fun lY e' l' hr'=>?_,fun lY e' l' hr'=>?_⟩⟩
   ·rw [hr] at hr'
    cases hr'
    exact⟨h1,g,c,h2,by rw [add_add,Nat.add_assoc]⟩
   ·rw [hr] at hr'
    cases hr'
  ·by_cases hr2:∃bv e l,σ.res r= .sh bv e l
   ·obtain⟨bv,e,l,hr2⟩:=hr2
    obtain⟨h1,g,c,h2,h3⟩:=h.2 bv e l hr2
    refine⟨_, .inl ⟨h3,fun lY e' l' hr'=>?_,fun lY e' l' hr'=>?_⟩⟩
    ·rw [hr2] at hr'
     cases hr'
    ·rw [hr2] at hr'
     cases hr'
     exact⟨h1,g,c,h2,by rw [add_add,Nat.add_assoc]⟩
   ·exact⟨⟨0,0,none⟩, .inr ⟨r,i,n,rfl,fun bv e l h=>hr ⟨bv,e,l,h⟩,fun bv e l h=>hr2 ⟨bv,e,l,h⟩⟩⟩
 ·cases hs
def aaY (σ:St T):Slot T→Bool
 | .pe r _ _=>match σ.res r with
   | .row _ _ _=>true
   | .sh _ _ _=>true
   | _=>false
 | _=>true
def BI (σ:St T) (dst:Option Nat) (t:Nat) (x:Operand) (f:Nat):eY T:=
 match aaY σ (dD σ x) with
 | true=>LV σ dst t x f
 | false=> .stuck
theorem Ug {s s':Slot T} {k:Nat} (hs:Aa s k=some s'):s'.refs=s.refs:=by
 unfold Aa at hs
 split at hs<;>first | (cases hs;done) | (cases hs;simp [Slot.refs,Cell.refs];try (split<;>rfl))
 rename_i p e l i n
 cases p<;>rfl
theorem Xb {t:Nat} {x:Operand} {f:Nat} (ho:o.op= .fieldAddr t x f) {v:Value} (h:(Instr.fieldAt t (a.eval x) f).run P w= .ok v w):(execOp a.eval o).run P w= .ok (.value v) w:=by
 unfold execOp;rw [ho];simp only [Sem.run_bind,h];rfl
theorem WH (hT:T.ok P) {t:Nat} {x:Operand} {f:Nat} {U:bD T} {ob:Option Prop} (ho:o.op= .fieldAddr t x f) (h:BI σ o.dst t x f= .done U ob):eU P W0 o σ U:=by
 unfold BI at h
 cases hp:aaY σ (dD σ x)<;>rw [hp] at h<;>dsimp only at h
 ·cases h
 unfold LV at h
 cases hi:T.ti t with
 | none=>rw [hi] at h;cases h
 | some i=>
   rw [hi] at h
   dsimp only at h
   split at h
   ·rename_i jr hk
    cases hn:nth jr f with
    | none=>rw [hn] at h;cases h
    | some ks=>
      obtain⟨k,sz⟩:=ks
      rw [hn] at h
      dsimp only at h
      cases hs:Aa (dD σ x) k with
      | none=>rw [hs] at h;cases h
      | some s=>
        rw [hs] at h
        dsimp only at h
        cases hd:bZ σ o.dst<;>rw [hd] at h<;>cases h
        refine quiet_step (bG hd) (fun σ' a w env F hA hS=>?_)
        have e1:=bI hS hA (x:=x) (by simp [ho,Op.operands])
        obtain⟨inf,h1,h2,h3,h4,h5,h6,h7,h8⟩:=hT t i hi
        rw [hk] at h8
        obtain⟨fs,h9,h10,ad4⟩:=h8
        obtain⟨fd,g,h11,h12,h13,agc⟩:=W9 h10 (zM hn)
        have Jk:g.size≠0:=by rw [agc];exact ad4 _ (List.mem_of_getElem? (zM hn))
        obtain⟨ad,h15 | ⟨r,j,n,h15,h16⟩⟩:=Xa e1 hs
        ·refine⟨_,Xb ho ?_,h15.2⟩
         have hsz:∀w,(sizeOf fd.type).run P w= .ok g.size w:=fun w=>by simp [sizeOf,typeInfo,h13]
         rw [h15.1]
         simp [Instr.fieldAt,run_underlying h9,h11,Instr.sureAddr,fieldPlace,hsz,Jk,h12]
        ·exfalso
         rw [h15] at hp hs
         unfold aaY at hp
         have:r∈s.refs:=by rw [Ug hs];simp [Slot.refs]
         cases hr:σ.res r with
         | row bv e l=>exact h16.1 bv e l (by rw [hA.res r this];exact hr)
         | sh bv e l=>exact h16.2 bv e l (by rw [hA.res r this];exact hr)
         | no=>simp [hr] at hp
         | bx t cs=>simp [hr] at hp
   ·cases h
def uQ (σ:St T) (dst:Option Nat) (t:Nat) (x i:Operand):eY T:=
 match T.ti t with
 | some ti=>match ti.kind with
   | .slice e'=>match T.ti e' with
     | some _=>match bZ σ dst with
       | true=>match sv (dD σ i) with
         | some (.int _ n)=>match dD σ x with
           | .c (.im p e l)=>match uV σ p with
             | true=>match Nat.beq e e' with
               | true=> .done ⟨.pi p e l n.toNat 0,[],uU p,0,[]⟩ (some (0≤n∧n<(l.length:Int)))
               | false=> .stuck
             | false=> .stuck
           | .c (.hd r)=>match σ.res r with
             | .row bv e l=>match Nat.beq e e' with
               | true=> .done ⟨.pe r n.toNat 0,[],[r],0,[]⟩ (some (0≤n∧n<(l.length:Int)))
               | false=> .stuck
             | _=> .stuck
           | _=> .stuck
         | _=> .stuck
       | false=> .stuck
     | none=> .stuck
   | _=> .stuck
 | none=> .stuck
theorem xU {t e:TypeId} {ad:Addr} {n c:Nat} {k:IntKind} {i:Int} {inf:TypeInfo} (h:P.underlying t=some (.slice e)) (hi:P.info? e=some inf) (h0:0≤i) (h1:i<n) (w:World):(Instr.indexAt t (.slice (some ad) n c) (.int k i)).run P w= .ok (.pointer (some (ad.add (i.toNat*inf.size)))) w:=by
 have hsz:∀w,(sizeOf e).run P w= .ok inf.size w:=fun w=>by simp [sizeOf,typeInfo,hi]
 simp [Instr.indexAt,run_underlying h,asIntOf,h0,h1,hsz]
theorem Ce {t:Nat} {x i:Operand} (ho:o.op= .indexAddr t x i) {v:Value} (h:(Instr.indexAt t (a.eval x) (a.eval i)).run P w= .ok v w):(execOp a.eval o).run P w= .ok (.value v) w:=by
 unfold execOp;rw [ho];simp only [Sem.run_bind,h];rfl
theorem l9 {e:Nat} {i:TI} (h:T.ti e=some i):T.sz e=i.size:=by simp [dV.sz,h]
theorem LQ (hT:T.ok P) {t:Nat} {x i:Operand} {U:bD T} {ob:Option Prop} (ho:o.op= .indexAddr t x i) (h:uQ σ o.dst t x i= .done U ob) (hob:sD ob):eU P W0 o σ U:=by
 unfold uQ at h
 cases hi:T.ti t with
 | none=>rw [hi] at h;cases h
 | some ti=>
   rw [hi] at h
   dsimp only at h
   split at h
   ·rename_i e' hk
    cases he:T.ti e' with
    | none=>rw [he] at h;cases h
    | some ei=>
      rw [he] at h
      dsimp only at h
      cases hd:bZ σ o.dst<;>rw [hd] at h<;>dsimp only at h
      ·cases h
      obtain⟨inf,h1,h2,h3,h4,h5,h6,h7,h8⟩:=hT t ti hi
      obtain⟨inf',g1,g2,_⟩:=hT e' ei he
      rw [hk] at h8
      split at h
      ·rename_i k n hn
       split at h
       ·rename_i p e l hx
        cases hl:uV σ p<;>rw [hl] at h<;>dsimp only at h
        ·cases h
        cases hb:Nat.beq e e'<;>rw [hb] at h<;>cases h
        have hee:=Nat.eq_of_beq_eq_true hb
        subst hee
        refine quiet_step (bG hd) (fun σ' a w env F hA hS=>?_)
        have e1:=bI hS hA (x:=x) (by simp [ho,Op.operands])
        have e2:=jF (bI hS hA (x:=i) (by simp [ho,Op.operands])) hn
        rw [hx] at e1
        have hlv:=CB hA (fun r hr=>hr) (wB hl)
        have h10:=e1.2 hlv
        have hob:0≤n∧n<(l.length:Int):=hob
        have hlt:n.toNat<l.length:=by omega
        obtain⟨ad,c,h11,_,_,_,_,_⟩:=h10.elem (j:=n.toNat) (l:=T.enc e (l[n.toNat])) (by simp [hlt])
        refine⟨.pointer (some (ad.add (n.toNat*inf'.size))),Ce ho ?_,hlt,ad,by rw [l9 he,←g2];rfl,fun _=>⟨c,by rw [h11] at h10;simpa using h10⟩⟩
        rw [h11,e2]
        exact xU h8.1 g1 hob.1 (by simpa using hob.2) w
       ·rename_i r hx
        split at h
        ·rename_i bv e l hr
         cases hb:Nat.beq e e'<;>rw [hb] at h<;>cases h
         have hee:=Nat.eq_of_beq_eq_true hb
         subst hee
         refine quiet_step (bG hd) (fun σ' a w env F hA hS=>?_)
         have e1:=bI hS hA (x:=x) (by simp [ho,Op.operands])
         have e2:=jF (bI hS hA (x:=i) (by simp [ho,Op.operands])) hn
         rw [hx] at e1
         have hr':σ'.res r= .row bv e l:=by rw [hA.res r (by simp)];exact hr
         have h10:=hS.res r
         rw [hr'] at h10
         have hob:0≤n∧n<(l.length:Int):=hob
         have hlt:n.toNat<l.length:=by omega
         have h12:Ow T.sz w (F r) (.sl e (l.map (T.enc e))) (env r):=h10
         have h13:∃g c,env r= .slice (some ⟨g,0,none⟩) l.length c:=by
          rcases h12.form with ⟨h,_⟩ | ⟨g,c,_,h,_⟩
          ·have h':=congrArg List.length h
           simp at h';subst h';simp at hlt
          ·exact⟨g,c,by simpa using h⟩
         obtain⟨g,c,Jk⟩:=h13
         refine⟨.pointer (some ((⟨g,0,none⟩:Addr).add (n.toNat*inf'.size))),Ce ho ?_,?_⟩
         ·rw [e1.1,Jk,e2]
          exact xU h8.1 g1 hob.1 (by simpa using hob.2) w
         ·refine⟨fun lY e' l' xW=>?_,fun lY e' l' xW=>?_⟩
          ·rw [hr'] at xW
           cases xW
           exact⟨hlt,g,c,Jk,by rw [l9 he,←g2];rfl⟩
          ·rw [hr'] at xW
           cases xW
        ·cases h
       ·cases h
      ·cases h
   ·cases h
def bt (s:ByteArray) (i:Int):Int:=if h:i.toNat<s.size then ((s[i.toNat]'h).toNat:Int) else 0
def FT (σ:St T) (dst:Option Nat) (t:Nat) (x i:Operand):eY T:=
 match T.ti t with
 | some ti=>match ti.kind with
   | .text=>match bZ σ dst with
     | true=>match sv (dD σ i) with
       | some (.int _ n)=>match sv (dD σ x) with
         | some (.string b)=> .done ⟨.c (.sc (.int .u8 (bt b n))),[],[],0,[]⟩ (some (0≤n∧n<(b.size:Int)))
         | _=> .stuck
       | _=> .stuck
     | false=> .stuck
   | _=> .stuck
 | none=> .stuck
theorem WI (hT:T.ok P) {t:Nat} {x i:Operand} {U:bD T} {ob:Option Prop} (ho:o.op= .index t x i) (h:FT σ o.dst t x i= .done U ob) (hob:sD ob):eU P W0 o σ U:=by
 unfold FT at h
 cases hi:T.ti t with
 | none=>rw [hi] at h;cases h
 | some ti=>
   rw [hi] at h
   dsimp only at h
   split at h
   ·rename_i hk
    cases hd:bZ σ o.dst<;>rw [hd] at h<;>dsimp only at h
    ·cases h
    obtain⟨inf,h1,h2,h3,h4,h5,h6,h7,h8⟩:=hT t ti hi
    rw [hk] at h8
    split at h
    ·rename_i k n hn
     split at h
     ·rename_i b hb
      cases h
      refine quiet_step (bG hd) (fun σ' a w env F hA hS=>⟨_,?_,⟨rfl,rfl⟩⟩)
      have e1:=jF (bI hS hA (x:=x) (by simp [ho,Op.operands])) hb
      have e2:=jF (bI hS hA (x:=i) (by simp [ho,Op.operands])) hn
      have hob:0≤n∧n<(b.size:Int):=hob
      have hlt:n.toNat<b.size:=by omega
      unfold execOp;rw [ho]
      simp [e1,e2,Instr.index,asIntOf,run_underlying h8.1,hob.1,hlt,bt]
     ·cases h
    ·cases h
   ·cases h
end
end Go.Proofs.YtcnfgfomholheaaGreatDoor.Z
end
section
namespace Go.Proofs.YtcnfgfomholheaaGreatDoor.Z
open Go.RowKit
set_option linter.unusedVariables false
set_option linter.unusedSimpArgs false
section
variable {T:dV} {P:Program} {W0:Fr} {σ σ' σ1:St T} {a:Act} {w w1:World} {env bC:Nat→Value} {F F1:Nat→Nat→Prop} {o:Oper} {bf aZ:List Nat}
def fu {α:Type} (f:Nat→α) (r:Nat) (x:α):Nat→α:=fun s=>match Nat.beq s r with
 | true=>x
 | false=>f s
theorem wM {α:Type} (f:Nat→α) (r:Nat) (x:α):fu f r x r=x:=by simp [fu,Nat.beq_eq]
theorem Gg {α:Type} (f:Nat→α) {r s:Nat} (x:α) (h:s≠r):fu f r x s=f s:=by simp [fu,gq h]
structure Grew (w w1:World):Prop where
 os:w1.os=w.os
 tape:w1.tape=w.tape
 output:w1.output=w.output
 size:w.heap.size≤w1.heap.size
 block:∀k,k<w.heap.size→w1.heap[k]? =w.heap[k]?
theorem Grew.below (h:Grew w w1):Below w.heap.size w w1:=⟨h.os,h.tape,h.output,h.size,h.block⟩
theorem Grew.of_below (h:Below w.heap.size w w1):Grew w w1:=⟨h.os,h.tape,h.output,h.size,h.block⟩
theorem Grew.alloc (w:World) (o:Obj):Grew w (w.alloc o):= .of_below ((Below.refl _ _).alloc (Nat.le_refl _) o)
theorem Grew.drew (w:World):Grew w w.drew:=⟨rfl,rfl,rfl,Nat.le_refl _,fun _ _=>rfl⟩
theorem Grew.trans {w2:World} (h:Grew w w1) (k:Grew w1 w2):Grew w w2:=⟨k.os.trans h.os,k.tape.trans h.tape,k.output.trans h.output,Nat.le_trans h.size k.size,fun i hi=>(k.block i (Nat.lt_of_lt_of_le hi h.size)).trans (h.block i hi)⟩
theorem sK (h:nI W0 w) (g:Grew w w1):nI W0 w1:=h.step g.os g.tape g.output g.size (fun k hk _=>g.block k hk)
theorem gB (h:dZ W0 σ a w env F) {r k:Nat} (hk:F r k):k<w.heap.size:=(h.own r k hk).2
theorem dZ.fresh (h:dZ W0 σ a w env F) {r:Nat} (hu:jT σ r) (hn:σ.res r= .no) (g:Grew w w1) {u:Value} {G:Nat→Prop} (hG:∀k,G k→w.heap.size≤k∧k<w1.heap.size) {x:dK T} {dst:Option Nat} {s:Slot T} {bf aZ:List Nat} {nx:Nat} {v:Value}
  (hx:∀{σ1:St T} {bC F1},Calm σ σ1 F F1 w w1→bC r=u→(∀k,F1 r k↔G k)→(∀q,q≠r→bC q=env q)→(∀q:Nat × Nat,q.1≠r→Holds σ σ1 F F1 w w1 q)→xO σ1 bC F1 w1 r x)
  (hs:∀{σ1:St T} {bC F1},Calm σ σ1 F F1 w w1→bC r=u→(∀q,q≠r→bC q=env q)→(∀q:Nat × Nat,q.1≠r→Holds σ σ1 F F1 w w1 q)→σ1.res r=x→bY σ1 bC F1 w1 s v)
  (hd:∀d,dst=some d→d<σ.n):jO W0 (σ.upd dst ⟨s,[(r,x)],bf,nx,aZ⟩) (a.put dst v) w1:=by
 have hres:∀q,q≠r→(σ.upd dst ⟨s,[(r,x)],bf,nx,aZ⟩).res q=σ.res q:=fun q hq=>St.lT (fun p hp=>by simp at hp;subst hp;exact fun e=>hq e.symm)
 have kL:(σ.upd dst ⟨s,[(r,x)],bf,nx,aZ⟩).res r=x:=by rw [St.dL];simp [lk]
 have hFo:∀k,k<w.heap.size→¬G k:=fun k hk hg=>by have:=(hG k hg).1;omega
 have calm:Calm σ (σ.upd dst ⟨s,[(r,x)],bf,nx,aZ⟩) F (fu F r G) w w1:=⟨St.iQ _ _ _,g.size,fun k hk hst=>⟨fun q hq=>by
  by_cases e:q=r
  ·subst e;rw [wM] at hq;exact hFo k hk hq
  ·rw [Gg _ _ e] at hq;exact hst q hq,g.block k hk⟩⟩
 have same:∀q,q≠r→Same σ (σ.upd dst ⟨s,[(r,x)],bf,nx,aZ⟩) env (fu env r u) F (fu F r G) w w1 q:=fun q hq=>
  ⟨Gg _ _ hq,fun k=>by rw [Gg _ _ hq],hres q hq,fun k hk=>g.block k (gB h hk)⟩
 refine h.upd (bC:=fu env r u) (F1:=fu F r G) (fun q=>q=r) (sK h.below g) calm same ?_ ?_ ?_ (fun q hq=> .inl (by subst hq;exact hu)) (fun d hd'=>⟨hd d hd',?_⟩)
 ·rintro q rfl
  rw [kL]
  exact hx calm (wM _ _ _) (fun k=>by rw [wM]) (fun q hq=>Gg _ _ hq) (fun q hq=>(same q.1 hq).holds)
 ·rintro q k rfl hk
  rw [wM] at hk
  exact⟨h.below.may (hG k hk).1,(hG k hk).2⟩
 ·rintro q s k rfl hk hk2
  rw [wM] at hk
  by_cases e:s=q
  ·exact e.symm
  ·rw [Gg _ _ e] at hk2
   have:=gB h hk2
   have:=(hG k hk).1
   omega
 ·exact hs calm (wM _ _ _) (fun q hq=>Gg _ _ hq) (fun q hq=>(same q.1 hq).holds) kL
theorem BX (w:World) (o:Obj):(w.alloc o).heap[w.heap.size]? =some o:=heap_alloc_new w o
theorem xQ (w:World) (o:Obj):(w.alloc o).heap.size=w.heap.size+1:=by show(w.heap.push o).size=_;simp
theorem dZ.aeh (h:dZ W0 σ a w env F) {r:Nat} (hu:jT σ r) (hn:σ.res r= .no) {t:Nat} {cs:List (Cell T)} {arr:Array Value} (hc:aW σ env F w cs arr.toList) (hr:r∉refsOf cs) {dst:Option Nat} {bf aZ:List Nat} {nx:Nat} (hd:∀d,dst=some d→d<σ.n):
  jO W0 (σ.upd dst ⟨.c (.px r 0),[(r, .bx t cs)],bf,nx,aZ⟩) (a.put dst (.pointer (some ⟨w.heap.size,0,none⟩))) (w.alloc (.cells arr t)):=by
 refine h.fresh hu hn (Grew.alloc w _) (u:= .pointer (some ⟨w.heap.size,0,none⟩)) (G:=fun k=>k=w.heap.size) (fun k hk=>by subst hk;rw [xQ];omega) ?_ ?_ hd
 ·intro σ1 bC F1 calm he hG hoth hv
  exact⟨w.heap.size,arr,he,(hG _).2 rfl,fun k hk=>(hG k).1 hk,BX w _,lJ calm hc (fun q hq=>hoth q (fun e=>hr (e▸hq))) (fun q hq=>hv q (fun e=>hr (e▸zx hq)))⟩
 ·intro σ1 bC F1 calm he hoth hv hres
  exact⟨w.heap.size,he,rfl⟩
def FU (σ:St T) (nx:Nat) (dst:Option Nat) (t:Nat) (cs:List (Cell T)):eY T:=
 match bZ σ dst with
 | true=>match σ.fresh nx with
   | true=>match jR nx (refsOf cs) with
     | false=> .done ⟨.c (.px nx 0),[(nx, .bx t cs)],nx::refsOf cs,1,[nx]⟩ none
     | true=> .stuck
   | false=> .stuck
 | false=> .stuck
theorem RF {nx t:Nat} {cs:List (Cell T)} {U:bD T} {ob:Option Prop} (h:FU σ nx o.dst t cs= .done U ob)
  (hrun:∀(σ':St T) (a:Act) (w:World) (env:Nat→Value) (F:Nat→Nat→Prop),Agree σ σ' (kU o.op) (nx::refsOf cs) [nx]→dZ W0 σ' a w env F→∃arr,(execOp a.eval o).run P w= .ok (.value (.pointer (some ⟨w.heap.size,0,none⟩))) (w.alloc (.cells arr t))∧aW σ' env F w cs arr.toList):eU P W0 o σ U:=by
 unfold FU at h
 cases hd:bZ σ o.dst<;>rw [hd] at h<;>dsimp only at h
 ·cases h
 cases hf:σ.fresh nx<;>rw [hf] at h<;>dsimp only at h
 ·cases h
 cases hr:jR nx (refsOf cs)<;>rw [hr] at h<;>cases h
 intro σ' a w K Q hA ⟨env,F,hS⟩ hK
 obtain⟨arr,h1,h2⟩:=hrun σ' a w env F hA hS
 obtain⟨h3,h4⟩:=hA.new (by simp) hf
 refine jJ h1 (hK _ _ ?_)
 refine hS.aeh h3 h4 h2 (fun hm=>?_) (fun d hd'=>by rw [hA.n];exact bG hd d hd')
 rw [iE.2 hm] at hr;cases hr
def FN (σ:St T) (nx:Nat) (dst:Option Nat) (t:Nat):eY T:=
 match T.ti t with
 | some i=>match qh i.zero with
   | true=>FU σ nx dst t (Vh i.zero)
   | false=> .stuck
 | none=> .stuck
theorem Wx (hT:T.ok P) {nx t:Nat} {U:bD T} {ob:Option Prop} (ho:o.op= .alloc t) (h:FN σ nx o.dst t= .done U ob):eU P W0 o σ U:=by
 unfold FN at h
 cases hi:T.ti t with
 | none=>rw [hi] at h;cases h
 | some i=>
   rw [hi] at h
   dsimp only at h
   cases ha:qh i.zero<;>rw [ha] at h<;>dsimp only at h
   ·cases h
   refine RF h (fun σ' a w env F hA hS=>?_)
   obtain⟨inf,h1,h2,h3,⟨z,h4,h4'⟩,h5,h6,h7,h8⟩:=hT t i hi
   refine⟨i.zero.toArray,?_,by simpa using F5 ha⟩
   unfold execOp;rw [ho]
   simp [Instr.alloc,zeroValue,typeInfo,h1,h4,newVar,newRow,h4',Sem.run_bind]
def cellsS:Slot T→Option (List (Cell T))
 | .c .un=>none
 | .c x=>some [x]
 | .ag l=>some l
 | _=>none
theorem nK {s:Slot T} {u:Value} {cs:List (Cell T)} (h:bY σ env F w s u) (hs:cellsS s=some cs):aW σ env F w cs u.cells.toList:=by
 unfold cellsS at hs
 split at hs<;>first | (cases hs;done) | cases hs
 ·rename_i x hx
  have h':jg σ env F w x u:=h
  have h1:u.oneCell'=true:=by
   cases x with
   | un=>exact(hx rfl).elim
   | sc v=>exact h'.2
   | im p e l=>exact h'.1
   | hd r=>exact h'.2
   | px r o=>obtain⟨g,_,h2⟩:=h';rw [h2];rfl
  have h2:u.cells.toList=[u]:=by cases u<;>first | rfl | (simp [Value.oneCell'] at h1)
  rw [h2]
  exact⟨u,[],rfl,h',rfl⟩
 ·obtain⟨us,e,h⟩:=h;rw [e];exact h
def Pn (σ:St T) (nx:Nat) (dst:Option Nat) (t:Nat) (x:Operand):eY T:=
 match cellsS (dD σ x) with
 | some cs=>FU σ nx dst t cs
 | none=> .stuck
theorem aaC {nx t:Nat} {x:Operand} {U:bD T} {ob:Option Prop} (ho:o.op= .box t x) (h:Pn σ nx o.dst t x= .done U ob):eU P W0 o σ U:=by
 unfold Pn at h
 cases hc:cellsS (dD σ x) with
 | none=>rw [hc] at h;cases h
 | some cs=>
   rw [hc] at h
   refine RF h (fun σ' a w env F hA hS=>?_)
   have e1:=bI hS hA (x:=x) (by simp [ho,Op.operands])
   refine⟨(a.eval x).cells,?_,nK e1 hc⟩
   unfold execOp;rw [ho]
   simp [Instr.box,newVar,newRow,Sem.run_bind]
def Xc:List (Cell T)→Bool
 | []=>true
 | .un::_=>false
 | _::l=>Xc l
theorem RG {vs:List Value}:∀{cs:List (Cell T)} {vs:List Value},Xc cs=true→aW σ env F w cs vs→∀v∈vs,v.oneCell'=true
 | [],_,_,h,v,hv=>by cases h;cases hv
 | c::cs,_,hs,⟨u,r,e,h1,h2⟩,v,hv=>by
   subst e
   rcases List.mem_cons.1 hv with rfl | hv
   ·cases c with
    | un=>cases hs
    | sc v'=>exact h1.2
    | im p e l=>exact h1.1
    | hd r=>exact h1.2
    | px r o=>obtain⟨g,_,h3⟩:=h1;rw [h3];rfl
   ·exact RG (cs:=cs) (vs:=r) (by cases c<;>first | (cases hs;done) | exact hs) h2 v hv
theorem oZ:∀{cs ds:List (Cell T)} {vs us:List Value},aW σ env F w cs vs→aW σ env F w ds us→aW σ env F w (cs++ds) (vs++us)
 | [],_,_,_,h,h'=>by cases h;exact h'
 | c::cs,_,_,_,⟨u,r,e,h1,h2⟩,h'=>by subst e;exact⟨u,_,rfl,h1,oZ h2 h'⟩
def splice {α:Type} (cs:List α) (n:Nat) (vs:List α):List α:=cs.take n++vs++cs.drop (n+vs.length)
def FH (σ:St T) (dst:Option Nat) (t:Nat) (x v:Operand):eY T:=
 match dst with
 | none=>match T.ti t with
   | some i=>match dD σ x with
     | .c (.px r n)=>match σ.res r with
       | .bx tb cs=>match cellsS (dD σ v) with
         | some vs=>match Xc vs with
           | true=>match Nat.beq vs.length i.size with
             | true=>match Nat.ble (n+vs.length) cs.length with
               | true=> .done ⟨.ud,[(r, .bx tb (splice cs n vs))],r::refsOf (splice cs n vs),0,[r]⟩ none
               | false=> .stuck
             | false=> .stuck
           | false=> .stuck
         | none=> .stuck
       | _=> .stuck
     | _=> .stuck
   | none=> .stuck
 | some _=> .stuck
theorem zu {i:TI} {t:Nat} (h:fK P t i) {v:Value} {g n:Nat} {tb:Nat} {arr:Array Value} {w:World} (hg:w.heap[g]? =some (.cells arr tb (0,0))) (hl:v.cells.size=i.size) (hf:n+v.cells.size≤arr.size) (h1:∀u∈v.cells.toList,u.oneCell'=true):
  (Instr.storeAt t (.pointer (some ⟨g,n,none⟩)) v).run P w= .ok () (w.setRow g (splice arr.toList n v.cells.toList).toArray):=by
 obtain⟨inf,g1,g2,_⟩:=h
 have hsz:∀w,(sizeOf t).run P w= .ok i.size w:=fun w=>by simp [sizeOf,typeInfo,g1,g2]
 have hst:=run_storeCells_at P g n tb v.cells.toList 0 arr w hg (by simpa using hf) h1
 simp only [Nat.add_zero] at hst
 simp [Instr.storeAt,Instr.sureAddr,storeVar,hsz,hl,hst,splice]
theorem Cm {t:Nat} {x v:Operand} (ho:o.op= .store t x v) {w':World} (h:(Instr.storeAt t (a.eval x) (a.eval v)).run P w= .ok () w'):(execOp a.eval o).run P w= .ok .skip w':=by
 unfold execOp;rw [ho];simp only [Sem.run_bind,h];rfl
theorem below_setRow (h:nI W0 w) {g:Nat} (hg:W0.may g) (cs:Array Value):nI W0 (w.setRow g cs):=
 h.step rfl rfl rfl (by rw [setRow_size];exact Nat.le_refl _) (fun k _ hk=>setRow_other w g k cs (fun e=>hk (e▸hg)))
theorem WA (hT:T.ok P) {t:Nat} {x v:Operand} {U:bD T} {ob:Option Prop} (ho:o.op= .store t x v) (h:FH σ o.dst t x v= .done U ob):eU P W0 o σ U:=by
 unfold FH at h
 split at h
 ·rename_i hdn
  cases hi:T.ti t with
  | none=>rw [hi] at h;cases h
  | some i=>
    rw [hi] at h
    dsimp only at h
    split at h
    ·rename_i r n hx
     split at h
     ·rename_i tb cs hr
      cases hc:cellsS (dD σ v) with
      | none=>rw [hc] at h;cases h
      | some vs=>
        rw [hc] at h
        dsimp only at h
        cases hs:Xc vs<;>rw [hs] at h<;>dsimp only at h
        ·cases h
        cases hb:Nat.beq vs.length i.size<;>rw [hb] at h<;>dsimp only at h
        ·cases h
        cases hbl:Nat.ble (n+vs.length) cs.length<;>rw [hbl] at h<;>cases h
        intro σ' a w K Q hA ⟨env,F,hS⟩ hK
        have e1:=bI hS hA (x:=x) (by simp [ho,Op.operands])
        have e2:=bI hS hA (x:=v) (by simp [ho,Op.operands])
        rw [hx] at e1
        obtain⟨g,h1,h2⟩:=e1
        have hr':σ'.res r= .bx tb cs:=by rw [hA.res r (by simp)];exact hr
        have h3:=hS.res r
        rw [hr'] at h3
        obtain⟨g',arr,h4,h5,h6,h7,h8⟩:=h3
        rw [h1] at h4
        cases h4
        have hcv:=nK e2 hc
        have hl1:=jQ hcv
        have hl2:=jQ h8
        have hb':=Nat.eq_of_beq_eq_true hb
        have aaN:=Nat.le_of_ble_eq_true hbl
        simp only [Array.length_toList] at hl1 hl2
        have hrun:=zu (hT t i hi) (v:=a.eval v) h7 (by omega) (by omega:n+(a.eval v).cells.size≤arr.size) (RG (vs:=[]) hs hcv)
        refine Cj (Cm ho (by rw [h2];exact hrun)) (hK _ _ ?_)
        have hgW:=hS.own r g h5
        have hoth:∀q k,q≠r→F q k→k≠g:=fun q k hq hk e=>hq (hS.apart q r k hk (e▸h5))
        have hres:∀q,q≠r→(σ'.upd o.dst ⟨.ud,[(r, .bx tb (splice cs n vs))],r::refsOf (splice cs n vs),0,[r]⟩).res q=σ'.res q:=fun q hq=>St.lT (fun p hp=>by simp at hp;subst hp;exact fun e=>hq e.symm)
        have kL:(σ'.upd o.dst ⟨.ud,[(r, .bx tb (splice cs n vs))],r::refsOf (splice cs n vs),0,[r]⟩).res r= .bx tb (splice cs n vs):=by rw [St.dL];simp [lk]
        have calm:Calm σ' (σ'.upd o.dst ⟨.ud,[(r, .bx tb (splice cs n vs))],r::refsOf (splice cs n vs),0,[r]⟩) F F w (w.setRow g (splice arr.toList n (a.eval v).cells.toList).toArray):=⟨St.iQ _ _ _,by rw [setRow_size];exact Nat.le_refl _,fun k hk hst=>⟨hst,setRow_other w g k _ (fun e=>hst r (e▸h5))⟩⟩
        have same:∀q,q≠r→Same σ' (σ'.upd o.dst ⟨.ud,[(r, .bx tb (splice cs n vs))],r::refsOf (splice cs n vs),0,[r]⟩) env env F F w (w.setRow g (splice arr.toList n (a.eval v).cells.toList).toArray) q:=fun q hq=>⟨rfl,fun _=>Iff.rfl,hres q hq,fun k hk=>setRow_other w g k _ (hoth q k hq hk)⟩
        have hold:∀q:Nat × Nat,Holds σ' (σ'.upd o.dst ⟨.ud,[(r, .bx tb (splice cs n vs))],r::refsOf (splice cs n vs),0,[r]⟩) F F w (w.setRow g (splice arr.toList n (a.eval v).cells.toList).toArray) q:=by
         intro q
         by_cases e:q.1=r
         ·rintro⟨e',l,hl⟩
          rw [e,kL] at hl
          cases hl
         ·exact(same q.1 e).holds
        refine hS.upd (bC:=env) (F1:=F) (fun q=>q=r) (below_setRow hS.below hgW.1 _) calm same ?_ ?_ ?_ ?_ (fun d hd=>by rw [hdn] at hd;cases hd)
        ·rintro q rfl
         rw [kL]
         refine⟨g,_,h1,h5,h6,setRow_heap w g arr _ tb _ h7,?_⟩
         have hsp:aW σ' env F w (splice cs n vs) (splice arr.toList n (a.eval v).cells.toList):=by
          unfold splice
          rw [show(a.eval v).cells.toList.length=vs.length from by simp [hl1]]
          exact oZ (oZ (wo n h8) hcv) (wu _ h8)
         simpa using lJ calm hsp (fun _ _=>rfl) (fun q _=>hold q)
        ·rintro q k rfl hk
         have:=hS.own q k hk
         exact⟨this.1,by rw [setRow_size];exact this.2⟩
        ·rintro q s k rfl hk hk2
         exact hS.apart q s k hk hk2
        ·rintro q rfl
         exact .inr ⟨rfl,⟨fun bv e l hl=>(by rw [kL] at hl;cases hl),fun bv e l hl=>(by rw [kL] at hl;cases hl)⟩,fun b=> .inl (hold (q,b))⟩
     ·cases h
    ·cases h
 ·cases h
end
end Go.Proofs.YtcnfgfomholheaaGreatDoor.Z
end
section
namespace Go.Proofs.YtcnfgfomholheaaGreatDoor.Z
open Go.RowKit
set_option linter.unusedVariables false
set_option linter.unusedSimpArgs false
section
variable {T:dV} {P:Program} {W0:Fr} {σ σ' σ1:St T} {a:Act} {w w1:World} {env bC:Nat→Value} {F F1:Nat→Nat→Prop} {o:Oper} {bf aZ:List Nat}
def Hy (σ:St T):Cell T→Option (C0 T.Tb × List (Nat × Nat))
 | .sc v=>some (.sc v,[])
 | .im none e l=>some (.sl e l,[])
 | .im (some q) e l=>match uV σ (some q) with
   | true=>some (.sl e l,[q])
   | false=>none
 | .hd r=>match σ.res r with
   | .row bv e l=>some (.sl e l,[(r,bv)])
   | .sh bv e l=>some (.sl e l,[(r,bv)])
   | _=>none
 | _=>none
def Gh (σ:St T):List (Cell T)→Option (List (C0 T.Tb) × List (Nat × Nat))
 | []=>some ([],[])
 | c::cs=>match Hy σ c with
   | some (x,p)=>match Gh σ cs with
     | some (xs,ps)=>some (x::xs,p++ps)
     | none=>none
   | none=>none
def Xd (σ:St T):Slot T→Option (Arg T.Tb × List (Nat × Nat))
 | .c x=>match Hy σ x with
   | some (y,p)=>some (.c y,p)
   | none=>none
 | .ag l=>match Gh σ l with
   | some (y,p)=>some (.ag y,p)
   | none=>none
 | _=>none
def Bv (σ:St T):List (Slot T)→Option (List (Arg T.Tb) × List (Nat × Nat))
 | []=>some ([],[])
 | c::cs=>match Xd σ c with
   | some (x,p)=>match Bv σ cs with
     | some (xs,ps)=>some (x::xs,p++ps)
     | none=>none
   | none=>none
def kC (A:Nat→Prop) (F:Nat→Nat→Prop) (ps:List (Nat × Nat)) (k:Nat):Prop:=(A k∧∀r,¬F r k)∨∃q∈ps,F q.1 k
theorem Hz {ts:List Nat} (h:dZ W0 σ' a w env F) (hA:Agree σ σ' ts bf aZ) {c:Cell T} {v:Value} (hc:jg σ' env F w c v) {x:C0 T.Tb} {ps:List (Nat × Nat)} (hx:Hy σ c=some (x,ps)) (hp:∀q∈ps,q.1∈bf):uf w (kC σ'.A F ps) x v:=by
 unfold Hy at hx
 split at hx
 ·cases hx;exact hc
 ·cases hx
  exact(hc.2 trivial).mono (fun k hk=>hk.elim .inl (fun⟨q,hq,_⟩=>by cases hq))
 ·rename_i q e l
  cases hl:uV σ (some q)<;>rw [hl] at hx<;>cases hx
  obtain⟨e',l',hl'⟩:=wB hl
  have h1:σ'.live (some q):=⟨e',l',by rw [hA.res q.1 (hp q (by simp))];exact hl'⟩
  exact(hc.2 h1).mono (fun k hk=>hk.elim .inl (fun⟨q',hq,hk⟩=>by cases hq;exact .inr ⟨q,by simp,hk⟩))
 ·rename_i r
  cases hr:σ.res r with
  | row bv e l=>
    rw [hr] at hx
    cases hx
    have h1:=h.res r
    rw [hA.res r (hp (r,bv) (by simp)),hr] at h1
    have h2:=(Ow.rd h1).mono (P':=kC σ'.A F [(r,bv)]) (fun k hk=> .inr ⟨(r,bv),by simp,hk⟩)
    rw [←hc.1] at h2
    exact h2
  | no=>rw [hr] at hx;cases hx
  | bx t cs=>rw [hr] at hx;cases hx
  | sh bv e l=>
    rw [hr] at hx
    cases hx
    have h1:=h.res r
    rw [hA.res r (hp (r,bv) (by simp)),hr] at h1
    rw [hc.1]
    show Rd T.sz w (kC σ'.A F [(r,bv)]) (.sl e (l.map (T.enc e))) (env r)
    exact Sh.rd h1 (fun k hk=> .inr ⟨(r,bv),by simp,hk⟩) (fun k hk=>hk.elim .inl (fun⟨q,hq,_⟩=>by cases hq))
 ·cases hx
theorem rY {S S':Nat→Prop} {x:C0 T.Tb} {v:Value} (h:uf w S x v) (hS:∀k,S k→S' k):uf w S' x v:=by
 cases x with
 | sc v'=>exact h
 | sl e l=>exact Rd.mono h hS
theorem qx {S S':Nat→Prop} (hS:∀k,S k→S' k):∀{x:List (C0 T.Tb)} {v:List Value},dX w S x v→dX w S' x v
 | [],_,h=>h
 | c::cs,_,⟨v,r,e,h1,h2⟩=>⟨v,r,e,rY h1 hS,qx hS h2⟩
theorem GV {S S':Nat→Prop} {x:Arg T.Tb} {v:Value} (h:ArgRel w S x v) (hS:∀k,S k→S' k):ArgRel w S' x v:=by
 cases x with
 | c x=>exact rY h hS
 | ag l=>obtain⟨us,e,h⟩:=h;exact⟨us,e,qx hS h⟩
theorem EF {S S':Nat→Prop} (hS:∀k,S k→S' k):∀{x:List (Arg T.Tb)} {v:List Value},oh w S x v→oh w S' x v
 | [],_,h=>h
 | c::cs,_,⟨v,r,e,h1,h2⟩=>⟨v,r,e,GV h1 hS,EF hS h2⟩
theorem oW {A:Nat→Prop} {p q:List (Nat × Nat)} {k:Nat}:(kC A F p k→kC A F (p++q) k)∧(kC A F q k→kC A F (p++q) k):=
 ⟨fun h=>h.imp id (fun⟨x,hx,hk⟩=>⟨x,List.mem_append_left _ hx,hk⟩),fun h=>h.imp id (fun⟨x,hx,hk⟩=>⟨x,List.mem_append_right _ hx,hk⟩)⟩
theorem Om {ts:List Nat} (h:dZ W0 σ' a w env F) (hA:Agree σ σ' ts bf aZ):∀{cs:List (Cell T)} {vs:List Value} {xs:List (C0 T.Tb)} {ps:List (Nat × Nat)},aW σ' env F w cs vs→Gh σ cs=some (xs,ps)→(∀q∈ps,q.1∈bf)→dX w (kC σ'.A F ps) xs vs
 | [],_,_,_,hc,hx,_=>by cases hx;exact hc
 | c::cs,_,_,_,⟨v,r,e,h1,h2⟩,hx,hp=>by
   unfold Gh at hx
   cases h3:Hy σ c with
   | none=>rw [h3] at hx;cases hx
   | some xp=>
     obtain⟨x,p⟩:=xp
     rw [h3] at hx
     dsimp only at hx
     cases h4:Gh σ cs with
     | none=>rw [h4] at hx;cases hx
     | some xp2=>
       obtain⟨xs,p2⟩:=xp2
       rw [h4] at hx
       cases hx
       exact⟨v,r,e,rY (Hz h hA h1 h3 (fun q hq=>hp q (List.mem_append_left _ hq))) (fun k=>oW.1),qx (fun k=>oW.2) (Om h hA h2 h4 (fun q hq=>hp q (List.mem_append_right _ hq)))⟩
theorem aaZ {ts:List Nat} (h:dZ W0 σ' a w env F) (hA:Agree σ σ' ts bf aZ) {c:Slot T} {v:Value} (hc:bY σ' env F w c v) {x:Arg T.Tb} {ps:List (Nat × Nat)} (hx:Xd σ c=some (x,ps)) (hp:∀q∈ps,q.1∈bf):ArgRel w (kC σ'.A F ps) x v:=by
 unfold Xd at hx
 split at hx
 ·rename_i y
  cases h3:Hy σ y with
  | none=>rw [h3] at hx;cases hx
  | some xp=>obtain⟨z,p⟩:=xp;rw [h3] at hx;cases hx;exact Hz h hA hc h3 hp
 ·rename_i y
  cases h3:Gh σ y with
  | none=>rw [h3] at hx;cases hx
  | some xp=>obtain⟨z,p⟩:=xp;rw [h3] at hx;cases hx;obtain⟨us,e,hc⟩:=hc;exact⟨us,e,Om h hA hc h3 hp⟩
 ·cases hx
def Gz (σ:St T):List Operand→List (Slot T)
 | []=>[]
 | x::l=>dD σ x::Gz σ l
theorem Oo (h:dZ W0 σ' a w env F) (hA:Agree σ σ' (kU o.op) bf aZ):∀{xs:List Operand} {as:List (Arg T.Tb)} {ps:List (Nat × Nat)},(∀x∈xs,x∈o.op.operands.toList)→Bv σ (Gz σ xs)=some (as,ps)→(∀q∈ps,q.1∈bf)→oh w (kC σ'.A F ps) as (xs.map a.eval)
 | [],_,_,_,hx,_=>by cases hx;rfl
 | x::xs,_,_,ho,hx,hp=>by
   unfold Gz Bv at hx
   cases h3:Xd σ (dD σ x) with
   | none=>rw [h3] at hx;cases hx
   | some xp=>
     obtain⟨y,p⟩:=xp
     rw [h3] at hx
     dsimp only at hx
     cases h4:Bv σ (Gz σ xs) with
     | none=>rw [h4] at hx;cases hx
     | some xp2=>
       obtain⟨ys,p2⟩:=xp2
       rw [h4] at hx
       cases hx
       exact⟨_,_,rfl,GV (aaZ h hA (bI h hA (ho x List.mem_cons_self)) h3 (fun q hq=>hp q (List.mem_append_left _ hq))) (fun k=>oW.1),
        EF (fun k=>oW.2) (Oo h hA (fun y hy=>ho y (List.mem_cons_of_mem _ hy)) h4 (fun q hq=>hp q (List.mem_append_right _ hq)))⟩
def oneOf:List (Nat × Nat)→Option (Option (Nat × Nat))
 | []=>some none
 | q::r=>match oneOf r with
   | some none=>some (some q)
   | some (some q')=>match Nat.beq q.1 q'.1 with
     | true=>match Nat.beq q.2 q'.2 with
       | true=>some (some q)
       | false=>none
     | false=>none
   | none=>none
theorem J6 {A:Nat→Prop}:∀{ps:List (Nat × Nat)} {p:Option (Nat × Nat)},oneOf ps=some p→∀k,kC A F ps k→jM A F p k
 | [],_,h,k,hk=>by
   cases h
   rcases hk with hk | ⟨q,hq,_⟩
   ·exact .inl hk
   ·cases hq
 | q::r,p,h,k,hk=>by
   unfold oneOf at h
   cases h1:oneOf r with
   | none=>rw [h1] at h;cases h
   | some p'=>
     rw [h1] at h
     have ih:=fun hk:kC A F r k=>J6 h1 k hk
     rcases hk with hk | ⟨x,hx,hk⟩
     ·exact .inl hk
     ·cases p' with
      | none=>
        cases h
        rcases List.mem_cons.1 hx with rfl | hx
        ·exact .inr ⟨x,rfl,hk⟩
        ·rcases ih (.inr ⟨x,hx,hk⟩) with h2 | ⟨q',hq,_⟩
         ·exact .inl h2
         ·cases hq
      | some q'=>
        dsimp only at h
        cases e1:Nat.beq q.1 q'.1<;>rw [e1] at h<;>dsimp only at h
        ·cases h
        cases e2:Nat.beq q.2 q'.2<;>rw [e2] at h<;>cases h
        have e3:=Nat.eq_of_beq_eq_true e1
        rcases List.mem_cons.1 hx with rfl | hx
        ·exact .inr ⟨x,rfl,hk⟩
        ·rcases ih (.inr ⟨x,hx,hk⟩) with h2 | ⟨q'',hq,h3⟩
         ·exact .inl h2
         ·cases hq;exact .inr ⟨q,rfl,by rw [e3];exact h3⟩
def Vj (nx:Nat) (p:Option (Nat × Nat)) (i:Nat):R0 T.Tb→Cell T
 | .sc v=> .sc v
 | .ow e l=> .hd (nx+i)
 | .im e l=> .im p e l
 | .bx t cs=> .px (nx+i) 0
def qH (nx:Nat) (p:Option (Nat × Nat)):Nat→List (R0 T.Tb)→List (Cell T)
 | _,[]=>[]
 | i,x::l=>Vj nx p i x::qH nx p (i+1) l
def Iz (nx:Nat) (p:Option (Nat × Nat)):Nat→List (Bool × List (R0 T.Tb))→List (Bool × List (Cell T))
 | _,[]=>[]
 | i,it::l=>(it.1,qH nx p i it.2)::Iz nx p (i+it.2.length) l
def iP (nx:Nat) (p:Option (Nat × Nat)):RS T.Tb→Slot T
 | .c x=> .c (Vj nx p 0 x)
 | .ag l=> .ag (qH nx p 0 l)
 | .tu l=> .tu (Iz nx p 0 l)
def iy (nx:Nat):Nat→List (R0 T.Tb)→List (Nat × dK T)
 | _,[]=>[]
 | i, .ow e l::r=>(nx+i, .row (nx+i) e l)::iy nx (i+1) r
 | i, .bx t cs::r=>(nx+i, .bx t (cs.map (toCell none)))::iy nx (i+1) r
 | i,_::r=>iy nx (i+1) r
def jI:List (R0 T.Tb)→Bool
 | []=>false
 | .im _ _::_=>true
 | .bx _ _::_=>true
 | _::r=>jI r
def Gi:List (R0 T.Tb)→Bool
 | []=>false
 | .bx _ _::_=>true
 | _::r=>Gi r
def xI (σ:St T) (nx:Nat):Nat→Bool
 | 0=>true
 | n+1=>match σ.fresh (nx+n) with
   | true=>xI σ nx n
   | false=>false
def ids (nx:Nat):Nat→List Nat
 | 0=>[]
 | n+1=>(nx+n)::ids nx n
def xJ:List (Nat × Nat)→List Nat
 | []=>[]
 | q::r=>q.1::xJ r
def LX (σ:St T) (nx:Nat) (dst:Option Nat) (ps:List (Nat × Nat)) (res:RS T.Tb):Option (bD T):=
 match bZ σ dst with
 | true=>match xI σ nx res.flat.length with
   | true=>match jI res.flat with
     | true=>match oneOf ps with
       | some none=>some ⟨iP nx none res,iy nx 0 res.flat,ids nx res.flat.length++(xJ ps++(iP nx (none:Option (Nat × Nat)) res).refs),res.flat.length,ids nx res.flat.length⟩
       | some (some p)=>match Gi res.flat with
         | true=>none
         | false=>some ⟨iP nx (some p) res,iy nx 0 res.flat,ids nx res.flat.length++(xJ ps++(iP nx (some p) res).refs),res.flat.length,ids nx res.flat.length⟩
       | none=>none
     | false=>some ⟨iP nx none res,iy nx 0 res.flat,ids nx res.flat.length++(xJ ps++(iP nx (none:Option (Nat × Nat)) res).refs),res.flat.length,ids nx res.flat.length⟩
   | false=>none
 | false=>none
theorem LJ {nx r:Nat}:∀{n:Nat},r∈ids nx n↔nx≤r∧r<nx+n
 | 0=>by simp [ids]<;>omega
 | n+1=>by
   simp only [ids,List.mem_cons,LJ (n:=n)]
   omega
theorem zi {nx:Nat}:∀{n:Nat},xI σ nx n=true→∀r,nx≤r→r<nx+n→σ.fresh r=true
 | 0,_,r,h1,h2=>by omega
 | n+1,h,r,h1,h2=>by
   unfold xI at h
   cases hf:σ.fresh (nx+n)<;>rw [hf] at h<;>dsimp only at h
   ·cases h
   by_cases e:r=nx+n
   ·subst e;exact hf
   ·exact zi h r h1 (by omega)
theorem Bq {r:Nat}:∀{ps:List (Nat × Nat)},r∈xJ ps↔∃q∈ps,q.1=r
 | []=>by simp [xJ]
 | q::ps=>by simp [xJ,Bq (ps:=ps)];exact or_congr ⟨fun h=>h.symm,fun h=>h.symm⟩ Iff.rfl
def D8:List (R0 T.Tb)→Nat→Bool
 | [],_=>false
 | .ow _ _::_,0=>true
 | .bx _ _::_,0=>true
 | _::_,0=>false
 | _::l,i+1=>D8 l i
theorem Bo {nx:Nat}:∀{l:List (R0 T.Tb)} {i j:Nat} {d:dK T},j<l.length→lk d (iy nx i l) (nx+i+j)=match l[j]? with
  | some (.ow e x)=> .row (nx+i+j) e x
  | some (.bx t x)=> .bx t (x.map (toCell none))
  | _=>d
 | [],i,j,d,h=>by simp at h
 | x::l,i,0,d,_=>by
   have hno:∀p∈iy nx (i+1) l,p.1≠nx+i:=by
    have key:∀(l:List (R0 T.Tb)) (m:Nat),∀p∈iy nx m l,nx+m≤p.1:=by
     intro l
     induction l with
     | nil=>intro m p hp;cases hp
     | cons y l ih=>
       intro m p hp
       cases y<;>simp only [iy,List.mem_cons] at hp
       ·have:=ih (m+1) p hp;omega
       ·rcases hp with rfl | hp
        ·simp
        ·have:=ih (m+1) p hp;omega
       ·have:=ih (m+1) p hp;omega
       ·rcases hp with rfl | hp
        ·simp
        ·have:=ih (m+1) p hp;omega
    intro p hp e
    have:=key l (i+1) p hp
    omega
   cases x with
   | sc v=>simp only [iy,Nat.add_zero,List.getElem?_cons_zero];exact uh _ _ _ hno
   | ow e y=>simp [iy,lk,Nat.beq_eq]
   | im e y=>simp only [iy,Nat.add_zero,List.getElem?_cons_zero];exact uh _ _ _ hno
   | bx t y=>simp [iy,lk,Nat.beq_eq]
 | x::l,i,j+1,d,h=>by
   have ih:=Bo (nx:=nx) (l:=l) (i:=i+1) (j:=j) (d:=d) (by simpa using h)
   have e:nx+(i+1)+j=nx+i+(j+1):=by omega
   rw [e] at ih
   cases x with
   | sc v=>simp only [iy,List.getElem?_cons_succ];exact ih
   | ow e' y=>
     have hne:Nat.beq (nx+i) (nx+i+(j+1))=false:=gq (by omega)
     simp only [iy,lk,hne,List.getElem?_cons_succ];exact ih
   | im e' y=>simp only [iy,List.getElem?_cons_succ];exact ih
   | bx t y=>
     have hne:Nat.beq (nx+i) (nx+i+(j+1))=false:=gq (by omega)
     simp only [iy,lk,hne,List.getElem?_cons_succ];exact ih
theorem ru {nx:Nat}:∀{l:List (R0 T.Tb)} {i:Nat},∀p∈iy nx i l,nx+i≤p.1∧p.1<nx+i+l.length
 | [],_,p,h=>by cases h
 | x::l,i,p,h=>by
   cases x<;>simp only [iy,List.mem_cons] at h
   ·have:=ru p h;simp;omega
   ·rcases h with rfl | h
    ·simp
    ·have:=ru p h;simp;omega
   ·have:=ru p h;simp;omega
   ·rcases h with rfl | h
    ·simp
    ·have:=ru p h;simp;omega
end
end Go.Proofs.YtcnfgfomholheaaGreatDoor.Z
end
section
namespace Go.Proofs.YtcnfgfomholheaaGreatDoor.Z
open Go.RowKit
set_option linter.unusedVariables false
set_option linter.unusedSimpArgs false
section
variable {T:dV} {P:Program} {W0:Fr} {σ σ' σ1:St T} {a:Act} {w w1:World} {env bC:Nat→Value} {F F1:Nat→Nat→Prop} {o:Oper} {bf aZ:List Nat}
theorem zO {S:Nat→Prop} {G:Nat→Nat→Prop}:∀{cs:List (R0 T.Tb)} {i:Nat} {vs:List Value},dI w1 S G i cs vs→cs.length=vs.length
 | [],_,_,h=>by cases h;rfl
 | .sc v::cs,i,_,⟨r,e,_,h⟩=>by subst e;simp [zO h]
 | .ow _ _::cs,i,_,⟨v,r,e,_,h⟩=>by subst e;simp [zO h]
 | .im _ _::cs,i,_,⟨v,r,e,_,h⟩=>by subst e;simp [zO h]
 | .bx _ _::cs,i,_,⟨v,r,e,_,h⟩=>by subst e;simp [zO h]
theorem Wj {S:Nat→Prop} {G:Nat→Nat→Prop} {e:Nat} {l:List (T.Tb e)}:∀{cs:List (R0 T.Tb)} {i j:Nat} {vs:List Value},dI w1 S G i cs vs→cs[j]? =some (.ow e l)→∃v,vs[j]? =some v∧Ow T.sz w1 (G (i+j)) (.sl e (l.map (T.enc e))) v
 | [],_,_,_,_,h=>by simp at h
 | c::cs,i,0,_,h,hj=>by
   simp at hj
   subst hj
   obtain⟨v,r,e',h1,_⟩:=h
   exact⟨v,by rw [e'];rfl,h1⟩
 | c::cs,i,j+1,vs,h,hj=>by
   have key:∃v r,vs=v::r∧dI w1 S G (i+1) cs r:=by
    cases c with
    | sc v=>obtain⟨r,e',_,h⟩:=h;exact⟨_,r,e',h⟩
    | ow _ _=>obtain⟨v,r,e',_,h⟩:=h;exact⟨v,r,e',h⟩
    | im _ _=>obtain⟨v,r,e',_,h⟩:=h;exact⟨v,r,e',h⟩
    | bx _ _=>obtain⟨v,r,e',_,h⟩:=h;exact⟨v,r,e',h⟩
   obtain⟨v,r,e',h⟩:=key
   obtain⟨u,h1,h2⟩:=Wj (j:=j) h (by simpa using hj)
   exact⟨u,by rw [e'];simpa using h1,by rw [show i+(j+1)=i+1+j by omega];exact h2⟩
theorem abT {S:Nat→Prop} {G:Nat→Nat→Prop} {t:Nat} {xs:List (C0 T.Tb)}:∀{cs:List (R0 T.Tb)} {i j:Nat} {vs:List Value},dI w1 S G i cs vs→cs[j]? =some (.bx t xs)→∃v,vs[j]? =some v∧∃g us,v= .pointer (some ⟨g,0,none⟩)∧G (i+j) g∧(∀k,G (i+j) k→k=g)∧w1.heap[g]? =some (.cells us t (0,0))∧dX w1 S xs us.toList
 | [],_,_,_,_,h=>by simp at h
 | c::cs,i,0,_,h,hj=>by
   simp at hj
   subst hj
   obtain⟨v,r,e',h1,_⟩:=h
   exact⟨v,by rw [e'];rfl,h1⟩
 | c::cs,i,j+1,vs,h,hj=>by
   have key:∃v r,vs=v::r∧dI w1 S G (i+1) cs r:=by
    cases c with
    | sc v=>obtain⟨r,e',_,h⟩:=h;exact⟨_,r,e',h⟩
    | ow _ _=>obtain⟨v,r,e',_,h⟩:=h;exact⟨v,r,e',h⟩
    | im _ _=>obtain⟨v,r,e',_,h⟩:=h;exact⟨v,r,e',h⟩
    | bx _ _=>obtain⟨v,r,e',_,h⟩:=h;exact⟨v,r,e',h⟩
   obtain⟨v,r,e',h⟩:=key
   obtain⟨u,h1,h2⟩:=abT (j:=j) h (by simpa using hj)
   exact⟨u,by rw [e'];simpa using h1,by rw [show i+(j+1)=i+1+j by omega];exact h2⟩
theorem xG {S:Nat→Prop} (hS:∀k,S k→jM σ1.A F1 none k):∀{cs:List (C0 T.Tb)} {vs:List Value},dX w1 S cs vs→aW σ1 bC F1 w1 (cs.map (toCell none)) vs
 | [],_,h=>h
 | .sc v'::cs,_,⟨v,r,e,h1,h2⟩=>⟨v,r,e,h1,xG hS h2⟩
 | .sl e' l::cs,_,⟨v,r,e,h1,h2⟩=>⟨v,r,e,⟨Rd.one h1,fun _=>Rd.mono h1 hS⟩,xG hS h2⟩
theorem rZ {S:Nat→Prop} {G:Nat→Nat→Prop} {nx:Nat} {p:Option (Nat × Nat)}:∀{cs:List (R0 T.Tb)} {i:Nat} {vs:List Value},dI w1 S G i cs vs→(∀j v,vs[j]? =some v→bC (nx+(i+j))=v)→
  (jI cs=true→∀k,S k→jM σ1.A F1 p k)→aW σ1 bC F1 w1 (qH nx p i cs) vs
 | [],_,_,h,_,_=>h
 | .sc v::cs,i,_,⟨r,e,h1,h2⟩,he,hm=>by
   subst e
   exact⟨v,r,rfl,⟨rfl,h1⟩,rZ h2 (fun j v hj=>by have:=he (j+1) v (by simpa using hj);rw [show i+1+j=i+(j+1) by omega];exact this) (fun h=>hm h)⟩
 | .ow e' l::cs,i,_,⟨v,r,e,h1,h2⟩,he,hm=>by
   subst e
   exact⟨v,r,rfl,⟨(he 0 v rfl).symm,h1.one⟩,rZ h2 (fun j v hj=>by have:=he (j+1) v (by simpa using hj);rw [show i+1+j=i+(j+1) by omega];exact this) (fun h=>hm h)⟩
 | .im e' l::cs,i,_,⟨v,r,e,h1,h2⟩,he,hm=>by
   subst e
   exact⟨v,r,rfl,⟨h1.one,fun _=>h1.mono (hm rfl)⟩,rZ h2 (fun j v hj=>by have:=he (j+1) v (by simpa using hj);rw [show i+1+j=i+(j+1) by omega];exact this) (fun _=>hm rfl)⟩
 | .bx t xs::cs,i,_,⟨v,r,e,⟨g,us,e1,_⟩,h2⟩,he,hm=>by
   subst e
   exact⟨v,r,rfl,⟨g,(he 0 v rfl).trans e1,e1⟩,rZ h2 (fun j v hj=>by have:=he (j+1) v (by simpa using hj);rw [show i+1+j=i+(j+1) by omega];exact this) (fun _=>hm rfl)⟩
theorem xY {S:Nat→Prop} {G:Nat→Nat→Prop}:∀{cs ds:List (R0 T.Tb)} {i:Nat} {f1 f2:List Value},dI w1 S G i (cs++ds) (f1++f2)→f1.length=cs.length→dI w1 S G i cs f1∧dI w1 S G (i+cs.length) ds f2
 | [],ds,i,f1,f2,h,hl=>by
   have:f1=[]:=List.eq_nil_of_length_eq_zero (by simpa using hl)
   subst this;exact⟨rfl,h⟩
 | c::cs,ds,i,[],f2,h,hl=>by simp at hl
 | c::cs,ds,i,x::f1,f2,h,hl=>by
   have hl':f1.length=cs.length:=by simpa using hl
   cases c with
   | sc v=>
     obtain⟨r,e,h1,h2⟩:=h
     cases e
     obtain⟨h3,h4⟩:=xY h2 hl'
     exact⟨⟨f1,rfl,h1,h3⟩,by rw [List.length_cons,show i+(cs.length+1)=i+1+cs.length by omega];exact h4⟩
   | ow _ _=>
     obtain⟨v,r,e,h1,h2⟩:=h
     cases e
     obtain⟨h3,h4⟩:=xY h2 hl'
     exact⟨⟨_,f1,rfl,h1,h3⟩,by rw [List.length_cons,show i+(cs.length+1)=i+1+cs.length by omega];exact h4⟩
   | im _ _=>
     obtain⟨v,r,e,h1,h2⟩:=h
     cases e
     obtain⟨h3,h4⟩:=xY h2 hl'
     exact⟨⟨_,f1,rfl,h1,h3⟩,by rw [List.length_cons,show i+(cs.length+1)=i+1+cs.length by omega];exact h4⟩
   | bx _ _=>
     obtain⟨v,r,e,h1,h2⟩:=h
     cases e
     obtain⟨h3,h4⟩:=xY h2 hl'
     exact⟨⟨_,f1,rfl,h1,h3⟩,by rw [List.length_cons,show i+(cs.length+1)=i+1+cs.length by omega];exact h4⟩
theorem MF {ds:List (R0 T.Tb)}:∀{cs:List (R0 T.Tb)},jI cs=true→jI (cs++ds)=true
 | [],h=>by cases h
 | .sc _::cs,h=>MF (cs:=cs) h
 | .ow _ _::cs,h=>MF (cs:=cs) h
 | .im _ _::cs,h=>rfl
 | .bx _ _::cs,h=>rfl
theorem MG {ds:List (R0 T.Tb)}:∀{cs:List (R0 T.Tb)},jI ds=true→jI (cs++ds)=true
 | [],h=>h
 | .sc _::cs,h=>MG (cs:=cs) h
 | .ow _ _::cs,h=>MG (cs:=cs) h
 | .im _ _::cs,h=>rfl
 | .bx _ _::cs,h=>rfl
theorem H7 {t:Nat} {xs:List (C0 T.Tb)}:∀{cs:List (R0 T.Tb)} {j:Nat},cs[j]? =some (.bx t xs)→jI cs=true∧Gi cs=true
 | [],_,h=>by simp at h
 | c::cs,0,h=>by simp at h;subst h;exact⟨rfl,rfl⟩
 | c::cs,j+1,h=>by
   have:=H7 (cs:=cs) (j:=j) (by simpa using h)
   cases c<;>first | exact this | exact⟨rfl,this.2⟩ | exact⟨rfl,rfl⟩
theorem QM {S:Nat→Prop} {G:Nat→Nat→Prop} {nx:Nat} {p:Option (Nat × Nat)}:∀{its:List (Bool × List (R0 T.Tb))} {i:Nat} {vs fv:List Value},yS its vs fv→dI w1 S G i (D9 its) fv→(∀j v,fv[j]? =some v→bC (nx+(i+j))=v)→
  (jI (D9 its)=true→∀k,S k→jM σ1.A F1 p k)→lS σ1 bC F1 w1 (Iz nx p i its) vs
 | [],_,_,_,h,_,_,_=>h.1
 | it::its,i,_,_,⟨v,r,f1,f2,e1,e2,hl,hv,hr⟩,hc,he,hm=>by
   subst e1 e2
   obtain⟨h1,h2⟩:=xY hc hl
   have h3:aW σ1 bC F1 w1 (qH nx p i it.2) f1:=rZ h1 (fun j v hj=>he j v (by rw [List.getElem?_append_left (List.getElem?_eq_some_iff.1 hj).1];exact hj)) (fun h=>hm (MF h))
   refine⟨v,r,rfl,?_,QM hr h2 (fun j v hj=>?_) (fun h=>hm (MG h))⟩
   ·unfold um
    cases hb:it.1<;>rw [hb] at hv<;>dsimp only at hv⊢
    ·rw [←hv];exact h3
    ·obtain⟨us,e,e'⟩:=hv
     exact⟨us,e,by rw [e'];exact h3⟩
   ·have:=he (f1.length+j) v (by rw [List.getElem?_append_right (by omega)];simpa using hj)
    rw [hl] at this
    rw [show i+it.2.length+j=i+(it.2.length+j) by omega];exact this
theorem xH:∀{l:List (R0 T.Tb)} {j:Nat},(∀e x,l[j]?≠some (.ow e x))→(∀t x,l[j]?≠some (.bx t x))→D8 l j=false
 | [],_,_,_=>rfl
 | c::l,0,h,h'=>by cases c<;>first | rfl | exact absurd rfl (h _ _) | exact absurd rfl (h' _ _)
 | c::l,j+1,h,h'=>by
   have:=xH (l:=l) (j:=j) (fun e x=>by simpa using h e x) (fun e x=>by simpa using h' e x)
   cases c<;>exact this
theorem Vk {t:Nat} {x:List (C0 T.Tb)}:∀{l:List (R0 T.Tb)} {j:Nat},l[j]? =some (.bx t x)→D8 l j=true
 | [],_,h=>by simp at h
 | c::l,0,h=>by simp at h;subst h;rfl
 | c::l,j+1,h=>by
   have:=Vk (l:=l) (j:=j) (by simpa using h)
   cases c<;>exact this
theorem H8 {e:Nat} {x:List (T.Tb e)}:∀{l:List (R0 T.Tb)} {j:Nat},l[j]? =some (.ow e x)→D8 l j=true
 | [],_,h=>by simp at h
 | c::l,0,h=>by simp at h;subst h;rfl
 | c::l,j+1,h=>by
   have:=H8 (l:=l) (j:=j) (by simpa using h)
   cases c<;>exact this
theorem dZ.called (h:dZ W0 σ a w env F) (g:Grew w w1) {res:RS T.Tb} {v:Value} {fv:List Value} {G:Nat→Nat→Prop} {ps:List (Nat × Nat)} {p:Option (Nat × Nat)} {nx nx':Nat} {dst:Option Nat}
  (hfr:∀r,nx≤r→r<nx+res.flat.length→jT σ r∧σ.res r= .no) (hG:∀i k,G i k→w.heap.size≤k∧k<w1.heap.size) (hap:∀i j k,G i k→G j k→i=j) (hf:uO res v fv)
  (hc:dI w1 (fun k=>kC σ.A F ps k∧k<w.heap.size∨w.heap.size≤k∧∀i,¬G i k) G 0 res.flat fv) (hp:jI res.flat=true→oneOf ps=some p) (hpb:Gi res.flat=true→p=none) (hd:∀d,dst=some d→d<σ.n):
  jO W0 (σ.upd dst ⟨iP nx p res,iy nx 0 res.flat,bf,nx',aZ⟩) (a.put dst v) w1:=by
 have hlen:=zO hc
 have hrs:∀r,¬(nx≤r∧r<nx+res.flat.length)→(σ.upd dst ⟨iP nx p res,iy nx 0 res.flat,bf,nx',aZ⟩).res r=σ.res r:=fun r hr=>St.lT (fun q hq=>by have:=ru q hq;intro e;subst e;exact hr (by simpa using this))
 have agd:∀j,j<res.flat.length→(σ.upd dst ⟨iP nx p res,iy nx 0 res.flat,bf,nx',aZ⟩).res (nx+j)=match res.flat[j]? with
   | some (.ow e x)=> .row (nx+j) e x
   | some (.bx t x)=> .bx t (x.map (toCell none))
   | _=> .no:=fun j hj=>by
  rw [St.dL]
  have:=Bo (nx:=nx) (l:=res.flat) (i:=0) (j:=j) (d:=σ.res (nx+j)) hj
  simp only [Nat.add_zero] at this
  rw [this,(hfr (nx+j) (by omega) (by omega)).2]
  all_goals
   cases hx:res.flat[j]? with
   | none=>rfl
   | some x=>cases x<;>rfl
 let bC:Nat→Value:=fun s=>if nx≤s∧s<nx+res.flat.length then fv.getD (s - nx) undef else env s
 let F1:Nat→Nat→Prop:=fun s k=>if nx≤s∧s<nx+res.flat.length then D8 res.flat (s - nx)=true∧G (s - nx) k else F s k
 have he0:∀s,¬(nx≤s∧s<nx+res.flat.length)→bC s=env s:=fun s hs=>if_neg hs
 have Vg:∀s k,¬(nx≤s∧s<nx+res.flat.length)→(F1 s k↔F s k):=fun s k hs=>by show(if _ then _ else _)↔_;rw [if_neg hs]
 have hF1:∀s k,nx≤s→s<nx+res.flat.length→(F1 s k↔D8 res.flat (s - nx)=true∧G (s - nx) k):=fun s k h1 h2=>by show(if _ then _ else _)↔_;rw [if_pos ⟨h1,h2⟩]
 have he1:∀j u,fv[j]? =some u→bC (nx+(0+j))=u:=fun j u hj=>by
  have hlt:=(List.getElem?_eq_some_iff.1 hj).1
  show(if _ then _ else _)=_
  rw [if_pos (by omega),show nx+(0+j) - nx=j by omega,List.getD_eq_getElem?_getD,hj];rfl
 have hst:∀k,(∀r,¬F r k)→(∀i,¬G i k)→∀r,¬F1 r k:=fun k h1 h2 r hr=>by
  by_cases e:nx≤r∧r<nx+res.flat.length
  ·exact h2 _ ((hF1 r k e.1 e.2).1 hr).2
  ·exact h1 r ((Vg r k e).1 hr)
 have hGn:∀k,k<w.heap.size→∀i,¬G i k:=fun k hk i hg=>by have:=(hG i k hg).1;omega
 have calm:Calm σ (σ.upd dst ⟨iP nx p res,iy nx 0 res.flat,bf,nx',aZ⟩) F F1 w w1:=⟨St.iQ _ _ _,g.size,fun k hk h1=>⟨hst k h1 (hGn k hk),g.block k hk⟩⟩
 have same:∀r,¬(nx≤r∧r<nx+res.flat.length)→Same σ (σ.upd dst ⟨iP nx p res,iy nx 0 res.flat,bf,nx',aZ⟩) env bC F F1 w w1 r:=fun r hr=>⟨he0 r hr,fun k=>Vg r k hr,hrs r hr,fun k hk=>g.block k (gB h hk)⟩
 have Xe:jI res.flat=true→∀k,(kC σ.A F ps k∧k<w.heap.size∨w.heap.size≤k∧∀i,¬G i k)→jM (σ.upd dst ⟨iP nx p res,iy nx 0 res.flat,bf,nx',aZ⟩).A F1 p k:=fun him k hk=>by
  rcases hk with ⟨hk,hlt⟩ | ⟨hge,hk⟩
  ·rcases J6 (hp him) k hk with ⟨ha,h1⟩ | ⟨q,hq,h1⟩
   ·exact .inl ⟨by rw [St.iQ];exact ha,hst k h1 (hGn k hlt)⟩
   ·refine .inr ⟨q,hq,?_⟩
    by_cases e:nx≤q.1∧q.1<nx+res.flat.length
    ·have h2:=h.res q.1
     rw [(hfr q.1 e.1 e.2).2] at h2
     exact(h2 k h1).elim
    ·exact(Vg q.1 k e).2 h1
  ·exact .inl ⟨by rw [St.iQ];exact h.acc k (h.below.may hge),hst k (fun r hr=>by have:=gB h hr;omega) hk⟩
 refine h.upd (bC:=bC) (F1:=F1) (fun r=>nx≤r∧r<nx+res.flat.length) (sK h.below g) calm same ?_ ?_ ?_ (fun r hr=> .inl (hfr r hr.1 hr.2).1) (fun d hd'=>⟨hd d hd',?_⟩)
 ·rintro r ⟨h1,h2⟩
  obtain⟨j,rfl⟩:∃j,r=nx+j:=⟨r - nx,by omega⟩
  have hj:j<res.flat.length:=by omega
  rw [agd j hj]
  cases hx:res.flat[j]? with
  | none=>simp at hx;omega
  | some x=>
    cases x with
    | sc u=>
      intro k hk
      have:=((hF1 _ k h1 h2).1 hk).1
      rw [show nx+j - nx=j by omega,xH (fun e x h=>by rw [hx] at h;cases h) (fun e x h=>by rw [hx] at h;cases h)] at this
      cases this
    | bx t xs=>
      obtain⟨u,h3,g0,us,h4,h5,h6,h7,h8⟩:=abT hc hx
      have h9:=he1 j u h3
      rw [Nat.zero_add] at h9 h5 h6
      obtain⟨hi1,hi2⟩:=H7 hx
      have hS:∀k,(kC σ.A F ps k∧k<w.heap.size∨w.heap.size≤k∧∀i,¬G i k)→jM (σ.upd dst ⟨iP nx p res,iy nx 0 res.flat,bf,nx',aZ⟩).A F1 none k:=fun k hk=>by
       rcases Xe hi1 k hk with h10 | ⟨q,hq,_⟩
       ·exact .inl h10
       ·rw [hpb hi2] at hq;cases hq
      refine⟨g0,us,h9.trans h4,(hF1 _ g0 h1 h2).2 (by rw [show nx+j - nx=j by omega];exact⟨Vk hx,h5⟩),fun k hk=>h6 k ?_,h7,xG hS h8⟩
      have:=((hF1 _ k h1 h2).1 hk).2
      rwa [show nx+j - nx=j by omega] at this
    | im e l=>
      intro k hk
      have:=((hF1 _ k h1 h2).1 hk).1
      rw [show nx+j - nx=j by omega,xH (fun e x h=>by rw [hx] at h;cases h) (fun e x h=>by rw [hx] at h;cases h)] at this
      cases this
    | ow e l=>
      obtain⟨u,h3,h4⟩:=Wj hc hx
      show Ow T.sz w1 (F1 (nx+j)) (.sl e (l.map (T.enc e))) (bC (nx+j))
      have h5:=he1 j u h3
      rw [Nat.zero_add] at h5 h4
      rw [h5]
      exact h4.mono (fun k hk=>(hF1 _ k h1 h2).2 (by rw [show nx+j - nx=j by omega];exact⟨H8 hx,hk⟩))
 ·rintro r k ⟨h1,h2⟩ hk
  have h3:=hG _ _ ((hF1 r k h1 h2).1 hk).2
  exact⟨h.below.may h3.1,h3.2⟩
 ·rintro r s k ⟨h1,h2⟩ hk hk2
  have h3:=((hF1 r k h1 h2).1 hk).2
  by_cases e:nx≤s∧s<nx+res.flat.length
  ·have h4:=((hF1 s k e.1 e.2).1 hk2).2
   have:=hap _ _ _ h3 h4
   omega
  ·have h4:=gB h ((Vg s k e).1 hk2)
   have:=(hG _ _ h3).1
   omega
 ·cases res with
  | c x=>
    obtain rfl:fv=[v]:=hf
    have h1:aW (σ.upd dst ⟨iP nx p (.c x),iy nx 0 (RS.c x).flat,bf,nx',aZ⟩) bC F1 w1 (qH nx p 0 [x]) [v]:=rZ hc he1 Xe
    obtain⟨u,r,e,h2,_⟩:=h1
    cases e
    exact h2
  | ag l=>
    obtain⟨us,e,e'⟩:=hf
    exact⟨us,e,by rw [e'];exact rZ hc he1 Xe⟩
  | tu l=>
    obtain⟨us,e,e'⟩:=hf
    exact⟨us,e,QM e' hc he1 Xe⟩
theorem acQ {nx:Nat} {f:FuncId} {args:Array Operand} {ts:Array TypeId} {as:List (Arg T.Tb)} {ps:List (Nat × Nat)} {res:RS T.Tb} {U:bD T} (ho:o.op= .call {callee:= .value (.func f),args:=args,argTypes:=ts}) (ha:Bv σ (Gz σ args.toList)=some (as,ps)) (hob:aG T P f as res) (hu:LX σ nx o.dst ps res=some U):eU P W0 o σ U:=by
 intro σ' a w K Q hA ⟨env,F,hS⟩ hK
 unfold LX at hu
 cases hd:bZ σ o.dst<;>rw [hd] at hu<;>dsimp only at hu
 ·cases hu
 cases hf:xI σ nx res.flat.length<;>rw [hf] at hu<;>dsimp only at hu
 ·cases hu
 have hd':∀d,o.dst=some d→d<σ'.n:=fun d h=>by rw [hA.n];exact bG hd d h
 obtain⟨⟨fn,hfn,hname,hbody⟩,hcall⟩:=hob
 have main:∀(p:Option (Nat × Nat)) (him:jI res.flat=true→oneOf ps=some p) (hbx:Gi res.flat=true→p=none) (hU:U=⟨iP nx p res,iy nx 0 res.flat,ids nx res.flat.length++(xJ ps++(iP nx p res).refs),res.flat.length,ids nx res.flat.length⟩),Oper.wp P o a w K Q:=by
  rintro p him hbx rfl
  have hargs:oh w (kC σ'.A F ps) as (args.toList.map a.eval):=Oo hS hA (fun x hx=>by rw [ho];simp only [Op.operands,Call.operands,Array.toList_append];exact List.mem_append_right _ hx) ha (fun q hq=>List.mem_append_right _ (List.mem_append_left _ (Bq.2 ⟨q,hq,rfl⟩)))
  have hc:=hcall w _ _ (T.jk hS.below.base hS.tab) hargs
  have hrun:(execOp a.eval o).run P w= .ok (.enter f (args.toList.map a.eval).toArray) w:=by
   obtain⟨c,hbc⟩:=Option.isSome_iff_exists.1 hbody
   have h1:fn.name≠ "runtime.NumGoroutine" :=fun e=>by rw [e] at hname;simp at hname
   have hmap:Array.map a.eval args=(args.toList.map a.eval).toArray:=by apply Array.ext';simp
   unfold execOp
   rw [ho]
   simp [resolve,Deferred.ofValue,invoke,Act.eval,callFunc,hfn,h1,hbc,hmap]
  unfold Oper.wp
  rw [hrun,Oper.upon_enter]
  refine hc.mono ?_
  rintro e w1 ⟨v,G,rfl,hb,hG,hap,fv,hfv,hcells⟩
  refine hK _ _ (hS.called (Grew.of_below hb) (fun r h1 h2=>?_) hG hap hfv hcells him hbx hd')
  exact hA.new (LJ.2 ⟨h1,h2⟩) (zi hf r h1 h2)
 cases hi:jI res.flat<;>rw [hi] at hu<;>dsimp only at hu
 ·cases hu
  exact main none (fun h=>by rw [hi] at h;cases h) (fun _=>rfl) rfl
 ·cases hp:oneOf ps with
  | none=>rw [hp] at hu;cases hu
  | some p=>
    rw [hp] at hu
    cases p with
    | none=>
      cases hu
      exact main none (fun _=>hp) (fun _=>rfl) rfl
    | some p=>
      dsimp only at hu
      cases hb:Gi res.flat<;>rw [hb] at hu
      ·cases hu
       exact main (some p) (fun _=>hp) (fun h=>by rw [hb] at h;cases h) rfl
      ·cases hu
end
end Go.Proofs.YtcnfgfomholheaaGreatDoor.Z
end
section
namespace Go.Proofs.YtcnfgfomholheaaGreatDoor.Z
open Go.RowKit
set_option linter.unusedVariables false
set_option linter.unusedSimpArgs false
section
variable {T:dV} {P:Program} {W0:Fr} {σ σ' σ1 σ2:St T} {a:Act} {w w1:World} {ops:Array Oper}
def Xf (ops:Array Oper) (o:Oper):Option Nat:=
 match o.guard with
 | none=>none
 | some (j,_)=>match ops[j]? with
   | some oj=>oj.dst
   | none=>none
def CG (ops:Array Oper) (o:Oper):List Nat:=match Xf ops o with
 | some t=>[t]
 | none=>[]
def Ed (σ:St T) (ops:Array Oper) (o:Oper):Option Bool:=
 match o.guard with
 | none=>some true
 | some (_,want)=>match Xf ops o with
   | some t=>match Nat.blt t σ.n with
     | true=>match σ.tmp t with
       | .c (.sc (.bool true))=>some want
       | .c (.sc (.bool false))=>some (!want)
       | .ud=>some false
       | _=>none
     | false=>none
   | none=>none
def GStep (P:Program) (W0:Fr) (ops:Array Oper) (o:Oper) (σ:St T) (U:bD T):Prop:=
 ∀(σ':St T) (a:Act) (w:World) (K:Act→World→Prop) (Q:Exit→Act→World→Prop),Agree σ σ' (kU o.op++CG ops o) U.bf U.aZ→jO W0 σ' a w→(∀a' w',jO W0 (σ'.upd o.dst U) a' w'→K a' w')→
  if Region.wanted o (yielded ops a.tmps)=true then Oper.wp P o a w K Q else K (a.put o.dst undef) w
theorem RH {o:Oper} {b:Bool} {bf aZ:List Nat} (h:Ed σ ops o=some b) (hA:Agree σ σ' (kU o.op++CG ops o) bf aZ) (hS:jO W0 σ' a w):Region.wanted o (yielded ops a.tmps)=b:=by
 obtain⟨env,F,hS⟩:=hS
 unfold Ed at h
 unfold Region.wanted
 cases hg:o.guard with
 | none=>rw [hg] at h;cases h;rfl
 | some jw=>
   obtain⟨j,want⟩:=jw
   rw [hg] at h
   dsimp only at h
   cases ht:Xf ops o with
   | none=>rw [ht] at h;cases h
   | some t=>
     rw [ht] at h
     dsimp only at h
     cases hn:Nat.blt t σ.n<;>rw [hn] at h<;>dsimp only at h
     ·cases h
     have hlt:t<a.tmps.size:=by rw [hS.size,hA.n];simpa [Nat.blt_eq] using hn
     have htm:σ'.tmp t=σ.tmp t:=hA.tm t (List.mem_append_right _ (by simp [CG,ht]))
     have h1:=hS.tm t
     rw [htm] at h1
     have h2:((ops[j]?).bind (·.dst)).bind (a.tmps[·]?)=some (a.tmps.getD t undef):=by
      unfold Xf at ht
      rw [hg] at ht
      dsimp only at ht
      cases ho:ops[j]? with
      | none=>rw [ho] at ht;cases ht
      | some oj=>rw [ho] at ht;dsimp only at ht;simp [ht,hlt,Array.getD]
     have hy:yielded ops a.tmps j=match a.tmps.getD t undef with
       | .bool b=>some b
       | _=>none:=by
      unfold yielded;rw [h2];cases a.tmps.getD t undef<;>rfl
     show(yielded ops a.tmps j==some want)=b
     rw [hy]
     split at h
     ·rename_i hs;rw [hs] at h1;cases h;rw [h1.1];cases b<;>rfl
     ·rename_i hs;rw [hs] at h1;cases h;rw [h1.1];cases want<;>rfl
     ·rename_i hs;rw [hs] at h1;cases h;rw [show a.tmps.getD t undef=undef from h1];rfl
     ·cases h
theorem ac4 {ts ts' bf aZ:List Nat} (h:Agree σ σ' (ts++ts') bf aZ):Agree σ σ' ts bf aZ:=⟨fun t ht=>h.tm t (List.mem_append_left _ ht),h.res,h.fr,h.n⟩
theorem yQ {o:Oper} {U:bD T} (h:Ed σ ops o=some true) (hL:eU P W0 o σ U):GStep P W0 ops o σ U:=by
 intro σ' a w K Q hA hS hK
 rw [RH h hA hS,if_pos rfl]
 exact hL σ' a w K Q (ac4 hA) hS hK
theorem WO {o:Oper} (h:Ed σ ops o=some false) (hd:bZ σ o.dst=true):GStep P W0 ops o σ ⟨.ud,[],[],0,[]⟩:=by
 intro σ' a w K Q hA hS hK
 rw [RH h hA hS,if_neg (by simp)]
 obtain⟨env,F,hS⟩:=hS
 exact hK _ _ (hS.quiet (fun d hd'=>⟨by rw [hA.n];exact bG hd d hd',rfl⟩))
theorem WM {o:Oper} {b c:Bool} {rs:List (Nat × dK T)} {bf aZ:List Nat} {nx:Nat} (e:b=c) (h:GStep P W0 ops o σ ⟨.c (.sc (.bool b)),rs,bf,nx,aZ⟩):GStep P W0 ops o σ ⟨.c (.sc (.bool c)),rs,bf,nx,aZ⟩:=e▸h
inductive Tr (P:Program) (W0:Fr) (ops:Array Oper):List Oper→St T→List (bD T)→St T→Prop
 | nil (σ:St T):Tr P W0 ops [] σ [] σ
 | cons {o:Oper} {l:List Oper} {σ σ2:St T} {U:bD T} {Us:List (bD T)} (h:GStep P W0 ops o σ U) (ht:Tr P W0 ops l (σ.upd o.dst U) Us σ2):Tr P W0 ops (o::l) σ (U::Us) σ2
theorem acR {Q:Exit→Act→World→Prop} {l:List Oper} {Us:List (bD T)} (ht:Tr P W0 ops l σ Us σ2):∀{a:Act} {w:World},jO W0 σ a w→(∀a' w',jO W0 σ2 a' w'→Q .normal a' w')→wpList P ops Q l a w:=by
 induction ht with
 | nil σ=>exact fun hS hQ=>wpList_nil (hQ _ _ hS)
 | cons h ht ih=>
   intro a w hS hQ
   refine wpList_step (fun K hK=>?_)
   exact h _ a w K Q (Agree.refl _ _ _ _) hS (fun a' w' h'=>hK _ _ (ih h' hQ))
def needs (o:Oper):List Nat:=(o.after.toList.filter (fun e=>Region.binds .any e)).map (·.on)
def fM (D:Nat→Bool):Nat→List (Oper × bD T)→St T→St T
 | _,[],σ=>σ
 | i,(o,U)::l,σ=>fM D (i+1) l (match D i with
   | true=>σ.upd o.dst U
   | false=>σ)
def Pz (U:bD T) (r:Nat):Prop:=∃p∈U.rs,p.1=r
theorem RI {α:Type} {r:Nat}:∀{l:List (Nat × α)} {d d':α},(∃p∈l,p.1=r)→lk d l r=lk d' l r
 | [],_,_,⟨p,hp,_⟩=>by cases hp
 | (k,x)::l,d,d',⟨p,hp,e⟩=>by
   unfold lk
   cases hb:Nat.beq k r
   ·rcases List.mem_cons.1 hp with rfl | hp
    ·exact absurd hb (by rw [show k=r from e];simp [Nat.beq_eq])
    ·exact RI ⟨p,hp,e⟩
   ·rfl
theorem CJ {α:Type} {r:Nat} {l:List (Nat × α)} {d:α} (h:¬∃p∈l,p.1=r):lk d l r=d:=uh _ _ _ (fun p hp e=>h ⟨p,hp,e⟩)
theorem O4 {dst:Option Nat} {U:bD T} {r:Nat} (h:σ.res r=σ'.res r):(σ.upd dst U).res r=(σ'.upd dst U).res r:=by rw [St.dL,St.dL,h]
theorem O5 {dst:Option Nat} {U:bD T} {t:Nat} (h:σ.tmp t=σ'.tmp t):(σ.upd dst U).tmp t=(σ'.upd dst U).tmp t:=by
 cases dst with
 | none=>exact h
 | some d=>
   by_cases e:d=t
   ·subst e;rw [St.pq,St.pq]
   ·rw [St.wz _ _ e,St.wz _ _ e,h]
theorem zy {dst:Option Nat} {U:bD T} {t:Nat} (h:dst≠some t):(σ.upd dst U).tmp t=σ.tmp t:=by
 cases dst with
 | none=>rfl
 | some d=>exact St.wz _ _ (fun e=>h (by rw [e]))
theorem J7 (D:Nat→Bool):∀{l:List (Oper × bD T)} {i:Nat} {σ:St T},(fM D i l σ).n=σ.n
 | [],_,_=>rfl
 | (o,U)::l,i,σ=>by
   unfold fM
   rw [J7 D]
   cases D i
   ·rfl
   ·exact St.WW _ _ _
theorem Xg (D:Nat→Bool):∀{l:List (Oper × bD T)} {i:Nat} {σ:St T},(fM D i l σ).A=σ.A
 | [],_,_=>rfl
 | (o,U)::l,i,σ=>by
   unfold fM
   rw [Xg D]
   cases D i
   ·rfl
   ·exact St.iQ _ _ _
theorem MH {D D':Nat→Bool} {r:Nat}:∀{l:List (Oper × bD T)} {i:Nat} {σ σ':St T},σ.res r=σ'.res r→(∀j x,l[j]? =some x→Pz x.2 r→D (i+j)=D' (i+j))→(fM D i l σ).res r=(fM D' i l σ').res r
 | [],_,_,_,h,_=>h
 | (o,U)::l,i,σ,σ',h,hD=>by
   unfold fM
   refine MH ?_ (fun j x hj hk=>by have:=hD (j+1) x (by simpa using hj) hk;rw [show i+1+j=i+(j+1) by omega];exact this)
   by_cases hk:Pz U r
   ·have:=hD 0 (o,U) rfl hk
    rw [Nat.add_zero] at this
    rw [this]
    cases D' i
    ·exact h
    ·exact O4 h
   ·have hno:∀s:St T,(s.upd o.dst U).res r=s.res r:=fun s=>by rw [St.dL];exact CJ hk
    cases D i<;>cases D' i<;>simp only [hno,h]
theorem MI {D D':Nat→Bool} {t:Nat}:∀{l:List (Oper × bD T)} {i:Nat} {σ σ':St T},σ.tmp t=σ'.tmp t→(∀j x,l[j]? =some x→x.1.dst=some t→D (i+j)=D' (i+j))→(fM D i l σ).tmp t=(fM D' i l σ').tmp t
 | [],_,_,_,h,_=>h
 | (o,U)::l,i,σ,σ',h,hD=>by
   unfold fM
   refine MI ?_ (fun j x hj hk=>by have:=hD (j+1) x (by simpa using hj) hk;rw [show i+1+j=i+(j+1) by omega];exact this)
   by_cases hk:o.dst=some t
   ·have:=hD 0 (o,U) rfl hk
    rw [Nat.add_zero] at this
    rw [this]
    cases D' i
    ·exact h
    ·exact O5 h
   ·have hno:∀s:St T,(s.upd o.dst U).tmp t=s.tmp t:=fun s=>zy hk
    cases D i<;>cases D' i<;>simp only [hno,h]
theorem zA {r:Nat}:(σ.fresh r=true)↔r<1000∧(∀p∈σ.tm,r∉p.2.refs)∧(∀p∈σ.rs,p.1≠r∧r∉p.2.refs):=by
 have h1:∀l:List (Nat × Slot T),pU r l=true↔∀p∈l,r∉p.2.refs:=by
  intro l
  induction l with
  | nil=>simp [pU]
  | cons x l ih=>
    unfold pU
    cases hh:jR r x.2.refs
    ·have:r∉x.2.refs:=fun h=>by rw [iE.2 h] at hh;cases hh
     simp [ih,this]
    ·have:r∈x.2.refs:=iE.1 hh
     simp [this]
 have h2:∀l:List (Nat × dK T),pV r l=true↔∀p∈l,p.1≠r∧r∉p.2.refs:=by
  intro l
  induction l with
  | nil=>simp [pV]
  | cons x l ih=>
    unfold pV
    cases hb:Nat.beq x.1 r
    ·have hne:x.1≠r:=fun e=>absurd hb (by rw [e];simp [Nat.beq_eq])
     cases hh:jR r x.2.refs
     ·have:r∉x.2.refs:=fun h=>by rw [iE.2 h] at hh;cases hh
      simp [ih,this,hne]
     ·have:r∈x.2.refs:=iE.1 hh
      simp [this]
    ·have:x.1=r:=Nat.eq_of_beq_eq_true hb
     simp [this]
 unfold St.fresh
 cases h0:Nat.blt r 1000
 ·simp only [Bool.false_eq_true,false_iff]
  intro h3
  have:Nat.blt r 1000=true:=by simpa [Nat.blt_eq] using h3.1
  rw [this] at h0;cases h0
 have hlt:r<1000:=by simpa [Nat.blt_eq] using h0
 cases h:pU r σ.tm
 ·simp only [Bool.false_eq_true,false_iff]
  intro h3
  rw [(h1 _).2 h3.2.1] at h;cases h
 ·simp only [h2]
  exact⟨fun h'=>⟨hlt,(h1 _).1 h,h'⟩,fun h'=>h'.2.2⟩
def bD.Gj (U:bD T) (r:Nat):Prop:=r∉U.slot.refs∧∀p∈U.rs,p.1≠r∧r∉p.2.refs
theorem Y8 {dst:Option Nat} {U:bD T} {r:Nat} (h:σ.fresh r=true) (hU:U.Gj r):(σ.upd dst U).fresh r=true:=by
 rw [zA] at h⊢
 have hrs:∀p∈U.rs++σ.rs,p.1≠r∧r∉p.2.refs:=fun p hp=>(List.mem_append.1 hp).elim (hU.2 p) (h.2.2 p)
 cases dst with
 | none=>exact⟨h.1,h.2.1,hrs⟩
 | some d=>exact⟨h.1,fun p hp=>(List.mem_cons.1 hp).elim (fun e=>e▸hU.1) (h.2.1 p),hrs⟩
theorem Oq {dst:Option Nat} {U:bD T} {r:Nat} (h:(σ.upd dst U).fresh r=true):σ.fresh r=true:=by
 rw [zA] at h⊢
 cases dst with
 | none=>exact⟨h.1,h.2.1,fun p hp=>h.2.2 p (List.mem_append_right _ hp)⟩
 | some d=>exact⟨h.1,fun p hp=>h.2.1 p (List.mem_cons_of_mem _ hp),fun p hp=>h.2.2 p (List.mem_append_right _ hp)⟩
theorem Ot {D:Nat→Bool} {r:Nat}:∀{l:List (Oper × bD T)} {i:Nat} {σ:St T},σ.fresh r=true→(∀j x,l[j]? =some x→D (i+j)=true→x.2.Gj r)→(fM D i l σ).fresh r=true
 | [],_,_,h,_=>h
 | (o,U)::l,i,σ,h,hq=>by
   unfold fM
   refine Ot ?_ (fun j x hj hD=>hq (j+1) x (by simpa using hj) (by rw [show i+(j+1)=i+1+j by omega];exact hD))
   cases hD:D i
   ·exact h
   ·exact Y8 h (hq 0 (o,U) rfl hD)
theorem ac5 (hS:jO W0 σ a w) (ht:∀t,σ1.tmp t=σ.tmp t) (hr:∀r,σ1.res r=σ.res r) (hn:σ1.n=σ.n) (hA:σ1.A=σ.A):jO W0 σ1 a w:=by
 obtain⟨env,F,h⟩:=hS
 have calm:Calm σ σ1 F F w w:=⟨hA,Nat.le_refl _,fun k _ hk=>⟨hk,rfl⟩⟩
 have same:∀r,Same σ σ1 env env F F w w r:=fun r=>⟨rfl,fun _=>Iff.rfl,hr r,fun _ _=>rfl⟩
 refine⟨env,F,h.below,h.tab,h.pin,fun k hk=>(by rw [hA];exact h.acc k hk),h.size.trans hn.symm,h.defers,fun r=>?_,h.own,h.apart,fun t=>?_⟩
 ·rw [hr r];exact Iy calm (same r) (h.res r) (fun t cs _=>⟨fun _ _=>rfl,fun q _=>(same q.1).holds⟩)
 ·rw [ht t];exact yY calm (h.tm t) (fun _ _=>rfl) (fun q _=>(same q.1).holds) (fun r i o _=>(same r).Rl)
end
end Go.Proofs.YtcnfgfomholheaaGreatDoor.Z
end
section
namespace Go.Proofs.YtcnfgfomholheaaGreatDoor.Z
open Go.RowKit
set_option linter.unusedVariables false
set_option linter.unusedSimpArgs false
section
variable {T:dV} {P:Program} {W0:Fr} {σ σ' σ1 σ2:St T} {a:Act} {w w1:World} {ops:Array Oper}
def up (A:List Nat):List Nat→Nat
 | []=>0
 | k::r=>(2 ^ k ||| A.getD k 0) ||| up A r
def mO:List (Oper × bD T)→List Nat→List Nat
 | [],A=>A
 | x::l,A=>mO l (A++[up A (needs x.1)])
def yZ {α:Type 0} (f:Nat→α→Bool):Nat→List α→Bool
 | _,[]=>true
 | i,x::l=>match f i x with
   | true=>yZ f (i+1) l
   | false=>false
theorem wC {α:Type} {f:Nat→α→Bool}:∀{l:List α} {i:Nat},yZ f i l=true→∀j x,l[j]? =some x→f (i+j) x=true
 | [],_,_,j,x,h=>by simp at h
 | y::l,i,h,j,x,hj=>by
   unfold yZ at h
   cases hf:f i y<;>rw [hf] at h<;>dsimp only at h
   ·cases h
   cases j with
   | zero=>simp at hj;subst hj;exact hf
   | succ j=>have:=wC h j x (by simpa using hj);rw [show i+(j+1)=i+1+j by omega];exact this
theorem RJ:∀(l:List (Oper × bD T)) (A:List Nat),∃B,mO l A=A++B
 | [],A=>⟨[],by simp [mO]⟩
 | x::l,A=>by
   obtain⟨B,h⟩:=RJ l (A++[up A (needs x.1)])
   exact⟨[up A (needs x.1)]++B,by rw [mO,h,List.append_assoc]⟩
theorem Vl:∀{l:List (Oper × bD T)} {A:List Nat} {i:Nat} {x:Oper × bD T},l[i]? =some x→∃B,B.length=A.length+i∧(mO l A).getD (A.length+i) 0=up B (needs x.1)∧∀k,k<A.length+i→B.getD k 0=(mO l A).getD k 0
 | [],A,i,x,h=>by simp at h
 | y::l,A,0,x,h=>by
   simp at h
   subst h
   obtain⟨B,hB⟩:=RJ l (A++[up A (needs y.1)])
   refine⟨A,rfl,?_,fun k hk=>?_⟩
   ·rw [mO,hB];simp [List.getD_eq_getElem?_getD]
   ·rw [mO,hB,List.append_assoc]
    have hk':k<A.length:=hk
    simp [List.getD_eq_getElem?_getD,List.getElem?_append_left hk']
 | y::l,A,i+1,x,h=>by
   obtain⟨B,h1,h2,h3⟩:=Vl (l:=l) (A:=A++[up A (needs y.1)]) (i:=i) (x:=x) (by simpa using h)
   have e:(A++[up A (needs y.1)]).length+i=A.length+(i+1):=by simp;omega
   rw [e] at h1 h2 h3
   exact⟨B,h1,h2,h3⟩
theorem Y9 {A:List Nat} {j:Nat}:∀{ns:List Nat},(up A ns).testBit j=true→∃k∈ns,j=k∨(A.getD k 0).testBit j=true
 | [],h=>by simp [up] at h
 | k::r,h=>by
   unfold up at h
   rw [Nat.testBit_or,Nat.testBit_or,Bool.or_eq_true,Bool.or_eq_true] at h
   rcases h with (h | h) | h
   ·rw [Nat.testBit_two_pow] at h
    have hkj:k=j:=by simpa using h
    exact⟨k,List.mem_cons_self, .inl hkj.symm⟩
   ·exact⟨k,List.mem_cons_self, .inr h⟩
   ·obtain⟨m,hm,h2⟩:=Y9 h;exact⟨m,List.mem_cons_of_mem _ hm,h2⟩
def Vm:Option Nat→Option Nat→Bool
 | some d,some d'=>!(Nat.beq d d')
 | _,_=>true
def sub (l m:List Nat):Bool:=l.all fun r=>jR r m
def Xh (U:bD T):Bool:=sub U.slot.refs U.bf && sub U.aZ U.bf && U.rs.all fun p=>jR p.1 U.aZ && sub p.2.refs U.bf
def RN (A:List Nat) (i:Nat) (x:Oper × bD T) (j:Nat) (y:Oper × bD T):Bool:=
 Nat.beq i j || (Vm x.1.dst y.1.dst && x.2.aZ.all fun r=>!jR r y.2.bf || (A.getD j 0).testBit i || (A.getD i 0).testBit j)
def noSlot (x:Oper × bD T):Bool:=match x.1.dst with
 | none=>match x.2.slot.refs with
   | []=>true
   | _=>false
 | some _=>true
def aa0 (ops:Array Oper) (A:List Nat) (zs:List (Oper × bD T)) (i:Nat) (x:Oper × bD T):Bool:=
 (noSlot x && (needs x.1).all (fun k=>Nat.blt k i)) && Xh x.2 && yZ (fun j y=>RN A i x j y) 0 zs && (kU x.1.op++CG ops x.1).all fun t=>yZ (fun j y=>Vm y.1.dst (some t) || jR j (needs x.1) || (A.getD j 0).testBit i) 0 zs
def QW (ops:Array Oper) (zs:List (Oper × bD T)):Bool:=yZ (aa0 ops (mO zs []) zs) 0 zs
structure Facts (ops:Array Oper) (zs:List (Oper × bD T)):Prop where
 lt:∀(i:Nat) x,zs[i]? =some x→∀k∈needs x.1,k<i
 nod:∀(i:Nat) x,zs[i]? =some x→x.1.dst=none→x.2.slot.refs=[]
 slot:∀(i:Nat) x,zs[i]? =some x→∀r∈x.2.slot.refs,r∈x.2.bf
 aZ:∀(i:Nat) x,zs[i]? =some x→∀r∈x.2.aZ,r∈x.2.bf
 rs:∀(i:Nat) x,zs[i]? =some x→∀p∈x.2.rs,p.1∈x.2.aZ∧∀r∈p.2.refs,r∈x.2.bf
 dst:∀(i j:Nat) x y d,zs[i]? =some x→zs[j]? =some y→i≠j→x.1.dst=some d→y.1.dst≠some d
 ord:∀(i j:Nat) x y r,zs[i]? =some x→zs[j]? =some y→i≠j→r∈x.2.aZ→r∈y.2.bf→((mO zs []).getD j 0).testBit i=true∨((mO zs []).getD i 0).testBit j=true
 tm:∀(i j:Nat) x y t,zs[i]? =some x→zs[j]? =some y→t∈kU x.1.op++CG ops x.1→y.1.dst=some t→j∈needs x.1∨((mO zs []).getD j 0).testBit i=true
theorem IB {l m:List Nat} (h:sub l m=true):∀r∈l,r∈m:=fun r hr=>iE.1 (List.all_eq_true.1 h r hr)
theorem RP {d d':Option Nat} {t:Nat} (h:Vm d d'=true) (h1:d=some t):d'≠some t:=by
 subst h1
 rintro rfl
 simp [Vm,Nat.beq_eq] at h
theorem Uh {zs:List (Oper × bD T)} (h:QW ops zs=true):Facts ops zs:=by
 have h0:∀(i:Nat) x,zs[i]? =some x→aa0 ops (mO zs []) zs i x=true:=fun i x hx=>by have:=wC h i x hx;rwa [Nat.zero_add] at this
 have h1:∀(i:Nat) x,zs[i]? =some x→((((noSlot x=true∧(needs x.1).all (fun k=>Nat.blt k i)=true)∧Xh x.2=true)∧yZ (fun j y=>RN (mO zs []) i x j y) 0 zs=true)∧((kU x.1.op++CG ops x.1).all fun t=>yZ (fun j y=>Vm y.1.dst (some t) || jR j (needs x.1) || ((mO zs []).getD j 0).testBit i) 0 zs)=true):=fun i x hx=>by
  have:=h0 i x hx
  unfold aa0 at this
  simpa only [Bool.and_eq_true] using this
 have h2:∀(i:Nat) x,zs[i]? =some x→((sub x.2.slot.refs x.2.bf=true∧sub x.2.aZ x.2.bf=true)∧(x.2.rs.all fun p=>jR p.1 x.2.aZ && sub p.2.refs x.2.bf)=true):=fun i x hx=>by
  have:=(h1 i x hx).1.1.2
  unfold Xh at this
  simpa only [Bool.and_eq_true] using this
 have h3:∀(i j:Nat) x y,zs[i]? =some x→zs[j]? =some y→i≠j→(Vm x.1.dst y.1.dst=true∧(x.2.aZ.all fun r=>!jR r y.2.bf || ((mO zs []).getD j 0).testBit i || ((mO zs []).getD i 0).testBit j)=true):=fun i j x y hx hy hij=>by
  have:=wC (h1 i x hx).1.2 j y hy
  unfold RN at this
  rw [Nat.zero_add,gq hij,Bool.false_or,Bool.and_eq_true] at this
  exact this
 refine⟨fun i x hx k hk=>?_,fun i x hx hd=>?_,fun i x hx=>IB (h2 i x hx).1.1,fun i x hx=>IB (h2 i x hx).1.2,fun i x hx p hp=>?_,fun i j x y d hx hy hij hd=>RP (h3 i j x y hx hy hij).1 hd,fun i j x y r hx hy hij hr hr2=>?_,fun i j x y t hx hy ht hd=>?_⟩
 ·have:=List.all_eq_true.1 (h1 i x hx).1.1.1.2 k hk
  simpa [Nat.blt_eq] using this
 ·have:=(h1 i x hx).1.1.1.1
  unfold noSlot at this
  rw [hd] at this
  dsimp only at this
  split at this
  ·assumption
  ·cases this
 ·have:=List.all_eq_true.1 (h2 i x hx).2 p hp
  rw [Bool.and_eq_true] at this
  exact⟨iE.1 this.1,IB this.2⟩
 ·have:=List.all_eq_true.1 (h3 i j x y hx hy hij).2 r hr
  rw [iE.2 hr2] at this
  simpa [Bool.or_eq_true] using this
 ·have:=wC (List.all_eq_true.1 (h1 i x hx).2 t ht) j y hy
  rw [Nat.zero_add,Bool.or_eq_true,Bool.or_eq_true] at this
  rcases this with (h4 | h4) | h4
  ·exact absurd rfl (RP h4 hd)
  ·exact .inl (iE.1 h4)
  ·exact .inr h4
def Closed (zs:List (Oper × bD T)) (D:Nat→Bool):Prop:=∀(i:Nat) x,zs[i]? =some x→D i=true→∀k∈needs x.1,D k=true
theorem sN {zs:List (Oper × bD T)} (hf:Facts ops zs) {D:Nat→Bool} (hc:Closed zs D):∀(i:Nat) x,zs[i]? =some x→(∀k∈needs x.1,D k=true)→∀j,((mO zs []).getD i 0).testBit j=true→D j=true∧j<i:=by
 intro i
 induction i using Nat.strongRecOn with
 | _ i ih=>
   intro x hx hn j hj
   obtain⟨B,h1,h2,h3⟩:=Vl (A:=[]) hx
   simp only [List.length_nil,Nat.zero_add] at h1 h2 h3
   rw [h2] at hj
   obtain⟨k,hk,h4⟩:=Y9 hj
   have hki:=hf.lt i x hx k hk
   rcases h4 with rfl | h4
   ·exact⟨hn _ hk,hki⟩
   ·rw [h3 k hki] at h4
    have hlen:i<zs.length:=(List.getElem?_eq_some_iff.1 hx).1
    have hkx:zs[k]? =some zs[k]:=List.getElem?_eq_getElem (by omega)
    have:=ih k hki _ hkx (hc k _ hkx (hn k hk)) j h4
    exact⟨this.1,by omega⟩
theorem Za {a b:Nat} (h:¬a<b):Nat.blt a b=false:=by
 cases hb:Nat.blt a b
 ·rfl
 ·exact absurd (by simpa [Nat.blt_eq] using hb) h
theorem uD (D:Nat→Bool) (i:Nat) (o:Oper) (U:bD T) (l:List (Oper × bD T)) (σ:St T):fM D i ((o,U)::l) σ=fM D (i+1) l (match D i with
   | true=>σ.upd o.dst U
   | false=>σ):=rfl
theorem EG {D:Nat→Bool}:∀{l:List (Oper × bD T)} {i:Nat} {σ:St T},(∀j,j<l.length→D (i+j)=false)→fM D i l σ=σ
 | [],_,_,_=>rfl
 | (o,U)::l,i,σ,h=>by
   unfold fM
   have h0:=h 0 (by simp)
   rw [Nat.add_zero] at h0
   rw [h0]
   exact EG (fun j hj=>by have:=h (j+1) (by simpa using hj);rw [show i+1+j=i+(j+1) by omega];exact this)
theorem EH {D:Nat→Bool}:∀{l:List (Oper × bD T)} {i:Nat} {σ:St T},fM D (i+1) l σ=fM (fun j=>D (j+1)) i l σ
 | [],_,_=>rfl
 | (o,U)::l,i,σ=>by unfold fM;exact EH
theorem aa1 {l:List Oper} {Us:List (bD T)} (ht:Tr P W0 ops l σ Us σ2):l.length=Us.length∧σ2=fM (fun _=>true) 0 (l.zip Us) σ∧∀(i:Nat) x,(l.zip Us)[i]? =some x→GStep P W0 ops x.1 (fM (fun j=>Nat.blt j i) 0 (l.zip Us) σ) x.2:=by
 induction ht with
 | nil σ=>exact⟨rfl,rfl,fun i x h=>by simp at h⟩
 | @cons o l σ σ2 U Us h ht ih=>
   obtain⟨h1,h2,h3⟩:=ih
   refine⟨by simp [h1],?_,?_⟩
   ·rw [h2]
    show _=fM _ 0 ((o,U)::l.zip Us) σ
    rw [uD,EH]
   ·intro i x hx
    cases i with
    | zero=>
      simp at hx
      subst hx
      rw [EG (D:=fun j=>Nat.blt j 0) (fun j _=>Za (by omega))]
      exact h
    | succ i=>
      have:=h3 i x (by simpa using hx)
      show GStep P W0 ops x.1 (fM _ 0 ((o,U)::l.zip Us) σ) x.2
      rw [uD,EH]
      exact this
theorem Ou {D:Nat→Bool}:∀{l1:List (Oper × bD T)} {l2:List (Oper × bD T)} {i:Nat} {σ:St T},fM D i (l1++l2) σ=fM D (i+l1.length) l2 (fM D i l1 σ)
 | [],_,_,_=>rfl
 | (o,U)::l1,l2,i,σ=>by
   show fM D (i+1) (l1++l2) _=fM D _ l2 (fM D (i+1) l1 _)
   rw [Ou]
   congr 1
   simp;omega
theorem Ov {D D':Nat→Bool}:∀{l:List (Oper × bD T)} {i:Nat} {σ:St T},(∀j,j<l.length→D (i+j)=D' (i+j))→fM D i l σ=fM D' i l σ
 | [],_,_,_=>rfl
 | (o,U)::l,i,σ,h=>by
   unfold fM
   have h0:=h 0 (by simp)
   rw [Nat.add_zero] at h0
   rw [h0]
   exact Ov (fun j hj=>by have:=h (j+1) (by simpa using hj);rw [show i+1+j=i+(j+1) by omega];exact this)
theorem EJ {D:Nat→Bool} {r:Nat}:∀{l:List (Oper × bD T)} {i:Nat} {σ:St T},(∀j x,l[j]? =some x→D (i+j)=true→¬Pz x.2 r)→(fM D i l σ).res r=σ.res r
 | [],_,_,_=>rfl
 | (o,U)::l,i,σ,h=>by
   unfold fM
   rw [EJ (fun j x hj hD=>h (j+1) x (by simpa using hj) (by rw [show i+(j+1)=i+1+j by omega];exact hD))]
   cases hD:D i
   ·rfl
   ·rw [St.dL];exact CJ (h 0 (o,U) rfl hD)
theorem EK {D:Nat→Bool} {t:Nat}:∀{l:List (Oper × bD T)} {i:Nat} {σ:St T},(∀j x,l[j]? =some x→D (i+j)=true→x.1.dst≠some t)→(fM D i l σ).tmp t=σ.tmp t
 | [],_,_,_=>rfl
 | (o,U)::l,i,σ,h=>by
   unfold fM
   rw [EK (fun j x hj hD=>h (j+1) x (by simpa using hj) (by rw [show i+(j+1)=i+1+j by omega];exact hD))]
   cases hD:D i
   ·rfl
   ·exact zy (h 0 (o,U) rfl hD)
end
end Go.Proofs.YtcnfgfomholheaaGreatDoor.Z
end
section
namespace Go.Proofs.YtcnfgfomholheaaGreatDoor.Z
open Go.RowKit
set_option linter.unusedVariables false
set_option linter.unusedSimpArgs false
section
variable {T:dV} {P:Program} {W0:Fr} {σ σ' σ1 σ2:St T} {a:Act} {w w1:World} {ops:Array Oper} {zs:List (Oper × bD T)}
theorem Xi (hf:Facts ops zs) {j:Nat} {y:Oper × bD T} (hy:zs[j]? =some y) {r:Nat} (h:r∉y.2.bf):y.2.Gj r:=
 ⟨fun hr=>h (hf.slot j y hy r hr),fun p hp=>⟨fun e=>h (e▸hf.aZ j y hy p.1 (hf.rs j y hy p hp).1),fun hr=>h ((hf.rs j y hy p hp).2 r hr)⟩⟩
theorem Xj (hf:Facts ops zs) {D:Nat→Bool} (hc:Closed zs D) {i:Nat} {x:Oper × bD T} (hx:zs[i]? =some x) (hi:D i=false) (hn:∀k∈needs x.1,D k=true):
  Agree (fM (fun j=>Nat.blt j i) 0 zs σ) (fM D 0 zs σ) (kU x.1.op++CG ops x.1) x.2.bf x.2.aZ:=by
 have hblt:∀j,Nat.blt j i=true↔j<i:=fun j=>by simp [Nat.blt_eq]
 have hno:∀j,¬j<i→Nat.blt j i=false:=fun j h=>Za h
 have aei:∀j,((mO zs []).getD i 0).testBit j=true→D j=true∧j<i:=fun j h=>sN hf hc i x hx hn j h
 have hdesc:∀j y,zs[j]? =some y→((mO zs []).getD j 0).testBit i=true→D j=false∧¬j<i:=by
  intro j y hy h
  constructor
  ·cases hD:D j
   ·rfl
   ·have:=(sN hf hc j y hy (hc j y hy hD) i h).1
    rw [hi] at this;cases this
  ·intro hlt
   have:=(sN hf (D:=fun _=>true) (fun _ _ _ _ _ _=>rfl) j y hy (fun _ _=>rfl) i h).2
   omega
 refine⟨fun t ht=>?_,fun r hr=>?_,fun r hr hfr=>?_,?_⟩
 ·refine MI rfl (fun j y hj hd=>?_)
  rw [Nat.zero_add]
  rcases hf.tm i j x y t hx hj ht hd with h1 | h1
  ·rw [hn j h1,(hblt j).2 (hf.lt i x hx j h1)]
  ·have:=hdesc j y hj h1
   rw [this.1,hno j this.2]
 ·refine MH rfl (fun j y hj hk=>?_)
  rw [Nat.zero_add]
  obtain⟨p,hp,rfl⟩:=hk
  have hpc:=(hf.rs j y hj p hp).1
  by_cases e:j=i
  ·subst e;rw [hi,hno j (Nat.lt_irrefl j)]
  ·rcases hf.ord j i y x p.1 hj hx e hpc hr with h | h
   ·have:=aei j h
    rw [this.1,(hblt j).2 this.2]
   ·have:=hdesc j y hj h
    rw [this.1,hno j this.2]
 ·have hbase:σ.fresh r=true:=by
   have key:∀(l:List (Oper × bD T)) (m:Nat) (D:Nat→Bool) (s:St T),(fM D m l s).fresh r=true→s.fresh r=true:=by
    intro l
    induction l with
    | nil=>exact fun _ _ _ h=>h
    | cons z l ih=>
      intro m D s h
      obtain⟨o,U⟩:=z
      rw [uD] at h
      have:=ih _ _ _ h
      cases hD:D m<;>rw [hD] at this
      ·exact this
      ·exact Oq this
   exact key _ _ _ _ hfr
  refine Ot hbase (fun j y hj hD=>?_)
  rw [Nat.zero_add] at hD
  have hji:j≠i:=fun e=>by rw [e,hi] at hD;cases hD
  by_cases ht:r∈y.2.bf
  ·rcases hf.ord i j x y r hx hj (fun e=>hji e.symm) hr ht with h | h
   ·have:=(hdesc j y hj h).1
    rw [hD] at this;cases this
   ·have hlt:=(aei j h).2
    have key:∀(l:List (Oper × bD T)) (m:Nat) (s:St T),(fM (fun q=>Nat.blt q i) m l s).fresh r=true→∀q z,l[q]? =some z→m+q<i→z.2.Gj r∨z.1.dst=none∧∀p∈z.2.rs,p.1≠r∧r∉p.2.refs:=by
     intro l
     induction l with
     | nil=>intro m s h q z hq;simp at hq
     | cons z0 l ih=>
       intro m s h q z hq hlt
       obtain⟨o,U⟩:=z0
       rw [uD] at h
       cases q with
       | zero=>
         simp at hq
         subst hq
         have hb:Nat.blt m i=true:=(hblt m).2 (by omega)
         rw [hb] at h
         have h2:((s.upd o.dst U).fresh r)=true:=by
          have key2:∀(l:List (Oper × bD T)) (m:Nat) (D:Nat→Bool) (s:St T),(fM D m l s).fresh r=true→s.fresh r=true:=by
           intro l
           induction l with
           | nil=>exact fun _ _ _ h=>h
           | cons z l ih=>
             intro m D s h
             obtain⟨o,U⟩:=z
             rw [uD] at h
             have:=ih _ _ _ h
             cases hD:D m<;>rw [hD] at this
             ·exact this
             ·exact Oq this
          exact key2 _ _ _ _ h
         rw [zA] at h2
         replace h2:=h2.2
         cases hd:o.dst with
         | none=>
           rw [hd] at h2
           exact .inr ⟨rfl,fun p hp=>h2.2 p (List.mem_append_left _ hp)⟩
         | some d=>
           rw [hd] at h2
           exact .inl ⟨h2.1 (d,U.slot) List.mem_cons_self,fun p hp=>h2.2 p (List.mem_append_left _ hp)⟩
       | succ q=>exact ih _ _ h q z (by simpa using hq) (by omega)
    rcases key zs 0 σ hfr j y hj (by omega) with h2 | ⟨h2,h3⟩
    ·exact h2
    ·exact⟨fun hrs=>(by rw [hf.nod j y hj h2] at hrs;cases hrs),h3⟩
  ·exact Xi hf hj ht
 ·rw [J7,J7]
def also (D:Nat→Bool) (i:Nat):Nat→Bool:=fun j=>match Nat.beq j i with
 | true=>true
 | false=>D j
theorem EL (D:Nat→Bool) (i:Nat):also D i i=true:=by simp [also,Nat.beq_eq]
theorem wO (D:Nat→Bool) {i j:Nat} (h:j≠i):also D i j=D j:=by simp [also,gq h]
theorem RQ {α:Type}:∀{l:List α} {i:Nat} {x:α},l[i]? =some x→∃l1 l2,l=l1++x::l2∧l1.length=i
 | [],i,x,h=>by simp at h
 | y::l,0,x,h=>by simp at h;subst h;exact⟨[],l,rfl,rfl⟩
 | y::l,i+1,x,h=>by
   obtain⟨l1,l2,h1,h2⟩:=RQ (l:=l) (i:=i) (by simpa using h)
   exact⟨y::l1,l2,by rw [h1];rfl,by simp [h2]⟩
theorem Ui (hf:Facts ops zs) {D:Nat→Bool} (hc:Closed zs D) {i:Nat} {x:Oper × bD T} (hx:zs[i]? =some x) (hi:D i=false) (hn:∀k∈needs x.1,D k=true):
  (∀t,(fM (also D i) 0 zs σ).tmp t=((fM D 0 zs σ).upd x.1.dst x.2).tmp t)∧(∀r,(fM (also D i) 0 zs σ).res r=((fM D 0 zs σ).upd x.1.dst x.2).res r)∧(fM (also D i) 0 zs σ).n=((fM D 0 zs σ).upd x.1.dst x.2).n:=by
 obtain⟨l1,l2,hz,hl⟩:=RQ hx
 have hsp:fM (also D i) 0 zs σ=fM (also D i) (i+1) l2 ((fM (also D i) 0 l1 σ).upd x.1.dst x.2):=by
  rw [hz,Ou,Nat.zero_add,hl]
  obtain⟨o,U⟩:=x
  rw [uD,EL]
 have hl2:∀j y,l2[j]? =some y→zs[i+1+j]? =some y:=fun j y hj=>by
  rw [hz,List.getElem?_append_right (by omega),hl,show i+1+j - i=j+1 by omega];simpa using hj
 refine⟨fun t=>?_,fun r=>?_,by rw [J7,St.WW,J7]⟩
 ·by_cases ht:x.1.dst=some t
  ·rw [hsp,EK (fun j y hj _ hd=>hf.dst i (i+1+j) x y t hx (hl2 j y hj) (by omega) ht hd),ht,St.pq,St.pq]
  ·rw [zy ht]
   refine MI rfl (fun j y hj hd=>?_)
   rw [Nat.zero_add]
   refine wO D (fun e=>?_)
   subst e
   rw [hx] at hj
   cases hj
   exact ht hd
 ·by_cases hk:Pz x.2 r
  ·have h1:(fM (also D i) 0 zs σ).res r=((fM (also D i) 0 l1 σ).upd x.1.dst x.2).res r:=by
    rw [hsp]
    refine EJ (fun j y hj hD hky=>?_)
    rw [wO D (by omega)] at hD
    have hy:=hl2 j y hj
    obtain⟨p,hp,rfl⟩:=hk
    obtain⟨p',hp',e⟩:=hky
    have hc1:=(hf.rs i x hx p hp).1
    have hc2:=(hf.rs _ y hy p' hp').1
    rw [e] at hc2
    rcases hf.ord i (i+1+j) x y p.1 hx hy (by omega) hc1 (hf.aZ _ y hy _ hc2) with h | h
    ·have:=(sN hf hc _ y hy (hc _ y hy hD) i h).1
     rw [hi] at this;cases this
    ·have:=(sN hf hc i x hx hn _ h).2
     omega
   rw [h1,St.dL,St.dL]
   exact RI hk
  ·rw [show((fM D 0 zs σ).upd x.1.dst x.2).res r=(fM D 0 zs σ).res r by rw [St.dL];exact CJ hk]
   refine MH rfl (fun j y hj hky=>?_)
   rw [Nat.zero_add]
   refine wO D (fun e=>?_)
   subst e
   rw [hx] at hj
   cases hj
   exact hk hky
def left (listed:Array Bool):Nat→Nat
 | 0=>0
 | n+1=>left listed n+match listed.getD n true with
   | true=>0
   | false=>1
theorem RU {listed:Array Bool} {i:Nat} (hi:listed.getD i true=false):∀n,left (listed.setIfInBounds i true) n+(if i<n then 1 else 0)=left listed n
 | 0=>by simp [left]
 | n+1=>by
   have ih:=RU hi n
   unfold left
   by_cases e:i=n
   ·subst e
    have h1:(listed.setIfInBounds i true).getD i true=true:=by
     by_cases h:i<listed.size<;>simp [Array.getD,h]
    rw [h1,hi]
    simp at ih⊢
    omega
   ·rw [getD_set_ne true e]
    have:(if i<n+1 then 1 else 0)=(if i<n then 1 else 0):=by
     by_cases h:i<n
     ·rw [if_pos h,if_pos (by omega)]
     ·rw [if_neg h,if_neg (by omega)]
    rw [this];omega
theorem Ox {listed:Array Bool}:∀{n:Nat},left listed n=0→∀j,j<n→listed.getD j true=true
 | 0,_,j,h=>by omega
 | n+1,h,j,hj=>by
   unfold left at h
   by_cases e:j=n
   ·subst e
    cases hb:listed.getD j true
    ·rw [hb] at h;simp at h
    ·rfl
   ·exact Ox (n:=n) (by omega) j (by omega)
theorem Oy {o:Oper} {k:Nat}:k∈needs o↔∃e∈o.after,Region.binds .any e=true∧e.on=k:=by
 unfold needs
 simp only [List.mem_map,List.mem_filter,Array.mem_toList_iff]
 exact⟨fun⟨e,⟨h1,h2⟩,h3⟩=>⟨e,h1,h2,h3⟩,fun⟨e,h1,h2,h3⟩=>⟨e,⟨h1,h2⟩,h3⟩⟩
theorem aa2 {Q:Exit→Act→World→Prop} {σ:St T} (hf:Facts ops zs) (hzo:∀(i:Nat) o,ops[i]? =some o→∃U,zs[i]? =some (o,U)) (hlen:zs.length=ops.size)
  (hg:∀(i:Nat) x,zs[i]? =some x→GStep P W0 ops x.1 (fM (fun j=>Nat.blt j i) 0 zs σ) x.2) (hQ:∀a' w',jO W0 (fM (fun _=>true) 0 zs σ) a' w'→Q .normal a' w'):
  ∀(fuel:Nat) (listed:Array Bool) (a:Act) (w:World),listed.size=ops.size→left listed ops.size≤fuel→Closed zs (fun j=>listed.getD j false)→jO W0 (fM (fun j=>listed.getD j false) 0 zs σ) a w→wpAny P .any ops Q fuel listed a w:=by
 intro fuel
 have hall:∀(listed:Array Bool) (a:Act) (w:World),listed.size=ops.size→(∀j,j<ops.size→listed.getD j true=true)→jO W0 (fM (fun j=>listed.getD j false) 0 zs σ) a w→Q .normal a w:=by
  intro listed a w hs h hS
  refine hQ _ _ ?_
  rw [Ov (D':=fun j=>listed.getD j false) (fun j hj=>?_)]
  ·exact hS
  ·have h1:j<listed.size:=by omega
   have h2:=h j (by omega)
   simp only [Nat.zero_add]
   simp [Array.getD,h1] at h2⊢
   exact h2
 induction fuel with
 | zero=>
   intro listed a w hs hl hc hS
   have h0:=Ox (Nat.le_zero.1 hl)
   refine⟨?_,hall listed a w hs h0 hS⟩
   refine List.eq_nil_iff_forall_not_mem.2 (fun j hj=>?_)
   obtain⟨h1,o,ho,_⟩:=mem_ready.1 hj
   have:=h0 j (Array.getElem?_eq_some_iff.1 ho).1
   rw [h1] at this;cases this
 | succ fuel ih=>
   intro listed a w hs hl hc hS
   refine⟨fun hr=>?_,fun i hi=>?_⟩
   ·refine hall listed a w hs (fun j hj=>?_) hS
    induction j using Nat.strongRecOn with
    | _ j ihj=>
      cases hb:listed.getD j true with
      | true=>rfl
      | false=>
        exfalso
        have ho:ops[j]? =some ops[j]:=Array.getElem?_eq_getElem hj
        obtain⟨U,hU⟩:=hzo j _ ho
        have hm:j∈Region.ready .any ops listed:=mem_ready.2 ⟨hb,_,ho,fun e he hbd=>by
         have hlt:=hf.lt j _ hU e.on (Oy.2 ⟨e,he,hbd,rfl⟩)
         have h1:=ihj e.on hlt (by omega)
         have h2:e.on<listed.size:=by omega
         simp [Array.getD,h2] at h1⊢
         exact h1⟩
        rw [hr] at hm;cases hm
   ·obtain⟨h1,o,ho,hall'⟩:=mem_ready.1 hi
    obtain⟨U,hU⟩:=hzo i o ho
    have hilt:i<ops.size:=(Array.getElem?_eq_some_iff.1 ho).1
    have hif:listed.getD i false=false:=by
     have h2:i<listed.size:=by omega
     simp [Array.getD,h2] at h1⊢
     exact h1
    have hn:∀k∈needs o,listed.getD k false=true:=fun k hk=>by
     obtain⟨e,he,hb,rfl⟩:=Oy.1 hk
     exact hall' e he hb
    have hA:=Xj (σ:=σ) hf hc hU hif hn
    obtain⟨e1,e2,e3⟩:=Ui (σ:=σ) hf hc hU hif hn
    have hD:∀j,also (fun j=>listed.getD j false) i j=(listed.setIfInBounds i true).getD j false:=fun j=>by
     by_cases e:j=i
     ·subst e;rw [EL];have h2:j<listed.size:=by omega
      simp [Array.getD,h2]
     ·rw [wO _ e,getD_set_ne false (fun h=>e h.symm)]
    have hfun:also (fun j=>listed.getD j false) i=fun j=>(listed.setIfInBounds i true).getD j false:=funext hD
    have hgs:=hg i (o,U) hU (fM (fun j=>listed.getD j false) 0 zs σ) a w (wpAny P .any ops Q fuel (listed.setIfInBounds i true)) Q hA hS (fun a' w' hS'=>by
     refine ih _ a' w' (by simpa using hs) ?_ ?_ ?_
     ·have:=RU h1 ops.size
      rw [if_pos hilt] at this
      omega
     ·intro j y hy hDj k hk
      have aej:also (fun j=>listed.getD j false) i j=true:=by rw [hD];exact hDj
      show(listed.setIfInBounds i true).getD k false=true
      rw [←hD]
      by_cases e:k=i
      ·subst e;exact EL _ _
      ·rw [wO _ e]
       by_cases e2:j=i
       ·subst e2;rw [hU] at hy;cases hy;exact hn k hk
       ·rw [wO _ e2] at aej;exact hc j y hy aej k hk
     ·rw [←hfun]
      exact ac5 hS' e1 e2 e3 (by rw [Xg,St.iQ,Xg]))
    unfold wpOp
    rw [ho]
    dsimp only
    by_cases hw:Region.wanted o (yielded ops a.tmps)=true
    ·rw [if_pos hw] at hgs⊢;exact .inl hgs
    ·rw [if_neg hw] at hgs⊢;exact hgs
theorem aa3 (hS:jO W0 σ a w) (g:Grew w w1) (hsz:w1.heap.size=w.heap.size):jO W0 σ a w1:=by
 obtain⟨env,F,h⟩:=hS
 have calm:Calm σ σ F F w w1:=⟨rfl,g.size,fun k hk h=>⟨h,g.block k hk⟩⟩
 have same:∀r,Same σ σ env env F F w w1 r:=fun r=>⟨rfl,fun _=>Iff.rfl,rfl,fun k hk=>g.block k (gB h hk)⟩
 refine⟨env,F,sK h.below g,h.tab,h.pin,h.acc,h.size,h.defers,fun r=>Iy calm (same r) (h.res r) (fun t cs _=>⟨fun _ _=>rfl,fun q _=>(same q.1).holds⟩),fun r k hk=>?_,h.apart,fun t=>yY calm (h.tm t) (fun _ _=>rfl) (fun q _=>(same q.1).holds) (fun r i o _=>(same r).Rl)⟩
 have:=h.own r k hk
 exact⟨this.1,by omega⟩
theorem acS {Q:Exit→Act→World→Prop} {id:Nat} {Us:List (bD T)} (hm:P.follows .mixedOrders=true) (ht:Tr P W0 ops ops.toList σ Us σ2) (hd:QW ops (ops.toList.zip Us)=true) (hS:jO W0 σ a w) (hQ:∀a' w',jO W0 σ2 a' w'→Q .normal a' w'):(Code.region id ops true).wp P Q a w:=by
 obtain⟨h1,h2,h3⟩:=aa1 ht
 have hf:=Uh hd
 have hlen:(ops.toList.zip Us).length=ops.size:=by rw [List.length_zip,←h1];simp
 refine wp_region_any hm (aa2 (σ:=σ) hf (fun i o ho=>?_) hlen h3 (fun a' w' h=>hQ a' w' (by rw [h2];exact h)) ops.size _ a w.drew (by simp) ?_ (fun i x hx hD=>?_) ?_)
 ·have hi:i<ops.size:=(Array.getElem?_eq_some_iff.1 ho).1
  have hi2:i<Us.length:=by rw [←h1];simpa using hi
  have ho':ops.toList[i]? =some o:=by rw [Array.getElem?_toList];exact ho
  exact⟨Us[i],by rw [List.getElem?_zip_eq_some];exact⟨ho',List.getElem?_eq_getElem hi2⟩⟩
 ·have key:∀(l:Array Bool) n,left l n≤n:=by
   intro l n
   induction n with
   | zero=>exact Nat.le_refl _
   | succ n ih=>unfold left;cases l.getD n true<;>simp<;>omega
  exact key _ _
 ·exfalso
  by_cases h:i<ops.size<;>simp [Array.getD,h] at hD
 ·rw [EG (fun j hj=>?_)]
  ·exact aa3 hS (Grew.drew w) rfl
  ·by_cases h:0+j<ops.size<;>simp [Array.getD,h]
end
end Go.Proofs.YtcnfgfomholheaaGreatDoor.Z
end
section
namespace Go.Proofs.YtcnfgfomholheaaGreatDoor.Z
open Go.RowKit
set_option linter.unusedVariables false
set_option linter.unusedSimpArgs false
section
variable {T:dV} {P:Program} {W0:Fr} {σ σ' σ1:St T} {a:Act} {w w1:World} {env bC:Nat→Value} {F F1:Nat→Nat→Prop} {o:Oper} {bf aZ:List Nat}
def uX {Tb:Nat→Type}:List (C0 Tb)→List Value→List (C0 Tb)
 | .sl e _::r, .slice none 0 0::vs=> .sl e []::uX r vs
 | .sc _::r,v::vs=> .sc v::uX r vs
 | _,_=>[]
def zeroE (T:dV) (e:Nat) (z:List Value):Option (T.Tb e):=T.yN e (uX (T.cells e (T.df e)) z)
theorem EM:∀{cs:List (C0 T.Tb)} {vs:List Value} {q:Nat} {x:C0 T.Tb},(uX cs vs)[q]? =some x→∃v,vs[q]? =some v∧(x= .sc v∨∃e,x= .sl e []∧v= .slice none 0 0)
 | [],vs,q,x,h=>by simp [uX] at h
 | .sc u::r,[],q,x,h=>by simp [uX] at h
 | .sc u::r,v::vs,0,x,h=>by simp [uX] at h;exact⟨v,rfl, .inl h.symm⟩
 | .sc u::r,v::vs,q+1,x,h=>by simp [uX] at h;simpa using EM h
 | .sl e l::r,[],q,x,h=>by simp [uX] at h
 | .sl e l::r,v::vs,q,x,h=>by
   unfold uX at h
   split at h
   ·rename_i h1 h2
    cases h1;cases h2
    cases q with
    | zero=>simp at h;exact⟨_,rfl, .inr ⟨_,h.symm,rfl⟩⟩
    | succ q=>simpa using EM (by simpa using h)
   ·rename_i h1 h2;cases h1
   ·simp at h
def Jt (σ:St T) (nx:Nat) (dst:Option Nat) (t:Nat) (x y:Operand):eY T:=
 match T.ti t with
 | some ti=>match ti.kind with
   | .slice e=>match T.ti e with
     | some i=>match T.el e with
       | true=>match zeroE T e i.zero with
         | some z=>match sv (dD σ x) with
           | some (.int _ l)=>match sv (dD σ y) with
             | some (.int _ c)=>match bZ σ dst with
               | true=>match σ.fresh nx with
                 | true=> .done ⟨.c (.hd nx),[(nx, .row nx e (List.replicate l.toNat z))],[nx],1,[nx]⟩ (some (0≤l∧l≤c∧(i.bytes:Int)*c≤281474976710656∧c≤9223372036854775807))
                 | false=> .stuck
               | false=> .stuck
             | _=> .stuck
           | _=> .stuck
         | none=> .stuck
       | false=> .stuck
     | none=> .stuck
   | _=> .stuck
 | none=> .stuck
theorem aa4 {z:Array Value} {c s j q:Nat} (hz:z.size=s) (hq:q<s) (hj:j<c):(madeCells z (c*s))[j*s+q]? =z[q]?:=by
 have h1:j*s+q<c*s:=by
  have:(j+1)*s≤c*s:=Nat.mul_le_mul_right s hj
  rw [Nat.succ_mul] at this;omega
 have h2:(j*s+q) % z.size=q:=by rw [hz,Nat.mul_comm,Nat.mul_add_mod];exact Nat.mod_eq_of_lt hq
 simp [madeCells,h1,h2]
 have:q<z.size:=by omega
 simp [this]
theorem ac6 {e:Nat} {i:TI} {z:T.Tb e} {zv:Value} (hi:T.ti e=some i) (hel:T.el e=true) (hz:zeroE T e i.zero=some z) (hzv:zv.cells=i.zero.toArray) (hzl:i.zero.length=i.size) (h0:qh i.zero=true∨True) {l c:Nat} (hlc:l≤c) (hm:c≤maxLen) (w:World):
  Ow T.sz (w.alloc (.cells (madeCells zv.cells (c*i.size)) e)) (fun k=>k=w.heap.size) (.sl e ((List.replicate l z).map (T.enc e))) (.slice (some ⟨w.heap.size,0,none⟩) l c):=by
 have hcs:=T.mk_eq e _ z hz
 have hsz:T.sz e=i.size:=l9 hi
 have hlen:=T.len e z i hel hi
 have hzs:zv.cells.size=i.size:=by rw [hzv];simpa using hzl
 have key:∀(j:Nat) (l':List V) (q:Nat) (x:V),((List.replicate l z).map (T.enc e))[j]? =some l'→l'[q]? =some x→∃v,i.zero[q]? =some v∧j<l∧q<i.size∧Ow T.sz (w.alloc (.cells (madeCells zv.cells (c*i.size)) e)) (fun _=>False) x v:=by
  intro j l' q x hj hq
  simp only [List.getElem?_map,List.getElem?_replicate] at hj
  split at hj
  ·rename_i hjl
   simp at hj
   subst hj
   rw [T.gZ,List.getElem?_map] at hq
   obtain⟨c0,h1,h2⟩:=Option.map_eq_some_iff.1 hq
   have h3:q<i.size:=by rw [←hlen];exact(List.getElem?_eq_some_iff.1 h1).1
   have h1':=h1
   rw [hcs] at h1'
   obtain⟨v,h4,h5⟩:=EM h1'
   refine⟨v,h4,hjl,h3,?_⟩
   rcases h5 with rfl | ⟨e',rfl,rfl⟩
   ·subst h2
    exact .sc _ v (T.one e z (.sc v) (List.mem_of_getElem? h1))
   ·subst h2
    exact .nil _ e'
  ·cases hj
 have hl2:l=((List.replicate l z).map (T.enc e)).length:=by simp
 have:=Ow.sl (sz:=T.sz) (w:=w.alloc (.cells (madeCells zv.cells (c*i.size)) e)) (fun k=>k=w.heap.size) e ((List.replicate l z).map (T.enc e)) w.heap.size c (madeCells zv.cells (c*i.size)) (fun j q=>i.zero[q]?.getD undef) (fun _ _ _=>False) (BX w _) rfl (by simpa using hlc) hm (by rw [size_madeCells,hsz])
  (fun j l' hj=>by
   simp only [List.getElem?_map,List.getElem?_replicate] at hj
   split at hj
   ·simp at hj;subst hj;rw [T.gZ,List.length_map,hlen,hsz]
   ·cases hj)
  (fun j l' q x hj hq=>by
   obtain⟨v,h1,h2,h3,_⟩:=key j l' q x hj hq
   rw [hsz,aa4 hzs h3 (by omega),hzv]
   simp [h1])
  (fun j l' q x hj hq=>by
   obtain⟨v,h1,h2,h3,h4⟩:=key j l' q x hj hq
   rw [h1];exact h4)
  (fun j q k h=>h.elim) (fun j q j' q' k h=>h.elim)
 rw [←hl2] at this
 exact this
theorem Zb {t:Nat} {x y:Operand} (ho:o.op= .makeSlice t x y) {v:Value} {w':World} (h:(Instr.makeSlice t (a.eval x) (a.eval y)).run P w= .ok v w'):(execOp a.eval o).run P w= .ok (.value v) w':=by
 unfold execOp;rw [ho];simp only [Sem.run_bind,h];rfl
theorem YF (hT:T.ok P) {nx t:Nat} {x y:Operand} {U:bD T} {ob:Option Prop} (ho:o.op= .makeSlice t x y) (h:Jt σ nx o.dst t x y= .done U ob) (hob:sD ob):eU P W0 o σ U:=by
 unfold Jt at h
 cases hi:T.ti t with
 | none=>rw [hi] at h;cases h
 | some ti=>
   rw [hi] at h
   dsimp only at h
   split at h
   ·rename_i e hk
    cases he:T.ti e with
    | none=>rw [he] at h;cases h
    | some i=>
      rw [he] at h
      dsimp only at h
      cases hel:T.el e<;>rw [hel] at h<;>dsimp only at h
      ·cases h
      cases hz:zeroE T e i.zero with
      | none=>rw [hz] at h;cases h
      | some z=>
        rw [hz] at h
        dsimp only at h
        split at h
        ·rename_i k1 l hl
         split at h
         ·rename_i k2 c hc
          cases hd:bZ σ o.dst<;>rw [hd] at h<;>dsimp only at h
          ·cases h
          cases hf:σ.fresh nx<;>rw [hf] at h<;>cases h
          intro σ' a w K Q hA ⟨env,F,hS⟩ hK
          obtain⟨inf,h1,h2,h3,⟨zv,h4,h4'⟩,h5,h6,h7,h8⟩:=hT t ti hi
          obtain⟨inf',g1,g2,g3,⟨zv',g4,g4'⟩,g5,_⟩:=hT e i he
          rw [hk] at h8
          have hob:0≤l∧l≤c∧(i.bytes:Int)*c≤281474976710656∧c≤9223372036854775807:=hob
          have e1:=jF (bI hS hA (x:=x) (by simp [ho,Op.operands])) hl
          have e2:=jF (bI hS hA (x:=y) (by simp [ho,Op.operands])) hc
          have hrun:=run_make (P:=P) w t e inf' zv' h8.1 g1 g4 k1 k2 l c hob.1 hob.2.1 (by rw [g3];exact hob.2.2.1) hob.2.2.2
          obtain⟨hu,hn⟩:=hA.new (by simp) hf
          refine jJ (Zb ho (by rw [e1,e2];exact hrun)) (hK _ _ ?_)
          refine hS.fresh hu hn (Grew.alloc w _) (u:= .slice (some ⟨w.heap.size,0,none⟩) l.toNat c.toNat) (G:=fun k=>k=w.heap.size) (fun k hk=>by subst hk;rw [xQ];omega) ?_ ?_ (fun d hd'=>by rw [hA.n];exact bG hd d hd')
          ·intro σ1 bC F1 calm henv hG hoth hv
           have:=ac6 (T:=T) he hel hz g4' g5 (.inr trivial) (l:=l.toNat) (c:=c.toNat) (by omega) (by have:=hob.2.2.2;simp only [maxLen];omega) w
           rw [←g2] at this
           show Ow _ _ _ _ (bC nx)
           rw [henv]
           exact this.mono (fun k hk=>(hG k).2 hk)
          ·intro σ1 bC F1 calm henv hoth hv hres
           exact⟨henv.symm,rfl⟩
         ·cases h
        ·cases h
   ·cases h
end
end Go.Proofs.YtcnfgfomholheaaGreatDoor.Z
end
section
namespace Go.Proofs.YtcnfgfomholheaaGreatDoor.Z
open Go.RowKit
set_option linter.unusedVariables false
set_option linter.unusedSimpArgs false
theorem nM {α:Type} {cs vs:List α} {n:Nat} (h:n+vs.length≤cs.length):(splice cs n vs).length=cs.length:=by
 simp [splice];omega
theorem iD {α:Type} {cs vs:List α} {n m:Nat} (h:n+vs.length≤cs.length):(splice cs n vs)[m]? =if m<n then cs[m]? else if m<n+vs.length then vs[m - n]? else cs[m]?:=by
 unfold splice
 by_cases h1:m<n
 ·rw [if_pos h1,List.append_assoc,List.getElem?_append_left (by simp;omega),List.getElem?_take_of_lt h1]
 ·rw [if_neg h1]
  by_cases h2:m<n+vs.length
  ·rw [if_pos h2,List.append_assoc,List.getElem?_append_right (by simp;omega),List.getElem?_append_left (by simp;omega)]
   congr 1
   simp;omega
  ·rw [if_neg h2,List.getElem?_append_right (by simp;omega),List.getElem?_drop]
   congr 1
   simp;omega
section
variable {sz:Nat→Nat} {w:World} {F:Nat→Prop}
theorem Rj {e:Nat} {xs:List (List V)} {v:Value} (h:Ow sz w F (.sl e xs) v) {i o:Nat} {old new:List V} {us:List Value} (hi:xs[i]? =some old) (hl:new.length=sz e) (ho:o+us.length≤sz e)
  (hold:∀q x,new[q]? =some x→(q<o∨o+us.length≤q)→old[q]? =some x) (H:Nat→Nat→Prop) (hnew:∀q x u,new[o+q]? =some x→us[q]? =some u→Ow sz w (H q) x u)
  (hH:∀q k,H q k→¬F k) (hHd:∀q q' k,H q k→H q' k→q=q'):
  ∃g cap cur,v= .slice (some ⟨g,0,none⟩) xs.length cap∧F g∧w.heap[g]? =some (.cells cur e (0,0))∧i*sz e+o+us.length≤cur.size∧
   Ow sz (w.setRow g (splice cur.toList (i*sz e+o) us).toArray) (fun k=>F k∨∃q,H q k) (.sl e (xs.set i new)) v:=by
 cases h with
 | nil F e=>simp at hi
 | sl F e xs g cap cur f G hg hF hn hm hz hs hcell hr hG hd=>
   have hilt:i<xs.length:=(List.getElem?_eq_some_iff.1 hi).1
   have hfit:i*sz e+o+us.length≤cur.size:=by
    have:(i+1)*sz e≤cap*sz e:=Nat.mul_le_mul_right _ (by omega)
    rw [Nat.succ_mul] at this
    omega
   refine⟨g,cap,cur,rfl,hF,hg,hfit,?_⟩
   have hlen:(splice cur.toList (i*sz e+o) us).length=cur.size:=by rw [nM (by simpa using hfit)];simp
   have hne:∀k,k≠g→(w.setRow g (splice cur.toList (i*sz e+o) us).toArray).heap[k]? =w.heap[k]?:=fun k hk=>setRow_other w g k _ hk
   have hlx:(xs.set i new).length=xs.length:=by simp
   rw [←hlx]
   have Zc:∀j l q x,(xs.set i new)[j]? =some l→l[q]? =some x→q<sz e∧((j=i∧o≤q∧q<o+us.length∧new[q]? =some x)∨(¬(j=i∧o≤q∧q<o+us.length)∧∃l',xs[j]? =some l'∧l'[q]? =some x)):=by
    intro j l q x hj hq
    rw [List.getElem?_set] at hj
    by_cases e1:i=j
    ·subst e1
     simp [hilt] at hj
     subst hj
     have h1:q<sz e:=by rw [←hl];exact(List.getElem?_eq_some_iff.1 hq).1
     refine⟨h1,?_⟩
     by_cases h2:o≤q∧q<o+us.length
     ·exact .inl ⟨rfl,h2.1,h2.2,hq⟩
     ·exact .inr ⟨fun h=>h2 ⟨h.2.1,h.2.2⟩,old,hi,hold q x hq (by omega)⟩
    ·rw [if_neg e1] at hj
     have h1:q<sz e:=by rw [←hs j l hj];exact(List.getElem?_eq_some_iff.1 hq).1
     exact⟨h1, .inr ⟨fun h=>e1 h.1.symm,l,hj,hq⟩⟩
   refine .sl _ e (xs.set i new) g cap _ (fun j q=>if j=i∧o≤q∧q<o+us.length then us[q - o]?.getD undef else f j q) (fun j q k=>if j=i∧o≤q∧q<o+us.length then H (q - o) k else G j q k) (setRow_heap w g cur _ e _ hg) (.inl hF) (by rw [hlx];exact hn) hm (by simpa using hlen.trans hz) ?_ ?_ ?_ ?_ ?_
   ·intro j l hj
    rw [List.getElem?_set] at hj
    by_cases e1:i=j
    ·subst e1;simp [hilt] at hj;subst hj;exact hl
    ·rw [if_neg e1] at hj;exact hs j l hj
   ·intro j l q x hj hq
    obtain⟨hqs,h1 | ⟨h1,l',h2,h3⟩⟩:=Zc j l q x hj hq
    ·obtain⟨rfl,h2,h3,h4⟩:=h1
     rw [List.getElem?_toArray,iD (by simpa using hfit),if_neg (by omega),if_pos (by omega),if_pos ⟨rfl,h2,h3⟩]
     rw [show j*sz e+q - (j*sz e+o)=q - o by omega]
     have:q - o<us.length:=by omega
     simp [this]
    ·have hc:=hcell j l' q x h2 h3
     rw [if_neg h1,List.getElem?_toArray,iD (by simpa using hfit)]
     have hout:j*sz e+q<i*sz e+o∨i*sz e+o+us.length≤j*sz e+q:=by
      rcases Nat.lt_trichotomy j i with h | h | h
      ·have:(j+1)*sz e≤i*sz e:=Nat.mul_le_mul_right _ h
       rw [Nat.succ_mul] at this;omega
      ·subst h
       by_cases h5:o≤q
       ·by_cases h6:q<o+us.length
        ·exact(h1 ⟨rfl,h5,h6⟩).elim
        ·omega
       ·omega
      ·have:(i+1)*sz e≤j*sz e:=Nat.mul_le_mul_right _ h
       rw [Nat.succ_mul] at this;omega
     rcases hout with h | h
     ·rw [if_pos h];simpa using hc
     ·rw [if_neg (by omega),if_neg (by omega)];simpa using hc
   ·intro j l q x hj hq
    obtain⟨hqs,h1 | ⟨h1,l',h2,h3⟩⟩:=Zc j l q x hj hq
    ·obtain⟨rfl,h2,h3,h4⟩:=h1
     have hlt:q - o<us.length:=by omega
     have h5:=hnew (q - o) x (us[q - o]) (by rw [show o+(q - o)=q by omega];exact h4) (by simp [hlt])
     have hc1:j=j∧o≤q∧q<o+us.length:=⟨rfl,h2,h3⟩
     rw [if_pos hc1,show us[q - o]?.getD undef=us[q - o] by simp [hlt]]
     exact(h5.frame (fun k hk _=>hne k (fun e=>hH _ k hk (e▸hF)))).mono (fun k hk=>by rw [if_pos hc1];exact hk)
    ·simp only [if_neg h1]
     exact(hr j l' q x h2 h3).frame (fun k hk _=>hne k (hG j q k hk).2)
   ·intro j q k hk
    by_cases h1:j=i∧o≤q∧q<o+us.length
    ·rw [if_pos h1] at hk
     exact⟨.inr ⟨_,hk⟩,fun e=>hH _ k hk (e▸hF)⟩
    ·rw [if_neg h1] at hk
     exact⟨.inl (hG j q k hk).1,(hG j q k hk).2⟩
   ·intro j q j' q' k hk hk'
    by_cases h1:j=i∧o≤q∧q<o+us.length
    ·rw [if_pos h1] at hk
     by_cases h2:j'=i∧o≤q'∧q'<o+us.length
     ·rw [if_pos h2] at hk'
      have:=hHd _ _ k hk hk'
      exact⟨h1.1.trans h2.1.symm,by omega⟩
     ·rw [if_neg h2] at hk'
      exact(hH _ k hk (hG j' q' k hk').1).elim
    ·rw [if_neg h1] at hk
     by_cases h2:j'=i∧o≤q'∧q'<o+us.length
     ·rw [if_pos h2] at hk'
      exact(hH _ k hk' (hG j q k hk).1).elim
     ·rw [if_neg h2] at hk'
      exact hd j q j' q' k hk hk'
end
section
variable {T:dV} {P:Program} {W0:Fr} {σ σ' σ1:St T} {a:Act} {w w1:World} {env bC:Nat→Value} {F F1:Nat→Nat→Prop} {o:Oper} {bf aZ:List Nat}
def J8 (σ:St T):C0 T.Tb→Cell T→Option (C0 T.Tb × Option Nat)
 | .sl e _, .sc (.slice none 0 0)=>some (.sl e [],none)
 | _, .sc v=>some (.sc v,none)
 | _, .hd r=>match σ.res r with
   | .row _ e l=>some (.sl e l,some r)
   | _=>none
 | _,_=>none
def mM (σ:St T):List (C0 T.Tb)→List (Cell T)→Option (List (C0 T.Tb) × List (Option Nat))
 | c::cs,x::xs=>match J8 σ c x with
   | some (y,r)=>match mM σ cs xs with
     | some (ys,rs)=>some (y::ys,r::rs)
     | none=>none
   | none=>none
 | _,[]=>some ([],[])
 | _,_=>none
def dN:List (Option Nat)→List Nat
 | []=>[]
 | some r::l=>r::dN l
 | none::l=>dN l
def kV:List Nat→Bool
 | []=>true
 | a::l=>match jR a l with
   | true=>false
   | false=>kV l
def jv:List Nat→List (Nat × dK T)
 | []=>[]
 | r::l=>(r, .no)::jv l
theorem kD {r:Nat}:∀{l:List (Option Nat)},r∈dN l↔some r∈l
 | []=>by simp [dN]
 | some q::l=>by simp [dN,kD (l:=l)]
 | none::l=>by simp [dN,kD (l:=l)]
theorem BZ {r:Nat}:∀{l:List (Option Nat)} {i j:Nat},kV (dN l)=true→l[i]? =some (some r)→l[j]? =some (some r)→i=j
 | [],i,j,_,h,_=>by simp at h
 | none::l,i,j,hn,h,h'=>by
   cases i with
   | zero=>simp at h
   | succ i=>cases j with
     | zero=>simp at h'
     | succ j=>have:=BZ (l:=l) hn (by simpa using h) (by simpa using h');omega
 | some q::l,i,j,hn,h,h'=>by
   unfold dN kV at hn
   cases hq:jR q (dN l)<;>rw [hq] at hn<;>dsimp only at hn
   ·have hno:∀k,l[k]? =some (some q)→False:=fun k hk=>by
     have:q∈dN l:=kD.2 (List.mem_of_getElem? hk)
     rw [iE.2 this] at hq;cases hq
    cases i with
    | zero=>
      simp at h;subst h
      cases j with
      | zero=>rfl
      | succ j=>exact(hno j (by simpa using h')).elim
    | succ i=>cases j with
      | zero=>simp at h';subst h';exact(hno i (by simpa using h)).elim
      | succ j=>have:=BZ (l:=l) hn (by simpa using h) (by simpa using h');omega
   ·cases hn
theorem Iq:∀{cs:List (C0 T.Tb)} {xs:List (Cell T)} {ys:List (C0 T.Tb)} {rs:List (Option Nat)},mM σ cs xs=some (ys,rs)→ys.length=xs.length∧rs.length=xs.length
 | cs,[],ys,rs,h=>by
   have:mM σ cs []=some ([],[]):=by cases cs<;>rfl
   rw [this] at h;cases h;exact⟨rfl,rfl⟩
 | [],x::xs,ys,rs,h=>by cases h
 | c::cs,x::xs,ys,rs,h=>by
   unfold mM at h
   cases h1:J8 σ c x with
   | none=>rw [h1] at h;cases h
   | some yr=>
     obtain⟨y,r⟩:=yr
     rw [h1] at h
     dsimp only at h
     cases h2:mM σ cs xs with
     | none=>rw [h2] at h;cases h
     | some ysr=>
       obtain⟨ys',rs'⟩:=ysr
       rw [h2] at h
       cases h
       have:=Iq h2
       simp [this]
theorem aek (hS:dZ W0 σ a w env F) {c y:C0 T.Tb} {x:Cell T} {r:Option Nat} {u:Value} (hσ:∀s,r=some s→σ.res s=σ1.res s) (hx:jg σ env F w x u) (h:J8 σ1 c x=some (y,r)):Ow T.sz w (fun k=>∃q,r=some q∧F q k) (y.DX T.enc) u:=by
 unfold J8 at h
 split at h
 ·cases h
  have:=hx.1
  subst this
  exact .nil _ _
 ·cases h
  obtain⟨h1,h2⟩:=hx
  subst h1
  exact .sc _ _ h2
 ·rename_i q
  cases hr:σ1.res q with
  | row b e l=>
    rw [hr] at h
    cases h
    have h1:=hS.res q
    rw [hσ q rfl,hr] at h1
    rw [hx.1]
    exact Ow.mono (show Ow T.sz w (F q) (.sl e (l.map (T.enc e))) (env q) from h1) (fun k hk=>⟨q,rfl,hk⟩)
  | no=>rw [hr] at h;cases h
  | bx t cs=>rw [hr] at h;cases h
  | sh bv e l=>rw [hr] at h;cases h
 ·cases h
theorem Ir:∀{cs:List (C0 T.Tb)} {xs:List (Cell T)} {ys:List (C0 T.Tb)} {rs:List (Option Nat)},mM σ cs xs=some (ys,rs)→∀r∈dN rs,∃b e l,σ.res r= .row b e l
 | cs,[],ys,rs,h,r,hr=>by
   have:mM σ cs []=some ([],[]):=by cases cs<;>rfl
   rw [this] at h;cases h;simp [dN] at hr
 | [],x::xs,ys,rs,h,r,hr=>by cases h
 | c::cs,x::xs,ys,rs,h,r,hr=>by
   unfold mM at h
   cases h1:J8 σ c x with
   | none=>rw [h1] at h;cases h
   | some yr=>
     obtain⟨y1,r1⟩:=yr
     rw [h1] at h
     dsimp only at h
     cases h2:mM σ cs xs with
     | none=>rw [h2] at h;cases h
     | some ysr=>
       obtain⟨ys',rs'⟩:=ysr
       rw [h2] at h
       cases h
       rcases List.mem_cons.1 (kD.1 hr) with h3 | h3
       ·subst h3
        unfold J8 at h1
        split at h1
        ·cases h1
        ·cases h1
        ·rename_i q
         cases hq:σ.res q with
         | row b e l=>rw [hq] at h1;cases h1;exact⟨_,_,_,hq⟩
         | no=>rw [hq] at h1;cases h1
         | bx t cs=>rw [hq] at h1;cases h1
         | sh bv e l=>rw [hq] at h1;cases h1
        ·cases h1
       ·exact Ir h2 r (kD.2 h3)
theorem J9:∀{cs:List (C0 T.Tb)} {xs:List (Cell T)} {us:List Value} {ys:List (C0 T.Tb)} {rs:List (Option Nat)},aW σ env F w xs us→mM σ1 cs xs=some (ys,rs)→∀u∈us,u.oneCell'=true
 | cs,[],us,ys,rs,hx,h,u,hu=>by cases hx;cases hu
 | [],x::xs,us,ys,rs,hx,h,u,hu=>by cases h
 | c::cs,x::xs,us,ys,rs,⟨u1,us',e,h3,h4⟩,h,u,hu=>by
   subst e
   unfold mM at h
   cases h1:J8 σ1 c x with
   | none=>rw [h1] at h;cases h
   | some yr=>
     obtain⟨y1,r1⟩:=yr
     rw [h1] at h
     dsimp only at h
     cases h2:mM σ1 cs xs with
     | none=>rw [h2] at h;cases h
     | some ysr=>
       obtain⟨ys',rs'⟩:=ysr
       rcases List.mem_cons.1 hu with rfl | hu
       ·unfold J8 at h1
        split at h1
        ·exact h3.2
        ·exact h3.2
        ·exact h3.2
        ·cases h1
       ·exact J9 h4 h2 u hu
theorem Iu (hS:dZ W0 σ a w env F):∀{cs:List (C0 T.Tb)} {xs:List (Cell T)} {us:List Value} {ys:List (C0 T.Tb)} {rs:List (Option Nat)},aW σ env F w xs us→mM σ1 cs xs=some (ys,rs)→(∀s∈dN rs,σ.res s=σ1.res s)→∀{q:Nat} {y:C0 T.Tb} {u:Value},ys[q]? =some y→us[q]? =some u→Ow T.sz w (fun k=>∃r,rs[q]? =some (some r)∧F r k) (y.DX T.enc) u
 | cs,[],us,ys,rs,hx,h,hσ,q,y,u,hy,hu=>by
   have:mM σ1 cs []=some ([],[]):=by cases cs<;>rfl
   rw [this] at h;cases h;simp at hy
 | [],x::xs,us,ys,rs,hx,h,hσ,q,y,u,hy,hu=>by cases h
 | c::cs,x::xs,us,ys,rs,⟨u1,us',e,h3,h4⟩,h,hσ,q,y,u,hy,hu=>by
   subst e
   unfold mM at h
   cases h1:J8 σ1 c x with
   | none=>rw [h1] at h;cases h
   | some yr=>
     obtain⟨y1,r1⟩:=yr
     rw [h1] at h
     dsimp only at h
     cases h2:mM σ1 cs xs with
     | none=>rw [h2] at h;cases h
     | some ysr=>
       obtain⟨ys',rs'⟩:=ysr
       rw [h2] at h
       cases h
       cases q with
       | zero=>
         simp at hy hu
         subst hy;subst hu
         exact(aek hS (fun s hs=>hσ s (kD.2 (by simp [hs]))) h3 h1).mono (fun k ⟨q,e,hk⟩=>⟨q,by simp [e],hk⟩)
       | succ q=>simpa using Iu hS h4 h2 (fun s hs=>hσ s (kD.2 (List.mem_cons_of_mem _ (kD.1 hs)))) (q:=q) (by simpa using hy) (by simpa using hu)
theorem o8 {r:Nat} {x:dK T}:∀{l:List Nat},r∈l→lk x (jv l) r= .no
 | [],h=>by cases h
 | q::l,h=>by
   unfold jv lk
   cases hb:Nat.beq q r
   ·rcases List.mem_cons.1 h with rfl | h
    ·exact absurd hb (by simp [Nat.beq_eq])
    ·exact o8 h
   ·rfl
theorem qK {r:Nat} {x:dK T}:∀{l:List Nat},r∉l→lk x (jv l) r=x
 | [],_=>rfl
 | q::l,h=>by
   unfold jv lk
   rw [gq (fun e=>h (by simp [e]))]
   exact qK (fun hm=>h (List.mem_cons_of_mem _ hm))
def BF (σ:St T) (nx:Nat) (dst:Option Nat) (t:Nat) (x v:Operand):eY T:=
 match dst with
 | none=>match T.ti t with
   | some ti=>match dD σ x with
     | .pe r i n=>match σ.res r with
       | .row bv e l=>match T.ti e with
         | some ei=>match T.el e with
           | true=>match cellsS (dD σ v) with
             | some vs=>match mM σ ((T.cells e (bP T e l i)).drop n) vs with
               | some (ys,rs)=>match kV (r::dN rs) with
                 | true=>match Nat.beq vs.length ti.size with
                   | true=>match Nat.ble (n+vs.length) ei.size with
                     | true=>match T.yN e (splice (T.cells e (bP T e l i)) n ys) with
                       | some y=>match σ.fresh nx with
                         | true=> .done ⟨.ud,(r, .row nx e (l.set i y))::jv (dN rs),r::nx::dN rs,1,r::nx::dN rs⟩ none
                         | false=> .stuck
                       | none=> .stuck
                     | false=> .stuck
                   | false=> .stuck
                 | false=> .stuck
               | none=> .stuck
             | none=> .stuck
           | false=> .stuck
         | none=> .stuck
       | _=> .stuck
     | _=> .stuck
   | none=> .stuck
 | some _=> .stuck
theorem TW (hT:T.ok P) {nx t:Nat} {x v:Operand} {U:bD T} {ob:Option Prop} (ho:o.op= .store t x v) (h:BF σ nx o.dst t x v= .done U ob):eU P W0 o σ U:=by
 unfold BF at h
 split at h
 ·rename_i hdn
  cases hi:T.ti t with
  | none=>rw [hi] at h;cases h
  | some ti=>
    rw [hi] at h
    dsimp only at h
    split at h
    ·rename_i r i n hx
     split at h
     ·rename_i bv e l hr
      cases eF:T.ti e with
      | none=>rw [eF] at h;cases h
      | some ei=>
        rw [eF] at h
        dsimp only at h
        cases hel:T.el e<;>rw [hel] at h<;>dsimp only at h
        ·cases h
        cases hc:cellsS (dD σ v) with
        | none=>rw [hc] at h;cases h
        | some vs=>
          rw [hc] at h
          dsimp only at h
          cases hk:mM σ ((T.cells e (bP T e l i)).drop n) vs with
          | none=>rw [hk] at h;cases h
          | some yr=>
            obtain⟨ys,rs⟩:=yr
            rw [hk] at h
            dsimp only at h
            cases hnd:kV (r::dN rs)<;>rw [hnd] at h<;>dsimp only at h
            ·cases h
            cases hb:Nat.beq vs.length ti.size<;>rw [hb] at h<;>dsimp only at h
            ·cases h
            cases hbl:Nat.ble (n+vs.length) ei.size<;>rw [hbl] at h<;>dsimp only at h
            ·cases h
            cases hy:T.yN e (splice (T.cells e (bP T e l i)) n ys) with
            | none=>rw [hy] at h;cases h
            | some y=>
              rw [hy] at h
              dsimp only at h
              cases hf:σ.fresh nx<;>rw [hf] at h<;>cases h
              intro σ' a w K Q hA ⟨env,F,hS⟩ hK
              have e1:=bI hS hA (x:=x) (by simp [ho,Op.operands])
              have e2:=bI hS hA (x:=v) (by simp [ho,Op.operands])
              rw [hx] at e1
              have hr':σ'.res r= .row bv e l:=by rw [hA.res r (by simp)];exact hr
              obtain⟨hil,g,cap,he,hp⟩:=e1.1 bv e l hr'
              obtain⟨hu,hno⟩:=hA.new (r:=nx) (by simp) hf
              have hnr:nx≠r:=fun e=>by rw [e,hr'] at hno;cases hno
              have hrr:r∉dN rs:=fun hm=>by unfold kV at hnd;rw [iE.2 hm] at hnd;cases hnd
              have hnd':kV (dN rs)=true:=by unfold kV at hnd;split at hnd<;>first | (cases hnd;done) | exact hnd
              have hrow:=Ir hk
              have hsame:∀q,(∃b e l,σ.res q= .row b e l)→q∈dN rs→σ'.res q=σ.res q:=fun q _ hq=>hA.res q (by simp [hq])
              have hcv:=nK e2 hc
              have hl1:=jQ hcv
              simp only [Array.length_toList] at hl1
              have hb':=Nat.eq_of_beq_eq_true hb
              have aaN:=Nat.le_of_ble_eq_true hbl
              have hkl:=Iq hk
              have WU:T.sz e=ei.size:=l9 eF
              have hget:bP T e l i=l[i]:=by simp [bP,hil]
              have Pv:(T.cells e (bP T e l i)).length=ei.size:=T.len e _ ei hel eF
              have hmk:=T.mk_eq e _ y hy
              have hfit:n+ys.length≤(T.cells e (bP T e l i)).length:=by rw [Pv,hkl.1];exact aaN
              have h3:=hS.res r
              rw [hr'] at h3
              let H:Nat→Nat→Prop:=fun q k=>∃s,rs[q]? =some (some s)∧F s k
              have hHm:∀q k,H q k→∃s,s∈dN rs∧F s k:=fun q k ⟨s,h1,h2⟩=>⟨s,kD.2 (List.mem_of_getElem? h1),h2⟩
              have hst:=Rj (us:=(a.eval v).cells.toList) (old:=T.enc e l[i]) (new:=T.enc e y) (i:=i) (o:=n) (show Ow T.sz w (F r) (.sl e (l.map (T.enc e))) (env r) from h3) (by simp [hil]) (by rw [T.gZ,List.length_map,hmk,nM hfit,Pv,WU]) (by rw [WU];simp only [Array.length_toList];omega)
               (by
                intro q x' hq hqo
                rw [T.gZ,List.getElem?_map,hmk,iD hfit] at hq
                rw [T.gZ,List.getElem?_map,←hget]
                have:ys.length=(a.eval v).cells.toList.length:=by rw [hkl.1];simpa using hl1
                rcases hqo with h | h
                ·rw [if_pos h] at hq;exact hq
                ·rw [if_neg (by omega),if_neg (by omega)] at hq;exact hq)
               H
               (by
                intro q x' u hq JZ
                rw [T.gZ,List.getElem?_map,hmk,iD hfit] at hq
                have mD:q<(a.eval v).cells.toList.length:=(List.getElem?_eq_some_iff.1 JZ).1
                have:ys.length=(a.eval v).cells.toList.length:=by rw [hkl.1];simpa using hl1
                rw [if_neg (by omega),if_pos (by omega),show n+q - n=q by omega] at hq
                obtain⟨y0,hy0,rfl⟩:=Option.map_eq_some_iff.1 hq
                have key:=Iu hS (σ1:=σ) hcv hk (fun s hs=>hA.res s (by simp [hs])) hy0 JZ
                exact key)
               (fun q k hq hF=>by
                obtain⟨s,hs,hk2⟩:=hHm q k hq
                have:=hS.apart s r k hk2 hF
                exact hrr (this▸hs))
               (fun q q' k ⟨s,h1,h2⟩ ⟨s',h1',h2'⟩=>by
                have:=hS.apart s s' k h2 h2'
                subst this
                exact BZ hnd' h1 h1')
              obtain⟨g',cap',cur,he',hFg,hg,WV,how⟩:=hst
              rw [he] at he'
              simp only [Value.slice.injEq,Option.some.injEq,Addr.mk.injEq,and_true,true_and] at he'
              obtain⟨rfl,-,-⟩:=he'
              have hrun:=zu (hT t ti hi) (v:=a.eval v) (n:=i*T.sz e+n) hg (by omega) (by simpa using WV) (J9 hcv hk)
              refine Cj (Cm ho (by rw [hp,add_lit,Nat.zero_add];exact hrun)) (hK _ _ ?_)
              have hgW:=hS.own r g hFg
              let U1:bD T:=⟨.ud,(r, .row nx e (l.set i y))::jv (dN rs),r::nx::dN rs,1,r::nx::dN rs⟩
              let w1:World:=w.setRow g (splice cur.toList (i*T.sz e+n) (a.eval v).cells.toList).toArray
              let F1:Nat→Nat→Prop:=fun s k=>(s=r∧(F r k∨∃q,H q k))∨(s≠r∧s∉dN rs∧F s k)
              have kL:(σ'.upd o.dst U1).res r= .row nx e (l.set i y):=by rw [St.dL];simp [U1,lk]
              have iO:∀s,s∈dN rs→(σ'.upd o.dst U1).res s= .no:=fun s hs=>by
               rw [St.dL]
               show lk _ ((r,_)::jv (dN rs)) s=_
               unfold lk
               rw [gq (k:=r) (t:=s) (fun e=>hrr (by rw [e];exact hs))]
               exact o8 hs
              have sJ:∀s,s≠r→s∉dN rs→(σ'.upd o.dst U1).res s=σ'.res s:=fun s h1 h2=>by
               rw [St.dL]
               show lk _ ((r,_)::jv (dN rs)) s=_
               unfold lk
               rw [gq (k:=r) (t:=s) (fun e=>h1 e.symm)]
               exact qK h2
              have hne:∀k,k≠g→w1.heap[k]? =w.heap[k]?:=fun k hk=>setRow_other w g k _ hk
              have hF1:∀s k,F1 s k→∃s',F s' k:=by
               rintro s k (⟨_,h | ⟨q,hq⟩⟩ | ⟨_,_,h⟩)
               ·exact⟨_,h⟩
               ·obtain⟨s',_,h⟩:=hHm q k hq;exact⟨_,h⟩
               ·exact⟨_,h⟩
              have calm:Calm σ' (σ'.upd o.dst U1) F F1 w w1:=⟨St.iQ _ _ _,by rw [setRow_size];exact Nat.le_refl _,fun k hk hst=>⟨fun s hs=>by obtain⟨s',h⟩:=hF1 s k hs;exact hst s' h,hne k (fun e=>hst r (e▸hFg))⟩⟩
              refine hS.upd (bC:=env) (F1:=F1) (fun s=>s=r∨s∈dN rs) (below_setRow hS.below hgW.1 _) calm ?_ ?_ ?_ ?_ ?_ (fun d hd=>by rw [hdn] at hd;cases hd)
              ·intro s hs
               have h1:s≠r:=fun e=>hs (.inl e)
               have h2:s∉dN rs:=fun e=>hs (.inr e)
               exact⟨rfl,fun k=>⟨fun h=>by
                rcases h with ⟨h,_⟩ | ⟨_,_,h⟩
                ·exact(h1 h).elim
                ·exact h,fun h=> .inr ⟨h1,h2,h⟩⟩,sJ s h1 h2,fun k hk=>hne k (fun e=>h1 (hS.apart s r k hk (e▸hFg)))⟩
              ·intro s hs
               by_cases e1:s=r
               ·subst e1
                rw [kL]
                show Ow T.sz w1 (F1 s) (.sl e ((l.set i y).map (T.enc e))) (env s)
                rw [List.map_set]
                exact how.mono (fun k hk=> .inl ⟨rfl,hk⟩)
               ·have h2:=hs.resolve_left e1
                rw [iO s h2]
                rintro k (⟨h,_⟩ | ⟨_,h,_⟩)
                ·exact e1 h
                ·exact h h2
              ·intro s k hs hk
               obtain⟨s',h⟩:=hF1 s k hk
               have:=hS.own s' k h
               exact⟨this.1,by rw [setRow_size];exact this.2⟩
              ·intro s s' k hs h1 h2
               have hcon:∀q,q≠r→q∉dN rs→F q k→¬(F r k∨∃q,H q k):=by
                rintro q hq1 hq2 hq (h | ⟨j,h⟩)
                ·exact hq1 (hS.apart q r k hq h)
                ·obtain⟨s',hs',h⟩:=hHm j k h
                 exact hq2 (hS.apart q s' k hq h▸hs')
               rcases h1 with ⟨rfl,h1⟩ | ⟨h1a,h1b,h1⟩<;>rcases h2 with ⟨h2',h2⟩ | ⟨h2a,h2b,h2⟩
               ·exact h2'.symm
               ·exact(hcon s' h2a h2b h2 h1).elim
               ·exact(hcon s h1a h1b h1 (h2'▸h2)).elim
               ·exact hS.apart s s' k h1 h2
              ·intro s hs
               refine .inr ⟨rfl,?_,fun b=>?_⟩
               ·refine⟨fun lY e' l' hl=>?_,fun lY e' l' hl=>?_⟩
                ·by_cases e1:s=r
                 ·subst e1
                  rw [kL] at hl
                  cases hl
                  exact⟨bv,l,hr',by simp⟩
                 ·rw [iO s (hs.resolve_left e1)] at hl;cases hl
                ·by_cases e1:s=r
                 ·subst e1
                  rw [kL] at hl
                  cases hl
                 ·rw [iO s (hs.resolve_left e1)] at hl;cases hl
               ·by_cases e1:s=r
                ·subst e1
                 by_cases e3:b=nx
                 ·subst e3;exact .inr (jT.YC hu)
                 ·refine .inl ?_
                  rintro⟨e',l',hl⟩
                  rw [kL] at hl
                  simp only [dK.row.injEq] at hl
                  exact(e3 hl.1.symm).elim
                ·refine .inl ?_
                 rintro⟨e',l',hl⟩
                 rw [iO s (hs.resolve_left e1)] at hl;cases hl
     ·cases h
    ·cases h
 ·cases h
end
end Go.Proofs.YtcnfgfomholheaaGreatDoor.Z
end
section
namespace Go.Proofs.YtcnfgfomholheaaGreatDoor.Z
open Go.RowKit
set_option linter.unusedVariables false
set_option linter.unusedSimpArgs false
inductive CK where
 | int
 | bool
 | text
def Oz (P:Program) (t:TypeId):Option CK:=match P.underlying t with
 | some (.int _)=>some .int
 | some .bool=>some .bool
 | some .string=>some .text
 | _=>none
def MJ (P:Program):Nat→List Field→Option (List CK)
 | _,[]=>some []
 | j,f::fs=>match f.name== "_" with
   | true=>none
   | false=>match Nat.beq f.offset j with
     | true=>match Oz P f.type with
       | some c=>match MJ P (j+1) fs with
         | some r=>some (c::r)
         | none=>none
       | none=>none
     | false=>none
def MK (P:Program) (t:TypeId):Option (Bool × List CK):=match P.underlying t with
 | some (.struct fs)=>match P.stoodInHeld t || P.eqGuardType P.depth t with
   | true=>none
   | false=>match MJ P 0 fs.toList with
     | some l=>some (true,l)
     | none=>none
 | _=>match Oz P t with
   | some c=>some (false,[c])
   | none=>none
def Vo:Value→Value→Option (CK × Bool)
 | .int k a, .int k' b=>match Px k k' with
   | true=>some (.int,a==b)
   | false=>none
 | .bool a, .bool b=>some (.bool,a==b)
 | .string a, .string b=>some (.text,a.toList==b.toList)
 | _,_=>none
section
variable {T:dV} {P:Program} {W0:Fr} {σ σ' σ1:St T} {a:Act} {w w1:World} {env bC:Nat→Value} {F F1:Nat→Nat→Prop} {o:Oper} {bf aZ:List Nat}
def EN:List (Cell T)→List (Cell T)→Option (List CK × Bool)
 | [],[]=>some ([],true)
 | .sc u::r, .sc v::s=>match Vo u v with
   | some (k,b)=>match r,s with
     | [],[]=>some ([k],b)
     | r,s=>match EN r s with
       | some (ks,c)=>some (k::ks,b && c)
       | none=>none
   | none=>none
 | _,_=>none
def eqS (op:BinOp) (b:Bool):Option Bool:=match op with
 | .eql=>some b
 | .neq=>some (!b)
 | _=>none
def Wq (P:Program) (σ:St T) (dst:Option Nat) (op:BinOp) (t:TypeId) (x y:Operand):eY T:=
 match bZ σ dst with
 | true=>match dD σ x,dD σ y with
   | .ag l, .ag m=>match EN l m with
     | some (ks,b)=>match eqS op b with
       | some r=> .done ⟨.c (.sc (.bool r)),[],[],0,[]⟩ (some (MK P t=some (true,ks)))
       | none=> .stuck
     | none=> .stuck
   | .c (.sc u), .c (.sc v)=>match Vo u v with
     | some (.bool,b)=>match eqS op b with
       | some r=> .done ⟨.c (.sc (.bool r)),[],[],0,[]⟩ (some (MK P t=some (false,[.bool])))
       | none=> .stuck
     | _=> .stuck
   | _,_=> .stuck
 | false=> .stuck
theorem Ac {t:TypeId} {c:CK} (h:Oz P t=some c) {u v:Value} {b:Bool} (hv:Vo u v=some (c,b)) (d:Nat) (w:World):(Op.equalIn (d+1) t u v).run P w= .ok b w:=by
 unfold Vo at hv
 unfold Oz at h
 split at hv
 ·rename_i k a k' b'
  split at hv
  ·rename_i hk
   cases hv
   have:=Rx hk
   subst this
   split at h<;>cases h
   rename_i hu
   exact run_equalIn_int w d t k _ a b' hu
  ·cases hv
 ·cases hv
  split at h<;>cases h
  rename_i hu
  exact run_equalIn_bool' w d t _ _ hu
 ·cases hv
  split at h<;>cases h
  rename_i hu
  exact run_equalIn_string w d t _ _ hu
 ·cases hv
theorem GX {t:TypeId} {c:CK} (h:Oz P t=some c) {xs:Array Value} {j:Nat} {v:Value} (hv:xs[j]? =some v) (w:World):(part t xs j).run P w= .ok v w:=by
 have hag:(isAgg t).run P w= .ok false w:=by
  unfold Oz at h
  unfold isAgg
  split at h<;>first | (cases h;done) | (rename_i hu;simp [Sem.run_bind,run_underlying hu])
 simp [part,Sem.run_bind,hag,hv]
theorem EO {d:Nat} {xs ys:Array Value} {w:World}:∀{fs:List Field} {j:Nat} {ks:List CK} {l m:List (Cell T)} {b:Bool},MJ P j fs=some ks→EN l m=some (ks,b)→(∀i c,l[i]? =some c→∃v,xs[j+i]? =some v∧∀u,c=Cell.sc u→v=u)→(∀i c,m[i]? =some c→∃v,ys[j+i]? =some v∧∀u,c=Cell.sc u→v=u)→(Op.eqFields (d+1) xs ys fs).run P w= .ok b w
 | [],j,ks,l,m,b,h1,h2,hx,hy=>by
   cases h1
   unfold EN at h2
   split at h2
   ·cases h2;simp [Op.eqFields]
   ·split at h2
    ·split at h2
     ·cases h2
     ·split at h2<;>cases h2
    ·cases h2
   ·cases h2
 | f::fs,j,ks,l,m,b,h1,h2,hx,hy=>by
   unfold MJ at h1
   have hn:(f.name== "_")=false:=by
    cases hn:f.name== "_"
    ·rfl
    ·rw [hn] at h1;cases h1
   rw [hn] at h1
   dsimp only at h1
   cases ho:Nat.beq f.offset j<;>rw [ho] at h1<;>dsimp only at h1
   ·cases h1
   have ho:=Nat.eq_of_beq_eq_true ho
   cases hc:Oz P f.type with
   | none=>rw [hc] at h1;cases h1
   | some c=>
     rw [hc] at h1
     dsimp only at h1
     cases hr:MJ P (j+1) fs with
     | none=>rw [hr] at h1;cases h1
     | some rest=>
       rw [hr] at h1
       cases h1
       have hne:f.name≠ "_" :=by simpa using hn
       have key:∀(u v:Value) (r s:List (Cell T)) (b0:Bool),l= .sc u::r→m= .sc v::s→Vo u v=some (c,b0)→(∀b1,(Op.eqFields (d+1) xs ys fs).run P w= .ok b1 w→(Op.eqFields (d+1) xs ys (f::fs)).run P w= .ok (b0 && b1) w):=by
        intro u v r s b0 hl hm hv b1 hb1
        obtain⟨u',h3,h3'⟩:=hx 0 (.sc u) (by simp [hl])
        obtain⟨v',h4,h4'⟩:=hy 0 (.sc v) (by simp [hm])
        have h5:=h3' u rfl
        have h6:=h4' v rfl
        subst h5;subst h6
        rw [Nat.add_zero] at h3 h4
        have p1:=GX hc h3 w
        have p2:=GX hc h4 w
        have p3:=Ac hc hv d w
        rw [Op.eqFields]
        simp only [if_pos hne,ho,Sem.run_bind,p1,p2,p3,Result.andThen_ok]
        cases b0
        ·simp
        ·simpa using hb1
       unfold EN at h2
       split at h2
       ·cases h2
       ·rename_i u r v s
        split at h2
        ·rename_i k b0 hv
         split at h2
         ·simp only [Option.some.injEq,Prod.mk.injEq,List.cons.injEq] at h2
          obtain⟨⟨rfl,rfl⟩,rfl⟩:=h2
          have hfs:fs=[]:=by
           cases fs with
           | nil=>rfl
           | cons g gs=>
             exfalso
             unfold MJ at hr
             split at hr
             ·cases hr
             ·split at hr
              ·split at hr
               ·split at hr<;>cases hr
               ·cases hr
              ·cases hr
          subst hfs
          have:=key u v [] [] b0 rfl rfl hv true (by simp [Op.eqFields])
          simpa using this
         ·split at h2
          ·rename_i ks' c' hl'
           simp only [Option.some.injEq,Prod.mk.injEq,List.cons.injEq] at h2
           obtain⟨⟨rfl,rfl⟩,rfl⟩:=h2
           refine key u v r s b0 rfl rfl hv c' (EO hr hl' (fun i c hi=>?_) (fun i c hi=>?_))
           ·have:=hx (i+1) c (by simpa using hi)
            rwa [show j+(i+1)=j+1+i by omega] at this
           ·have:=hy (i+1) c (by simpa using hi)
            rwa [show j+(i+1)=j+1+i by omega] at this
          ·cases h2
        ·cases h2
       ·cases h2
theorem cells_at {cs:List (Cell T)} {vs:List Value} (h:aW σ env F w cs vs):∀(i:Nat) (c:Cell T),cs[i]? =some c→∃v:Value,vs[i]? =some v∧∀u:Value,c=Cell.sc u→v=u:=by
 induction cs generalizing vs with
 | nil=>intro i c hi;simp at hi
 | cons x cs ih=>
   obtain⟨v,r,e,h1,h2⟩:=h
   subst e
   intro i c hi
   cases i with
   | zero=>simp at hi;subst hi;exact⟨v,rfl,fun u hu=>by subst hu;exact h1.1⟩
   | succ i=>simpa using ih h2 i c (by simpa using hi)
theorem RV {op:BinOp} {b r:Bool} (h:eqS op b=some r):(op= .eql∧r=b)∨(op= .neq∧r=!b):=by
 unfold eqS at h;cases op<;>simp only [Option.some.injEq,reduceCtorEq] at h<;>simp [←h]
theorem acN {op:BinOp} {t ty:TypeId} {x y:Operand} {U:bD T} {ob:Option Prop} (ho:o.op= .binOp op t x y ty) (h:Wq P σ o.dst op t x y= .done U ob) (hob:sD ob):eU P W0 o σ U:=by
 unfold Wq at h
 cases hd:bZ σ o.dst<;>rw [hd] at h<;>dsimp only at h
 ·cases h
 split at h
 ·rename_i l m hl hm
  split at h
  ·rename_i ks b he
   split at h
   ·rename_i r hr
    cases h
    refine quiet_step (bG hd) (fun σ' a w env F hA hS=>⟨.bool r,?_,⟨rfl,rfl⟩⟩)
    have e1:=bI hS hA (x:=x) (by simp [ho,Op.operands])
    have e2:=bI hS hA (x:=y) (by simp [ho,Op.operands])
    rw [hl] at e1
    rw [hm] at e2
    obtain⟨us,g1,g2⟩:=e1
    obtain⟨vs,g3,g4⟩:=e2
    have hob:MK P t=some (true,ks):=hob
    unfold MK at hob
    split at hob
    ·rename_i fs hfs
     split at hob
     ·cases hob
     ·rename_i hst
      split at hob
      ·rename_i ks' hks
       cases hob
       simp only [Bool.or_eq_false_iff] at hst
       have hf:P.fieldsOf t=fs:=by simp [Program.fieldsOf,hfs]
       have hrun:(Op.equalIn 10000 t (.agg us) (.agg vs)).run P w= .ok b w:=by
        rw [run_equalIn_struct (P:=P) w 9999 t us vs (by rw [hf];exact hfs) hst.1,hf]
        exact EO (d:=9998) hks he (fun i c hi=>by simpa using cells_at g2 i c hi) (fun i c hi=>by simpa using cells_at g4 i c hi)
       unfold execOp;rw [ho]
       simp only [g1,g3,Sem.run_bind,run_eqGuard_agg (P:=P) w op t x y us vs hst.2,Result.andThen_ok]
       rcases RV hr with ⟨rfl,rfl⟩ | ⟨rfl,rfl⟩
       ·rw [run_eql_struct,hrun];rfl
       ·rw [run_neq_struct,hrun];rfl
      ·cases hob
    ·split at hob<;>cases hob
   ·cases h
  ·cases h
 ·rename_i u v hu hv
  split at h
  ·rename_i b hb
   split at h
   ·rename_i r hr
    cases h
    refine quiet_step (bG hd) (fun σ' a w env F hA hS=>⟨.bool r,?_,⟨rfl,rfl⟩⟩)
    have e1:=bI hS hA (x:=x) (by simp [ho,Op.operands])
    have e2:=bI hS hA (x:=y) (by simp [ho,Op.operands])
    rw [hu] at e1
    rw [hv] at e2
    have g1:=e1.1
    have g2:=e2.1
    have hob:MK P t=some (false,[.bool]):=hob
    have hck:Oz P t=some .bool:=by
     unfold MK at hob
     split at hob
     ·split at hob
      ·cases hob
      ·split at hob<;>cases hob
     ·split at hob
      ·rename_i hc;cases hob;exact hc
      ·cases hob
    unfold Vo at hb
    split at hb
    ·split at hb<;>cases hb
    ·rename_i p q
     cases hb
     have hrun:=Ac (P:=P) hck (u:= .bool p) (v:= .bool q) rfl 9999 w
     unfold execOp;rw [ho]
     rcases RV hr with ⟨rfl,rfl⟩ | ⟨rfl,rfl⟩
     ·simp [g1,g2,Sem.run_bind,eqGuard,binOp,Op.equal,Op.maxDepth,hrun]
     ·simp [g1,g2,Sem.run_bind,eqGuard,binOp,Op.equal,Op.maxDepth,hrun]
    ·cases hb
    ·cases hb
   ·cases h
  ·cases h
 ·cases h
end
end Go.Proofs.YtcnfgfomholheaaGreatDoor.Z
end
section
namespace Go.Proofs.YtcnfgfomholheaaGreatDoor.Z
open Go.RowKit
set_option linter.unusedVariables false
set_option linter.unusedSimpArgs false
section
variable {T:dV} {P:Program} {W0:Fr} {σ σ' σ1:St T} {a:Act} {w w1:World} {env bC:Nat→Value} {F F1:Nat→Nat→Prop} {o:Oper} {bf aZ:List Nat}
def numOf (T:dV) (e:Nat) (y:T.Tb e):Int:=match T.cells e y with
 | [.sc (.int .u8 n)]=>n
 | _=>0
def Zd (T:dV) (e:Nat):Prop:=∀y:T.Tb e,T.cells e y=[.sc (.int .u8 (numOf T e y))]
def Jq (σ:St T) (dst:Option Nat) (ts td:Nat) (x:Operand):eY T:=
 match T.ti ts with
 | some si=>match T.ti td with
   | some di=>match bZ σ dst with
     | true=>match di.kind with
       | .num k=>match si.kind with
         | .num _=>match sv (dD σ x) with
           | some (.int _ n)=> .done ⟨.c (.sc (.int k (k.wrap n))),[],[],0,[]⟩ none
           | _=> .stuck
         | _=> .stuck
       | .text=>match si.kind with
         | .text=>match sv (dD σ x) with
           | some (.string b)=> .done ⟨.c (.sc (.string b)),[],[],0,[]⟩ none
           | _=> .stuck
         | .slice e=>match T.ti e with
           | some ei=>match ei.kind with
             | .num .u8=>match JU σ (dD σ x) with
               | some ⟨p,e',l⟩=>match Nat.beq e' e with
                 | true=> .done ⟨.c (.sc (.string (strOfNums (l.map (numOf T e'))))),[],uU p,0,[]⟩ (some (Zd T e'))
                 | false=> .stuck
               | none=> .stuck
             | _=> .stuck
           | none=> .stuck
         | _=> .stuck
       | _=> .stuck
     | false=> .stuck
   | none=> .stuck
 | none=> .stuck
theorem xZ {ts td:Nat} {x:Operand} (ho:o.op= .convert ts td x) {v:Value} (h:(convert ts td (a.eval x)).run P w= .ok v w):(execOp a.eval o).run P w= .ok (.value v) w:=by
 unfold execOp;rw [ho];simp only [Sem.run_bind,h];rfl
theorem Ze {e:Nat} {ei:TI} {P':Nat→Prop} {l:List (T.Tb e)} {v:Value} {ts td:Nat} (eF:T.ti e=some ei) (hsz:ei.size=1) (hn:Zd T e) (hs:P.underlying ts=some (.slice e)) (he:P.underlying e=some (.int .u8)) (hd:P.underlying td=some .string) (h:Rd T.sz w P' (.sl e (l.map (T.enc e))) v):
  (convert ts td v).run P w= .ok (.string (strOfNums (l.map (numOf T e)))) w:=by
 generalize hx:l.map (T.enc e)=xs at h
 cases h with
 | nil e A c=>
   have:l=[]:=by simpa using hx
   subst this
   have h0:strOfNums ([]:List Int)=ByteArray.empty:=rfl
   simp only [List.map_nil]
   rw [h0,run_convert_bytes_string w ts td e A 0 c hs he hd]
   cases A with
   | none=>simp [Conv.bytesToString]
   | some ad=>simpa using run_bytesToString (P:=P) w ad 0 c [] (by simpa using run_loadCells_list (P:=P) w ad [] (fun j v hj=>by simp at hj))
 | sl e xs ad c f hc hp hlt hss hcell hr=>
   subst hx
   have hl:(loadCells ad l.length).run P w= .ok ((l.map (numOf T e)).map (Value.int .u8)).toArray w:=by
    have:=run_loadCells_list (P:=P) w ad ((l.map (numOf T e)).map (Value.int .u8)) (fun j v hj=>by
     simp only [List.map_map,List.getElem?_map] at hj
     obtain⟨y,hy,hv⟩:=Option.map_eq_some_iff.1 hj
     have h1:(l.map (T.enc e))[j]? =some (T.enc e y):=by simp [hy]
     have h2:T.enc e y=[.sc (.int .u8 (numOf T e y))]:=by rw [T.gZ,hn y];rfl
     have h3:=hcell j _ 0 (.sc (.int .u8 (numOf T e y))) h1 (by rw [h2];rfl)
     have h4:=hr j _ 0 (.sc (.int .u8 (numOf T e y))) h1 (by rw [h2];rfl)
     have h5:T.sz e=1:=by rw [l9 eF,hsz]
     rw [h5] at h3
     simp only [Nat.mul_one,Nat.add_zero] at h3
     rw [h3]
     generalize f j 0=u at h4
     cases h4
     exact congrArg some hv)
    simpa using this
   rw [run_convert_bytes_string w ts td e _ _ c hs he hd,List.length_map,run_bytesToString w ad l.length c _ hl,foldl_push_bytes]
   simp [strOfNums,ByteArray.empty,ByteArray.emptyWithCapacity]
   rfl
theorem YG (hT:T.ok P) {ts td:Nat} {x:Operand} {U:bD T} {ob:Option Prop} (ho:o.op= .convert ts td x) (h:Jq σ o.dst ts td x= .done U ob) (hob:sD ob):eU P W0 o σ U:=by
 unfold Jq at h
 cases hsi:T.ti ts with
 | none=>rw [hsi] at h;cases h
 | some si=>
   rw [hsi] at h
   dsimp only at h
   cases hdi:T.ti td with
   | none=>rw [hdi] at h;cases h
   | some di=>
     rw [hdi] at h
     dsimp only at h
     cases hd:bZ σ o.dst<;>rw [hd] at h<;>dsimp only at h
     ·cases h
     obtain⟨sinf,s1,s2,s3,s4,s5,s6,s7,s8⟩:=hT ts si hsi
     obtain⟨af7,d1,d2,d3,d4,d5,d6,d7,d8⟩:=hT td di hdi
     split at h
     ·rename_i k hk
      rw [hk] at d8
      split at h
      ·rename_i k' hk'
       rw [hk'] at s8
       split at h
       ·rename_i k'' n hn
        cases h
        refine quiet_step (bG hd) (fun σ' a w env F hA hS=>⟨.int k (k.wrap n),xZ ho ?_,⟨rfl,rfl⟩⟩)
        have e1:=jF (bI hS hA (x:=x) (by simp [ho,Op.operands])) hn
        simp [convert,run_underlying s8.1,run_underlying d8.1,e1,Conv.intToInt]
       ·cases h
      ·cases h
     ·rename_i hk
      rw [hk] at d8
      split at h
      ·rename_i hk'
       rw [hk'] at s8
       split at h
       ·rename_i b hn
        cases h
        refine quiet_step (bG hd) (fun σ' a w env F hA hS=>⟨.string b,xZ ho ?_,⟨rfl,rfl⟩⟩)
        have e1:=jF (bI hS hA (x:=x) (by simp [ho,Op.operands])) hn
        simp [convert,run_underlying s8.1,run_underlying d8.1,e1]
       ·cases h
      ·rename_i e hk'
       rw [hk'] at s8
       cases eF:T.ti e with
       | none=>rw [eF] at h;cases h
       | some ei=>
         rw [eF] at h
         dsimp only at h
         split at h
         ·rename_i hek
          cases hr:JU σ (dD σ x) with
          | none=>rw [hr] at h;cases h
          | some pel=>
            obtain⟨p,e',l⟩:=pel
            rw [hr] at h
            dsimp only at h
            cases hb:Nat.beq e' e<;>rw [hb] at h<;>cases h
            have hee:=Nat.eq_of_beq_eq_true hb
            subst hee
            obtain⟨af8,g1,g2,g3,g4,g5,g6,g7,g8⟩:=hT e' ei eF
            rw [hek] at g8
            refine quiet_step (bG hd) (fun σ' a w env F hA hS=>⟨_,xZ ho ?_,⟨rfl,rfl⟩⟩)
            have e1:=bI hS hA (x:=x) (by simp [ho,Op.operands])
            obtain⟨h9,h10⟩:=F9 hS hA e1 hr (fun _ h=>h)
            exact Ze eF g8.2 hob s8.1 g8.1 d8.1 h10
         ·cases h
      ·cases h
     ·cases h
end
end Go.Proofs.YtcnfgfomholheaaGreatDoor.Z
end
