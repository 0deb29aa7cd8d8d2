/- Several texts of this claim in one (a claim holds at most 60 files). -/
import Derived.OrdersHeld
import Derived.Deep.RegionHeld3
import Derived.Laws.BitsLemmas
import Derived.RowKit
import Derived.Below
import Derived.Laws.AppendOwn
import Derived.Laws.OwnMore
import Derived.Laws.MakeOwn
import Derived.Laws.Cover1
import Derived.WalkKit
import Derived.Laws.Cells
import Derived.Laws.Slices
import Derived.Laws.CopyRow
import Derived.Laws.Tables
import Derived.Laws.StructEq
import Derived.Laws.BytesString
import Derived.Laws.BytesArg
section
namespace Go.Proofs.YtcnfgfomholheaaGreatDoor.Z
open Go.RowKit
set_option linter.unusedVariables false
set_option linter.unusedSimpArgs false
inductive V where
 | sc (v:Value)
 | sl (e:Nat) (xs:List (List V))
section
variable {sz:Nat→Nat} {w w':World} {P P':Nat→Prop} {x:V} {v:Value}
inductive Rd (sz:Nat→Nat) (w:World) (P:Nat→Prop):V→Value→Prop
 | sc (v:Value) (h:v.oneCell'=true):Rd sz w P (.sc v) v
 | nil (e:Nat) (A:Option Addr) (c:Nat):Rd sz w P (.sl e []) (.slice A 0 c)
 | sl (e:Nat) (xs:List (List V)) (ad:Addr) (c:Nat) (f:Nat→Nat→Value) (hc:xs.length≤c) (hp:P ad.block) (hlt:ad.block<w.heap.size)
   (hs:∀(j:Nat) (l:List V),xs[j]? =some l→l.length=sz e)
   (hcell:∀(j:Nat) (l:List V) (q:Nat) (x:V),xs[j]? =some l→l[q]? =some x→w.cell? (ad.add (j*sz e+q))=some (f j q))
   (hr:∀(j:Nat) (l:List V) (q:Nat) (x:V),xs[j]? =some l→l[q]? =some x→Rd sz w P x (f j q)):Rd sz w P (.sl e xs) (.slice (some ad) xs.length c)
theorem Rd.mono (h:Rd sz w P x v) (hp:∀k,P k→P' k):Rd sz w P' x v:=by
 induction h with
 | sc v h=>exact .sc v h
 | nil e A c=>exact .nil e A c
 | sl e xs ad c f hc h1 hlt hs hcell hr ih=>exact .sl e xs ad c f hc (hp _ h1) hlt hs hcell ih
theorem Rd.bound (h:Rd sz w P x v):Rd sz w (fun k=>P k∧k<w.heap.size) x v:=by
 induction h with
 | sc v h=>exact .sc v h
 | nil e A c=>exact .nil e A c
 | sl e xs ad c f hc h1 hlt hs hcell hr ih=>exact .sl e xs ad c f hc ⟨h1,hlt⟩ hlt hs hcell ih
theorem Rd.frame (h:Rd sz w P x v) (hsz:w.heap.size≤w'.heap.size) (hf:∀k,P k→k<w.heap.size→w'.heap[k]? =w.heap[k]?):Rd sz w' P x v:=by
 induction h with
 | sc v h=>exact .sc v h
 | nil e A c=>exact .nil e A c
 | sl e xs ad c f hc h1 hlt hs hcell hr ih=>
   refine .sl e xs ad c f hc h1 (Nat.lt_of_lt_of_le hlt hsz) hs (fun j l q x hj hq=>?_) ih
   have h2:=hcell j l q x hj hq
   have h3:(ad.add (j*sz e+q)).block=ad.block:=by unfold Addr.add;split<;>rfl
   have h4:=World.block_lt_of_cell? w _ h2
   rw [h3] at h4
   exact(World.cell?_of_block (w:=w) (by rw [h3];exact hf _ h1 h4)).trans h2
theorem Rd.one (h:Rd sz w P x v):v.oneCell'=true:=by cases h<;>first | assumption | rfl
theorem Rd.slice {e:Nat} {xs:List (List V)} (h:Rd sz w P (.sl e xs) v):∃A c,v= .slice A xs.length c∧xs.length≤c:=by
 cases h with
 | nil e A c=>exact⟨A,c,rfl,Nat.zero_le _⟩
 | sl e xs ad c f hc hp hlt hs hcell hr=>exact⟨some ad,c,rfl,hc⟩
theorem Rd.elem {e:Nat} {xs:List (List V)} (h:Rd sz w P (.sl e xs) v) {j:Nat} {l:List V} (hj:xs[j]? =some l):
  ∃ad c,v= .slice (some ad) xs.length c∧P ad.block∧ad.block<w.heap.size∧xs.length≤c∧l.length=sz e∧∀q x,l[q]? =some x→∃u,w.cell? (ad.add (j*sz e+q))=some u∧Rd sz w P x u:=by
 cases h with
 | nil e A c=>simp at hj
 | sl e xs ad c f hc hp hlt hs hcell hr=>exact⟨ad,c,rfl,hp,hlt,hc,hs j l hj,fun q x hq=>⟨f j q,hcell j l q x hj hq,hr j l q x hj hq⟩⟩
inductive Ow (sz:Nat→Nat) (w:World):(Nat→Prop)→V→Value→Prop
 | sc (F:Nat→Prop) (v:Value) (h:v.oneCell'=true):Ow sz w F (.sc v) v
 | nil (F:Nat→Prop) (e:Nat):Ow sz w F (.sl e []) (.slice none 0 0)
 | sl (F:Nat→Prop) (e:Nat) (xs:List (List V)) (g cap:Nat) (cur:Array Value) (f:Nat→Nat→Value) (G:Nat→Nat→Nat→Prop)
   (hg:w.heap[g]? =some (.cells cur e (0,0))) (hF:F g) (hn:xs.length≤cap) (hm:cap≤maxLen) (hz:cur.size=cap*sz e)
   (hs:∀(j:Nat) (l:List V),xs[j]? =some l→l.length=sz e)
   (hcell:∀(j:Nat) (l:List V) (q:Nat) (x:V),xs[j]? =some l→l[q]? =some x→cur[j*sz e+q]? =some (f j q))
   (hr:∀(j:Nat) (l:List V) (q:Nat) (x:V),xs[j]? =some l→l[q]? =some x→Ow sz w (G j q) x (f j q))
   (hG:∀j q k,G j q k→F k∧k≠g) (hd:∀j q j' q' k,G j q k→G j' q' k→j=j'∧q=q'):Ow sz w F (.sl e xs) (.slice (some ⟨g,0,none⟩) xs.length cap)
variable {F F':Nat→Prop}
theorem Ow.mono (h:Ow sz w F x v):∀{F':Nat→Prop},(∀k,F k→F' k)→Ow sz w F' x v:=by
 induction h with
 | sc F v h=>exact fun _=> .sc _ v h
 | nil F e=>exact fun _=> .nil _ e
 | sl F e xs g cap cur f G hg hF hn hm hz hs hcell hr hG hd ih=>
   intro F' hp
   exact .sl F' e xs g cap cur f G hg (hp _ hF) hn hm hz hs hcell hr (fun j q k hk=>⟨hp _ (hG j q k hk).1,(hG j q k hk).2⟩) hd
theorem Ow.frame (h:Ow sz w F x v) (hf:∀k,F k→k<w.heap.size→w'.heap[k]? =w.heap[k]?):Ow sz w' F x v:=by
 induction h with
 | sc F v h=>exact .sc _ v h
 | nil F e=>exact .nil _ e
 | sl F e xs g cap cur f G hg hF hn hm hz hs hcell hr hG hd ih=>
   have hlt:g<w.heap.size:=(Array.getElem?_eq_some_iff.1 hg).1
   exact .sl F e xs g cap cur f G ((hf g hF hlt).trans hg) hF hn hm hz hs hcell (fun j l q x hj hq=>ih j l q x hj hq (fun k hk hl=>hf k (hG j q k hk).1 hl)) hG hd
theorem Ow.bound (h:Ow sz w F x v):Ow sz w (fun k=>F k∧k<w.heap.size) x v:=by
 induction h with
 | sc F v h=>exact .sc _ v h
 | nil F e=>exact .nil _ e
 | sl F e xs g cap cur f G hg hF hn hm hz hs hcell hr hG hd ih=>
   have hlt:g<w.heap.size:=(Array.getElem?_eq_some_iff.1 hg).1
   exact .sl _ e xs g cap cur f (fun j q k=>G j q k∧k<w.heap.size) hg ⟨hF,hlt⟩ hn hm hz hs hcell ih (fun j q k hk=>⟨⟨(hG j q k hk.1).1,hk.2⟩,(hG j q k hk.1).2⟩) (fun j q j' q' k h1 h2=>hd j q j' q' k h1.1 h2.1)
theorem Ow.one (h:Ow sz w F x v):v.oneCell'=true:=by cases h<;>first | assumption | rfl
theorem Ow.form {e:Nat} {xs:List (List V)} (h:Ow sz w F (.sl e xs) v):(xs=[]∧v= .slice none 0 0)∨∃g cap cur,v= .slice (some ⟨g,0,none⟩) xs.length cap∧F g∧w.heap[g]? =some (.cells cur e (0,0))∧xs.length≤cap∧cap≤maxLen∧cur.size=cap*sz e:=by
 cases h with
 | nil F e=>exact .inl ⟨rfl,rfl⟩
 | sl F e xs g cap cur f G hg hF hn hm hz hs hcell hr hG hd=>exact .inr ⟨g,cap,cur,rfl,hF,hg,hn,hm,hz⟩
theorem oD {g o:Nat} {cur:Array Value} {e:Nat} {fr:Nat × Nat} (h:w.heap[g]? =some (.cells cur e fr)):w.cell? ((⟨g,0,none⟩:Addr).add o)=cur[o]?:=by
 have:(⟨g,0,none⟩:Addr).add o=⟨g,o,none⟩:=by unfold Addr.add;split<;>simp_all
 rw [this];simp [World.cell?,h]
theorem Ow.rd (h:Ow sz w F x v):Rd sz w F x v:=by
 induction h with
 | sc F v h=>exact .sc v h
 | nil F e=>exact .nil e none 0
 | sl F e xs g cap cur f G hg hF hn hm hz hs hcell hr hG hd ih=>
   refine .sl e xs ⟨g,0,none⟩ cap f hn hF (Array.getElem?_eq_some_iff.1 hg).1 hs (fun j l q x hj hq=>?_) (fun j l q x hj hq=>(ih j l q x hj hq).mono (fun k hk=>(hG j q k hk).1))
   rw [oD hg];exact hcell j l q x hj hq
end
end Go.Proofs.YtcnfgfomholheaaGreatDoor.Z
end
section
namespace Go.Proofs.YtcnfgfomholheaaGreatDoor.Z
open Go.RowKit
set_option linter.unusedVariables false
inductive C0 (Tb:Nat→Type) where
 | sc (v:Value)
 | sl (e:Nat) (l:List (Tb e))
inductive TK where
 | one
 | num (k:IntKind)
 | text
 | slice (e:Nat)
 | str (jh:List (Nat × Nat))
structure TI where
 size:Nat
 bytes:Nat
 zero:List Value
 kind:TK
def C0.yZ {Tb:Nat→Type} (enc:(e:Nat)→Tb e→List V):C0 Tb→V
 | .sc v=> .sc v
 | .sl e l=> .sl e (l.map (enc e))
def C0.one {Tb:Nat→Type}:C0 Tb→Bool
 | .sc v=>v.oneCell'
 | .sl _ _=>true
structure dX where
 Tb:Nat→Type
 df:(e:Nat)→Tb e
 cells:(e:Nat)→Tb e→List (C0 Tb)
 xO:(e:Nat)→List (C0 Tb)→Option (Tb e)
 enc:(e:Nat)→Tb e→List V
 el:Nat→Bool
 ti:Nat→Option TI
 gG:∀e x,enc e x=(cells e x).map (C0.yZ enc)
 mk_eq:∀e cs x,xO e cs=some x→cells e x=cs
 one:∀e x c,c∈cells e x→c.one=true
 len:∀e x (i:TI),el e=true→ti e=some i→(cells e x).length=i.size
 J:World→Prop
 jk:∀{w w':World},Below w.heap.size w w'→J w→J w'
def dX.sz (T:dX) (e:Nat):Nat:=match T.ti e with
 | some i=>i.size
 | none=>0
def fM (P:Program) (t:Nat) (i:TI):Prop:=∃inf,P.info? t=some inf∧inf.size=i.size∧inf.bytes=i.bytes∧(∃z,inf.zero=some z∧z.cells=i.zero.toArray)∧i.zero.length=i.size∧0<i.size∧0<i.bytes∧match i.kind with
 | .one=>(∃d,P.underlying t=some d∧(∀fs,d≠ .struct fs)∧∀n e,d≠ .array n e)∧i.size=1
 | .num k=>P.underlying t=some (.int k)∧i.size=1
 | .text=>P.underlying t=some .string∧i.size=1
 | .slice e=>P.underlying t=some (.slice e)∧i.size=1
 | .str jh=>∃fs,P.underlying t=some (.struct fs)∧fs.toList.mapM (fun f=>(P.info? f.type).map fun i=>(f.offset,i.size))=some jh∧∀p∈jh,p.2≠0
def dX.ok (T:dX) (P:Program):Prop:=∀t i,T.ti t=some i→fM P t i
inductive Cell (T:dX) where
 | un
 | sc (v:Value)
 | im (p:Option (Nat × Nat)) (e:Nat) (l:List (T.Tb e))
 | hd (r:Nat)
 | px (r o:Nat)
inductive Slot (T:dX) where
 | ud
 | c (x:Cell T)
 | ag (l:List (Cell T))
 | tu (l:List (Bool × List (Cell T)))
 | pi (p:Option (Nat × Nat)) (e:Nat) (l:List (T.Tb e)) (i o:Nat)
 | pe (r i o:Nat)
 | pl (r bv i o e:Nat) (l:List (T.Tb e))
 | fn (f:FuncId) (r:Nat)
inductive dB (T:dX) where
 | no
 | bx (t:Nat) (cs:List (Cell T))
 | row (bv e:Nat) (l:List (T.Tb e))
 | sh (bv e:Nat) (l:List (T.Tb e))
 | hl (e d i:Nat) (cs:List (Cell T)) (l:List (T.Tb e))
structure St (T:dX) where
 tm:List (Nat × Slot T)
 rs:List (Nat × dB T)
 n:Nat
 A:Nat→Prop
def lk {α:Type} (d:α):List (Nat × α)→Nat→α
 | [],_=>d
 | (k,a)::r,t=>match Nat.beq k t with
   | true=>a
   | false=>lk d r t
section
variable {T:dX}
def St.tmp (σ:St T) (t:Nat):Slot T:=lk (.c .un) σ.tm t
def St.res (σ:St T) (r:Nat):dB T:=lk .no σ.rs r
def St.put (σ:St T) (t:Nat) (s:Slot T):St T:=⟨(t,s)::σ.tm,σ.rs,σ.n,σ.A⟩
def Cell.refs:Cell T→List Nat
 | .im (some p) _ _=>[p.1,p.2]
 | .hd r=>[r]
 | .px r _=>[r]
 | _=>[]
def refsOf:List (Cell T)→List Nat
 | []=>[]
 | c::r=>c.refs++refsOf r
def Dv:List (Bool × List (Cell T))→List Nat
 | []=>[]
 | c::r=>refsOf c.2++Dv r
def Slot.refs:Slot T→List Nat
 | .ud=>[]
 | .c x=>x.refs
 | .ag l=>refsOf l
 | .tu l=>Dv l
 | .pi (some p) _ _ _ _=>[p.1,p.2]
 | .pi none _ _ _ _=>[]
 | .pe r _ _=>[r]
 | .pl r bv _ _ _ _=>[r,bv]
 | .fn _ r=>[r]
def dB.cells:dB T→List (Cell T)
 | .bx _ cs=>cs
 | .hl _ _ _ cs _=>cs
 | _=>[]
def dB.refs (x:dB T):List Nat:=refsOf x.cells
def jo (A:Nat→Prop) (F:Nat→Nat→Prop) (p:Option (Nat × Nat)) (k:Nat):Prop:=(A k∧∀r,¬F r k)∨∃q,p=some q∧F q.1 k
def St.live (σ:St T):Option (Nat × Nat)→Prop
 | none=>True
 | some q=>∃e l,σ.res q.1= .row q.2 e l
def iK (σ:St T) (env:Nat→Value) (F:Nat→Nat→Prop) (w:World):Cell T→Value→Prop
 | .un,_=>True
 | .sc v',v=>v=v'∧v.oneCell'=true
 | .im p e l,v=>v.oneCell'=true∧(σ.live p→Rd T.sz w (jo σ.A F p) (.sl e (l.map (T.enc e))) v)
 | .hd r,v=>v=env r∧v.oneCell'=true
 | .px r o,v=>∃g,env r= .pointer (some ⟨g,0,none⟩)∧v= .pointer (some ⟨g,o,none⟩)
def aY (σ:St T) (env:Nat→Value) (F:Nat→Nat→Prop) (w:World):List (Cell T)→List Value→Prop
 | [],vs=>vs=[]
 | c::cs,vs=>∃v r,vs=v::r∧iK σ env F w c v∧aY σ env F w cs r
def sK (σ:St T) (env:Nat→Value) (F:Nat→Nat→Prop) (w:World) (it:Bool × List (Cell T)) (v:Value):Prop:=
 match it.1 with
 | true=>∃us:Array Value,v= .agg us∧aY σ env F w it.2 us.toList
 | false=>aY σ env F w it.2 [v]
def lJ (σ:St T) (env:Nat→Value) (F:Nat→Nat→Prop) (w:World):List (Bool × List (Cell T))→List Value→Prop
 | [],vs=>vs=[]
 | c::cs,vs=>∃v r,vs=v::r∧sK σ env F w c v∧lJ σ env F w cs r
def bT (σ:St T) (env:Nat→Value) (F:Nat→Nat→Prop) (w:World):Slot T→Value→Prop
 | .ud,v=>v=undef
 | .c x,v=>iK σ env F w x v
 | .ag l,v=>∃us:Array Value,v= .agg us∧aY σ env F w l us.toList
 | .tu l,v=>∃us:Array Value,v= .tuple us∧lJ σ env F w l us.toList
 | .pi p e l i o,v=>i<l.length∧∃ad,v= .pointer (some (ad.add (i*T.sz e+o)))∧(σ.live p→∃c,Rd T.sz w (jo σ.A F p) (.sl e (l.map (T.enc e))) (.slice (some ad) l.length c))
 | .pe r i o,v=>(∀bv e l,σ.res r= .row bv e l→i<l.length∧∃g c,env r= .slice (some ⟨g,0,none⟩) l.length c∧v= .pointer (some ((⟨g,0,none⟩:Addr).add (i*T.sz e+o))))∧(∀bv e l,σ.res r= .sh bv e l→i<l.length∧∃g c,env r= .slice (some ⟨g,0,none⟩) l.length c∧v= .pointer (some ((⟨g,0,none⟩:Addr).add (i*T.sz e+o))))∧∀e d j cs l,σ.res r= .hl e d j cs l→i<l.length∧∃g c,env r= .slice (some ⟨g,0,none⟩) l.length c∧v= .pointer (some ((⟨g,0,none⟩:Addr).add (i*T.sz e+o)))
 | .pl r bv i o e l,v=>iK σ env F w (.im (some (r,bv)) e l) v∧∀e' l',σ.res r= .row bv e' l'→i<l'.length∧∃g c,F r g∧env r= .slice (some ⟨g,0,none⟩) l'.length c∧w.cell? ((⟨g,0,none⟩:Addr).add (i*T.sz e'+o))=some v
 | .fn f r,v=>∃g,env r= .pointer (some ⟨g,0,none⟩)∧v= .func (.func f) #[] #[.pointer (some ⟨g,0,none⟩)]
structure ShR (sz:Nat→Nat) (R:Nat→Prop) (w:World) (G:Nat→Prop) (e:Nat) (xs:List (List V)) (v:Value) (raw:List (List Value)):Prop where
 ow:Ow sz w G (.sl e (raw.map (fun l=>l.map V.sc))) v
 len:raw.length=xs.length
 els:∀(j:Nat) (r:List Value) (x:List V),raw[j]? =some r→xs[j]? =some x→r.length=x.length∧∀(q:Nat) (u:Value) (y:V),r[q]? =some u→x[q]? =some y→Rd sz w R y u
def Sh (sz:Nat→Nat) (R:Nat→Prop) (w:World) (G:Nat→Prop) (e:Nat) (xs:List (List V)) (v:Value):Prop:=∃raw,ShR sz R w G e xs v raw
def kY (T:dX) (e d i:Nat) (raw:List (List Value)) (l:List (T.Tb e)):List (List V):=(List.range l.length).map fun q=>if q<d∨q=i then (raw.getD q []).map V.sc else T.enc e (l.getD q (T.df e))
def oJ (σ:St T) (env:Nat→Value) (F:Nat→Nat→Prop) (w:World) (r:Nat):dB T→Prop
 | .no=>∀k,¬F r k
 | .bx t cs=>∃g arr,env r= .pointer (some ⟨g,0,none⟩)∧F r g∧(∀k,F r k→k=g)∧w.heap[g]? =some (.cells arr t (0,0))∧aY σ env F w cs arr.toList
 | .row _ e l=>Ow T.sz w (F r) (.sl e (l.map (T.enc e))) (env r)
 | .sh _ e l=>Sh T.sz (jo σ.A F none) w (F r) e (l.map (T.enc e)) (env r)
 | .hl e d i cs l=>∃raw:List (List Value),(i<l.length→(raw.getD i []).length=T.sz e)∧Ow T.sz w (F r) (.sl e (kY T e d i raw l)) (env r)∧aY σ env F w cs (raw.getD i [])
structure Fr extends World where
 pn:Nat→Value
 X:Nat→Prop
 V:World
def Fr.may (W0:Fr) (k:Nat):Prop:=(W0.heap.size≤k∨W0.X k)∧W0.V.heap.size≤k
structure mV (W0:Fr) (w:World):Prop where
 os:w.os=W0.os
 tape:w.tape=W0.tape
 output:w.output=W0.output
 size:W0.heap.size≤w.heap.size
 block:∀k,k<W0.heap.size→¬W0.X k→w.heap[k]? =W0.heap[k]?
 base:Below W0.V.heap.size W0.V w
theorem mV.may {W0:Fr} {w:World} (h:mV W0 w) {k:Nat} (hk:w.heap.size≤k):W0.may k:=⟨.inl (Nat.le_trans h.size hk),Nat.le_trans h.base.size hk⟩
theorem mV.step {W0:Fr} {w w1:World} (h:mV W0 w) (h1:w1.os=w.os) (h2:w1.tape=w.tape) (h3:w1.output=w.output) (h4:w.heap.size≤w1.heap.size) (h5:∀k,k<w.heap.size→¬W0.may k→w1.heap[k]? =w.heap[k]?):mV W0 w1:=
 ⟨h1.trans h.os,h2.trans h.tape,h3.trans h.output,Nat.le_trans h.size h4,fun k hk hx=>(h5 k (Nat.lt_of_lt_of_le hk h.size) (fun hm=>hm.1.elim (fun h=>by omega) hx)).trans (h.block k hk hx),
  h1.trans h.base.os,h2.trans h.base.tape,h3.trans h.base.output,Nat.le_trans h.base.size h4,fun k hk=>(h5 k (Nat.lt_of_lt_of_le hk h.base.size) (fun hm=>by have:=hm.2;omega)).trans (h.base.block k hk)⟩
structure eU (W0:Fr) (σ:St T) (a:Act) (w:World) (env:Nat→Value) (F:Nat→Nat→Prop):Prop where
 below:mV W0 w
 tab:T.J W0.V
 pin:∀r,1000≤r→env r=W0.pn r
 acc:∀k,W0.may k→σ.A k
 size:a.tmps.size=σ.n
 defers:a.defers=[]
 res:∀r,oJ σ env F w r (σ.res r)
 own:∀r k,F r k→W0.may k∧k<w.heap.size
 apart:∀r s k,F r k→F s k→r=s
 tm:∀t,bT σ env F w (σ.tmp t) (a.tmps.getD t undef)
def jD (W0:Fr) (σ:St T) (a:Act) (w:World):Prop:=∃env F,eU W0 σ a w env F
inductive R0 (Tb:Nat→Type) where
 | sc (v:Value)
 | ow (e:Nat) (l:List (Tb e))
 | im (e:Nat) (l:List (Tb e))
 | bx (t:Nat) (cs:List (C0 Tb))
inductive RS (Tb:Nat→Type) where
 | c (x:R0 Tb)
 | ag (l:List (R0 Tb))
 | tu (l:List (Bool × List (R0 Tb)))
inductive Arg (Tb:Nat→Type) where
 | c (x:C0 Tb)
 | ag (l:List (C0 Tb))
def sG (w:World) (S:Nat→Prop):C0 T.Tb→Value→Prop
 | .sc v',v=>v=v'∧v.oneCell'=true
 | .sl e l,v=>Rd T.sz w S (.sl e (l.map (T.enc e))) v
def eP (w:World) (S:Nat→Prop):List (C0 T.Tb)→List Value→Prop
 | [],vs=>vs=[]
 | c::cs,vs=>∃v r,vs=v::r∧sG w S c v∧eP w S cs r
def ArgRel (w:World) (S:Nat→Prop):Arg T.Tb→Value→Prop
 | .c x,v=>sG w S x v
 | .ag l,v=>∃us:Array Value,v= .agg us∧eP w S l us.toList
def nM (w:World) (S:Nat→Prop):List (Arg T.Tb)→List Value→Prop
 | [],vs=>vs=[]
 | c::cs,vs=>∃v r,vs=v::r∧ArgRel w S c v∧nM w S cs r
def dN (w':World) (S:Nat→Prop) (G:Nat→Nat→Prop):Nat→List (R0 T.Tb)→List Value→Prop
 | _,[],vs=>vs=[]
 | i, .sc v'::cs,vs=>∃r,vs=v'::r∧v'.oneCell'=true∧dN w' S G (i+1) cs r
 | i, .ow e l::cs,vs=>∃v r,vs=v::r∧Ow T.sz w' (G i) (.sl e (l.map (T.enc e))) v∧dN w' S G (i+1) cs r
 | i, .im e l::cs,vs=>∃v r,vs=v::r∧Rd T.sz w' S (.sl e (l.map (T.enc e))) v∧dN w' S G (i+1) cs r
 | i, .bx t xs::cs,vs=>∃v r,vs=v::r∧(∃g us,v= .pointer (some ⟨g,0,none⟩)∧G i g∧(∀k,G i k→k=g)∧w'.heap[g]? =some (.cells us t (0,0))∧eP w' S xs us.toList)∧dN w' S G (i+1) cs r
def CS:List (Bool × List (R0 T.Tb))→List (R0 T.Tb)
 | []=>[]
 | it::l=>it.2++CS l
def RS.flat:RS T.Tb→List (R0 T.Tb)
 | .c x=>[x]
 | .ag l=>l
 | .tu l=>CS l
def xW:List (Bool × List (R0 T.Tb))→List Value→List Value→Prop
 | [],vs,fv=>vs=[]∧fv=[]
 | it::l,vs,fv=>∃v r f1 f2,vs=v::r∧fv=f1++f2∧f1.length=it.2.length∧(match it.1 with
   | true=>∃us:Array Value,v= .agg us∧us.toList=f1
   | false=>f1=[v])∧xW l r f2
def uY:RS T.Tb→Value→List Value→Prop
 | .c _,v,fv=>fv=[v]
 | .ag l,v,fv=>∃us:Array Value,v= .agg us∧us.toList=fv
 | .tu l,v,fv=>∃us:Array Value,v= .tuple us∧xW l us.toList fv
def Enters (P:Program) (f:FuncId):Prop:=∃fn,P.funcs[f]? =some fn∧(fn.name== "runtime.NumGoroutine")=false∧fn.body.isSome=true
def aH (T:dX) (P:Program) (f:FuncId) (args:List (Arg T.Tb)) (res:RS T.Tb):Prop:=
 Enters P f∧∀(w:World) (vs:List Value) (S:Nat→Prop),T.J w→nM w S args vs→Calls P f vs.toArray w fun e w'=>∃v G,e= .returned v∧Below w.heap.size w w'∧
  (∀i k,G i k→w.heap.size≤k∧k<w'.heap.size)∧(∀i j k,G i k→G j k→i=j)∧
  ∃fv,uY res v fv∧dN w' (fun k=>S k∧k<w.heap.size∨w.heap.size≤k∧∀i,¬G i k) G 0 res.flat fv
end
end Go.Proofs.YtcnfgfomholheaaGreatDoor.Z
end
section
namespace Go.Proofs.YtcnfgfomholheaaGreatDoor.Z
open Go.RowKit
set_option linter.unusedVariables false
set_option linter.unusedSimpArgs false
section
variable {T:dX} {σ σ1:St T} {env bD:Nat→Value} {F F1:Nat→Nat→Prop} {w w1:World}
def Cell.vers:Cell T→List (Nat × Nat)
 | .im (some p) _ _=>[p]
 | _=>[]
def pR:List (Cell T)→List (Nat × Nat)
 | []=>[]
 | c::r=>c.vers++pR r
def Dw:List (Bool × List (Cell T))→List (Nat × Nat)
 | []=>[]
 | c::r=>pR c.2++Dw r
def Slot.vers:Slot T→List (Nat × Nat)
 | .ud=>[]
 | .c x=>x.vers
 | .ag l=>pR l
 | .tu l=>Dw l
 | .pi (some p) _ _ _ _=>[p]
 | .pi none _ _ _ _=>[]
 | .pe _ _ _=>[]
 | .pl r bv _ _ _ _=>[(r,bv)]
 | .fn _ _=>[]
structure Calm (σ σ1:St T) (F F1:Nat→Nat→Prop) (w w1:World):Prop where
 acc:σ1.A=σ.A
 size:w.heap.size≤w1.heap.size
 st:∀k,k<w.heap.size→(∀r,¬F r k)→(∀r,¬F1 r k)∧w1.heap[k]? =w.heap[k]?
def Holds (σ σ1:St T) (F F1:Nat→Nat→Prop) (w w1:World) (q:Nat × Nat):Prop:=σ1.live (some q)→σ.live (some q)∧∀k,F q.1 k→k<w.heap.size→F1 q.1 k∧w1.heap[k]? =w.heap[k]?
theorem zo (hc:Calm σ σ1 F F1 w w1) {p:Option (Nat × Nat)} {x:V} {v:Value} (hq:∀q,p=some q→∀k,F q.1 k→k<w.heap.size→F1 q.1 k∧w1.heap[k]? =w.heap[k]?) (h:Rd T.sz w (jo σ.A F p) x v):Rd T.sz w1 (jo σ1.A F1 p) x v:=by
 have h2:=h.bound
 refine(h2.frame hc.size ?_).mono ?_
 ·rintro k ⟨hk,_⟩ hlt
  rcases hk with ⟨ha,hk⟩ | ⟨q,hp,hk⟩
  ·exact(hc.st k hlt hk).2
  ·exact(hq q hp k hk hlt).2
 ·rintro k ⟨hk,hlt⟩
  rcases hk with ⟨ha,hk⟩ | ⟨q,hp,hk⟩
  ·exact .inl ⟨by rw [hc.acc];exact ha,(hc.st k hlt hk).1⟩
  ·exact .inr ⟨q,hp,(hq q hp k hk hlt).1⟩
theorem Dx (hc:Calm σ σ1 F F1 w w1) {c:Cell T} {v:Value} (h:iK σ env F w c v) (he:∀r∈c.refs,bD r=env r) (hv:∀q∈c.vers,Holds σ σ1 F F1 w w1 q):iK σ1 bD F1 w1 c v:=by
 cases c with
 | un=>trivial
 | sc v'=>exact h
 | im p e l=>
   refine⟨h.1,fun hl=>?_⟩
   cases p with
   | none=>exact zo hc (fun q hq=>by cases hq) (h.2 trivial)
   | some q=>
     have h1:=hv q (by simp [Cell.vers]) hl
     exact zo hc (fun q' hq=>by cases hq;exact h1.2) (h.2 h1.1)
 | hd r=>exact⟨h.1.trans (he r (by simp [Cell.refs])).symm,h.2⟩
 | px r o=>
   obtain⟨g,h1,h2⟩:=h
   exact⟨g,(he r (by simp [Cell.refs])).trans h1,h2⟩
theorem kD (hc:Calm σ σ1 F F1 w w1):∀{cs:List (Cell T)} {vs:List Value},aY σ env F w cs vs→(∀r∈refsOf cs,bD r=env r)→(∀q∈pR cs,Holds σ σ1 F F1 w w1 q)→aY σ1 bD F1 w1 cs vs
 | [],_,h,_,_=>h
 | c::cs,_,⟨v,r,e,h1,h2⟩,he,hv=>⟨v,r,e,Dx hc h1 (fun r hr=>he r (List.mem_append_left _ hr)) (fun q hq=>hv q (List.mem_append_left _ hq)),kD hc h2 (fun r hr=>he r (List.mem_append_right _ hr)) (fun q hq=>hv q (List.mem_append_right _ hq))⟩
theorem Xf (hc:Calm σ σ1 F F1 w w1) {it:Bool × List (Cell T)} {v:Value} (h:sK σ env F w it v) (he:∀r∈refsOf it.2,bD r=env r) (hv:∀q∈pR it.2,Holds σ σ1 F F1 w w1 q):sK σ1 bD F1 w1 it v:=by
 obtain⟨b,cs⟩:=it
 cases b with
 | true=>obtain⟨us,e,h⟩:=h;exact⟨us,e,kD hc h he hv⟩
 | false=>exact kD (vs:=[v]) hc h he hv
theorem Jd (hc:Calm σ σ1 F F1 w w1):∀{cs:List (Bool × List (Cell T))} {vs:List Value},lJ σ env F w cs vs→(∀r∈Dv cs,bD r=env r)→(∀q∈Dw cs,Holds σ σ1 F F1 w w1 q)→lJ σ1 bD F1 w1 cs vs
 | [],_,h,_,_=>h
 | c::cs,_,⟨v,r,e,h1,h2⟩,he,hv=>⟨v,r,e,Xf hc h1 (fun r hr=>he r (List.mem_append_left _ hr)) (fun q hq=>hv q (List.mem_append_left _ hq)),Jd hc h2 (fun r hr=>he r (List.mem_append_right _ hr)) (fun q hq=>hv q (List.mem_append_right _ hq))⟩
def O8 (σ σ1:St T) (r:Nat):Prop:=(∀bv e l,σ1.res r= .row bv e l→∃Je l0,σ.res r= .row Je e l0∧l0.length=l.length)∧(∀bv e l,σ1.res r= .sh bv e l→∃Je l0,σ.res r= .sh Je e l0∧l0.length=l.length)∧∀e d j cs l,σ1.res r= .hl e d j cs l→∃d0 j0 cs0 l0,σ.res r= .hl e d0 j0 cs0 l0∧l0.length=l.length
theorem yc (hc:Calm σ σ1 F F1 w w1) {s:Slot T} {v:Value} (h:bT σ env F w s v) (he:∀r∈s.refs,bD r=env r) (hv:∀q∈s.vers,Holds σ σ1 F F1 w w1 q) (hp:∀r i o,(s= .pe r i o∨∃bv e l,s= .pl r bv i o e l)→O8 σ σ1 r):bT σ1 bD F1 w1 s v:=by
 cases s with
 | ud=>exact h
 | c x=>exact Dx hc h he hv
 | ag l=>obtain⟨us,e,h⟩:=h;exact⟨us,e,kD hc h he hv⟩
 | tu l=>obtain⟨us,e,h⟩:=h;exact⟨us,e,Jd hc h he hv⟩
 | pi p e l i o=>
   obtain⟨hi,ad,hv',h⟩:=h
   refine⟨hi,ad,hv',fun hl=>?_⟩
   cases p with
   | none=>
     obtain⟨c,h⟩:=h trivial
     exact⟨c,zo hc (fun q hq=>by cases hq) h⟩
   | some q=>
     have h1:=hv q (by simp [Slot.vers]) hl
     obtain⟨c,h⟩:=h h1.1
     exact⟨c,zo hc (fun q' hq=>by cases hq;exact h1.2) h⟩
 | pe r i o=>
   refine⟨fun bv e l hr=>?_,fun bv e l hr=>?_,fun e d j cs l hr=>?_⟩
   ·obtain⟨Je,l0,h0,hl⟩:=(hp r i o (.inl rfl)).1 bv e l hr
    obtain⟨hi,g,c,h1,h2⟩:=h.1 Je e l0 h0
    exact⟨hl▸hi,g,c,by rw [he r (by simp [Slot.refs]),h1,hl],h2⟩
   ·obtain⟨Je,l0,h0,hl⟩:=(hp r i o (.inl rfl)).2.1 bv e l hr
    obtain⟨hi,g,c,h1,h2⟩:=h.2.1 Je e l0 h0
    exact⟨hl▸hi,g,c,by rw [he r (by simp [Slot.refs]),h1,hl],h2⟩
   ·obtain⟨d0,j0,cs0,l0,h0,hl⟩:=(hp r i o (.inl rfl)).2.2 e d j cs l hr
    obtain⟨hi,g,c,h1,h2⟩:=h.2.2 e d0 j0 cs0 l0 h0
    exact⟨hl▸hi,g,c,by rw [he r (by simp [Slot.refs]),h1,hl],h2⟩
 | fn f r=>
   obtain⟨g,h1,h2⟩:=h
   exact⟨g,(he r (by simp [Slot.refs])).trans h1,h2⟩
 | pl r bv i o e l=>
   refine⟨Dx hc h.1 (fun q hq=>he q hq) (fun q hq=>hv q hq),fun e' l' hr=>?_⟩
   obtain⟨Je,l0,h0,hl⟩:=(hp r i o (.inr ⟨bv,e,l,rfl⟩)).1 bv e' l' hr
   obtain⟨⟨e2,l2,h2⟩,hk⟩:=hv (r,bv) (by simp [Slot.vers]) ⟨e',l',hr⟩
   have e3:Je=bv:=by rw [h0] at h2;cases h2;rfl
   subst e3
   obtain⟨hi,g,c,hF,h1,h3⟩:=h.2 e' l0 h0
   have hb:((⟨g,0,none⟩:Addr).add (i*T.sz e'+o)).block=g:=by unfold Addr.add;split<;>rfl
   have hlt:=World.block_lt_of_cell? w _ h3
   rw [hb] at hlt
   exact⟨hl▸hi,g,c,(hk g hF hlt).1,by rw [he r (by simp [Slot.refs]),h1,hl],(World.cell?_of_block (w:=w) (by rw [hb];exact(hk g hF hlt).2)).trans h3⟩
theorem Sh.rd {sz:Nat→Nat} {R P G:Nat→Prop} {e:Nat} {xs:List (List V)} {v:Value} (h:Sh sz R w G e xs v) (hG:∀k,G k→P k) (hR:∀k,R k→P k):Rd sz w P (.sl e xs) v:=by
 obtain⟨raw,h1,h2,h3⟩:=h
 generalize hm:raw.map (fun l=>l.map V.sc)=m at h1
 have hml:m.length=xs.length:=by rw [←hm,List.length_map,h2]
 cases h1 with
 | nil F e=>
   have:xs=[]:=List.eq_nil_of_length_eq_zero (by simpa using hml.symm)
   subst this
   exact .nil e none 0
 | sl F e m g cap cur f G' hg hF hn hmx hz hs hcell hr hG' hd=>
   rw [hml] at hn⊢
   have key:∀(j:Nat) (l:List V),xs[j]? =some l→∃r,raw[j]? =some r∧m[j]? =some (r.map V.sc):=fun j l hj=>by
    have hj':j<raw.length:=by rw [h2];exact(List.getElem?_eq_some_iff.1 hj).1
    exact⟨raw[j],List.getElem?_eq_getElem hj',by rw [←hm,List.getElem?_map,List.getElem?_eq_getElem hj'];rfl⟩
   have key2:∀(j:Nat) (l:List V) (q:Nat) (x:V),xs[j]? =some l→l[q]? =some x→cur[j*sz e+q]? =some (f j q)∧Rd sz w R x (f j q):=fun j l q x hj hq=>by
    obtain⟨r,k1,k2⟩:=key j l hj
    obtain⟨k3,k4⟩:=h3 j r l k1 hj
    have hq':q<r.length:=by rw [k3];exact(List.getElem?_eq_some_iff.1 hq).1
    have k5:(r.map V.sc)[q]? =some (.sc r[q]):=by rw [List.getElem?_map,List.getElem?_eq_getElem hq'];rfl
    have k6:=hr j _ q _ k2 k5
    have k7:f j q=r[q]:=by
     generalize f j q=fv at k6⊢
     generalize r[q]=rv at k6⊢
     cases k6;rfl
    exact⟨hcell j _ q _ k2 k5,by rw [k7];exact k4 q _ x (List.getElem?_eq_getElem hq') hq⟩
   refine .sl e xs ⟨g,0,none⟩ cap f hn (hG _ hF) (Array.getElem?_eq_some_iff.1 hg).1 (fun j l hj=>?_) (fun j l q x hj hq=>?_) (fun j l q x hj hq=>(key2 j l q x hj hq).2.mono hR)
   ·obtain⟨r,k1,k2⟩:=key j l hj
    rw [←(h3 j r l k1 hj).1,←hs j _ k2,List.length_map]
   ·rw [oD hg];exact(key2 j l q x hj hq).1
theorem Sh.form {sz:Nat→Nat} {R G:Nat→Prop} {e:Nat} {xs:List (List V)} {v:Value} (h:Sh sz R w G e xs v):(xs=[]∧v= .slice none 0 0)∨∃g cap cur,v= .slice (some ⟨g,0,none⟩) xs.length cap∧G g∧w.heap[g]? =some (.cells cur e (0,0))∧xs.length≤cap∧cap≤maxLen∧cur.size=cap*sz e:=by
 obtain⟨raw,h1,h2,h3⟩:=h
 rcases h1.form with ⟨k1,k2⟩ | ⟨g,cap,cur,k1,k2⟩
 ·refine .inl ⟨List.eq_nil_of_length_eq_zero ?_,k2⟩
  rw [←h2,←List.length_map (f:=fun l:List Value=>l.map V.sc),k1];rfl
 ·rw [List.length_map,h2] at k1 k2
  exact .inr ⟨g,cap,cur,k1,k2⟩
theorem Sh.one {sz:Nat→Nat} {R G:Nat→Prop} {e:Nat} {xs:List (List V)} {v:Value} (h:Sh sz R w G e xs v):v.oneCell'=true:=by
 obtain⟨raw,h1,h2,h3⟩:=h;exact h1.one
theorem Sh.mono {sz:Nat→Nat} {R R' G G':Nat→Prop} {e:Nat} {xs:List (List V)} {v:Value} (h:Sh sz R w G e xs v) (hG:∀k,G k→G' k) (hR:∀k,R k→R' k):Sh sz R' w G' e xs v:=by
 obtain⟨raw,h1,h2,h3⟩:=h
 exact⟨raw,h1.mono hG,h2,fun j r x hj hx=>⟨(h3 j r x hj hx).1,fun q u y hq hy=>((h3 j r x hj hx).2 q u y hq hy).mono hR⟩⟩
theorem Ow.abX {sz:Nat→Nat} {R:Nat→Prop} {w:World} {G:Nat→Prop} {e:Nat} {xs:List (List V)} {v:Value} (h:Ow sz w G (.sl e xs) v) (hR:∀k,G k→k<w.heap.size→v.ownBlock≠some k→R k):Sh sz R w (fun k=>G k∧v.ownBlock=some k) e xs v:=by
 cases h with
 | nil F e=>exact⟨[], .nil _ e,rfl,fun j r x h=>by simp at h⟩
 | sl F e xs g cap cur f G' hg hF hn hm hz hs hcell hr hG hd=>
   refine⟨(List.range xs.length).map (fun j=>(List.range (sz e)).map (f j)),?_,by simp,fun j r x hj hx=>?_⟩
   ·have hl:((List.range xs.length).map (fun j=>(List.range (sz e)).map (f j)) |>.map (fun l=>l.map V.sc)).length=xs.length:=by simp
    have get:∀j l,((List.range xs.length).map (fun j=>(List.range (sz e)).map (f j)) |>.map (fun l=>l.map V.sc))[j]? =some l→j<xs.length∧l=((List.range (sz e)).map (f j)).map V.sc:=fun j l hj=>by
     have hjl:j<xs.length:=by have:=(List.getElem?_eq_some_iff.1 hj).1;rwa [hl] at this
     rw [List.getElem?_map,List.getElem?_map,List.getElem?_range hjl] at hj
     exact⟨hjl,(Option.some.inj hj).symm⟩
    refine Ow.mono (F:=fun k=>G k∧k=g) ?_ (fun k hk=>⟨hk.1,by rw [hk.2];rfl⟩)
    generalize ((List.range xs.length).map (fun j=>(List.range (sz e)).map (f j)) |>.map (fun l=>l.map V.sc))=m at hl get⊢
    rw [←hl]
    refine .sl (fun k=>G k∧k=g) e _ g cap cur f (fun _ _ _=>False) hg ⟨hF,rfl⟩ (by rw [hl];exact hn) hm hz (fun j l hj=>by rw [(get j l hj).2];simp) (fun j l q x hj hq=>?_) (fun j l q x hj hq=>?_) (fun _ _ _ h=>h.elim) (fun _ _ _ _ _ h=>h.elim)
    ·obtain⟨h1,h2⟩:=get j l hj
     subst h2
     have hq':q<sz e:=by have:=(List.getElem?_eq_some_iff.1 hq).1;simpa using this
     have hll:=hs j xs[j] (List.getElem?_eq_getElem h1)
     exact hcell j xs[j] q (xs[j][q]'(by rw [hll];exact hq')) (List.getElem?_eq_getElem h1) (List.getElem?_eq_getElem (by rw [hll];exact hq'))
    ·obtain⟨h1,h2⟩:=get j l hj
     subst h2
     have hq':q<sz e:=by have:=(List.getElem?_eq_some_iff.1 hq).1;simpa using this
     have hll:=hs j xs[j] (List.getElem?_eq_getElem h1)
     rw [List.getElem?_map,List.getElem?_map,List.getElem?_range hq'] at hq
     simp only [Option.map_some,Option.some.injEq] at hq
     subst hq
     exact .sc _ _ (hr j xs[j] q (xs[j][q]'(by rw [hll];exact hq')) (List.getElem?_eq_getElem h1) (List.getElem?_eq_getElem (by rw [hll];exact hq'))).one
   ·have hjl:j<xs.length:=(List.getElem?_eq_some_iff.1 hx).1
    rw [List.getElem?_map,List.getElem?_range hjl] at hj
    simp only [Option.map_some,Option.some.injEq] at hj
    subst hj
    refine⟨by simpa using(hs j x hx).symm,fun q u y hq hy=>?_⟩
    have hq':q<sz e:=by have:=(List.getElem?_eq_some_iff.1 hq).1;simpa using this
    rw [List.getElem?_map,List.getElem?_range hq'] at hq
    simp only [Option.map_some,Option.some.injEq] at hq
    subst hq
    exact(hr j x q y hx hy).rd.bound.mono (fun k hk=>hR k (hG j q k hk.1).1 hk.2 (fun e=>(hG j q k hk.1).2 (by simpa [Value.ownBlock] using e.symm)))
structure Same (σ σ1:St T) (env bD:Nat→Value) (F F1:Nat→Nat→Prop) (w w1:World) (r:Nat):Prop where
 env:bD r=env r
 own:∀k,F1 r k↔F r k
 res:σ1.res r=σ.res r
 heap:∀k,F r k→w1.heap[k]? =w.heap[k]?
theorem Same.holds {q:Nat × Nat} (h:Same σ σ1 env bD F F1 w w1 q.1):Holds σ σ1 F F1 w w1 q:=by
 rintro⟨e,l,hl⟩
 exact⟨⟨e,l,h.res.symm.trans hl⟩,fun k hk _=>⟨(h.own k).2 hk,h.heap k hk⟩⟩
theorem Same.O9 {r:Nat} (h:Same σ σ1 env bD F F1 w w1 r):O8 σ σ1 r:=⟨fun bv e l hr=>⟨bv,l,h.res.symm.trans hr,rfl⟩,fun bv e l hr=>⟨bv,l,h.res.symm.trans hr,rfl⟩,fun e d j cs l hr=>⟨d,j,cs,l,h.res.symm.trans hr,rfl⟩⟩
def Fine (σ σ1:St T) (env bD:Nat→Value) (F F1:Nat→Nat→Prop) (w w1:World) (rs:List Nat) (vs:List (Nat × Nat)):Prop:=(∀r∈rs,bD r=env r)∧∀q∈vs,Holds σ σ1 F F1 w w1 q
theorem GK (hc:Calm σ σ1 F F1 w w1) {r:Nat} (hs:Same σ σ1 env bD F F1 w w1 r) {x:dB T} (h:oJ σ env F w r x) (hf:Fine σ σ1 env bD F F1 w w1 (refsOf x.cells) (pR x.cells)):oJ σ1 bD F1 w1 r x:=by
 cases x with
 | no=>exact fun k hk=>h k ((hs.own k).1 hk)
 | bx t cs=>
   obtain⟨g,arr,h1,h2,h3,h4,h5⟩:=h
   obtain⟨f1,f2⟩:=hf
   exact⟨g,arr,hs.env.trans h1,(hs.own g).2 h2,fun k hk=>h3 k ((hs.own k).1 hk),(hs.heap g h2).trans h4,kD hc h5 f1 f2⟩
 | row bv e l=>
   have h1:Ow T.sz w (F r) (.sl e (l.map (T.enc e))) (env r):=h
   have h2:=(h1.frame (w':=w1) (fun k hk _=>hs.heap k hk)).mono (fun k hk=>(hs.own k).2 hk)
   show Ow T.sz w1 (F1 r) (.sl e (l.map (T.enc e))) (bD r)
   rw [hs.env];exact h2
 | sh bv e l=>
   obtain⟨raw,h1,h2,h3⟩:=h
   refine⟨raw,?_,h2,fun j r' x hj hx=>⟨(h3 j r' x hj hx).1,fun q u y hq hy=>zo hc (fun q hq=>by cases hq) ((h3 j r' x hj hx).2 q u y hq hy)⟩⟩
   rw [hs.env]
   exact(h1.frame (w':=w1) (fun k hk _=>hs.heap k hk)).mono (fun k hk=>(hs.own k).2 hk)
 | hl e d i cs l=>
   obtain⟨raw,h1,h2,h3⟩:=h
   obtain⟨f1,f2⟩:=hf
   refine⟨raw,h1,?_,kD hc h3 f1 f2⟩
   rw [hs.env]
   exact(h2.frame (w':=w1) (fun k hk _=>hs.heap k hk)).mono (fun k hk=>(hs.own k).2 hk)
theorem Dy {c:Cell T} {q:Nat × Nat} (h:q∈c.vers):q.1∈c.refs∧q.2∈c.refs:=by
 cases c with
 | im p e l=>cases p<;>simp [Cell.vers,Cell.refs] at*;subst h;simp
 | _=>simp [Cell.vers] at h
theorem kP {q:Nat × Nat}:∀{cs:List (Cell T)},q∈pR cs→q.1∈refsOf cs∧q.2∈refsOf cs
 | [],h=>by simp [pR] at h
 | c::cs,h=>by
   rcases List.mem_append.1 h with h | h
   ·exact⟨List.mem_append_left _ (Dy h).1,List.mem_append_left _ (Dy h).2⟩
   ·exact⟨List.mem_append_right _ (kP h).1,List.mem_append_right _ (kP h).2⟩
theorem Fj {q:Nat × Nat} {cs:List (Cell T)} (h:q∈pR cs):q.1∈refsOf cs:=(kP h).1
theorem wV {q:Nat × Nat}:∀{cs:List (Bool × List (Cell T))},q∈Dw cs→q.1∈Dv cs∧q.2∈Dv cs
 | [],h=>by simp [Dw] at h
 | c::cs,h=>by
   rcases List.mem_append.1 h with h | h
   ·exact⟨List.mem_append_left _ (kP h).1,List.mem_append_left _ (kP h).2⟩
   ·exact⟨List.mem_append_right _ (wV h).1,List.mem_append_right _ (wV h).2⟩
theorem Fp {s:Slot T} {q:Nat × Nat} (h:q∈s.vers):q.1∈s.refs∧q.2∈s.refs:=by
 cases s with
 | ud=>simp [Slot.vers] at h
 | c x=>exact Dy h
 | ag l=>exact kP h
 | tu l=>exact wV h
 | pi p e l i o=>cases p<;>simp [Slot.vers,Slot.refs] at*;subst h;simp
 | pe r i o=>simp [Slot.vers] at h
 | pl r bv i o e l=>simp [Slot.vers,Slot.refs] at*;subst h;simp
 | fn f r=>simp [Slot.vers] at h
theorem Uy {s:Slot T} {q:Nat × Nat} (h:q∈s.vers):q.1∈s.refs:=(Fp h).1
end
end Go.Proofs.YtcnfgfomholheaaGreatDoor.Z
end
section
namespace Go.Proofs.YtcnfgfomholheaaGreatDoor.Z
open Go.RowKit
set_option linter.unusedVariables false
set_option linter.unusedSimpArgs false
section
variable {T:dX}
structure bI (T:dX) where
 slot:Slot T
 rs:List (Nat × dB T)
 bF:List Nat
 nx:Nat
 bH:List Nat
def St.upd (σ:St T) (dst:Option Nat) (U:bI T):St T:=
 match dst with
 | some d=>⟨(d,U.slot)::σ.tm,U.rs++σ.rs,σ.n,σ.A⟩
 | none=>⟨σ.tm,U.rs++σ.rs,σ.n,σ.A⟩
theorem fD {k t:Nat} (h:k≠t):Nat.beq k t=false:=by
 cases hb:Nat.beq k t
 ·rfl
 ·exact absurd (Nat.eq_of_beq_eq_true hb) h
theorem Fq {α:Type} (d:α) (t:Nat):∀(l m:List (Nat × α)),lk d (l++m) t=lk (lk d m t) l t
 | [],m=>rfl
 | (k,a)::l,m=>by
   simp only [List.cons_append,lk]
   cases Nat.beq k t
   ·exact Fq d t l m
   ·rfl
theorem sJ {α:Type} (d:α) (t:Nat):∀(l:List (Nat × α)),(∀p∈l,p.1≠t)→lk d l t=d
 | [],_=>rfl
 | (k,a)::l,h=>by
   have h1:Nat.beq k t=false:=fD (h (k,a) List.mem_cons_self)
   simp only [lk,h1]
   exact sJ d t l (fun p hp=>h p (List.mem_cons_of_mem _ hp))
theorem St.dP (σ:St T) (dst:Option Nat) (U:bI T) (r:Nat):(σ.upd dst U).res r=lk (σ.res r) U.rs r:=by
 cases dst<;>exact Fq _ _ _ _
theorem St.nO {σ:St T} {dst:Option Nat} {U:bI T} {r:Nat} (h:∀p∈U.rs,p.1≠r):(σ.upd dst U).res r=σ.res r:=by
 rw [St.dP];exact sJ _ _ _ h
theorem St.Uz (σ:St T) (dst:Option Nat) (U:bI T):(σ.upd dst U).n=σ.n:=by cases dst<;>rfl
theorem St.iI (σ:St T) (dst:Option Nat) (U:bI T):(σ.upd dst U).A=σ.A:=by cases dst<;>rfl
theorem St.oM (σ:St T) (U:bI T) (d:Nat):(σ.upd (some d) U).tmp d=U.slot:=by
 show lk _ ((d,U.slot)::σ.tm) d=_
 have:Nat.beq d d=true:=by simp [Nat.beq_eq]
 simp only [lk,this]
theorem St.vH (σ:St T) (U:bI T) {d t:Nat} (h:d≠t):(σ.upd (some d) U).tmp t=σ.tmp t:=by
 show lk _ ((d,U.slot)::σ.tm) t=_
 have:Nat.beq d t=false:=fD h
 simp only [lk,this]
 rfl
def jI (σ:St T) (r:Nat):Prop:=((∀t,r∉(σ.tmp t).refs)∧∀s,r∉(σ.res s).refs)∧r<1000
def UA (σ:St T) (q:Nat × Nat):Prop:=(∀t,q∉(σ.tmp t).vers)∧∀s,q∉pR (σ.res s).cells
theorem jI.Wx {σ:St T} {q:Nat × Nat} (h:jI σ q.2):UA σ q:=by
 exact⟨fun t hq=>h.1.1 t (Fp hq).2,fun s hq=>h.1.2 s (kP hq).2⟩
variable {σ σ1:St T} {env bD:Nat→Value} {F F1:Nat→Nat→Prop} {w w1:World} {W0:Fr} {a:Act}
def Told (σ σ1:St T) (env bD:Nat→Value) (F F1:Nat→Nat→Prop) (w w1:World) (r:Nat):Prop:=
 jI σ r∨(bD r=env r∧O8 σ σ1 r∧∀b,Holds σ σ1 F F1 w w1 (r,b)∨UA σ (r,b))
theorem eU.upd (h:eU W0 σ a w env F) (bH:Nat→Prop) {dst:Option Nat} {U:bI T} {v:Value} (below:mV W0 w1) (calm:Calm σ (σ.upd dst U) F F1 w w1)
  (same:∀r,¬bH r→Same σ (σ.upd dst U) env bD F F1 w w1 r) (ael:∀r,bH r→oJ (σ.upd dst U) bD F1 w1 r ((σ.upd dst U).res r))
  (own:∀r k,bH r→F1 r k→W0.may k∧k<w1.heap.size) (apart:∀r s k,bH r→F1 r k→F1 s k→r=s)
  (told:∀r,bH r→Told σ (σ.upd dst U) env bD F F1 w w1 r) (hd:∀d,dst=some d→d<σ.n∧bT (σ.upd dst U) bD F1 w1 U.slot v):jD W0 (σ.upd dst U) (a.put dst v) w1:=by
 have hold:∀q:Nat × Nat,(jI σ q.1→False)→(UA σ q→False)→Holds σ (σ.upd dst U) F F1 w w1 q:=by
  intro q h1 h2
  by_cases hq:bH q.1
  ·rcases told q.1 hq with h3 | ⟨_,_,h3⟩
   ·exact(h1 h3).elim
   ·rcases h3 q.2 with h3 | h3
    ·exact h3
    ·exact(h2 h3).elim
  ·exact(same q.1 hq).holds
 have YX:∀r,(jI σ r→False)→bD r=env r:=by
  intro r h1
  by_cases hq:bH r
  ·rcases told r hq with h3 | ⟨h3,_,_⟩
   ·exact(h1 h3).elim
   ·exact h3
  ·exact(same r hq).env
 have aad:∀t,Fine σ (σ.upd dst U) env bD F F1 w w1 (σ.tmp t).refs (σ.tmp t).vers:=fun t=>
  ⟨fun r hr=>YX r (fun hu=>hu.1.1 t hr),fun q hq=>hold q (fun hu=>hu.1.1 t (Uy hq)) (fun hu=>hu.1 t hq)⟩
 have TF:∀t v,bT σ env F w (σ.tmp t) v→bT (σ.upd dst U) bD F1 w1 (σ.tmp t) v:=by
  intro t v hv
  refine yc calm hv (aad t).1 (aad t).2 (fun r i o hs=>?_)
  by_cases hq:bH r
  ·rcases told r hq with h3 | ⟨_,h3,_⟩
   ·exact(h3.1.1 t (by rcases hs with hs | ⟨bv,e,l,hs⟩<;>rw [hs]<;>simp [Slot.refs])).elim
   ·exact h3
  ·exact(same r hq).O9
 refine⟨bD,F1,below,h.tab,fun r hr=>(YX r (fun hu=>absurd hu.2 (Nat.not_lt.2 hr))).trans (h.pin r hr),fun k hk=>(by rw [St.iI];exact h.acc k hk),?_,?_,?_,?_,?_,?_⟩
 ·rw [St.Uz,←h.size];cases dst<;>simp [Act.put]
 ·rw [←h.defers];cases dst<;>rfl
 ·intro r
  by_cases hq:bH r
  ·exact ael r hq
  ·rw [(same r hq).res]
   exact GK calm (same r hq) (h.res r) ⟨fun s hs=>YX s (fun hu=>hu.1.2 r hs),fun q hqv=>hold q (fun hu=>hu.1.2 r (Fj hqv)) (fun hu=>hu.2 r hqv)⟩
 ·intro r k hk
  by_cases hq:bH r
  ·exact own r k hq hk
  ·have h1:=h.own r k (((same r hq).own k).1 hk)
   exact⟨h1.1,Nat.lt_of_lt_of_le h1.2 calm.size⟩
 ·intro r s k hr hs
  by_cases hq:bH r
  ·exact apart r s k hq hr hs
  ·by_cases hq2:bH s
   ·exact(apart s r k hq2 hs hr).symm
   ·exact h.apart r s k (((same r hq).own k).1 hr) (((same s hq2).own k).1 hs)
 ·intro t
  cases dst with
  | none=>exact TF t _ (h.tm t)
  | some d=>
    obtain⟨hdn,hs⟩:=hd d rfl
    by_cases e:d=t
    ·subst e
     rw [St.oM]
     have:(a.put (some d) v).tmps.getD d undef=v:=by
      have:d<a.tmps.size:=by rw [h.size];exact hdn
      simp [Act.put,Array.getD,this]
     rw [this];exact hs
    ·rw [St.vH σ U e]
     have:(a.put (some d) v).tmps.getD t undef=a.tmps.getD t undef:=by
      simp [Act.put,Array.getD_eq_getD_getElem?,Array.getElem?_setIfInBounds_ne e]
     rw [this];exact TF t _ (h.tm t)
theorem eU.quiet (h:eU W0 σ a w env F) {dst:Option Nat} {s:Slot T} {bF bH:List Nat} {nx:Nat} {v:Value} (hd:∀d,dst=some d→d<σ.n∧bT σ env F w s v):jD W0 (σ.upd dst ⟨s,[],bF,nx,bH⟩) (a.put dst v) w:=by
 have hr:∀r,(σ.upd dst ⟨s,[],bF,nx,bH⟩).res r=σ.res r:=fun r=>St.nO (fun p hp=>by cases hp)
 refine h.upd (F1:=F) (bD:=env) (fun _=>False) h.below ⟨St.iI _ _ _,Nat.le_refl _,fun k _ hk=>⟨hk,rfl⟩⟩ (fun r _=>⟨rfl,fun _=>Iff.rfl,hr r,fun _ _=>rfl⟩) (fun _ h=>h.elim) (fun _ _ h=>h.elim) (fun _ _ _ h=>h.elim) (fun _ h=>h.elim) (fun d e=>?_)
 obtain⟨h1,h2⟩:=hd d e
 refine⟨h1,yc (σ:=σ) (env:=env) (F:=F) (w:=w) ⟨St.iI _ _ _,Nat.le_refl _,fun k _ hk=>⟨hk,rfl⟩⟩ h2 (fun _ _=>rfl) (fun q _ hl=>⟨?_,fun k hk _=>⟨hk,rfl⟩⟩) (fun r i o _=>⟨fun bv e l hx=>⟨bv,l,(hr r).symm.trans hx,rfl⟩,fun bv e l hx=>⟨bv,l,(hr r).symm.trans hx,rfl⟩,fun e d j cs l hx=>⟨d,j,cs,l,(hr r).symm.trans hx,rfl⟩⟩)⟩
 obtain⟨e,l,hl⟩:=hl
 exact⟨e,l,(hr q.1).symm.trans hl⟩
def jH (r:Nat):List Nat→Bool
 | []=>false
 | k::l=>match Nat.beq k r with
   | true=>true
   | false=>jH r l
theorem ig {r:Nat}:∀{l:List Nat},jH r l=true↔r∈l
 | []=>by simp [jH]
 | k::l=>by
   unfold jH
   cases h:Nat.beq k r
   ·have:k≠r:=by intro e;subst e;simp [Nat.beq_eq] at h
    simp only [List.mem_cons,ig (l:=l)]
    exact⟨.inr,fun h=>h.resolve_left (fun e=>this e.symm)⟩
   ·have:k=r:=Nat.eq_of_beq_eq_true h
    simp [this]
def oW (r:Nat):List (Nat × Slot T)→Bool
 | []=>true
 | (_,s)::l=>match jH r s.refs with
   | true=>false
   | false=>oW r l
def oZ (r:Nat):List (Nat × dB T)→Bool
 | []=>true
 | (k,s)::l=>match Nat.beq k r with
   | true=>false
   | false=>match jH r s.refs with
     | true=>false
     | false=>oZ r l
def St.fresh (σ:St T) (r:Nat):Bool:=match Nat.blt r 1000 with
 | true=>match oW r σ.tm with
   | true=>oZ r σ.rs
   | false=>false
 | false=>false
theorem Pg {r t:Nat}:∀{l:List (Nat × Slot T)},oW r l=true→r∉(lk (.c .un) l t).refs
 | [],_=>by simp [lk,Slot.refs,Cell.refs]
 | (k,s)::l,h=>by
   unfold oW at h
   cases hs:jH r s.refs<;>rw [hs] at h
   ·unfold lk
    cases Nat.beq k t
    ·exact Pg h
    ·intro hm;rw [ig.2 hm] at hs;cases hs
   ·cases h
theorem Ph {r t:Nat}:∀{l:List (Nat × dB T)},oZ r l=true→r∉(lk .no l t).refs
 | [],_=>by simp [lk,dB.refs,dB.cells,refsOf]
 | (k,s)::l,h=>by
   unfold oZ at h
   cases hk:Nat.beq k r<;>rw [hk] at h
   ·cases hs:jH r s.refs<;>rw [hs] at h
    ·unfold lk
     cases Nat.beq k t
     ·exact Ph h
     ·intro hm;rw [ig.2 hm] at hs;cases hs
    ·cases h
   ·cases h
theorem Pj {r:Nat}:∀{l:List (Nat × dB T)},oZ r l=true→lk .no l r= .no
 | [],_=>rfl
 | (k,s)::l,h=>by
   unfold oZ at h
   cases hk:Nat.beq k r<;>rw [hk] at h
   ·cases hs:jH r s.refs<;>rw [hs] at h
    ·unfold lk
     rw [hk]
     exact Pj h
    ·cases h
   ·cases h
theorem St.IW {σ:St T} {r:Nat} (h:σ.fresh r=true):jI σ r∧σ.res r= .no:=by
 unfold St.fresh at h
 cases h0:Nat.blt r 1000<;>rw [h0] at h<;>dsimp only at h
 ·cases h
 cases h1:oW r σ.tm<;>rw [h1] at h<;>dsimp only at h
 ·cases h
 ·exact⟨⟨⟨fun t=>Pg h1,fun s=>Ph h⟩,by simpa [Nat.blt_eq] using h0⟩,Pj h⟩
structure Agree (σ σ':St T) (ts bF bH:List Nat):Prop where
 tm:∀t∈ts,σ'.tmp t=σ.tmp t
 res:∀r∈bF,σ'.res r=σ.res r
 fr:∀r∈bH,σ.fresh r=true→σ'.fresh r=true
 n:σ'.n=σ.n
theorem Agree.refl (σ:St T) (ts bF bH:List Nat):Agree σ σ ts bF bH:=⟨fun _ _=>rfl,fun _ _=>rfl,fun _ _ h=>h,rfl⟩
theorem Agree.new {σ σ':St T} {ts bF bH:List Nat} (h:Agree σ σ' ts bF bH) {r:Nat} (hr:r∈bH) (hf:σ.fresh r=true):jI σ' r∧σ'.res r= .no:=St.IW (h.fr r hr hf)
end
end Go.Proofs.YtcnfgfomholheaaGreatDoor.Z
end
section
namespace Go.Proofs.YtcnfgfomholheaaGreatDoor.Z
open Go.RowKit
set_option linter.unusedVariables false
set_option linter.unusedSimpArgs false
section
variable {T:dX}
def kL (op:Op):List Nat:=op.operands.toList.filterMap fun | .tmp t=>some t | _=>none
def eH (P:Program) (W0:Fr) (o:Oper) (σ:St T) (U:bI T):Prop:=
 ∀(σ':St T) (a:Act) (w:World) (K:Act→World→Prop) (Q:Exit→Act→World→Prop),Agree σ σ' (kL o.op) U.bF U.bH→jD W0 σ' a w→(∀a' w',jD W0 (σ'.upd o.dst U) a' w'→K a' w')→Oper.wp P o a w K Q
inductive eX (T:dX) where
 | done (U:bI T) (ob:Option Prop)
 | call (f:FuncId) (args:List (Slot T))
 | stuck
def pG:Option Prop→Prop
 | some p=>p
 | none=>True
def pO:List Value→Bool
 | []=>true
 | v::r=>match v.oneCell' with
   | true=>pO r
   | false=>false
def SA:List Value→List (Cell T)
 | []=>[]
 | v::r=> .sc v::SA r
def Pm (v:Value):Slot T:=
 match v with
 | .agg cs=>match pO cs.toList with
   | true=> .ag (SA cs.toList)
   | false=> .c .un
 | v=>match v.oneCell' with
   | true=> .c (.sc v)
   | false=> .c .un
def weak:Slot T→Slot T
 | .pl r bv _ _ e l=> .c (.im (some (r,bv)) e l)
 | s=>s
def dn (σ:St T):Operand→Slot T
 | .tmp t=>weak (σ.tmp t)
 | .const v=>Pm v
 | .global _=> .c .un
 | .func f=> .c (.sc (.func (.func f) #[] #[]))
theorem EH {σ:St T} {env:Nat→Value} {F:Nat→Nat→Prop} {w:World}:∀{l:List Value},pO l=true→aY σ env F w (SA l) l
 | [],_=>rfl
 | v::r,h=>by
   unfold pO at h
   cases hv:v.oneCell'<;>rw [hv] at h
   ·cases h
   ·exact⟨v,r,rfl,⟨rfl,hv⟩,EH h⟩
theorem CB {σ:St T} {env:Nat→Value} {F:Nat→Nat→Prop} {w:World} (v:Value):bT σ env F w (Pm v) v:=by
 unfold Pm
 split
 ·rename_i cs
  cases h:pO cs.toList
  ·trivial
  ·exact⟨cs,rfl,EH h⟩
 ·cases h:v.oneCell'
  ·trivial
  ·exact⟨rfl,h⟩
variable {P:Program} {W0:Fr} {σ σ':St T} {a:Act} {w:World} {env:Nat→Value} {F:Nat→Nat→Prop} {o:Oper} {bF bH:List Nat}
theorem OT {s:Slot T} {v:Value} (h:bT σ env F w s v):bT σ env F w (weak s) v:=by
 cases s<;>first | exact h | exact h.1
theorem bG {x:Operand} (h:eU W0 σ' a w env F) (hA:Agree σ σ' (kL o.op) bF bH) (hx:x∈o.op.operands.toList):bT σ' env F w (dn σ x) (a.eval x):=by
 cases x with
 | tmp t=>
   have ht:t∈kL o.op:=List.mem_filterMap.2 ⟨.tmp t,hx,rfl⟩
   show bT σ' env F w (weak (σ.tmp t)) _
   rw [←hA.tm t ht];exact OT (h.tm t)
 | const v=>exact CB v
 | global g=>trivial
 | func f=>exact⟨rfl,rfl⟩
def sv:Slot T→Option Value
 | .c (.sc v)=>some v
 | _=>none
theorem iP {s:Slot T} {v u:Value} (h:bT σ env F w s u) (hs:sv s=some v):u=v:=by
 cases s with
 | c x=>cases x<;>simp [sv] at hs;subst hs;exact h.1
 | _=>simp [sv] at hs
theorem jC {K:Act→World→Prop} {Q:Exit→Act→World→Prop} {v:Value} {w w':World} (hr:(execOp a.eval o).run P w= .ok (.value v) w') (h:K (a.put o.dst v) w'):Oper.wp P o a w K Q:=by
 unfold Oper.wp;rw [hr];exact h
theorem vF {K:Act→World→Prop} {Q:Exit→Act→World→Prop} {w w':World} (hr:(execOp a.eval o).run P w= .ok .skip w') (h:K (a.put o.dst undef) w'):Oper.wp P o a w K Q:=by
 unfold Oper.wp;rw [hr];exact h
theorem quiet_step {s:Slot T} {nx:Nat} (hd:∀d,o.dst=some d→d<σ.n)
  (hrun:∀(σ':St T) (a:Act) (w:World) (env:Nat→Value) (F:Nat→Nat→Prop),Agree σ σ' (kL o.op) bF bH→eU W0 σ' a w env F→∃v,(execOp a.eval o).run P w= .ok (.value v) w∧bT σ' env F w s v):eH P W0 o σ ⟨s,[],bF,nx,bH⟩:=by
 intro σ' a w K Q hA ⟨env,F,h⟩ hK
 obtain⟨v,hr,hs⟩:=hrun σ' a w env F hA h
 exact jC hr (hK _ _ (h.quiet (fun d hd'=>⟨by rw [hA.n];exact hd d hd',hs⟩)))
def bQ (σ:St T):Option Nat→Bool
 | some d=>Nat.blt d σ.n
 | none=>false
theorem bn {d:Option Nat} (h:bQ σ d=true):∀k,d=some k→k<σ.n:=by
 rintro k rfl;simpa [bQ,Nat.blt_eq] using h
def Pn (op:BinOp) (a b:Int):Option Value:=
 match op with
 | .add=>some (.int .i64 (wrap64 (a+b)))
 | .sub=>some (.int .i64 (wrap64 (a - b)))
 | .mul=>some (.int .i64 (wrap64 (a*b)))
 | .eql=>some (.bool (a==b))
 | .neq=>some (.bool (a !=b))
 | .lss=>some (.bool (decide (a<b)))
 | .leq=>some (.bool (decide (a≤b)))
 | .gtr=>some (.bool (decide (a>b)))
 | .geq=>some (.bool (decide (a≥b)))
 | _=>none
def YZ (op:BinOp) (a b:ByteArray):Option Value:=
 match op with
 | .eql=>some (.bool (a.toList==b.toList))
 | .neq=>some (.bool !(a.toList==b.toList))
 | .lss=>some (.bool (Op.bytesLess a.toList b.toList))
 | .leq=>some (.bool (Op.bytesLess a.toList b.toList || a.toList==b.toList))
 | .gtr=>some (.bool !(Op.bytesLess a.toList b.toList || a.toList==b.toList))
 | .geq=>some (.bool !(Op.bytesLess a.toList b.toList))
 | _=>none
def NG:IntKind→IntKind→Bool
 | .i64, .i64=>true
 | .u8, .u8=>true
 | .i32, .i32=>true
 | .u16, .u16=>true
 | .u32, .u32=>true
 | .u64, .u64=>true
 | _,_=>false
def pos:Int→Bool
 | .ofNat (_+1)=>true
 | _=>false
def Y0:Int→Bool
 | .ofNat _=>true
 | _=>false
def KC (k:IntKind) (op:BinOp) (a b:Int):Option Value:=
 match op with
 | .add=>some (.int k (k.wrap (a+b)))
 | .sub=>some (.int k (k.wrap (a - b)))
 | .mul=>some (.int k (k.wrap (a*b)))
 | .eql=>some (.bool (a==b))
 | .neq=>some (.bool (a !=b))
 | .lss=>some (.bool (decide (a<b)))
 | .leq=>some (.bool (decide (a≤b)))
 | .gtr=>some (.bool (decide (a>b)))
 | .geq=>some (.bool (decide (a≥b)))
 | .quo=>match pos b with
   | true=>some (.int k (k.wrap (a.tdiv b)))
   | false=>none
 | .rem=>match pos b with
   | true=>some (.int k (a.tmod b))
   | false=>none
 | .and=>some (.int k (k.wrap (BitVec.ofInt k.bits a &&& BitVec.ofInt k.bits b).toNat))
 | .or=>some (.int k (k.wrap (BitVec.ofInt k.bits a ||| BitVec.ofInt k.bits b).toNat))
 | .xor=>some (.int k (k.wrap (BitVec.ofInt k.bits a ^^^ BitVec.ofInt k.bits b).toNat))
 | .andNot=>some (.int k (k.wrap (BitVec.ofInt k.bits a &&& ~~~ BitVec.ofInt k.bits b).toNat))
 | _=>none
def adq:IntKind→Bool
 | .i64=>true
 | _=>false
def aci:BinOp→Bool
 | .shl=>true
 | .shr=>true
 | _=>false
def isI:BinOp→Bool
 | .quo=>false
 | .rem=>false
 | .and=>false
 | .or=>false
 | .xor=>false
 | .andNot=>false
 | _=>true
def Xg (op:BinOp) (k:IntKind) (a b:Int):Option Value:=
 match Y0 b with
 | true=>match op with
   | .shl=>some (.int k (k.wrap (a*2 ^ min b.toNat k.bits)))
   | .shr=>some (.int k (a.fdiv (2 ^ min b.toNat k.bits)))
   | _=>none
 | false=>none
def Po (op:BinOp) (x y:Value):Option Value:=
 match x,y with
 | .int k a, .int k' b=>match aci op with
   | true=>Xg op k a b
   | false=>match NG k k' with
     | true=>match adq k with
       | true=>match isI op with
         | true=>Pn op a b
         | false=>KC .i64 op a b
       | false=>KC k op a b
     | false=>none
 | .string a, .string b=>YZ op a b
 | _,_=>none
theorem wrap_i64 (n:Int):IntKind.i64.wrap n=wrap64 n:=by unfold wrap64;exact IntKind.wrap_i64 n
theorem acj {b:Int} (h:pos b=true):b≠0:=by
 intro e;subst e;cases h
theorem aaW {b:Int} (h:Y0 b=true):¬b<0:=by
 unfold Y0 at h;split at h
 ·simp
 ·cases h
theorem Pq {k k':IntKind} (h:NG k k'=true):k=k':=by
 unfold NG at h;split at h<;>first | rfl | cases h
theorem Pv {k:IntKind} {op:BinOp} {a b:Int} {r:Value} (h:KC k op a b=some r):r.oneCell'=true:=by
 unfold KC at h
 cases op<;>simp only [Option.some.injEq,reduceCtorEq] at h<;>first | (subst h;rfl) | (split at h<;>first | (cases h;done) | (cases h;rfl))
theorem Y1 {op:BinOp} {a b:Int} {r:Value} (h:Pn op a b=some r):r.oneCell'=true:=by
 unfold Pn at h;cases op<;>simp only [Option.some.injEq,reduceCtorEq] at h<;>subst h<;>rfl
theorem aaX {k:IntKind} {op:BinOp} {a b:Int} {r:Value} (h:Xg op k a b=some r):r.oneCell'=true:=by
 unfold Xg at h
 split at h
 ·cases op<;>simp only [Option.some.injEq,reduceCtorEq] at h<;>subst h<;>rfl
 ·cases h
theorem Y2 {op:BinOp} {u v r:Value} (h:Po op u v=some r):r.oneCell'=true:=by
 unfold Po at h
 split at h
 ·split at h
  ·exact aaX h
  ·split at h
   ·split at h
    ·split at h
     ·exact Y1 h
     ·exact Pv h
    ·exact Pv h
   ·cases h
 ·unfold YZ at h;cases op<;>simp only [Option.some.injEq,reduceCtorEq] at h<;>subst h<;>rfl
 ·cases h
theorem Px {k:IntKind} {op:BinOp} {t:TypeId} {a b:Int} {r:Value} (w:World) (hs:aci op=false) (h:KC k op a b=some r):(binOp op t (.int k a) (.int k b):Sem Value).run P w= .ok r w:=by
 unfold KC at h
 cases op<;>simp only [Option.some.injEq,reduceCtorEq] at h<;>first
  | (subst h;simp [binOp,Op.intArith,Op.intCmp,Op.intBits,Sem.run_bind,Sem.run_pure];done)
  | (split at h
     ·rename_i hp
      simp only [Option.some.injEq] at h
      subst h
      simp [binOp,Op.intDiv,acj hp,Sem.run_bind,Sem.run_pure]
     ·cases h)
  | cases hs
theorem Y3 {op:BinOp} {t:TypeId} {a b:Int} {r:Value} (w:World) (h:Pn op a b=some r):(binOp op t (.int .i64 a) (.int .i64 b):Sem Value).run P w= .ok r w:=by
 unfold Pn at h
 cases op<;>simp only [Option.some.injEq,reduceCtorEq] at h<;>subst h<;>simp [binOp,Op.intArith,Op.intCmp,wrap_i64,Sem.run_bind,Sem.run_pure]
theorem aaY {k k':IntKind} {op:BinOp} {t:TypeId} {a b:Int} {r:Value} (w:World) (h:Xg op k a b=some r):(binOp op t (.int k a) (.int k' b):Sem Value).run P w= .ok r w:=by
 unfold Xg at h
 split at h
 ·rename_i hn
  cases op<;>simp only [Option.some.injEq,reduceCtorEq] at h<;>subst h<;>simp [binOp,Op.shift,aaW hn,Sem.run_bind,Sem.run_pure]
 ·cases h
theorem QX {op:BinOp} {t:TypeId} {x y:Operand} {k k':IntKind} {a b:Int} (w:World):(eqGuard op t x y (.int k a) (.int k' b)).run P w= .ok () w:=by
 cases op<;>simp [eqGuard]
theorem Y4 {op:BinOp} {t:TypeId} {x y:Operand} {u v r:Value} (w:World) (h:Po op u v=some r):(do eqGuard op t x y u v;binOp op t u v:Sem Value).run P w= .ok r w:=by
 unfold Po at h
 split at h
 ·rename_i k a k' b
  simp only [Sem.run_bind,QX,Result.andThen_ok]
  split at h
  ·exact aaY w h
  ·rename_i hs
   split at h
   ·rename_i hk
    have:=Pq hk
    subst this
    split at h
    ·rename_i hk
     have:k= .i64:=by cases k<;>first | rfl | cases hk
     subst this
     split at h
     ·exact Y3 w h
     ·exact Px w hs h
    ·exact Px w hs h
   ·cases h
 ·rename_i a b
  unfold YZ at h
  cases op<;>simp only [Option.some.injEq,reduceCtorEq] at h<;>subst h<;>simp [eqGuard,binOp,Op.stringOp,Sem.run_bind,Sem.run_pure]
 ·cases h
def J9 (σ:St T) (dst:Option Nat):Option Value→eX T
 | some v=>match bQ σ dst with
   | true=> .done ⟨.c (.sc v),[],[],0,[]⟩ none
   | false=> .stuck
 | none=> .stuck
def Ag (σ:St T) (dst:Option Nat) (op:BinOp) (x y:Operand):eX T:=
 match sv (dn σ x) with
 | some u=>match sv (dn σ y) with
   | some v=>J9 σ dst (Po op u v)
   | none=> .stuck
 | none=> .stuck
theorem L8 {U:bI T} {ob:Option Prop} {dst:Option Nat} {r:Option Value} (h:J9 σ dst r= .done U ob):∃v,r=some v∧bQ σ dst=true∧U=⟨.c (.sc v),[],[],0,[]⟩∧ob=none:=by
 cases r with
 | none=>cases h
 | some v=>
   unfold J9 at h
   cases hd:bQ σ dst<;>rw [hd] at h
   ·cases h
   ·cases h;exact⟨v,rfl,rfl,rfl,rfl⟩
theorem Gh {op:BinOp} {t ty:TypeId} {x y:Operand} {U:bI T} {ob:Option Prop} (ho:o.op= .binOp op t x y ty) (h:Ag σ o.dst op x y= .done U ob):eH P W0 o σ U:=by
 unfold Ag at h
 cases hx:sv (dn σ x) with
 | none=>rw [hx] at h;cases h
 | some u=>
   cases hy:sv (dn σ y) with
   | none=>rw [hx,hy] at h;cases h
   | some v=>
     rw [hx,hy] at h
     obtain⟨r,hr,hd,rfl,rfl⟩:=L8 h
     refine quiet_step (bn hd) (fun σ' a w env F hA hS=>⟨r,?_,⟨rfl,Y2 hr⟩⟩)
     have e1:=iP (bG hS hA (x:=x) (by simp [ho,Op.operands])) hx
     have e2:=iP (bG hS hA (x:=y) (by simp [ho,Op.operands])) hy
     have hrun:=Y4 (P:=P) (t:=t) (x:=x) (y:=y) w hr
     unfold execOp
     rw [ho]
     simp only [e1,e2,Sem.run_bind,Sem.run_pure] at hrun⊢
     rw [hrun];rfl
def unV (op:UnOp) (x:Value):Option Value:=
 match op,x with
 | .not, .bool b=>some (.bool !b)
 | .neg, .int .i64 n=>some (.int .i64 (wrap64 (0 - n)))
 | _,_=>none
theorem aaZ {op:UnOp} {u r:Value} (h:unV op u=some r):r.oneCell'=true:=by
 unfold unV at h
 split at h<;>first | (cases h;done) | (cases h;rfl)
def TY (σ:St T) (dst:Option Nat) (op:UnOp) (x:Operand):eX T:=
 match sv (dn σ x) with
 | some u=>J9 σ dst (unV op u)
 | none=> .stuck
theorem aaM {op:UnOp} {t:TypeId} {x:Operand} {U:bI T} {ob:Option Prop} (ho:o.op= .unOp op t x) (h:TY σ o.dst op x= .done U ob):eH P W0 o σ U:=by
 unfold TY at h
 cases hx:sv (dn σ x) with
 | none=>rw [hx] at h;cases h
 | some u=>
   rw [hx] at h
   obtain⟨r,hr,hd,rfl,rfl⟩:=L8 h
   refine quiet_step (bn hd) (fun σ' a w env F hA hS=>⟨r,?_,⟨rfl,aaZ hr⟩⟩)
   have e1:=iP (bG hS hA (x:=x) (by simp [ho,Op.operands])) hx
   unfold execOp
   rw [ho]
   simp only [e1]
   unfold unV at hr
   split at hr<;>first | (cases hr;done) | (cases hr;simp [Op.unary,Op.intArith,wrap_i64,Sem.run_bind,Sem.run_pure])
def pK (σ:St T) (dst:Option Nat) (x:Operand):eX T:=
 match bQ σ dst with
 | true=> .done ⟨dn σ x,[],(dn σ x).refs,0,[]⟩ none
 | false=> .stuck
theorem LV {x:Operand} {U:bI T} {ob:Option Prop} (ho:o.op= .move x∨o.op= .assign x) (h:pK σ o.dst x= .done U ob):eH P W0 o σ U:=by
 unfold pK at h
 cases hd:bQ σ o.dst<;>rw [hd] at h<;>cases h
 refine quiet_step (bn hd) (fun σ' a w env F hA hS=>⟨a.eval x,?_,bG hS hA ?_⟩)
 ·unfold execOp;rcases ho with ho | ho<;>rw [ho]<;>rfl
 ·rcases ho with ho | ho<;>simp [ho,Op.operands]
def Ir (σ:St T) (dst:Option Nat) (fn:Fn) (first cap:Array Operand):eX T:=
 match fn,first,cap with
 | .func f,⟨[]⟩,⟨[x]⟩=>match dn σ x with
   | .c (.px r 0)=>match bQ σ dst with
     | true=> .done ⟨.fn f r,[],[r],0,[]⟩ none
     | false=> .stuck
   | _=> .stuck
 | _,_,_=> .stuck
theorem WG {fn:Fn} {first cap:Array Operand} {U:bI T} {ob:Option Prop} (ho:o.op= .makeFunc fn first cap) (h:Ir σ o.dst fn first cap= .done U ob):eH P W0 o σ U:=by
 unfold Ir at h
 split at h
 ·rename_i f x
  split at h
  ·rename_i r hx
   cases hd:bQ σ o.dst<;>rw [hd] at h<;>cases h
   refine quiet_step (bn hd) (fun σ' a w env F hA hS=>⟨.func (.func f) #[] #[a.eval x],?_,?_⟩)
   ·unfold execOp;rw [ho];simp [Go.Instr.makeFunc]
   ·have h1:=bG hS hA (x:=x) (by simp [ho,Op.operands])
    rw [hx] at h1
    obtain⟨g,h2,h3⟩:=h1
    exact⟨g,h2,by rw [h3]⟩
  ·cases h
 ·cases h
def Ip (σ:St T) (dst:Option Nat) (c x y:Operand):eX T:=
 match sv (dn σ c) with
 | some (.bool true)=>pK σ dst x
 | some (.bool false)=>pK σ dst y
 | _=> .stuck
theorem Wy {c x y:Operand} {U:bI T} {ob:Option Prop} (ho:o.op= .pick c x y) (h:Ip σ o.dst c x y= .done U ob):eH P W0 o σ U:=by
 unfold Ip at h
 split at h
 ·rename_i hc
  unfold pK at h
  cases hd:bQ σ o.dst<;>rw [hd] at h<;>cases h
  refine quiet_step (bn hd) (fun σ' a w env F hA hS=>⟨a.eval x,?_,bG hS hA (by simp [ho,Op.operands])⟩)
  have e1:=iP (bG hS hA (x:=c) (by simp [ho,Op.operands])) hc
  unfold execOp;rw [ho];simp [e1,asBool,Sem.run_bind,Sem.run_pure]
 ·rename_i hc
  unfold pK at h
  cases hd:bQ σ o.dst<;>rw [hd] at h<;>cases h
  refine quiet_step (bn hd) (fun σ' a w env F hA hS=>⟨a.eval y,?_,bG hS hA (by simp [ho,Op.operands])⟩)
  have e1:=iP (bG hS hA (x:=c) (by simp [ho,Op.operands])) hc
  unfold execOp;rw [ho];simp [e1,asBool,Sem.run_bind,Sem.run_pure]
 ·cases h
def nth {α:Type}:List α→Nat→Option α
 | [],_=>none
 | x::_,0=>some x
 | _::l,n+1=>nth l n
def UC:Bool × List (Cell T)→Slot T
 | (true,l)=> .ag l
 | (false,[c])=> .c c
 | (false,_)=> .c .un
theorem L9 {it:Bool × List (Cell T)}:∀{l:List (Bool × List (Cell T))} {vs:List Value} {i:Nat},lJ σ env F w l vs→nth l i=some it→∃v,vs[i]? =some v∧sK σ env F w it v
 | [],_,_,_,h=>by cases h
 | x::l,_,0,⟨v,r,e,h1,_⟩,h=>by cases h;subst e;exact⟨v,rfl,h1⟩
 | x::l,_,i+1,⟨v,r,e,_,h2⟩,h=>by
   subst e
   obtain⟨u,h3,h4⟩:=L9 (i:=i) h2 h
   exact⟨u,by simpa using h3,h4⟩
theorem Xh {it:Bool × List (Cell T)} {v:Value} (h:sK σ env F w it v):bT σ env F w (UC it) v:=by
 obtain⟨b,l⟩:=it
 cases b with
 | true=>exact h
 | false=>
   match l,h with
   | [],_=>trivial
   | [c],⟨u,r,e,h1,_⟩=>cases e;exact h1
   | _::_::_,_=>trivial
def xQ (σ:St T) (dst:Option Nat) (x:Operand) (i:Nat):eX T:=
 match dn σ x with
 | .tu l=>match nth l i with
   | some it=>match bQ σ dst with
     | true=> .done ⟨UC it,[],(UC it).refs,0,[]⟩ none
     | false=> .stuck
   | none=> .stuck
 | _=> .stuck
theorem OJ {x:Operand} {i:Nat} {U:bI T} {ob:Option Prop} (ho:o.op= .extract x i) (h:xQ σ o.dst x i= .done U ob):eH P W0 o σ U:=by
 unfold xQ at h
 split at h
 ·rename_i l hx
  cases hn:nth l i with
  | none=>rw [hn] at h;cases h
  | some it=>
    rw [hn] at h
    dsimp only at h
    cases hd:bQ σ o.dst<;>rw [hd] at h<;>cases h
    refine quiet_step (bn hd) (fun σ' a w env F hA hS=>?_)
    have e1:=bG hS hA (x:=x) (by simp [ho,Op.operands])
    rw [hx] at e1
    obtain⟨us,e2,h2⟩:=e1
    obtain⟨v,h3,h4⟩:=L9 h2 hn
    refine⟨v,?_,Xh h4⟩
    have h5:us[i]? =some v:=by rw [←Array.getElem?_toList];exact h3
    unfold execOp;rw [ho]
    simp [e2,Instr.extract,h5,Sem.run_bind,Sem.run_pure]
 ·cases h
end
end Go.Proofs.YtcnfgfomholheaaGreatDoor.Z
end
section
namespace Go.Proofs.YtcnfgfomholheaaGreatDoor.Z
open Go.RowKit
set_option linter.unusedVariables false
set_option linter.unusedSimpArgs false
section
variable {T:dX} {P:Program} {W0:Fr} {σ σ':St T} {a:Act} {w:World} {env:Nat→Value} {F:Nat→Nat→Prop} {o:Oper} {bF bH:List Nat}
theorem add_add (a:Addr) (m n:Nat):(a.add m).add n=a.add (m+n):=by
 unfold Addr.add
 by_cases hm:m=0<;>by_cases hn:n=0<;>simp [hm,hn,Nat.add_assoc]
theorem add_lit (g o n:Nat):(⟨g,o,none⟩:Addr).add n=⟨g,o+n,none⟩:=by unfold Addr.add;split<;>simp_all
theorem Ku (a:Addr) (n:Nat):(a.add n).block=a.block:=by unfold Addr.add;split<;>rfl
inductive RdV (T:dX) where
 | mk (p:Option (Nat × Nat)) (e:Nat) (l:List (T.Tb e))
def ug (σ:St T):Option (Nat × Nat)→Bool
 | none=>true
 | some q=>match σ.res q.1 with
   | .row bv _ _=>Nat.beq bv q.2
   | _=>false
theorem vI {p:Option (Nat × Nat)} (h:ug σ p=true):σ.live p:=by
 cases p with
 | none=>trivial
 | some q=>
   unfold ug at h
   dsimp only at h
   cases hr:σ.res q.1 with
   | row bv e l=>
     rw [hr] at h
     have:bv=q.2:=Nat.eq_of_beq_eq_true h
     exact⟨e,l,by rw [hr,this]⟩
   | no=>rw [hr] at h;cases h
   | bx t cs=>rw [hr] at h;cases h
   | sh bv e l=>rw [hr] at h;cases h
   | hl e0 d0 j0 cs0 l0=>rw [hr] at h;cases h
def tZ:Option (Nat × Nat)→List Nat
 | none=>[]
 | some q=>[q.1,q.2]
def I7 (σ:St T):Slot T→Option (RdV T)
 | .c (.im p e l)=>match ug σ p with
   | true=>some ⟨p,e,l⟩
   | false=>none
 | .c (.hd r)=>match σ.res r with
   | .row bv e l=>some ⟨some (r,bv),e,l⟩
   | _=>none
 | _=>none
theorem AL {ts:List Nat} (hA:Agree σ σ' ts bF bH) {p:Option (Nat × Nat)} (hp:∀r∈tZ p,r∈bF) (h:σ.live p):σ'.live p:=by
 cases p with
 | none=>trivial
 | some q=>
   obtain⟨e,l,hl⟩:=h
   exact⟨e,l,by rw [hA.res q.1 (hp q.1 (by simp [tZ]))];exact hl⟩
theorem EM {ts:List Nat} (h:eU W0 σ' a w env F) (hA:Agree σ σ' ts bF bH) {s:Slot T} {u:Value} (hs:bT σ' env F w s u) {p:Option (Nat × Nat)} {e:Nat} {l:List (T.Tb e)} (hr:I7 σ s=some ⟨p,e,l⟩) (hp:∀r∈tZ p,r∈bF):
  σ'.live p∧Rd T.sz w (jo σ'.A F p) (.sl e (l.map (T.enc e))) u:=by
 unfold I7 at hr
 split at hr
 ·rename_i p' e' l'
  cases hl:ug σ p'<;>rw [hl] at hr<;>cases hr
  have h1:=AL hA hp (vI hl)
  exact⟨h1,hs.2 h1⟩
 ·rename_i r
  cases hl:σ.res r with
  | row bv e' l'=>
    rw [hl] at hr
    cases hr
    have h1:σ'.res r= .row bv e l:=by rw [hA.res r (hp r (by simp [tZ]))];exact hl
    have h2:=h.res r
    rw [h1] at h2
    refine⟨⟨e,l,h1⟩,?_⟩
    rw [hs.1]
    exact(Ow.rd h2).mono (fun k hk=> .inr ⟨(r,bv),rfl,hk⟩)
  | no=>rw [hl] at hr;cases hr
  | bx t cs=>rw [hl] at hr;cases hr
  | sh bv e l=>rw [hl] at hr;cases hr
  | hl e0 d0 j0 cs0 l0=>rw [hl] at hr;cases hr
 ·cases hr
def Pz (σ:St T) (s:Slot T):Option (Int × List Nat):=
 match s with
 | .c (.sc (.string b))=>some ((b.size:Int),[])
 | .c (.sc (.slice _ n _))=>some ((n:Int),[])
 | s=>match I7 σ s with
   | some ⟨p,e,l⟩=>some ((l.length:Int),tZ p)
   | none=>none
def Y5:TK→Slot T→Bool
 | .text, .c (.sc (.string _))=>true
 | .slice _, .c (.sc (.slice _ _ _))=>true
 | .slice _, .c (.im _ _ _)=>true
 | .slice _, .c (.hd _)=>true
 | _,_=>false
def Nu (σ:St T) (dst:Option Nat) (t:Nat) (x:Operand):eX T:=
 match T.ti t with
 | some i=>match Y5 i.kind (dn σ x) with
   | true=>match Pz σ (dn σ x) with
     | some (n,ts)=>match bQ σ dst with
       | true=> .done ⟨.c (.sc (.int .i64 n)),[],ts,0,[]⟩ none
       | false=> .stuck
     | none=> .stuck
   | false=> .stuck
 | none=> .stuck
theorem vw {t ty e:TypeId} {b:Option Addr} {n c:Nat} (h:P.underlying t=some (.slice e)) (w:World):(Builtin.len_ #[t] ty #[.slice b n c]).run P w= .ok (.int .i64 n) w:=by
 simp [Builtin.len_,run_underlying h,goInt]
theorem UD {t ty:TypeId} {b:ByteArray} (h:P.underlying t=some .string) (w:World):(Builtin.len_ #[t] ty #[.string b]).run P w= .ok (.int .i64 b.size) w:=by
 simp [Builtin.len_,run_underlying h,goInt]
theorem jQ {b:Builtin} {args:Array Operand} {ts:Array TypeId} {v:Value} {w w':World} (hT:o.op= .call {callee:= .builtin b,args:=args,argTypes:=ts}) (h:(builtin b ts o.type (args.map fun | .const _=>true | _=>false) (args.map a.eval)).run P w= .ok (.value v) w'):(execOp a.eval o).run P w= .ok (.value v) w':=by
 unfold execOp
 rw [hT]
 simp only [resolve,invoke,Sem.run_bind,Sem.run_pure,Result.andThen_ok]
 exact h
theorem YJ (hT:T.ok P) {t:Nat} {x:Operand} {U:bI T} {ob:Option Prop} (ho:o.op= .call {callee:= .builtin .len,args:=#[x],argTypes:=#[t]}) (h:Nu σ o.dst t x= .done U ob):eH P W0 o σ U:=by
 unfold Nu at h
 cases hi:T.ti t with
 | none=>rw [hi] at h;cases h
 | some i=>
   rw [hi] at h
   dsimp only at h
   cases hk:Y5 i.kind (dn σ x) with
   | false=>rw [hk] at h;cases h
   | true=>
     rw [hk] at h
     dsimp only at h
     cases hl:Pz σ (dn σ x) with
     | none=>rw [hl] at h;cases h
     | some nt=>
       obtain⟨n,ts⟩:=nt
       rw [hl] at h
       dsimp only at h
       cases hd:bQ σ o.dst<;>rw [hd] at h<;>cases h
       refine quiet_step (bn hd) (fun σ' a w env F hA hS=>⟨.int .i64 n,?_,⟨rfl,rfl⟩⟩)
       have e1:=bG hS hA (x:=x) (by simp [ho,Op.operands,Call.operands])
       obtain⟨inf,h1,h2,h3,h4,h5,h6,h7,h8⟩:=hT t i hi
       refine jQ ho ?_
       simp only [List.map_toArray,List.map_cons,List.map_nil,builtin,Sem.run_bind,Sem.run_pure]
       unfold Y5 at hk
       split at hk
       ·rename_i hkind hsl
        rw [hkind] at h8
        rw [hsl] at e1 hl
        have e2:=e1.1
        simp only [Pz,Option.some.injEq,Prod.mk.injEq] at hl
        rw [e2,UD h8.1,←hl.1];rfl
       ·rename_i hkind hsl
        rw [hkind] at h8
        rw [hsl] at e1 hl
        have e2:=e1.1
        simp only [Pz,Option.some.injEq,Prod.mk.injEq] at hl
        rw [e2,vw h8.1,←hl.1];rfl
       all_goals first
        | (cases hk;done)
        | (rename_i hkind hsl
           rw [hkind] at h8
           rw [hsl] at e1 hl
           simp only [Pz] at hl
           split at hl
           ·rename_i p e l hr
            simp only [Option.some.injEq,Prod.mk.injEq] at hl
            obtain⟨h9,h10⟩:=EM hS hA e1 hr (by rw [←hl.2];exact fun _ h=>h)
            obtain⟨A,c,h11,h12⟩:=h10.slice
            rw [h11,vw h8.1,←hl.1]
            simp
           ·cases hl)
theorem jq:∀{cs:List (Cell T)} {vs:List Value},aY σ env F w cs vs→cs.length=vs.length
 | [],_,h=>by cases h;rfl
 | c::cs,_,⟨v,r,e,h1,h2⟩=>by subst e;simp [jq h2]
theorem rJ:∀(n:Nat) {cs:List (Cell T)} {vs:List Value},aY σ env F w cs vs→aY σ env F w (cs.drop n) (vs.drop n)
 | 0,_,_,h=>h
 | n+1,[],_,h=>by cases h;rfl
 | n+1,c::cs,_,⟨v,r,e,h1,h2⟩=>by subst e;exact rJ n h2
theorem rH:∀(n:Nat) {cs:List (Cell T)} {vs:List Value},aY σ env F w cs vs→aY σ env F w (cs.take n) (vs.take n)
 | 0,_,_,h=>rfl
 | n+1,[],_,h=>by cases h;rfl
 | n+1,c::cs,_,⟨v,r,e,h1,h2⟩=>by subst e;exact⟨v,_,rfl,h1,rH n h2⟩
theorem Dz {c:Cell T}:∀{cs:List (Cell T)} {vs:List Value} {i:Nat},aY σ env F w cs vs→nth cs i=some c→∃v,vs[i]? =some v∧iK σ env F w c v
 | [],_,_,_,h=>by cases h
 | x::l,_,0,⟨v,r,e,h1,_⟩,h=>by cases h;subst e;exact⟨v,rfl,h1⟩
 | x::l,_,i+1,⟨v,r,e,_,h2⟩,h=>by
   subst e
   obtain⟨u,h3,h4⟩:=Dz (i:=i) h2 h
   exact⟨u,by simpa using h3,h4⟩
def isStr:TK→Bool
 | .str _=>true
 | _=>false
theorem Xi {i:TI} {t:Nat} (h:fM P t i) (hs:isStr i.kind=false):(∃d,P.underlying t=some d∧(∀fs,d≠ .struct fs)∧∀n e,d≠ .array n e)∧i.size=1:=by
 obtain⟨inf,h1,h2,h3,h4,h5,h6,h7,h8⟩:=h
 cases hk:i.kind<;>rw [hk] at h8 hs<;>first | exact h8 | (cases hs;done) | exact⟨⟨_,h8.1,by simp,by simp⟩,h8.2⟩
theorem zq {i:TI} {t:Nat} (h:fM P t i) (hs:isStr i.kind=false) {ad:Addr} {v:Value} {w:World} (hc:w.cell? ad=some v):(Instr.loadAt t (.pointer (some ad))).run P w= .ok v w:=by
 obtain⟨⟨d,h1,h2,h3⟩,_⟩:=Xi h hs
 have hag:(isAgg t).run P w= .ok false w:=by
  unfold isAgg
  cases d<;>simp_all [Sem.run_bind,run_underlying h1]
 simp [Instr.loadAt,Instr.sureAddr,loadVar,Sem.run_bind,hag,hc]
theorem KD {i:TI} {t:Nat} (h:fM P t i) (hs:isStr i.kind=true) {ad:Addr} {us:List Value} {w:World} (hl:us.length=i.size) (hc:∀j v,us[j]? =some v→w.cell? (ad.add j)=some v):(Instr.loadAt t (.pointer (some ad))).run P w= .ok (.agg us.toArray) w:=by
 obtain⟨inf,h1,h2,h3,h4,h5,h6,h7,h8⟩:=h
 cases hk:i.kind<;>rw [hk] at h8 hs<;>first | (cases hs;done) | skip
 obtain⟨fs,h9,_,_⟩:=h8
 have hag:(isAgg t).run P w= .ok true w:=by unfold isAgg;simp [Sem.run_bind,run_underlying h9]
 have hsz:(sizeOf t).run P w= .ok us.length w:=by simp [sizeOf,typeInfo,h1,Sem.run_bind,h2,hl]
 simp [Instr.loadAt,Instr.sureAddr,loadVar,Sem.run_bind,hag,hsz,run_loadCells_list w ad us hc]
def toCell (p:Option (Nat × Nat)):C0 T.Tb→Cell T
 | .sc v=> .sc v
 | .sl e l=> .im p e l
def bV (T:dX) (e:Nat) (l:List (T.Tb e)) (i:Nat):T.Tb e:=l.getD i (T.df e)
def jK (i:TI) (cs:List (Cell T)) (o:Nat):Option (Slot T):=
 match isStr i.kind with
 | true=>match Nat.beq ((cs.drop o).take i.size).length i.size with
   | true=>some (.ag ((cs.drop o).take i.size))
   | false=>none
 | false=>match nth cs o with
   | some c=>some (.c c)
   | none=>none
theorem zf {i:TI} {t:Nat} (h:fM P t i) {cs:List (Cell T)} {vs:List Value} {b:Addr} {n:Nat} {s:Slot T} (hc:aY σ env F w cs vs) (hv:∀j v,vs[j]? =some v→w.cell? (b.add j)=some v) (hl:jK i cs n=some s):
  ∃v,(Instr.loadAt t (.pointer (some (b.add n)))).run P w= .ok v w∧bT σ env F w s v:=by
 unfold jK at hl
 cases hs:isStr i.kind<;>rw [hs] at hl<;>dsimp only at hl
 ·cases hn:nth cs n with
  | none=>rw [hn] at hl;cases hl
  | some c=>
    rw [hn] at hl
    cases hl
    obtain⟨u,h1,h2⟩:=Dz hc hn
    exact⟨u,zq h hs (hv n u h1),h2⟩
 ·cases hb:Nat.beq ((cs.drop n).take i.size).length i.size<;>rw [hb] at hl<;>cases hl
  have h1:=rH i.size (rJ n hc)
  have h2:=jq h1
  have h3:=Nat.eq_of_beq_eq_true hb
  refine⟨_,KD h hs (us:=(vs.drop n).take i.size) (by omega) (fun j v hj=>?_),⟨_,rfl,by simpa using h1⟩⟩
  rw [add_add]
  refine hv (n+j) v ?_
  rw [List.getElem?_take] at hj
  split at hj
  ·rw [List.getElem?_drop] at hj;exact hj
  ·cases hj
theorem UE {p:Option (Nat × Nat)} {c:C0 T.Tb} {u:Value} (h:Rd T.sz w (jo σ.A F p) (C0.yZ T.enc c) u):iK σ env F w (toCell p c) u:=by
 cases c with
 | sc v=>cases h with | sc _ h=>exact⟨rfl,h⟩
 | sl e l=>exact⟨h.one,fun _=>h⟩
theorem AB {p:Option (Nat × Nat)} {b:Addr}:∀{cs:List (C0 T.Tb)} {m:Nat},(∀q c,cs[q]? =some c→∃u,w.cell? (b.add (m+q))=some u∧Rd T.sz w (jo σ.A F p) (C0.yZ T.enc c) u)→∃vs,aY σ env F w (cs.map (toCell p)) vs∧∀j v,vs[j]? =some v→w.cell? (b.add (m+j))=some v
 | [],_,_=>⟨[],rfl,fun j v h=>by simp at h⟩
 | c::cs,m,h=>by
   obtain⟨u,h1,h2⟩:=h 0 c rfl
   obtain⟨vs,h3,h4⟩:=AB (cs:=cs) (m:=m+1) (fun q c hq=>by
    have:=h (q+1) c (by simpa using hq)
    rw [Nat.add_assoc,Nat.add_comm 1 q];exact this)
   refine⟨u::vs,⟨u,vs,rfl,UE h2,h3⟩,fun j v hj=>?_⟩
   cases j with
   | zero=>cases hj;exact h1
   | succ j=>have:=h4 j v (by simpa using hj);rw [Nat.add_assoc,Nat.add_comm 1 j] at this;exact this
theorem Mc {p:Option (Nat × Nat)} {e:Nat} {l:List (T.Tb e)} {ad:Addr} {n c:Nat} {i:Nat} (h:Rd T.sz w (jo σ.A F p) (.sl e (l.map (T.enc e))) (.slice (some ad) n c)) (hi:i<l.length):
  ∃vs,aY σ env F w ((T.cells e (bV T e l i)).map (toCell p)) vs∧∀j v,vs[j]? =some v→w.cell? ((ad.add (i*T.sz e)).add j)=some v:=by
 have hj:(l.map (T.enc e))[i]? =some (T.enc e (bV T e l i)):=by simp [bV,hi,List.getD_eq_getElem?_getD]
 obtain⟨ad',c',h1,_,_,_,_,h2⟩:=h.elem hj
 cases h1
 obtain⟨vs,h3,h4⟩:=AB (σ:=σ) (env:=env) (cs:=T.cells e (bV T e l i)) (p:=p) (F:=F) (w:=w) (b:=ad) (m:=i*T.sz e) (fun q c hq=>by
  refine h2 q (C0.yZ T.enc c) ?_
  rw [T.gG,List.getElem?_map,hq];rfl)
 exact⟨vs,h3,fun j v hj=>by rw [add_add];exact h4 j v hj⟩
def plS (r bv i o:Nat):Slot T→Slot T
 | .c (.im (some (r',kF)) e l)=>match Nat.beq r' r with
   | true=>match Nat.beq kF bv with
     | true=> .pl r bv i o e l
     | false=> .c (.im (some (r',kF)) e l)
   | false=> .c (.im (some (r',kF)) e l)
 | s=>s
theorem aa0 {r bv i o:Nat} {s:Slot T} {v:Value} (h:bT σ env F w s v) (hp:∀e l,s= .c (.im (some (r,bv)) e l)→∀e' l',σ.res r= .row bv e' l'→i<l'.length∧∃g c,F r g∧env r= .slice (some ⟨g,0,none⟩) l'.length c∧w.cell? ((⟨g,0,none⟩:Addr).add (i*T.sz e'+o))=some v):bT σ env F w (plS r bv i o s) v:=by
 unfold plS
 split
 ·rename_i r' kF e l
  cases h1:Nat.beq r' r<;>dsimp only
  ·exact h
  cases h2:Nat.beq kF bv<;>dsimp only
  ·exact h
  have:=Nat.eq_of_beq_eq_true h1
  subst this
  have:=Nat.eq_of_beq_eq_true h2
  subst this
  exact⟨h,hp e l rfl⟩
 ·exact h
theorem acn {i:TI} {t:Nat} (h:fM P t i) {cs:List (Cell T)} {n e:Nat} {p:Option (Nat × Nat)} {l:List (T.Tb e)} (hl:jK i cs n=some (.c (.im p e l))) {vs:List Value} {ad:Addr} (hc:aY σ env F w cs vs) (hv:∀j v,vs[j]? =some v→w.cell? (ad.add j)=some v) {v:Value} (hr:(Instr.loadAt t (.pointer (some (ad.add n)))).run P w= .ok v w):w.cell? (ad.add n)=some v:=by
 unfold jK at hl
 cases hs:isStr i.kind<;>rw [hs] at hl<;>dsimp only at hl
 ·cases hn:nth cs n with
  | none=>rw [hn] at hl;cases hl
  | some c=>
    obtain⟨u,h1,h2⟩:=Dz hc hn
    have h3:=zq h hs (hv n u h1)
    rw [hr] at h3
    cases h3
    exact hv n v h1
 ·split at hl<;>cases hl
def Ik (σ:St T) (dst:Option Nat) (t:Nat) (x:Operand):eX T:=
 match T.ti t with
 | some i=>match bQ σ dst with
   | true=>match dn σ x with
     | .c (.px r n)=>match σ.res r with
       | .bx _ cs=>match jK i cs n with
         | some s=> .done ⟨s,[],r::s.refs,0,[]⟩ none
         | none=> .stuck
       | _=> .stuck
     | .pi p e l j n=>match ug σ p with
       | true=>match jK i ((T.cells e (bV T e l j)).map (toCell p)) n with
         | some s=> .done ⟨s,[],tZ p++s.refs,0,[]⟩ none
         | none=> .stuck
       | false=> .stuck
     | .pe r j n=>match σ.res r with
       | .row bv e l=>match jK i ((T.cells e (bV T e l j)).map (toCell (some (r,bv)))) n with
         | some s=> .done ⟨plS r bv j n s,[],r::bv::s.refs,0,[]⟩ none
         | none=> .stuck
       | _=> .stuck
     | _=> .stuck
   | false=> .stuck
 | none=> .stuck
theorem uz {t:Nat} {x:Operand} (ho:o.op= .load t x) {v:Value} (h:(Instr.loadAt t (a.eval x)).run P w= .ok v w):(execOp a.eval o).run P w= .ok (.value v) w:=by
 unfold execOp;rw [ho];simp only [Sem.run_bind,h];rfl
theorem WA (hT:T.ok P) {t:Nat} {x:Operand} {U:bI T} {ob:Option Prop} (ho:o.op= .load t x) (h:Ik σ o.dst t x= .done U ob):eH P W0 o σ U:=by
 unfold Ik at h
 cases hi:T.ti t with
 | none=>rw [hi] at h;cases h
 | some i=>
   rw [hi] at h
   dsimp only at h
   cases hd:bQ σ o.dst<;>rw [hd] at h<;>dsimp only at h
   ·cases h
   have hty:=hT t i hi
   split at h
   ·rename_i r n hx
    split at h
    ·rename_i t' cs hr
     cases hs:jK i cs n with
     | none=>rw [hs] at h;cases h
     | some s=>
       rw [hs] at h
       cases h
       refine quiet_step (bn hd) (fun σ' a w env F hA hS=>?_)
       have e1:=bG hS hA (x:=x) (by simp [ho,Op.operands])
       rw [hx] at e1
       obtain⟨g,h1,h2⟩:=e1
       have h3:=hS.res r
       rw [hA.res r (by simp),hr] at h3
       obtain⟨g',arr,h4,h5,h6,h7,h8⟩:=h3
       rw [h1] at h4
       cases h4
       obtain⟨v,h9,h10⟩:=zf hty h8 (b:=⟨g,0,none⟩) (fun j v hj=>by rw [oD h7,←Array.getElem?_toList];exact hj) hs
       rw [add_lit,Nat.zero_add] at h9
       exact⟨v,uz ho (by rw [h2];exact h9),h10⟩
    ·cases h
   ·rename_i p e l j n hx
    cases hl:ug σ p<;>rw [hl] at h<;>dsimp only at h
    ·cases h
    cases hs:jK i ((T.cells e (bV T e l j)).map (toCell p)) n with
    | none=>rw [hs] at h;cases h
    | some s=>
      rw [hs] at h
      cases h
      refine quiet_step (bn hd) (fun σ' a w env F hA hS=>?_)
      have e1:=bG hS hA (x:=x) (by simp [ho,Op.operands])
      rw [hx] at e1
      obtain⟨hj,ad,h1,h2⟩:=e1
      obtain⟨c,h3⟩:=h2 (AL hA (fun r hr=>List.mem_append_left _ hr) (vI hl))
      obtain⟨vs,h4,h5⟩:=Mc (σ:=σ') (env:=env) h3 hj
      obtain⟨v,h9,h10⟩:=zf hty h4 h5 hs
      rw [add_add] at h9
      exact⟨v,uz ho (by rw [h1];exact h9),h10⟩
   ·rename_i r j n hx
    split at h
    ·rename_i bv e l hr
     cases hs:jK i ((T.cells e (bV T e l j)).map (toCell (some (r,bv)))) n with
     | none=>rw [hs] at h;cases h
     | some s=>
       rw [hs] at h
       cases h
       refine quiet_step (bn hd) (fun σ' a w env F hA hS=>?_)
       have e1:=bG hS hA (x:=x) (by simp [ho,Op.operands])
       rw [hx] at e1
       have hr':σ'.res r= .row bv e l:=by rw [hA.res r (by simp)];exact hr
       obtain⟨hj,g,c,h1,h2⟩:=e1.1 bv e l hr'
       have h3:=hS.res r
       rw [hr'] at h3
       have h3':Rd T.sz w (jo σ'.A F (some (r,bv))) (.sl e (l.map (T.enc e))) (env r):=(Ow.rd h3).mono (fun k hk=> .inr ⟨(r,bv),rfl,hk⟩)
       have hFg:F r g:=by
        rcases(show Ow T.sz w (F r) (.sl e (l.map (T.enc e))) (env r) from h3).form with ⟨h,_⟩ | ⟨g',c',_,h,hg,_⟩
        ·have h':=congrArg List.length h
         simp at h';subst h';simp at hj
        ·rw [h1] at h;simp only [Value.slice.injEq,Option.some.injEq,Addr.mk.injEq,and_true,true_and] at h;rw [h.1];exact hg
       rw [h1] at h3'
       obtain⟨vs,h4,h5⟩:=Mc (σ:=σ') (env:=env) h3' hj
       obtain⟨v,h9,h10⟩:=zf hty h4 h5 hs
       have h11:∀e1 l1,s= .c (.im (some (r,bv)) e1 l1)→w.cell? (((⟨g,0,none⟩:Addr).add (j*T.sz e)).add n)=some v:=fun e1 l1 hs'=>by
        rw [hs'] at hs
        exact acn hty hs h4 h5 h9
       rw [add_add] at h9 h11
       refine⟨v,uz ho (by rw [h2];exact h9),aa0 h10 (fun e1 l1 hs' e' l' hr2=>?_)⟩
       rw [hr'] at hr2
       cases hr2
       exact⟨hj,g,c,hFg,h1,h11 e1 l1 hs'⟩
    ·cases h
   ·cases h
end
end Go.Proofs.YtcnfgfomholheaaGreatDoor.Z
end
section
namespace Go.Proofs.YtcnfgfomholheaaGreatDoor.Z
open Go.RowKit
set_option linter.unusedVariables false
set_option linter.unusedSimpArgs false
section
variable {T:dX} {P:Program} {W0:Fr} {σ σ':St T} {a:Act} {w:World} {env:Nat→Value} {F:Nat→Nat→Prop} {o:Oper} {bF bH:List Nat}
def zu (s:Slot T) (k:Nat):Option (Slot T):=
 match s with
 | .c (.px r n)=>some (.c (.px r (n+k)))
 | .pi p e l i n=>some (.pi p e l i (n+k))
 | .pe r i n=>some (.pe r i (n+k))
 | _=>none
def Ko (σ:St T) (dst:Option Nat) (t:Nat) (x:Operand) (f:Nat):eX T:=
 match T.ti t with
 | some i=>match i.kind with
   | .str jh=>match nth jh f with
     | some (k,_)=>match zu (dn σ x) k with
       | some s=>match bQ σ dst with
         | true=> .done ⟨s,[],s.refs,0,[]⟩ none
         | false=> .stuck
       | none=> .stuck
     | none=> .stuck
   | _=> .stuck
 | none=> .stuck
theorem yY {α:Type}:∀{l:List α} {i:Nat} {x:α},nth l i=some x→l[i]? =some x
 | [],_,_,h=>by cases h
 | y::l,0,_,h=>by cases h;rfl
 | y::l,i+1,_,h=>by simpa using yY (l:=l) h
theorem Y6 {fs:List Field}:∀{jh:List (Nat × Nat)},fs.mapM (fun f=>(P.info? f.type).map fun i=>(f.offset,i.size))=some jh→∀{j:Nat} {p:Nat × Nat},jh[j]? =some p→∃(fd:Field) (g:TypeInfo),fs[j]? =some fd∧fd.offset=p.1∧P.info? fd.type=some g∧g.size=p.2:=by
 induction fs with
 | nil=>intro jh h j p hp;simp at h;subst h;simp at hp
 | cons f fs ih=>
   intro jh h j p hp
   simp only [List.mapM_cons,Option.bind_eq_bind,Option.pure_def] at h
   cases hi:P.info? f.type with
   | none=>simp [hi] at h
   | some i=>
     cases hr:fs.mapM (fun f=>(P.info? f.type).map fun i=>(f.offset,i.size)) with
     | none=>simp [hi,hr] at h
     | some rest=>
       simp [hi,hr] at h
       subst h
       cases j with
       | zero=>simp at hp;subst hp;exact⟨f,i,rfl,rfl,hi,rfl⟩
       | succ j=>simpa using ih hr (by simpa using hp)
theorem UF {fs:Array Field} {jh:List (Nat × Nat)} (h:fs.toList.mapM (fun f=>(P.info? f.type).map fun i=>(f.offset,i.size))=some jh) {j:Nat} {p:Nat × Nat} (hp:jh[j]? =some p):∃(fd:Field) (g:TypeInfo),fs[j]? =some fd∧fd.offset=p.1∧P.info? fd.type=some g∧g.size=p.2:=by
 obtain⟨fd,g,h1,h2⟩:=Y6 h hp
 exact⟨fd,g,by rw [←Array.getElem?_toList];exact h1,h2⟩
theorem UG {s s':Slot T} {k:Nat} {u:Value} (h:bT σ env F w s u) (hs:zu s k=some s'):∃ad,u= .pointer (some ad)∧bT σ env F w s' (.pointer (some (ad.add k)))∨(∃r i n,s= .pe r i n∧(∀bv e l,σ.res r≠ .row bv e l)∧(∀bv e l,σ.res r≠ .sh bv e l)∧∀e d j cs l,σ.res r≠ .hl e d j cs l):=by
 unfold zu at hs
 split at hs
 ·cases hs
  obtain⟨g,h1,h2⟩:=h
  exact⟨_, .inl ⟨h2,g,h1,by rw [add_lit]⟩⟩
 ·cases hs
  obtain⟨h0,ad,h1,h2⟩:=h
  exact⟨_, .inl ⟨h1,h0,ad,by rw [add_add,Nat.add_assoc],h2⟩⟩
 ·rename_i r i n
  cases hs
  by_cases hr:∃bv e l,σ.res r= .row bv e l
  ·obtain⟨bv,e,l,hr⟩:=hr
   obtain⟨h1,g,c,h2,h3⟩:=h.1 bv e l hr
   refine⟨_, .inl ⟨h3,fun kF e' l' hr'=>?_,fun kF e' l' hr'=>?_,fun e' d' j' cs' l' hr'=>?_⟩⟩
   ·rw [hr] at hr'
    cases hr'
    exact⟨h1,g,c,h2,by rw [add_add,Nat.add_assoc]⟩
   ·rw [hr] at hr'
    cases hr'
   ·rw [hr] at hr'
    cases hr'
  ·by_cases hr2:∃bv e l,σ.res r= .sh bv e l
   ·obtain⟨bv,e,l,hr2⟩:=hr2
    obtain⟨h1,g,c,h2,h3⟩:=h.2.1 bv e l hr2
    refine⟨_, .inl ⟨h3,fun kF e' l' hr'=>?_,fun kF e' l' hr'=>?_,fun e' d' j' cs' l' hr'=>?_⟩⟩
    ·rw [hr2] at hr'
     cases hr'
    ·rw [hr2] at hr'
     cases hr'
     exact⟨h1,g,c,h2,by rw [add_add,Nat.add_assoc]⟩
    ·rw [hr2] at hr'
     cases hr'
   ·by_cases hr3:∃e d j cs l,σ.res r= .hl e d j cs l
    ·obtain⟨e,d,j,cs,l,hr3⟩:=hr3
     obtain⟨h1,g,c,h2,h3⟩:=h.2.2 e d j cs l hr3
     refine⟨_, .inl ⟨h3,fun kF e' l' hr'=>?_,fun kF e' l' hr'=>?_,fun e' d' j' cs' l' hr'=>?_⟩⟩
     ·rw [hr3] at hr'
      cases hr'
     ·rw [hr3] at hr'
      cases hr'
     ·rw [hr3] at hr'
      cases hr'
      exact⟨h1,g,c,h2,by rw [add_add,Nat.add_assoc]⟩
    ·exact⟨⟨0,0,none⟩, .inr ⟨r,i,n,rfl,fun bv e l h=>hr ⟨bv,e,l,h⟩,fun bv e l h=>hr2 ⟨bv,e,l,h⟩,fun e d j cs l h=>hr3 ⟨e,d,j,cs,l,h⟩⟩⟩
 ·cases hs
def Y7 (σ:St T):Slot T→Bool
 | .pe r _ _=>match σ.res r with
   | .row _ _ _=>true
   | .sh _ _ _=>true
   | .hl _ _ _ _ _=>true
   | _=>false
 | _=>true
def Ai (σ:St T) (dst:Option Nat) (t:Nat) (x:Operand) (f:Nat):eX T:=
 match Y7 σ (dn σ x) with
 | true=>Ko σ dst t x f
 | false=> .stuck
theorem QY {s s':Slot T} {k:Nat} (hs:zu s k=some s'):s'.refs=s.refs:=by
 unfold zu at hs
 split at hs<;>first | (cases hs;done) | (cases hs;simp [Slot.refs,Cell.refs];try (split<;>rfl))
 rename_i p e l i n
 cases p<;>rfl
theorem UH {t:Nat} {x:Operand} {f:Nat} (ho:o.op= .fieldAddr t x f) {v:Value} (h:(Instr.fieldAt t (a.eval x) f).run P w= .ok v w):(execOp a.eval o).run P w= .ok (.value v) w:=by
 unfold execOp;rw [ho];simp only [Sem.run_bind,h];rfl
theorem Ui (hT:T.ok P) {t:Nat} {x:Operand} {f:Nat} {U:bI T} {ob:Option Prop} (ho:o.op= .fieldAddr t x f) (h:Ai σ o.dst t x f= .done U ob):eH P W0 o σ U:=by
 unfold Ai at h
 cases hp:Y7 σ (dn σ x)<;>rw [hp] at h<;>dsimp only at h
 ·cases h
 unfold Ko at h
 cases hi:T.ti t with
 | none=>rw [hi] at h;cases h
 | some i=>
   rw [hi] at h
   dsimp only at h
   split at h
   ·rename_i jh hk
    cases hn:nth jh f with
    | none=>rw [hn] at h;cases h
    | some ks=>
      obtain⟨k,sz⟩:=ks
      rw [hn] at h
      dsimp only at h
      cases hs:zu (dn σ x) k with
      | none=>rw [hs] at h;cases h
      | some s=>
        rw [hs] at h
        dsimp only at h
        cases hd:bQ σ o.dst<;>rw [hd] at h<;>cases h
        refine quiet_step (bn hd) (fun σ' a w env F hA hS=>?_)
        have e1:=bG hS hA (x:=x) (by simp [ho,Op.operands])
        obtain⟨inf,h1,h2,h3,h4,h5,h6,h7,h8⟩:=hT t i hi
        rw [hk] at h8
        obtain⟨fs,h9,h10,ab5⟩:=h8
        obtain⟨fd,g,h11,h12,h13,aem⟩:=UF h10 (yY hn)
        have BG:g.size≠0:=by rw [aem];exact ab5 _ (List.mem_of_getElem? (yY hn))
        obtain⟨ad,h15 | ⟨r,j,n,h15,h16⟩⟩:=UG e1 hs
        ·refine⟨_,UH ho ?_,h15.2⟩
         have hsz:∀w,(sizeOf fd.type).run P w= .ok g.size w:=fun w=>by simp [sizeOf,typeInfo,h13]
         rw [h15.1]
         simp [Instr.fieldAt,run_underlying h9,h11,Instr.sureAddr,fieldPlace,hsz,BG,h12]
        ·exfalso
         rw [h15] at hp hs
         unfold Y7 at hp
         have:r∈s.refs:=by rw [QY hs];simp [Slot.refs]
         cases hr:σ.res r with
         | row bv e l=>exact h16.1 bv e l (by rw [hA.res r this];exact hr)
         | sh bv e l=>exact h16.2.1 bv e l (by rw [hA.res r this];exact hr)
         | hl e d j cs l=>exact h16.2.2 e d j cs l (by rw [hA.res r this];exact hr)
         | no=>simp [hr] at hp
         | bx t cs=>simp [hr] at hp
   ·cases h
def tJ (σ:St T) (dst:Option Nat) (t:Nat) (x i:Operand):eX T:=
 match T.ti t with
 | some ti=>match ti.kind with
   | .slice e'=>match T.ti e' with
     | some _=>match bQ σ dst with
       | true=>match sv (dn σ i) with
         | some (.int _ n)=>match dn σ x with
           | .c (.im p e l)=>match ug σ p with
             | true=>match Nat.beq e e' with
               | true=> .done ⟨.pi p e l n.toNat 0,[],tZ p,0,[]⟩ (some (0≤n∧n<(l.length:Int)))
               | false=> .stuck
             | false=> .stuck
           | .c (.hd r)=>match σ.res r with
             | .row bv e l=>match Nat.beq e e' with
               | true=> .done ⟨.pe r n.toNat 0,[],[r],0,[]⟩ (some (0≤n∧n<(l.length:Int)))
               | false=> .stuck
             | _=> .stuck
           | _=> .stuck
         | _=> .stuck
       | false=> .stuck
     | none=> .stuck
   | _=> .stuck
 | none=> .stuck
theorem rP {t e:TypeId} {ad:Addr} {n c:Nat} {k:IntKind} {i:Int} {inf:TypeInfo} (h:P.underlying t=some (.slice e)) (hi:P.info? e=some inf) (h0:0≤i) (h1:i<n) (w:World):(Instr.indexAt t (.slice (some ad) n c) (.int k i)).run P w= .ok (.pointer (some (ad.add (i.toNat*inf.size)))) w:=by
 have hsz:∀w,(sizeOf e).run P w= .ok inf.size w:=fun w=>by simp [sizeOf,typeInfo,hi]
 simp [Instr.indexAt,run_underlying h,asIntOf,h0,h1,hsz]
theorem vC {t:Nat} {x i:Operand} (ho:o.op= .indexAddr t x i) {v:Value} (h:(Instr.indexAt t (a.eval x) (a.eval i)).run P w= .ok v w):(execOp a.eval o).run P w= .ok (.value v) w:=by
 unfold execOp;rw [ho];simp only [Sem.run_bind,h];rfl
theorem kV {e:Nat} {i:TI} (h:T.ti e=some i):T.sz e=i.size:=by simp [dX.sz,h]
theorem J8 (hT:T.ok P) {t:Nat} {x i:Operand} {U:bI T} {ob:Option Prop} (ho:o.op= .indexAddr t x i) (h:tJ σ o.dst t x i= .done U ob) (hob:pG ob):eH P W0 o σ U:=by
 unfold tJ at h
 cases hi:T.ti t with
 | none=>rw [hi] at h;cases h
 | some ti=>
   rw [hi] at h
   dsimp only at h
   split at h
   ·rename_i e' hk
    cases he:T.ti e' with
    | none=>rw [he] at h;cases h
    | some ei=>
      rw [he] at h
      dsimp only at h
      cases hd:bQ σ o.dst<;>rw [hd] at h<;>dsimp only at h
      ·cases h
      obtain⟨inf,h1,h2,h3,h4,h5,h6,h7,h8⟩:=hT t ti hi
      obtain⟨inf',g1,g2,_⟩:=hT e' ei he
      rw [hk] at h8
      split at h
      ·rename_i k n hn
       split at h
       ·rename_i p e l hx
        cases hl:ug σ p<;>rw [hl] at h<;>dsimp only at h
        ·cases h
        cases hb:Nat.beq e e'<;>rw [hb] at h<;>cases h
        have hee:=Nat.eq_of_beq_eq_true hb
        subst hee
        refine quiet_step (bn hd) (fun σ' a w env F hA hS=>?_)
        have e1:=bG hS hA (x:=x) (by simp [ho,Op.operands])
        have e2:=iP (bG hS hA (x:=i) (by simp [ho,Op.operands])) hn
        rw [hx] at e1
        have hlv:=AL hA (fun r hr=>hr) (vI hl)
        have h10:=e1.2 hlv
        have hob:0≤n∧n<(l.length:Int):=hob
        have hlt:n.toNat<l.length:=by omega
        obtain⟨ad,c,h11,_,_,_,_,_⟩:=h10.elem (j:=n.toNat) (l:=T.enc e (l[n.toNat])) (by simp [hlt])
        refine⟨.pointer (some (ad.add (n.toNat*inf'.size))),vC ho ?_,hlt,ad,by rw [kV he,←g2];rfl,fun _=>⟨c,by rw [h11] at h10;simpa using h10⟩⟩
        rw [h11,e2]
        exact rP h8.1 g1 hob.1 (by simpa using hob.2) w
       ·rename_i r hx
        split at h
        ·rename_i bv e l hr
         cases hb:Nat.beq e e'<;>rw [hb] at h<;>cases h
         have hee:=Nat.eq_of_beq_eq_true hb
         subst hee
         refine quiet_step (bn hd) (fun σ' a w env F hA hS=>?_)
         have e1:=bG hS hA (x:=x) (by simp [ho,Op.operands])
         have e2:=iP (bG hS hA (x:=i) (by simp [ho,Op.operands])) hn
         rw [hx] at e1
         have hr':σ'.res r= .row bv e l:=by rw [hA.res r (by simp)];exact hr
         have h10:=hS.res r
         rw [hr'] at h10
         have hob:0≤n∧n<(l.length:Int):=hob
         have hlt:n.toNat<l.length:=by omega
         have h12:Ow T.sz w (F r) (.sl e (l.map (T.enc e))) (env r):=h10
         have h13:∃g c,env r= .slice (some ⟨g,0,none⟩) l.length c:=by
          rcases h12.form with ⟨h,_⟩ | ⟨g,c,_,h,_⟩
          ·have h':=congrArg List.length h
           simp at h';subst h';simp at hlt
          ·exact⟨g,c,by simpa using h⟩
         obtain⟨g,c,BG⟩:=h13
         refine⟨.pointer (some ((⟨g,0,none⟩:Addr).add (n.toNat*inf'.size))),vC ho ?_,?_⟩
         ·rw [e1.1,BG,e2]
          exact rP h8.1 g1 hob.1 (by simpa using hob.2) w
         ·refine⟨fun kF e' l' jS=>?_,fun kF e' l' jS=>?_,fun e' d' j' cs' l' jS=>by rw [hr'] at jS;cases jS⟩
          ·rw [hr'] at jS
           cases jS
           exact⟨hlt,g,c,BG,by rw [kV he,←g2];rfl⟩
          ·rw [hr'] at jS
           cases jS
        ·cases h
       ·cases h
      ·cases h
   ·cases h
def bt (s:ByteArray) (i:Int):Int:=if h:i.toNat<s.size then ((s[i.toNat]'h).toNat:Int) else 0
def Ew (σ:St T) (dst:Option Nat) (t:Nat) (x i:Operand):eX T:=
 match T.ti t with
 | some ti=>match ti.kind with
   | .text=>match bQ σ dst with
     | true=>match sv (dn σ i) with
       | some (.int _ n)=>match sv (dn σ x) with
         | some (.string b)=> .done ⟨.c (.sc (.int .u8 (bt b n))),[],[],0,[]⟩ (some (0≤n∧n<(b.size:Int)))
         | _=> .stuck
       | _=> .stuck
     | false=> .stuck
   | _=> .stuck
 | none=> .stuck
theorem Uj (hT:T.ok P) {t:Nat} {x i:Operand} {U:bI T} {ob:Option Prop} (ho:o.op= .index t x i) (h:Ew σ o.dst t x i= .done U ob) (hob:pG ob):eH P W0 o σ U:=by
 unfold Ew at h
 cases hi:T.ti t with
 | none=>rw [hi] at h;cases h
 | some ti=>
   rw [hi] at h
   dsimp only at h
   split at h
   ·rename_i hk
    cases hd:bQ σ o.dst<;>rw [hd] at h<;>dsimp only at h
    ·cases h
    obtain⟨inf,h1,h2,h3,h4,h5,h6,h7,h8⟩:=hT t ti hi
    rw [hk] at h8
    split at h
    ·rename_i k n hn
     split at h
     ·rename_i b hb
      cases h
      refine quiet_step (bn hd) (fun σ' a w env F hA hS=>⟨_,?_,⟨rfl,rfl⟩⟩)
      have e1:=iP (bG hS hA (x:=x) (by simp [ho,Op.operands])) hb
      have e2:=iP (bG hS hA (x:=i) (by simp [ho,Op.operands])) hn
      have hob:0≤n∧n<(b.size:Int):=hob
      have hlt:n.toNat<b.size:=by omega
      unfold execOp;rw [ho]
      simp [e1,e2,Instr.index,asIntOf,run_underlying h8.1,hob.1,hlt,bt]
     ·cases h
    ·cases h
   ·cases h
end
end Go.Proofs.YtcnfgfomholheaaGreatDoor.Z
end
section
namespace Go.Proofs.YtcnfgfomholheaaGreatDoor.Z
open Go.RowKit
set_option linter.unusedVariables false
set_option linter.unusedSimpArgs false
section
variable {T:dX} {P:Program} {W0:Fr} {σ σ' σ1:St T} {a:Act} {w w1:World} {env bD:Nat→Value} {F F1:Nat→Nat→Prop} {o:Oper} {bF bH:List Nat}
def fu {α:Type} (f:Nat→α) (r:Nat) (x:α):Nat→α:=fun s=>match Nat.beq s r with
 | true=>x
 | false=>f s
theorem vU {α:Type} (f:Nat→α) (r:Nat) (x:α):fu f r x r=x:=by simp [fu,Nat.beq_eq]
theorem EO {α:Type} (f:Nat→α) {r s:Nat} (x:α) (h:s≠r):fu f r x s=f s:=by simp [fu,fD h]
structure Grew (w w1:World):Prop where
 os:w1.os=w.os
 tape:w1.tape=w.tape
 output:w1.output=w.output
 size:w.heap.size≤w1.heap.size
 block:∀k,k<w.heap.size→w1.heap[k]? =w.heap[k]?
theorem Grew.below (h:Grew w w1):Below w.heap.size w w1:=⟨h.os,h.tape,h.output,h.size,h.block⟩
theorem Grew.of_below (h:Below w.heap.size w w1):Grew w w1:=⟨h.os,h.tape,h.output,h.size,h.block⟩
theorem Grew.alloc (w:World) (o:Obj):Grew w (w.alloc o):= .of_below ((Below.refl _ _).alloc (Nat.le_refl _) o)
theorem Grew.drew (w:World):Grew w w.drew:=⟨rfl,rfl,rfl,Nat.le_refl _,fun _ _=>rfl⟩
theorem Grew.trans {w2:World} (h:Grew w w1) (k:Grew w1 w2):Grew w w2:=⟨k.os.trans h.os,k.tape.trans h.tape,k.output.trans h.output,Nat.le_trans h.size k.size,fun i hi=>(k.block i (Nat.lt_of_lt_of_le hi h.size)).trans (h.block i hi)⟩
theorem rO (h:mV W0 w) (g:Grew w w1):mV W0 w1:=h.step g.os g.tape g.output g.size (fun k hk _=>g.block k hk)
theorem fQ (h:eU W0 σ a w env F) {r k:Nat} (hk:F r k):k<w.heap.size:=(h.own r k hk).2
theorem eU.fresh (h:eU W0 σ a w env F) {r:Nat} (hu:jI σ r) (hn:σ.res r= .no) (g:Grew w w1) {u:Value} {G:Nat→Prop} (hG:∀k,G k→w.heap.size≤k∧k<w1.heap.size) {x:dB T} {dst:Option Nat} {s:Slot T} {bF bH:List Nat} {nx:Nat} {v:Value}
  (hx:∀{σ1:St T} {bD F1},Calm σ σ1 F F1 w w1→bD r=u→(∀k,F1 r k↔G k)→(∀q,q≠r→bD q=env q)→(∀q:Nat × Nat,q.1≠r→Holds σ σ1 F F1 w w1 q)→oJ σ1 bD F1 w1 r x)
  (hs:∀{σ1:St T} {bD F1},Calm σ σ1 F F1 w w1→bD r=u→(∀q,q≠r→bD q=env q)→(∀q:Nat × Nat,q.1≠r→Holds σ σ1 F F1 w w1 q)→σ1.res r=x→bT σ1 bD F1 w1 s v)
  (hd:∀d,dst=some d→d<σ.n):jD W0 (σ.upd dst ⟨s,[(r,x)],bF,nx,bH⟩) (a.put dst v) w1:=by
 have hres:∀q,q≠r→(σ.upd dst ⟨s,[(r,x)],bF,nx,bH⟩).res q=σ.res q:=fun q hq=>St.nO (fun p hp=>by simp at hp;subst hp;exact fun e=>hq e.symm)
 have iZ:(σ.upd dst ⟨s,[(r,x)],bF,nx,bH⟩).res r=x:=by rw [St.dP];simp [lk]
 have hFo:∀k,k<w.heap.size→¬G k:=fun k hk hg=>by have:=(hG k hg).1;omega
 have calm:Calm σ (σ.upd dst ⟨s,[(r,x)],bF,nx,bH⟩) F (fu F r G) w w1:=⟨St.iI _ _ _,g.size,fun k hk hst=>⟨fun q hq=>by
  by_cases e:q=r
  ·subst e;rw [vU] at hq;exact hFo k hk hq
  ·rw [EO _ _ e] at hq;exact hst q hq,g.block k hk⟩⟩
 have same:∀q,q≠r→Same σ (σ.upd dst ⟨s,[(r,x)],bF,nx,bH⟩) env (fu env r u) F (fu F r G) w w1 q:=fun q hq=>
  ⟨EO _ _ hq,fun k=>by rw [EO _ _ hq],hres q hq,fun k hk=>g.block k (fQ h hk)⟩
 refine h.upd (bD:=fu env r u) (F1:=fu F r G) (fun q=>q=r) (rO h.below g) calm same ?_ ?_ ?_ (fun q hq=> .inl (by subst hq;exact hu)) (fun d hd'=>⟨hd d hd',?_⟩)
 ·rintro q rfl
  rw [iZ]
  exact hx calm (vU _ _ _) (fun k=>by rw [vU]) (fun q hq=>EO _ _ hq) (fun q hq=>(same q.1 hq).holds)
 ·rintro q k rfl hk
  rw [vU] at hk
  exact⟨h.below.may (hG k hk).1,(hG k hk).2⟩
 ·rintro q s k rfl hk hk2
  rw [vU] at hk
  by_cases e:s=q
  ·exact e.symm
  ·rw [EO _ _ e] at hk2
   have:=fQ h hk2
   have:=(hG k hk).1
   omega
 ·exact hs calm (vU _ _ _) (fun q hq=>EO _ _ hq) (fun q hq=>(same q.1 hq).holds) iZ
theorem Aw (w:World) (o:Obj):(w.alloc o).heap[w.heap.size]? =some o:=heap_alloc_new w o
theorem wS (w:World) (o:Obj):(w.alloc o).heap.size=w.heap.size+1:=by show(w.heap.push o).size=_;simp
theorem eU.aco (h:eU W0 σ a w env F) {r:Nat} (hu:jI σ r) (hn:σ.res r= .no) {t:Nat} {cs:List (Cell T)} {arr:Array Value} (hc:aY σ env F w cs arr.toList) (hr:r∉refsOf cs) {dst:Option Nat} {bF bH:List Nat} {nx:Nat} (hd:∀d,dst=some d→d<σ.n):
  jD W0 (σ.upd dst ⟨.c (.px r 0),[(r, .bx t cs)],bF,nx,bH⟩) (a.put dst (.pointer (some ⟨w.heap.size,0,none⟩))) (w.alloc (.cells arr t)):=by
 refine h.fresh hu hn (Grew.alloc w _) (u:= .pointer (some ⟨w.heap.size,0,none⟩)) (G:=fun k=>k=w.heap.size) (fun k hk=>by subst hk;rw [wS];omega) ?_ ?_ hd
 ·intro σ1 bD F1 calm he hG hoth hv
  exact⟨w.heap.size,arr,he,(hG _).2 rfl,fun k hk=>(hG k).1 hk,Aw w _,kD calm hc (fun q hq=>hoth q (fun e=>hr (e▸hq))) (fun q hq=>hv q (fun e=>hr (e▸Fj hq)))⟩
 ·intro σ1 bD F1 calm he hoth hv hres
  exact⟨w.heap.size,he,rfl⟩
def Ey (σ:St T) (nx:Nat) (dst:Option Nat) (t:Nat) (cs:List (Cell T)):eX T:=
 match bQ σ dst with
 | true=>match σ.fresh nx with
   | true=>match jH nx (refsOf cs) with
     | false=> .done ⟨.c (.px nx 0),[(nx, .bx t cs)],nx::refsOf cs,1,[nx]⟩ none
     | true=> .stuck
   | false=> .stuck
 | false=> .stuck
theorem PD {nx t:Nat} {cs:List (Cell T)} {U:bI T} {ob:Option Prop} (h:Ey σ nx o.dst t cs= .done U ob)
  (hrun:∀(σ':St T) (a:Act) (w:World) (env:Nat→Value) (F:Nat→Nat→Prop),Agree σ σ' (kL o.op) (nx::refsOf cs) [nx]→eU W0 σ' a w env F→∃arr,(execOp a.eval o).run P w= .ok (.value (.pointer (some ⟨w.heap.size,0,none⟩))) (w.alloc (.cells arr t))∧aY σ' env F w cs arr.toList):eH P W0 o σ U:=by
 unfold Ey at h
 cases hd:bQ σ o.dst<;>rw [hd] at h<;>dsimp only at h
 ·cases h
 cases hf:σ.fresh nx<;>rw [hf] at h<;>dsimp only at h
 ·cases h
 cases hr:jH nx (refsOf cs)<;>rw [hr] at h<;>cases h
 intro σ' a w K Q hA ⟨env,F,hS⟩ hK
 obtain⟨arr,h1,h2⟩:=hrun σ' a w env F hA hS
 obtain⟨h3,h4⟩:=hA.new (by simp) hf
 refine jC h1 (hK _ _ ?_)
 refine hS.aco h3 h4 h2 (fun hm=>?_) (fun d hd'=>by rw [hA.n];exact bn hd d hd')
 rw [ig.2 hm] at hr;cases hr
def Es (σ:St T) (nx:Nat) (dst:Option Nat) (t:Nat):eX T:=
 match T.ti t with
 | some i=>match pO i.zero with
   | true=>Ey σ nx dst t (SA i.zero)
   | false=> .stuck
 | none=> .stuck
theorem Ub (hT:T.ok P) {nx t:Nat} {U:bI T} {ob:Option Prop} (ho:o.op= .alloc t) (h:Es σ nx o.dst t= .done U ob):eH P W0 o σ U:=by
 unfold Es at h
 cases hi:T.ti t with
 | none=>rw [hi] at h;cases h
 | some i=>
   rw [hi] at h
   dsimp only at h
   cases ha:pO i.zero<;>rw [ha] at h<;>dsimp only at h
   ·cases h
   refine PD h (fun σ' a w env F hA hS=>?_)
   obtain⟨inf,h1,h2,h3,⟨z,h4,h4'⟩,h5,h6,h7,h8⟩:=hT t i hi
   refine⟨i.zero.toArray,?_,by simpa using EH ha⟩
   unfold execOp;rw [ho]
   simp [Instr.alloc,zeroValue,typeInfo,h1,h4,newVar,newRow,h4',Sem.run_bind]
def cellsS:Slot T→Option (List (Cell T))
 | .c .un=>none
 | .c x=>some [x]
 | .ag l=>some l
 | _=>none
theorem lG {s:Slot T} {u:Value} {cs:List (Cell T)} (h:bT σ env F w s u) (hs:cellsS s=some cs):aY σ env F w cs u.cells.toList:=by
 unfold cellsS at hs
 split at hs<;>first | (cases hs;done) | cases hs
 ·rename_i x hx
  have h':iK σ env F w x u:=h
  have h1:u.oneCell'=true:=by
   cases x with
   | un=>exact(hx rfl).elim
   | sc v=>exact h'.2
   | im p e l=>exact h'.1
   | hd r=>exact h'.2
   | px r o=>obtain⟨g,_,h2⟩:=h';rw [h2];rfl
  have h2:u.cells.toList=[u]:=by cases u<;>first | rfl | (simp [Value.oneCell'] at h1)
  rw [h2]
  exact⟨u,[],rfl,h',rfl⟩
 ·obtain⟨us,e,h⟩:=h;rw [e];exact h
def Nz (σ:St T) (nx:Nat) (dst:Option Nat) (t:Nat) (x:Operand):eX T:=
 match cellsS (dn σ x) with
 | some cs=>Ey σ nx dst t cs
 | none=> .stuck
theorem YH {nx t:Nat} {x:Operand} {U:bI T} {ob:Option Prop} (ho:o.op= .box t x) (h:Nz σ nx o.dst t x= .done U ob):eH P W0 o σ U:=by
 unfold Nz at h
 cases hc:cellsS (dn σ x) with
 | none=>rw [hc] at h;cases h
 | some cs=>
   rw [hc] at h
   refine PD h (fun σ' a w env F hA hS=>?_)
   have e1:=bG hS hA (x:=x) (by simp [ho,Op.operands])
   refine⟨(a.eval x).cells,?_,lG e1 hc⟩
   unfold execOp;rw [ho]
   simp [Instr.box,newVar,newRow,Sem.run_bind]
def KA:List (Cell T)→Bool
 | []=>true
 | .un::_=>false
 | _::l=>KA l
theorem GI {vs:List Value}:∀{cs:List (Cell T)} {vs:List Value},KA cs=true→aY σ env F w cs vs→∀v∈vs,v.oneCell'=true
 | [],_,_,h,v,hv=>by cases h;cases hv
 | c::cs,_,hs,⟨u,r,e,h1,h2⟩,v,hv=>by
   subst e
   rcases List.mem_cons.1 hv with rfl | hv
   ·cases c with
    | un=>cases hs
    | sc v'=>exact h1.2
    | im p e l=>exact h1.1
    | hd r=>exact h1.2
    | px r o=>obtain⟨g,_,h3⟩:=h1;rw [h3];rfl
   ·exact GI (cs:=cs) (vs:=r) (by cases c<;>first | (cases hs;done) | exact hs) h2 v hv
theorem lF:∀{cs ds:List (Cell T)} {vs us:List Value},aY σ env F w cs vs→aY σ env F w ds us→aY σ env F w (cs++ds) (vs++us)
 | [],_,_,_,h,h'=>by cases h;exact h'
 | c::cs,_,_,_,⟨u,r,e,h1,h2⟩,h'=>by subst e;exact⟨u,_,rfl,h1,lF h2 h'⟩
def splice {α:Type} (cs:List α) (n:Nat) (vs:List α):List α:=cs.take n++vs++cs.drop (n+vs.length)
def En (σ:St T) (dst:Option Nat) (t:Nat) (x v:Operand):eX T:=
 match dst with
 | none=>match T.ti t with
   | some i=>match dn σ x with
     | .c (.px r n)=>match σ.res r with
       | .bx tb cs=>match cellsS (dn σ v) with
         | some vs=>match KA vs with
           | true=>match Nat.beq vs.length i.size with
             | true=>match Nat.ble (n+vs.length) cs.length with
               | true=> .done ⟨.ud,[(r, .bx tb (splice cs n vs))],r::refsOf (splice cs n vs),0,[r]⟩ none
               | false=> .stuck
             | false=> .stuck
           | false=> .stuck
         | none=> .stuck
       | _=> .stuck
     | _=> .stuck
   | none=> .stuck
 | some _=> .stuck
theorem uf {i:TI} {t:Nat} (h:fM P t i) {v:Value} {g n:Nat} {tb:Nat} {arr:Array Value} {w:World} (hg:w.heap[g]? =some (.cells arr tb (0,0))) (hl:v.cells.size=i.size) (hf:n+v.cells.size≤arr.size) (h1:∀u∈v.cells.toList,u.oneCell'=true):
  (Instr.storeAt t (.pointer (some ⟨g,n,none⟩)) v).run P w= .ok () (w.setRow g (splice arr.toList n v.cells.toList).toArray):=by
 obtain⟨inf,g1,g2,_⟩:=h
 have hsz:∀w,(sizeOf t).run P w= .ok i.size w:=fun w=>by simp [sizeOf,typeInfo,g1,g2]
 have hst:=run_storeCells_at P g n tb v.cells.toList 0 arr w hg (by simpa using hf) h1
 simp only [Nat.add_zero] at hst
 simp [Instr.storeAt,Instr.sureAddr,storeVar,hsz,hl,hst,splice]
theorem vG {t:Nat} {x v:Operand} (ho:o.op= .store t x v) {w':World} (h:(Instr.storeAt t (a.eval x) (a.eval v)).run P w= .ok () w'):(execOp a.eval o).run P w= .ok .skip w':=by
 unfold execOp;rw [ho];simp only [Sem.run_bind,h];rfl
theorem below_setRow (h:mV W0 w) {g:Nat} (hg:W0.may g) (cs:Array Value):mV W0 (w.setRow g cs):=
 h.step rfl rfl rfl (by rw [setRow_size];exact Nat.le_refl _) (fun k _ hk=>setRow_other w g k cs (fun e=>hk (e▸hg)))
theorem Ud (hT:T.ok P) {t:Nat} {x v:Operand} {U:bI T} {ob:Option Prop} (ho:o.op= .store t x v) (h:En σ o.dst t x v= .done U ob):eH P W0 o σ U:=by
 unfold En at h
 split at h
 ·rename_i hdn
  cases hi:T.ti t with
  | none=>rw [hi] at h;cases h
  | some i=>
    rw [hi] at h
    dsimp only at h
    split at h
    ·rename_i r n hx
     split at h
     ·rename_i tb cs hr
      cases hc:cellsS (dn σ v) with
      | none=>rw [hc] at h;cases h
      | some vs=>
        rw [hc] at h
        dsimp only at h
        cases hs:KA vs<;>rw [hs] at h<;>dsimp only at h
        ·cases h
        cases hb:Nat.beq vs.length i.size<;>rw [hb] at h<;>dsimp only at h
        ·cases h
        cases hbl:Nat.ble (n+vs.length) cs.length<;>rw [hbl] at h<;>cases h
        intro σ' a w K Q hA ⟨env,F,hS⟩ hK
        have e1:=bG hS hA (x:=x) (by simp [ho,Op.operands])
        have e2:=bG hS hA (x:=v) (by simp [ho,Op.operands])
        rw [hx] at e1
        obtain⟨g,h1,h2⟩:=e1
        have hr':σ'.res r= .bx tb cs:=by rw [hA.res r (by simp)];exact hr
        have h3:=hS.res r
        rw [hr'] at h3
        obtain⟨g',arr,h4,h5,h6,h7,h8⟩:=h3
        rw [h1] at h4
        cases h4
        have hcv:=lG e2 hc
        have hl1:=jq hcv
        have hl2:=jq h8
        have hb':=Nat.eq_of_beq_eq_true hb
        have O7:=Nat.le_of_ble_eq_true hbl
        simp only [Array.length_toList] at hl1 hl2
        have hrun:=uf (hT t i hi) (v:=a.eval v) h7 (by omega) (by omega:n+(a.eval v).cells.size≤arr.size) (GI (vs:=[]) hs hcv)
        refine vF (vG ho (by rw [h2];exact hrun)) (hK _ _ ?_)
        have hgW:=hS.own r g h5
        have hoth:∀q k,q≠r→F q k→k≠g:=fun q k hq hk e=>hq (hS.apart q r k hk (e▸h5))
        have hres:∀q,q≠r→(σ'.upd o.dst ⟨.ud,[(r, .bx tb (splice cs n vs))],r::refsOf (splice cs n vs),0,[r]⟩).res q=σ'.res q:=fun q hq=>St.nO (fun p hp=>by simp at hp;subst hp;exact fun e=>hq e.symm)
        have iZ:(σ'.upd o.dst ⟨.ud,[(r, .bx tb (splice cs n vs))],r::refsOf (splice cs n vs),0,[r]⟩).res r= .bx tb (splice cs n vs):=by rw [St.dP];simp [lk]
        have calm:Calm σ' (σ'.upd o.dst ⟨.ud,[(r, .bx tb (splice cs n vs))],r::refsOf (splice cs n vs),0,[r]⟩) F F w (w.setRow g (splice arr.toList n (a.eval v).cells.toList).toArray):=⟨St.iI _ _ _,by rw [setRow_size];exact Nat.le_refl _,fun k hk hst=>⟨hst,setRow_other w g k _ (fun e=>hst r (e▸h5))⟩⟩
        have same:∀q,q≠r→Same σ' (σ'.upd o.dst ⟨.ud,[(r, .bx tb (splice cs n vs))],r::refsOf (splice cs n vs),0,[r]⟩) env env F F w (w.setRow g (splice arr.toList n (a.eval v).cells.toList).toArray) q:=fun q hq=>⟨rfl,fun _=>Iff.rfl,hres q hq,fun k hk=>setRow_other w g k _ (hoth q k hq hk)⟩
        have hold:∀q:Nat × Nat,Holds σ' (σ'.upd o.dst ⟨.ud,[(r, .bx tb (splice cs n vs))],r::refsOf (splice cs n vs),0,[r]⟩) F F w (w.setRow g (splice arr.toList n (a.eval v).cells.toList).toArray) q:=by
         intro q
         by_cases e:q.1=r
         ·rintro⟨e',l,hl⟩
          rw [e,iZ] at hl
          cases hl
         ·exact(same q.1 e).holds
        refine hS.upd (bD:=env) (F1:=F) (fun q=>q=r) (below_setRow hS.below hgW.1 _) calm same ?_ ?_ ?_ ?_ (fun d hd=>by rw [hdn] at hd;cases hd)
        ·rintro q rfl
         rw [iZ]
         refine⟨g,_,h1,h5,h6,setRow_heap w g arr _ tb _ h7,?_⟩
         have hsp:aY σ' env F w (splice cs n vs) (splice arr.toList n (a.eval v).cells.toList):=by
          unfold splice
          rw [show(a.eval v).cells.toList.length=vs.length from by simp [hl1]]
          exact lF (lF (rH n h8) hcv) (rJ _ h8)
         simpa using kD calm hsp (fun _ _=>rfl) (fun q _=>hold q)
        ·rintro q k rfl hk
         have:=hS.own q k hk
         exact⟨this.1,by rw [setRow_size];exact this.2⟩
        ·rintro q s k rfl hk hk2
         exact hS.apart q s k hk hk2
        ·rintro q rfl
         exact .inr ⟨rfl,⟨fun bv e l hl=>(by rw [iZ] at hl;cases hl),fun bv e l hl=>(by rw [iZ] at hl;cases hl),fun e' d' j' cs' l' hl=>(by rw [iZ] at hl;cases hl)⟩,fun b=> .inl (hold (q,b))⟩
     ·cases h
    ·cases h
 ·cases h
end
end Go.Proofs.YtcnfgfomholheaaGreatDoor.Z
end
section
namespace Go.Proofs.YtcnfgfomholheaaGreatDoor.Z
open Go.RowKit
set_option linter.unusedVariables false
set_option linter.unusedSimpArgs false
section
variable {T:dX} {P:Program} {W0:Fr} {σ σ' σ1:St T} {a:Act} {w w1:World} {env bD:Nat→Value} {F F1:Nat→Nat→Prop} {o:Oper} {bF bH:List Nat}
def FY (σ:St T):Cell T→Option (C0 T.Tb × List (Nat × Nat))
 | .sc v=>some (.sc v,[])
 | .im none e l=>some (.sl e l,[])
 | .im (some q) e l=>match ug σ (some q) with
   | true=>some (.sl e l,[q])
   | false=>none
 | .hd r=>match σ.res r with
   | .row bv e l=>some (.sl e l,[(r,bv)])
   | .sh bv e l=>some (.sl e l,[(r,bv)])
   | _=>none
 | _=>none
def EP (σ:St T):List (Cell T)→Option (List (C0 T.Tb) × List (Nat × Nat))
 | []=>some ([],[])
 | c::cs=>match FY σ c with
   | some (x,p)=>match EP σ cs with
     | some (xs,ps)=>some (x::xs,p++ps)
     | none=>none
   | none=>none
def UJ (σ:St T):Slot T→Option (Arg T.Tb × List (Nat × Nat))
 | .c x=>match FY σ x with
   | some (y,p)=>some (.c y,p)
   | none=>none
 | .ag l=>match EP σ l with
   | some (y,p)=>some (.ag y,p)
   | none=>none
 | _=>none
def zZ (σ:St T):List (Slot T)→Option (List (Arg T.Tb) × List (Nat × Nat))
 | []=>some ([],[])
 | c::cs=>match UJ σ c with
   | some (x,p)=>match zZ σ cs with
     | some (xs,ps)=>some (x::xs,p++ps)
     | none=>none
   | none=>none
def jP (A:Nat→Prop) (F:Nat→Nat→Prop) (ps:List (Nat × Nat)) (k:Nat):Prop:=(A k∧∀r,¬F r k)∨∃q∈ps,F q.1 k
theorem FZ {ts:List Nat} (h:eU W0 σ' a w env F) (hA:Agree σ σ' ts bF bH) {c:Cell T} {v:Value} (hc:iK σ' env F w c v) {x:C0 T.Tb} {ps:List (Nat × Nat)} (hx:FY σ c=some (x,ps)) (hp:∀q∈ps,q.1∈bF):sG w (jP σ'.A F ps) x v:=by
 unfold FY at hx
 split at hx
 ·cases hx;exact hc
 ·cases hx
  exact(hc.2 trivial).mono (fun k hk=>hk.elim .inl (fun⟨q,hq,_⟩=>by cases hq))
 ·rename_i q e l
  cases hl:ug σ (some q)<;>rw [hl] at hx<;>cases hx
  obtain⟨e',l',hl'⟩:=vI hl
  have h1:σ'.live (some q):=⟨e',l',by rw [hA.res q.1 (hp q (by simp))];exact hl'⟩
  exact(hc.2 h1).mono (fun k hk=>hk.elim .inl (fun⟨q',hq,hk⟩=>by cases hq;exact .inr ⟨q,by simp,hk⟩))
 ·rename_i r
  cases hr:σ.res r with
  | row bv e l=>
    rw [hr] at hx
    cases hx
    have h1:=h.res r
    rw [hA.res r (hp (r,bv) (by simp)),hr] at h1
    have h2:=(Ow.rd h1).mono (P':=jP σ'.A F [(r,bv)]) (fun k hk=> .inr ⟨(r,bv),by simp,hk⟩)
    rw [←hc.1] at h2
    exact h2
  | no=>rw [hr] at hx;cases hx
  | bx t cs=>rw [hr] at hx;cases hx
  | hl e d j cs l=>rw [hr] at hx;cases hx
  | sh bv e l=>
    rw [hr] at hx
    cases hx
    have h1:=h.res r
    rw [hA.res r (hp (r,bv) (by simp)),hr] at h1
    rw [hc.1]
    show Rd T.sz w (jP σ'.A F [(r,bv)]) (.sl e (l.map (T.enc e))) (env r)
    exact Sh.rd h1 (fun k hk=> .inr ⟨(r,bv),by simp,hk⟩) (fun k hk=>hk.elim .inl (fun⟨q,hq,_⟩=>by cases hq))
 ·cases hx
theorem rC {S S':Nat→Prop} {x:C0 T.Tb} {v:Value} (h:sG w S x v) (hS:∀k,S k→S' k):sG w S' x v:=by
 cases x with
 | sc v'=>exact h
 | sl e l=>exact Rd.mono h hS
theorem pX {S S':Nat→Prop} (hS:∀k,S k→S' k):∀{x:List (C0 T.Tb)} {v:List Value},eP w S x v→eP w S' x v
 | [],_,h=>h
 | c::cs,_,⟨v,r,e,h1,h2⟩=>⟨v,r,e,rC h1 hS,pX hS h2⟩
theorem Fv {S S':Nat→Prop} {x:Arg T.Tb} {v:Value} (h:ArgRel w S x v) (hS:∀k,S k→S' k):ArgRel w S' x v:=by
 cases x with
 | c x=>exact rC h hS
 | ag l=>obtain⟨us,e,h⟩:=h;exact⟨us,e,pX hS h⟩
theorem DC {S S':Nat→Prop} (hS:∀k,S k→S' k):∀{x:List (Arg T.Tb)} {v:List Value},nM w S x v→nM w S' x v
 | [],_,h=>h
 | c::cs,_,⟨v,r,e,h1,h2⟩=>⟨v,r,e,Fv h1 hS,DC hS h2⟩
theorem oG {A:Nat→Prop} {p q:List (Nat × Nat)} {k:Nat}:(jP A F p k→jP A F (p++q) k)∧(jP A F q k→jP A F (p++q) k):=
 ⟨fun h=>h.imp id (fun⟨x,hx,hk⟩=>⟨x,List.mem_append_left _ hx,hk⟩),fun h=>h.imp id (fun⟨x,hx,hk⟩=>⟨x,List.mem_append_right _ hx,hk⟩)⟩
theorem Md {ts:List Nat} (h:eU W0 σ' a w env F) (hA:Agree σ σ' ts bF bH):∀{cs:List (Cell T)} {vs:List Value} {xs:List (C0 T.Tb)} {ps:List (Nat × Nat)},aY σ' env F w cs vs→EP σ cs=some (xs,ps)→(∀q∈ps,q.1∈bF)→eP w (jP σ'.A F ps) xs vs
 | [],_,_,_,hc,hx,_=>by cases hx;exact hc
 | c::cs,_,_,_,⟨v,r,e,h1,h2⟩,hx,hp=>by
   unfold EP at hx
   cases h3:FY σ c with
   | none=>rw [h3] at hx;cases hx
   | some xp=>
     obtain⟨x,p⟩:=xp
     rw [h3] at hx
     dsimp only at hx
     cases h4:EP σ cs with
     | none=>rw [h4] at hx;cases hx
     | some xp2=>
       obtain⟨xs,p2⟩:=xp2
       rw [h4] at hx
       cases hx
       exact⟨v,r,e,rC (FZ h hA h1 h3 (fun q hq=>hp q (List.mem_append_left _ hq))) (fun k=>oG.1),pX (fun k=>oG.2) (Md h hA h2 h4 (fun q hq=>hp q (List.mem_append_right _ hq)))⟩
theorem Y8 {ts:List Nat} (h:eU W0 σ' a w env F) (hA:Agree σ σ' ts bF bH) {c:Slot T} {v:Value} (hc:bT σ' env F w c v) {x:Arg T.Tb} {ps:List (Nat × Nat)} (hx:UJ σ c=some (x,ps)) (hp:∀q∈ps,q.1∈bF):ArgRel w (jP σ'.A F ps) x v:=by
 unfold UJ at hx
 split at hx
 ·rename_i y
  cases h3:FY σ y with
  | none=>rw [h3] at hx;cases hx
  | some xp=>obtain⟨z,p⟩:=xp;rw [h3] at hx;cases hx;exact FZ h hA hc h3 hp
 ·rename_i y
  cases h3:EP σ y with
  | none=>rw [h3] at hx;cases hx
  | some xp=>obtain⟨z,p⟩:=xp;rw [h3] at hx;cases hx;obtain⟨us,e,hc⟩:=hc;exact⟨us,e,Md h hA hc h3 hp⟩
 ·cases hx
def Fb (σ:St T):List Operand→List (Slot T)
 | []=>[]
 | x::l=>dn σ x::Fb σ l
theorem Me (h:eU W0 σ' a w env F) (hA:Agree σ σ' (kL o.op) bF bH):∀{xs:List Operand} {as:List (Arg T.Tb)} {ps:List (Nat × Nat)},(∀x∈xs,x∈o.op.operands.toList)→zZ σ (Fb σ xs)=some (as,ps)→(∀q∈ps,q.1∈bF)→nM w (jP σ'.A F ps) as (xs.map a.eval)
 | [],_,_,_,hx,_=>by cases hx;rfl
 | x::xs,_,_,ho,hx,hp=>by
   unfold Fb zZ at hx
   cases h3:UJ σ (dn σ x) with
   | none=>rw [h3] at hx;cases hx
   | some xp=>
     obtain⟨y,p⟩:=xp
     rw [h3] at hx
     dsimp only at hx
     cases h4:zZ σ (Fb σ xs) with
     | none=>rw [h4] at hx;cases hx
     | some xp2=>
       obtain⟨ys,p2⟩:=xp2
       rw [h4] at hx
       cases hx
       exact⟨_,_,rfl,Fv (Y8 h hA (bG h hA (ho x List.mem_cons_self)) h3 (fun q hq=>hp q (List.mem_append_left _ hq))) (fun k=>oG.1),
        DC (fun k=>oG.2) (Me h hA (fun y hy=>ho y (List.mem_cons_of_mem _ hy)) h4 (fun q hq=>hp q (List.mem_append_right _ hq)))⟩
def oneOf:List (Nat × Nat)→Option (Option (Nat × Nat))
 | []=>some none
 | q::r=>match oneOf r with
   | some none=>some (some q)
   | some (some q')=>match Nat.beq q.1 q'.1 with
     | true=>match Nat.beq q.2 q'.2 with
       | true=>some (some q)
       | false=>none
     | false=>none
   | none=>none
theorem Jf {A:Nat→Prop}:∀{ps:List (Nat × Nat)} {p:Option (Nat × Nat)},oneOf ps=some p→∀k,jP A F ps k→jo A F p k
 | [],_,h,k,hk=>by
   cases h
   rcases hk with hk | ⟨q,hq,_⟩
   ·exact .inl hk
   ·cases hq
 | q::r,p,h,k,hk=>by
   unfold oneOf at h
   cases h1:oneOf r with
   | none=>rw [h1] at h;cases h
   | some p'=>
     rw [h1] at h
     have ih:=fun hk:jP A F r k=>Jf h1 k hk
     rcases hk with hk | ⟨x,hx,hk⟩
     ·exact .inl hk
     ·cases p' with
      | none=>
        cases h
        rcases List.mem_cons.1 hx with rfl | hx
        ·exact .inr ⟨x,rfl,hk⟩
        ·rcases ih (.inr ⟨x,hx,hk⟩) with h2 | ⟨q',hq,_⟩
         ·exact .inl h2
         ·cases hq
      | some q'=>
        dsimp only at h
        cases e1:Nat.beq q.1 q'.1<;>rw [e1] at h<;>dsimp only at h
        ·cases h
        cases e2:Nat.beq q.2 q'.2<;>rw [e2] at h<;>cases h
        have e3:=Nat.eq_of_beq_eq_true e1
        rcases List.mem_cons.1 hx with rfl | hx
        ·exact .inr ⟨x,rfl,hk⟩
        ·rcases ih (.inr ⟨x,hx,hk⟩) with h2 | ⟨q'',hq,h3⟩
         ·exact .inl h2
         ·cases hq;exact .inr ⟨q,rfl,by rw [e3];exact h3⟩
def SB (nx:Nat) (p:Option (Nat × Nat)) (i:Nat):R0 T.Tb→Cell T
 | .sc v=> .sc v
 | .ow e l=> .hd (nx+i)
 | .im e l=> .im p e l
 | .bx t cs=> .px (nx+i) 0
def qm (nx:Nat) (p:Option (Nat × Nat)):Nat→List (R0 T.Tb)→List (Cell T)
 | _,[]=>[]
 | i,x::l=>SB nx p i x::qm nx p (i+1) l
def GL (nx:Nat) (p:Option (Nat × Nat)):Nat→List (Bool × List (R0 T.Tb))→List (Bool × List (Cell T))
 | _,[]=>[]
 | i,it::l=>(it.1,qm nx p i it.2)::GL nx p (i+it.2.length) l
def iL (nx:Nat) (p:Option (Nat × Nat)):RS T.Tb→Slot T
 | .c x=> .c (SB nx p 0 x)
 | .ag l=> .ag (qm nx p 0 l)
 | .tu l=> .tu (GL nx p 0 l)
def gV (nx:Nat):Nat→List (R0 T.Tb)→List (Nat × dB T)
 | _,[]=>[]
 | i, .ow e l::r=>(nx+i, .row (nx+i) e l)::gV nx (i+1) r
 | i, .bx t cs::r=>(nx+i, .bx t (cs.map (toCell none)))::gV nx (i+1) r
 | i,_::r=>gV nx (i+1) r
def jB:List (R0 T.Tb)→Bool
 | []=>false
 | .im _ _::_=>true
 | .bx _ _::_=>true
 | _::r=>jB r
def ER:List (R0 T.Tb)→Bool
 | []=>false
 | .bx _ _::_=>true
 | _::r=>ER r
def wM (σ:St T) (nx:Nat):Nat→Bool
 | 0=>true
 | n+1=>match σ.fresh (nx+n) with
   | true=>wM σ nx n
   | false=>false
def ids (nx:Nat):Nat→List Nat
 | 0=>[]
 | n+1=>(nx+n)::ids nx n
def wO:List (Nat × Nat)→List Nat
 | []=>[]
 | q::r=>q.1::wO r
def Kq (σ:St T) (nx:Nat) (dst:Option Nat) (ps:List (Nat × Nat)) (res:RS T.Tb):Option (bI T):=
 match bQ σ dst with
 | true=>match wM σ nx res.flat.length with
   | true=>match jB res.flat with
     | true=>match oneOf ps with
       | some none=>some ⟨iL nx none res,gV nx 0 res.flat,ids nx res.flat.length++(wO ps++(iL nx (none:Option (Nat × Nat)) res).refs),res.flat.length,ids nx res.flat.length⟩
       | some (some p)=>match ER res.flat with
         | true=>none
         | false=>some ⟨iL nx (some p) res,gV nx 0 res.flat,ids nx res.flat.length++(wO ps++(iL nx (some p) res).refs),res.flat.length,ids nx res.flat.length⟩
       | none=>none
     | false=>some ⟨iL nx none res,gV nx 0 res.flat,ids nx res.flat.length++(wO ps++(iL nx (none:Option (Nat × Nat)) res).refs),res.flat.length,ids nx res.flat.length⟩
   | false=>none
 | false=>none
theorem J5 {nx r:Nat}:∀{n:Nat},r∈ids nx n↔nx≤r∧r<nx+n
 | 0=>by simp [ids]<;>omega
 | n+1=>by
   simp only [ids,List.mem_cons,J5 (n:=n)]
   omega
theorem yB {nx:Nat}:∀{n:Nat},wM σ nx n=true→∀r,nx≤r→r<nx+n→σ.fresh r=true
 | 0,_,r,h1,h2=>by omega
 | n+1,h,r,h1,h2=>by
   unfold wM at h
   cases hf:σ.fresh (nx+n)<;>rw [hf] at h<;>dsimp only at h
   ·cases h
   by_cases e:r=nx+n
   ·subst e;exact hf
   ·exact yB h r h1 (by omega)
theorem zY {r:Nat}:∀{ps:List (Nat × Nat)},r∈wO ps↔∃q∈ps,q.1=r
 | []=>by simp [wO]
 | q::ps=>by simp [wO,zY (ps:=ps)];exact or_congr ⟨fun h=>h.symm,fun h=>h.symm⟩ Iff.rfl
def CQ:List (R0 T.Tb)→Nat→Bool
 | [],_=>false
 | .ow _ _::_,0=>true
 | .bx _ _::_,0=>true
 | _::_,0=>false
 | _::l,i+1=>CQ l i
theorem zX {nx:Nat}:∀{l:List (R0 T.Tb)} {i j:Nat} {d:dB T},j<l.length→lk d (gV nx i l) (nx+i+j)=match l[j]? with
  | some (.ow e x)=> .row (nx+i+j) e x
  | some (.bx t x)=> .bx t (x.map (toCell none))
  | _=>d
 | [],i,j,d,h=>by simp at h
 | x::l,i,0,d,_=>by
   have hno:∀p∈gV nx (i+1) l,p.1≠nx+i:=by
    have key:∀(l:List (R0 T.Tb)) (m:Nat),∀p∈gV nx m l,nx+m≤p.1:=by
     intro l
     induction l with
     | nil=>intro m p hp;cases hp
     | cons y l ih=>
       intro m p hp
       cases y<;>simp only [gV,List.mem_cons] at hp
       ·have:=ih (m+1) p hp;omega
       ·rcases hp with rfl | hp
        ·simp
        ·have:=ih (m+1) p hp;omega
       ·have:=ih (m+1) p hp;omega
       ·rcases hp with rfl | hp
        ·simp
        ·have:=ih (m+1) p hp;omega
    intro p hp e
    have:=key l (i+1) p hp
    omega
   cases x with
   | sc v=>simp only [gV,Nat.add_zero,List.getElem?_cons_zero];exact sJ _ _ _ hno
   | ow e y=>simp [gV,lk,Nat.beq_eq]
   | im e y=>simp only [gV,Nat.add_zero,List.getElem?_cons_zero];exact sJ _ _ _ hno
   | bx t y=>simp [gV,lk,Nat.beq_eq]
 | x::l,i,j+1,d,h=>by
   have ih:=zX (nx:=nx) (l:=l) (i:=i+1) (j:=j) (d:=d) (by simpa using h)
   have e:nx+(i+1)+j=nx+i+(j+1):=by omega
   rw [e] at ih
   cases x with
   | sc v=>simp only [gV,List.getElem?_cons_succ];exact ih
   | ow e' y=>
     have hne:Nat.beq (nx+i) (nx+i+(j+1))=false:=fD (by omega)
     simp only [gV,lk,hne,List.getElem?_cons_succ];exact ih
   | im e' y=>simp only [gV,List.getElem?_cons_succ];exact ih
   | bx t y=>
     have hne:Nat.beq (nx+i) (nx+i+(j+1))=false:=fD (by omega)
     simp only [gV,lk,hne,List.getElem?_cons_succ];exact ih
theorem qL {nx:Nat}:∀{l:List (R0 T.Tb)} {i:Nat},∀p∈gV nx i l,nx+i≤p.1∧p.1<nx+i+l.length
 | [],_,p,h=>by cases h
 | x::l,i,p,h=>by
   cases x<;>simp only [gV,List.mem_cons] at h
   ·have:=qL p h;simp;omega
   ·rcases h with rfl | h
    ·simp
    ·have:=qL p h;simp;omega
   ·have:=qL p h;simp;omega
   ·rcases h with rfl | h
    ·simp
    ·have:=qL p h;simp;omega
end
end Go.Proofs.YtcnfgfomholheaaGreatDoor.Z
end
section
namespace Go.Proofs.YtcnfgfomholheaaGreatDoor.Z
open Go.RowKit
set_option linter.unusedVariables false
set_option linter.unusedSimpArgs false
section
variable {T:dX} {P:Program} {W0:Fr} {σ σ' σ1:St T} {a:Act} {w w1:World} {env bD:Nat→Value} {F F1:Nat→Nat→Prop} {o:Oper} {bF bH:List Nat}
theorem y7 {S:Nat→Prop} {G:Nat→Nat→Prop}:∀{cs:List (R0 T.Tb)} {i:Nat} {vs:List Value},dN w1 S G i cs vs→cs.length=vs.length
 | [],_,_,h=>by cases h;rfl
 | .sc v::cs,i,_,⟨r,e,_,h⟩=>by subst e;simp [y7 h]
 | .ow _ _::cs,i,_,⟨v,r,e,_,h⟩=>by subst e;simp [y7 h]
 | .im _ _::cs,i,_,⟨v,r,e,_,h⟩=>by subst e;simp [y7 h]
 | .bx _ _::cs,i,_,⟨v,r,e,_,h⟩=>by subst e;simp [y7 h]
theorem TS {S:Nat→Prop} {G:Nat→Nat→Prop} {e:Nat} {l:List (T.Tb e)}:∀{cs:List (R0 T.Tb)} {i j:Nat} {vs:List Value},dN w1 S G i cs vs→cs[j]? =some (.ow e l)→∃v,vs[j]? =some v∧Ow T.sz w1 (G (i+j)) (.sl e (l.map (T.enc e))) v
 | [],_,_,_,_,h=>by simp at h
 | c::cs,i,0,_,h,hj=>by
   simp at hj
   subst hj
   obtain⟨v,r,e',h1,_⟩:=h
   exact⟨v,by rw [e'];rfl,h1⟩
 | c::cs,i,j+1,vs,h,hj=>by
   have key:∃v r,vs=v::r∧dN w1 S G (i+1) cs r:=by
    cases c with
    | sc v=>obtain⟨r,e',_,h⟩:=h;exact⟨_,r,e',h⟩
    | ow _ _=>obtain⟨v,r,e',_,h⟩:=h;exact⟨v,r,e',h⟩
    | im _ _=>obtain⟨v,r,e',_,h⟩:=h;exact⟨v,r,e',h⟩
    | bx _ _=>obtain⟨v,r,e',_,h⟩:=h;exact⟨v,r,e',h⟩
   obtain⟨v,r,e',h⟩:=key
   obtain⟨u,h1,h2⟩:=TS (j:=j) h (by simpa using hj)
   exact⟨u,by rw [e'];simpa using h1,by rw [show i+(j+1)=i+1+j by omega];exact h2⟩
theorem aae {S:Nat→Prop} {G:Nat→Nat→Prop} {t:Nat} {xs:List (C0 T.Tb)}:∀{cs:List (R0 T.Tb)} {i j:Nat} {vs:List Value},dN w1 S G i cs vs→cs[j]? =some (.bx t xs)→∃v,vs[j]? =some v∧∃g us,v= .pointer (some ⟨g,0,none⟩)∧G (i+j) g∧(∀k,G (i+j) k→k=g)∧w1.heap[g]? =some (.cells us t (0,0))∧eP w1 S xs us.toList
 | [],_,_,_,_,h=>by simp at h
 | c::cs,i,0,_,h,hj=>by
   simp at hj
   subst hj
   obtain⟨v,r,e',h1,_⟩:=h
   exact⟨v,by rw [e'];rfl,h1⟩
 | c::cs,i,j+1,vs,h,hj=>by
   have key:∃v r,vs=v::r∧dN w1 S G (i+1) cs r:=by
    cases c with
    | sc v=>obtain⟨r,e',_,h⟩:=h;exact⟨_,r,e',h⟩
    | ow _ _=>obtain⟨v,r,e',_,h⟩:=h;exact⟨v,r,e',h⟩
    | im _ _=>obtain⟨v,r,e',_,h⟩:=h;exact⟨v,r,e',h⟩
    | bx _ _=>obtain⟨v,r,e',_,h⟩:=h;exact⟨v,r,e',h⟩
   obtain⟨v,r,e',h⟩:=key
   obtain⟨u,h1,h2⟩:=aae (j:=j) h (by simpa using hj)
   exact⟨u,by rw [e'];simpa using h1,by rw [show i+(j+1)=i+1+j by omega];exact h2⟩
theorem wK {S:Nat→Prop} (hS:∀k,S k→jo σ1.A F1 none k):∀{cs:List (C0 T.Tb)} {vs:List Value},eP w1 S cs vs→aY σ1 bD F1 w1 (cs.map (toCell none)) vs
 | [],_,h=>h
 | .sc v'::cs,_,⟨v,r,e,h1,h2⟩=>⟨v,r,e,h1,wK hS h2⟩
 | .sl e' l::cs,_,⟨v,r,e,h1,h2⟩=>⟨v,r,e,⟨Rd.one h1,fun _=>Rd.mono h1 hS⟩,wK hS h2⟩
theorem rD {S:Nat→Prop} {G:Nat→Nat→Prop} {nx:Nat} {p:Option (Nat × Nat)}:∀{cs:List (R0 T.Tb)} {i:Nat} {vs:List Value},dN w1 S G i cs vs→(∀j v,vs[j]? =some v→bD (nx+(i+j))=v)→
  (jB cs=true→∀k,S k→jo σ1.A F1 p k)→aY σ1 bD F1 w1 (qm nx p i cs) vs
 | [],_,_,h,_,_=>h
 | .sc v::cs,i,_,⟨r,e,h1,h2⟩,he,hm=>by
   subst e
   exact⟨v,r,rfl,⟨rfl,h1⟩,rD h2 (fun j v hj=>by have:=he (j+1) v (by simpa using hj);rw [show i+1+j=i+(j+1) by omega];exact this) (fun h=>hm h)⟩
 | .ow e' l::cs,i,_,⟨v,r,e,h1,h2⟩,he,hm=>by
   subst e
   exact⟨v,r,rfl,⟨(he 0 v rfl).symm,h1.one⟩,rD h2 (fun j v hj=>by have:=he (j+1) v (by simpa using hj);rw [show i+1+j=i+(j+1) by omega];exact this) (fun h=>hm h)⟩
 | .im e' l::cs,i,_,⟨v,r,e,h1,h2⟩,he,hm=>by
   subst e
   exact⟨v,r,rfl,⟨h1.one,fun _=>h1.mono (hm rfl)⟩,rD h2 (fun j v hj=>by have:=he (j+1) v (by simpa using hj);rw [show i+1+j=i+(j+1) by omega];exact this) (fun _=>hm rfl)⟩
 | .bx t xs::cs,i,_,⟨v,r,e,⟨g,us,e1,_⟩,h2⟩,he,hm=>by
   subst e
   exact⟨v,r,rfl,⟨g,(he 0 v rfl).trans e1,e1⟩,rD h2 (fun j v hj=>by have:=he (j+1) v (by simpa using hj);rw [show i+1+j=i+(j+1) by omega];exact this) (fun _=>hm rfl)⟩
theorem wW {S:Nat→Prop} {G:Nat→Nat→Prop}:∀{cs ds:List (R0 T.Tb)} {i:Nat} {f1 f2:List Value},dN w1 S G i (cs++ds) (f1++f2)→f1.length=cs.length→dN w1 S G i cs f1∧dN w1 S G (i+cs.length) ds f2
 | [],ds,i,f1,f2,h,hl=>by
   have:f1=[]:=List.eq_nil_of_length_eq_zero (by simpa using hl)
   subst this;exact⟨rfl,h⟩
 | c::cs,ds,i,[],f2,h,hl=>by simp at hl
 | c::cs,ds,i,x::f1,f2,h,hl=>by
   have hl':f1.length=cs.length:=by simpa using hl
   cases c with
   | sc v=>
     obtain⟨r,e,h1,h2⟩:=h
     cases e
     obtain⟨h3,h4⟩:=wW h2 hl'
     exact⟨⟨f1,rfl,h1,h3⟩,by rw [List.length_cons,show i+(cs.length+1)=i+1+cs.length by omega];exact h4⟩
   | ow _ _=>
     obtain⟨v,r,e,h1,h2⟩:=h
     cases e
     obtain⟨h3,h4⟩:=wW h2 hl'
     exact⟨⟨_,f1,rfl,h1,h3⟩,by rw [List.length_cons,show i+(cs.length+1)=i+1+cs.length by omega];exact h4⟩
   | im _ _=>
     obtain⟨v,r,e,h1,h2⟩:=h
     cases e
     obtain⟨h3,h4⟩:=wW h2 hl'
     exact⟨⟨_,f1,rfl,h1,h3⟩,by rw [List.length_cons,show i+(cs.length+1)=i+1+cs.length by omega];exact h4⟩
   | bx _ _=>
     obtain⟨v,r,e,h1,h2⟩:=h
     cases e
     obtain⟨h3,h4⟩:=wW h2 hl'
     exact⟨⟨_,f1,rfl,h1,h3⟩,by rw [List.length_cons,show i+(cs.length+1)=i+1+cs.length by omega];exact h4⟩
theorem KE {ds:List (R0 T.Tb)}:∀{cs:List (R0 T.Tb)},jB cs=true→jB (cs++ds)=true
 | [],h=>by cases h
 | .sc _::cs,h=>KE (cs:=cs) h
 | .ow _ _::cs,h=>KE (cs:=cs) h
 | .im _ _::cs,h=>rfl
 | .bx _ _::cs,h=>rfl
theorem KF {ds:List (R0 T.Tb)}:∀{cs:List (R0 T.Tb)},jB ds=true→jB (cs++ds)=true
 | [],h=>h
 | .sc _::cs,h=>KF (cs:=cs) h
 | .ow _ _::cs,h=>KF (cs:=cs) h
 | .im _ _::cs,h=>rfl
 | .bx _ _::cs,h=>rfl
theorem F7 {t:Nat} {xs:List (C0 T.Tb)}:∀{cs:List (R0 T.Tb)} {j:Nat},cs[j]? =some (.bx t xs)→jB cs=true∧ER cs=true
 | [],_,h=>by simp at h
 | c::cs,0,h=>by simp at h;subst h;exact⟨rfl,rfl⟩
 | c::cs,j+1,h=>by
   have:=F7 (cs:=cs) (j:=j) (by simpa using h)
   cases c<;>first | exact this | exact⟨rfl,this.2⟩ | exact⟨rfl,rfl⟩
theorem OE {S:Nat→Prop} {G:Nat→Nat→Prop} {nx:Nat} {p:Option (Nat × Nat)}:∀{its:List (Bool × List (R0 T.Tb))} {i:Nat} {vs fv:List Value},xW its vs fv→dN w1 S G i (CS its) fv→(∀j v,fv[j]? =some v→bD (nx+(i+j))=v)→
  (jB (CS its)=true→∀k,S k→jo σ1.A F1 p k)→lJ σ1 bD F1 w1 (GL nx p i its) vs
 | [],_,_,_,h,_,_,_=>h.1
 | it::its,i,_,_,⟨v,r,f1,f2,e1,e2,hl,hv,hr⟩,hc,he,hm=>by
   subst e1 e2
   obtain⟨h1,h2⟩:=wW hc hl
   have h3:aY σ1 bD F1 w1 (qm nx p i it.2) f1:=rD h1 (fun j v hj=>he j v (by rw [List.getElem?_append_left (List.getElem?_eq_some_iff.1 hj).1];exact hj)) (fun h=>hm (KE h))
   refine⟨v,r,rfl,?_,OE hr h2 (fun j v hj=>?_) (fun h=>hm (KF h))⟩
   ·unfold sK
    cases hb:it.1<;>rw [hb] at hv<;>dsimp only at hv⊢
    ·rw [←hv];exact h3
    ·obtain⟨us,e,e'⟩:=hv
     exact⟨us,e,by rw [e'];exact h3⟩
   ·have:=he (f1.length+j) v (by rw [List.getElem?_append_right (by omega)];simpa using hj)
    rw [hl] at this
    rw [show i+it.2.length+j=i+(it.2.length+j) by omega];exact this
theorem wL:∀{l:List (R0 T.Tb)} {j:Nat},(∀e x,l[j]?≠some (.ow e x))→(∀t x,l[j]?≠some (.bx t x))→CQ l j=false
 | [],_,_,_=>rfl
 | c::l,0,h,h'=>by cases c<;>first | rfl | exact absurd rfl (h _ _) | exact absurd rfl (h' _ _)
 | c::l,j+1,h,h'=>by
   have:=wL (l:=l) (j:=j) (fun e x=>by simpa using h e x) (fun e x=>by simpa using h' e x)
   cases c<;>exact this
theorem SC {t:Nat} {x:List (C0 T.Tb)}:∀{l:List (R0 T.Tb)} {j:Nat},l[j]? =some (.bx t x)→CQ l j=true
 | [],_,h=>by simp at h
 | c::l,0,h=>by simp at h;subst h;rfl
 | c::l,j+1,h=>by
   have:=SC (l:=l) (j:=j) (by simpa using h)
   cases c<;>exact this
theorem F8 {e:Nat} {x:List (T.Tb e)}:∀{l:List (R0 T.Tb)} {j:Nat},l[j]? =some (.ow e x)→CQ l j=true
 | [],_,h=>by simp at h
 | c::l,0,h=>by simp at h;subst h;rfl
 | c::l,j+1,h=>by
   have:=F8 (l:=l) (j:=j) (by simpa using h)
   cases c<;>exact this
theorem eU.called (h:eU W0 σ a w env F) (g:Grew w w1) {res:RS T.Tb} {v:Value} {fv:List Value} {G:Nat→Nat→Prop} {ps:List (Nat × Nat)} {p:Option (Nat × Nat)} {nx nx':Nat} {dst:Option Nat}
  (hfr:∀r,nx≤r→r<nx+res.flat.length→jI σ r∧σ.res r= .no) (hG:∀i k,G i k→w.heap.size≤k∧k<w1.heap.size) (hap:∀i j k,G i k→G j k→i=j) (hf:uY res v fv)
  (hc:dN w1 (fun k=>jP σ.A F ps k∧k<w.heap.size∨w.heap.size≤k∧∀i,¬G i k) G 0 res.flat fv) (hp:jB res.flat=true→oneOf ps=some p) (hpb:ER res.flat=true→p=none) (hd:∀d,dst=some d→d<σ.n):
  jD W0 (σ.upd dst ⟨iL nx p res,gV nx 0 res.flat,bF,nx',bH⟩) (a.put dst v) w1:=by
 have hlen:=y7 hc
 have hrs:∀r,¬(nx≤r∧r<nx+res.flat.length)→(σ.upd dst ⟨iL nx p res,gV nx 0 res.flat,bF,nx',bH⟩).res r=σ.res r:=fun r hr=>St.nO (fun q hq=>by have:=qL q hq;intro e;subst e;exact hr (by simpa using this))
 have aen:∀j,j<res.flat.length→(σ.upd dst ⟨iL nx p res,gV nx 0 res.flat,bF,nx',bH⟩).res (nx+j)=match res.flat[j]? with
   | some (.ow e x)=> .row (nx+j) e x
   | some (.bx t x)=> .bx t (x.map (toCell none))
   | _=> .no:=fun j hj=>by
  rw [St.dP]
  have:=zX (nx:=nx) (l:=res.flat) (i:=0) (j:=j) (d:=σ.res (nx+j)) hj
  simp only [Nat.add_zero] at this
  rw [this,(hfr (nx+j) (by omega) (by omega)).2]
  all_goals
   cases hx:res.flat[j]? with
   | none=>rfl
   | some x=>cases x<;>rfl
 let bD:Nat→Value:=fun s=>if nx≤s∧s<nx+res.flat.length then fv.getD (s - nx) undef else env s
 let F1:Nat→Nat→Prop:=fun s k=>if nx≤s∧s<nx+res.flat.length then CQ res.flat (s - nx)=true∧G (s - nx) k else F s k
 have he0:∀s,¬(nx≤s∧s<nx+res.flat.length)→bD s=env s:=fun s hs=>if_neg hs
 have hF0:∀s k,¬(nx≤s∧s<nx+res.flat.length)→(F1 s k↔F s k):=fun s k hs=>by show(if _ then _ else _)↔_;rw [if_neg hs]
 have hF1:∀s k,nx≤s→s<nx+res.flat.length→(F1 s k↔CQ res.flat (s - nx)=true∧G (s - nx) k):=fun s k h1 h2=>by show(if _ then _ else _)↔_;rw [if_pos ⟨h1,h2⟩]
 have he1:∀j u,fv[j]? =some u→bD (nx+(0+j))=u:=fun j u hj=>by
  have hlt:=(List.getElem?_eq_some_iff.1 hj).1
  show(if _ then _ else _)=_
  rw [if_pos (by omega),show nx+(0+j) - nx=j by omega,List.getD_eq_getElem?_getD,hj];rfl
 have hst:∀k,(∀r,¬F r k)→(∀i,¬G i k)→∀r,¬F1 r k:=fun k h1 h2 r hr=>by
  by_cases e:nx≤r∧r<nx+res.flat.length
  ·exact h2 _ ((hF1 r k e.1 e.2).1 hr).2
  ·exact h1 r ((hF0 r k e).1 hr)
 have hGn:∀k,k<w.heap.size→∀i,¬G i k:=fun k hk i hg=>by have:=(hG i k hg).1;omega
 have calm:Calm σ (σ.upd dst ⟨iL nx p res,gV nx 0 res.flat,bF,nx',bH⟩) F F1 w w1:=⟨St.iI _ _ _,g.size,fun k hk h1=>⟨hst k h1 (hGn k hk),g.block k hk⟩⟩
 have same:∀r,¬(nx≤r∧r<nx+res.flat.length)→Same σ (σ.upd dst ⟨iL nx p res,gV nx 0 res.flat,bF,nx',bH⟩) env bD F F1 w w1 r:=fun r hr=>⟨he0 r hr,fun k=>hF0 r k hr,hrs r hr,fun k hk=>g.block k (fQ h hk)⟩
 have UK:jB res.flat=true→∀k,(jP σ.A F ps k∧k<w.heap.size∨w.heap.size≤k∧∀i,¬G i k)→jo (σ.upd dst ⟨iL nx p res,gV nx 0 res.flat,bF,nx',bH⟩).A F1 p k:=fun him k hk=>by
  rcases hk with ⟨hk,hlt⟩ | ⟨hge,hk⟩
  ·rcases Jf (hp him) k hk with ⟨ha,h1⟩ | ⟨q,hq,h1⟩
   ·exact .inl ⟨by rw [St.iI];exact ha,hst k h1 (hGn k hlt)⟩
   ·refine .inr ⟨q,hq,?_⟩
    by_cases e:nx≤q.1∧q.1<nx+res.flat.length
    ·have h2:=h.res q.1
     rw [(hfr q.1 e.1 e.2).2] at h2
     exact(h2 k h1).elim
    ·exact(hF0 q.1 k e).2 h1
  ·exact .inl ⟨by rw [St.iI];exact h.acc k (h.below.may hge),hst k (fun r hr=>by have:=fQ h hr;omega) hk⟩
 refine h.upd (bD:=bD) (F1:=F1) (fun r=>nx≤r∧r<nx+res.flat.length) (rO h.below g) calm same ?_ ?_ ?_ (fun r hr=> .inl (hfr r hr.1 hr.2).1) (fun d hd'=>⟨hd d hd',?_⟩)
 ·rintro r ⟨h1,h2⟩
  obtain⟨j,rfl⟩:∃j,r=nx+j:=⟨r - nx,by omega⟩
  have hj:j<res.flat.length:=by omega
  rw [aen j hj]
  cases hx:res.flat[j]? with
  | none=>simp at hx;omega
  | some x=>
    cases x with
    | sc u=>
      intro k hk
      have:=((hF1 _ k h1 h2).1 hk).1
      rw [show nx+j - nx=j by omega,wL (fun e x h=>by rw [hx] at h;cases h) (fun e x h=>by rw [hx] at h;cases h)] at this
      cases this
    | bx t xs=>
      obtain⟨u,h3,g0,us,h4,h5,h6,h7,h8⟩:=aae hc hx
      have h9:=he1 j u h3
      rw [Nat.zero_add] at h9 h5 h6
      obtain⟨hi1,hi2⟩:=F7 hx
      have hS:∀k,(jP σ.A F ps k∧k<w.heap.size∨w.heap.size≤k∧∀i,¬G i k)→jo (σ.upd dst ⟨iL nx p res,gV nx 0 res.flat,bF,nx',bH⟩).A F1 none k:=fun k hk=>by
       rcases UK hi1 k hk with h10 | ⟨q,hq,_⟩
       ·exact .inl h10
       ·rw [hpb hi2] at hq;cases hq
      refine⟨g0,us,h9.trans h4,(hF1 _ g0 h1 h2).2 (by rw [show nx+j - nx=j by omega];exact⟨SC hx,h5⟩),fun k hk=>h6 k ?_,h7,wK hS h8⟩
      have:=((hF1 _ k h1 h2).1 hk).2
      rwa [show nx+j - nx=j by omega] at this
    | im e l=>
      intro k hk
      have:=((hF1 _ k h1 h2).1 hk).1
      rw [show nx+j - nx=j by omega,wL (fun e x h=>by rw [hx] at h;cases h) (fun e x h=>by rw [hx] at h;cases h)] at this
      cases this
    | ow e l=>
      obtain⟨u,h3,h4⟩:=TS hc hx
      show Ow T.sz w1 (F1 (nx+j)) (.sl e (l.map (T.enc e))) (bD (nx+j))
      have h5:=he1 j u h3
      rw [Nat.zero_add] at h5 h4
      rw [h5]
      exact h4.mono (fun k hk=>(hF1 _ k h1 h2).2 (by rw [show nx+j - nx=j by omega];exact⟨F8 hx,hk⟩))
 ·rintro r k ⟨h1,h2⟩ hk
  have h3:=hG _ _ ((hF1 r k h1 h2).1 hk).2
  exact⟨h.below.may h3.1,h3.2⟩
 ·rintro r s k ⟨h1,h2⟩ hk hk2
  have h3:=((hF1 r k h1 h2).1 hk).2
  by_cases e:nx≤s∧s<nx+res.flat.length
  ·have h4:=((hF1 s k e.1 e.2).1 hk2).2
   have:=hap _ _ _ h3 h4
   omega
  ·have h4:=fQ h ((hF0 s k e).1 hk2)
   have:=(hG _ _ h3).1
   omega
 ·cases res with
  | c x=>
    obtain rfl:fv=[v]:=hf
    have h1:aY (σ.upd dst ⟨iL nx p (.c x),gV nx 0 (RS.c x).flat,bF,nx',bH⟩) bD F1 w1 (qm nx p 0 [x]) [v]:=rD hc he1 UK
    obtain⟨u,r,e,h2,_⟩:=h1
    cases e
    exact h2
  | ag l=>
    obtain⟨us,e,e'⟩:=hf
    exact⟨us,e,by rw [e'];exact rD hc he1 UK⟩
  | tu l=>
    obtain⟨us,e,e'⟩:=hf
    exact⟨us,e,OE e' hc he1 UK⟩
theorem aaO {nx:Nat} {f:FuncId} {args:Array Operand} {ts:Array TypeId} {as:List (Arg T.Tb)} {ps:List (Nat × Nat)} {res:RS T.Tb} {U:bI T} (ho:o.op= .call {callee:= .value (.func f),args:=args,argTypes:=ts}) (ha:zZ σ (Fb σ args.toList)=some (as,ps)) (hob:aH T P f as res) (hu:Kq σ nx o.dst ps res=some U):eH P W0 o σ U:=by
 intro σ' a w K Q hA ⟨env,F,hS⟩ hK
 unfold Kq at hu
 cases hd:bQ σ o.dst<;>rw [hd] at hu<;>dsimp only at hu
 ·cases hu
 cases hf:wM σ nx res.flat.length<;>rw [hf] at hu<;>dsimp only at hu
 ·cases hu
 have hd':∀d,o.dst=some d→d<σ'.n:=fun d h=>by rw [hA.n];exact bn hd d h
 obtain⟨⟨fn,hfn,hname,hbody⟩,hcall⟩:=hob
 have main:∀(p:Option (Nat × Nat)) (him:jB res.flat=true→oneOf ps=some p) (hbx:ER res.flat=true→p=none) (hU:U=⟨iL nx p res,gV nx 0 res.flat,ids nx res.flat.length++(wO ps++(iL nx p res).refs),res.flat.length,ids nx res.flat.length⟩),Oper.wp P o a w K Q:=by
  rintro p him hbx rfl
  have hargs:nM w (jP σ'.A F ps) as (args.toList.map a.eval):=Me hS hA (fun x hx=>by rw [ho];simp only [Op.operands,Call.operands,Array.toList_append];exact List.mem_append_right _ hx) ha (fun q hq=>List.mem_append_right _ (List.mem_append_left _ (zY.2 ⟨q,hq,rfl⟩)))
  have hc:=hcall w _ _ (T.jk hS.below.base hS.tab) hargs
  have hrun:(execOp a.eval o).run P w= .ok (.enter f (args.toList.map a.eval).toArray) w:=by
   obtain⟨c,hbc⟩:=Option.isSome_iff_exists.1 hbody
   have h1:fn.name≠ "runtime.NumGoroutine" :=fun e=>by rw [e] at hname;simp at hname
   have hmap:Array.map a.eval args=(args.toList.map a.eval).toArray:=by apply Array.ext';simp
   unfold execOp
   rw [ho]
   simp [resolve,Deferred.ofValue,invoke,Act.eval,callFunc,hfn,h1,hbc,hmap]
  unfold Oper.wp
  rw [hrun,Oper.upon_enter]
  refine hc.mono ?_
  rintro e w1 ⟨v,G,rfl,hb,hG,hap,fv,hfv,hcells⟩
  refine hK _ _ (hS.called (Grew.of_below hb) (fun r h1 h2=>?_) hG hap hfv hcells him hbx hd')
  exact hA.new (J5.2 ⟨h1,h2⟩) (yB hf r h1 h2)
 cases hi:jB res.flat<;>rw [hi] at hu<;>dsimp only at hu
 ·cases hu
  exact main none (fun h=>by rw [hi] at h;cases h) (fun _=>rfl) rfl
 ·cases hp:oneOf ps with
  | none=>rw [hp] at hu;cases hu
  | some p=>
    rw [hp] at hu
    cases p with
    | none=>
      cases hu
      exact main none (fun _=>hp) (fun _=>rfl) rfl
    | some p=>
      dsimp only at hu
      cases hb:ER res.flat<;>rw [hb] at hu
      ·cases hu
       exact main (some p) (fun _=>hp) (fun h=>by rw [hb] at h;cases h) rfl
      ·cases hu
end
end Go.Proofs.YtcnfgfomholheaaGreatDoor.Z
end
section
namespace Go.Proofs.YtcnfgfomholheaaGreatDoor.Z
open Go.RowKit
set_option linter.unusedVariables false
set_option linter.unusedSimpArgs false
section
variable {T:dX} {P:Program} {W0:Fr} {σ σ' σ1 σ2:St T} {a:Act} {w w1:World} {ops:Array Oper}
def UL (ops:Array Oper) (o:Oper):Option Nat:=
 match o.guard with
 | none=>none
 | some (j,_)=>match ops[j]? with
   | some oj=>oj.dst
   | none=>none
def AO (ops:Array Oper) (o:Oper):List Nat:=match UL ops o with
 | some t=>[t]
 | none=>[]
def CZ (σ:St T) (ops:Array Oper) (o:Oper):Option Bool:=
 match o.guard with
 | none=>some true
 | some (_,want)=>match UL ops o with
   | some t=>match Nat.blt t σ.n with
     | true=>match σ.tmp t with
       | .c (.sc (.bool true))=>some want
       | .c (.sc (.bool false))=>some (!want)
       | .ud=>some false
       | _=>none
     | false=>none
   | none=>none
def GStep (P:Program) (W0:Fr) (ops:Array Oper) (o:Oper) (σ:St T) (U:bI T):Prop:=
 ∀(σ':St T) (a:Act) (w:World) (K:Act→World→Prop) (Q:Exit→Act→World→Prop),Agree σ σ' (kL o.op++AO ops o) U.bF U.bH→jD W0 σ' a w→(∀a' w',jD W0 (σ'.upd o.dst U) a' w'→K a' w')→
  if Region.wanted o (yielded ops a.tmps)=true then Oper.wp P o a w K Q else K (a.put o.dst undef) w
theorem PE {o:Oper} {b:Bool} {bF bH:List Nat} (h:CZ σ ops o=some b) (hA:Agree σ σ' (kL o.op++AO ops o) bF bH) (hS:jD W0 σ' a w):Region.wanted o (yielded ops a.tmps)=b:=by
 obtain⟨env,F,hS⟩:=hS
 unfold CZ at h
 unfold Region.wanted
 cases hg:o.guard with
 | none=>rw [hg] at h;cases h;rfl
 | some jw=>
   obtain⟨j,want⟩:=jw
   rw [hg] at h
   dsimp only at h
   cases ht:UL ops o with
   | none=>rw [ht] at h;cases h
   | some t=>
     rw [ht] at h
     dsimp only at h
     cases hn:Nat.blt t σ.n<;>rw [hn] at h<;>dsimp only at h
     ·cases h
     have hlt:t<a.tmps.size:=by rw [hS.size,hA.n];simpa [Nat.blt_eq] using hn
     have RH:σ'.tmp t=σ.tmp t:=hA.tm t (List.mem_append_right _ (by simp [AO,ht]))
     have h1:=hS.tm t
     rw [RH] at h1
     have h2:((ops[j]?).bind (·.dst)).bind (a.tmps[·]?)=some (a.tmps.getD t undef):=by
      unfold UL at ht
      rw [hg] at ht
      dsimp only at ht
      cases ho:ops[j]? with
      | none=>rw [ho] at ht;cases ht
      | some oj=>rw [ho] at ht;dsimp only at ht;simp [ht,hlt,Array.getD]
     have hy:yielded ops a.tmps j=match a.tmps.getD t undef with
       | .bool b=>some b
       | _=>none:=by
      unfold yielded;rw [h2];cases a.tmps.getD t undef<;>rfl
     show(yielded ops a.tmps j==some want)=b
     rw [hy]
     split at h
     ·rename_i hs;rw [hs] at h1;cases h;rw [h1.1];cases b<;>rfl
     ·rename_i hs;rw [hs] at h1;cases h;rw [h1.1];cases want<;>rfl
     ·rename_i hs;rw [hs] at h1;cases h;rw [show a.tmps.getD t undef=undef from h1];rfl
     ·cases h
theorem aa1 {ts ts' bF bH:List Nat} (h:Agree σ σ' (ts++ts') bF bH):Agree σ σ' ts bF bH:=⟨fun t ht=>h.tm t (List.mem_append_left _ ht),h.res,h.fr,h.n⟩
theorem xR {o:Oper} {U:bI T} (h:CZ σ ops o=some true) (hL:eH P W0 o σ U):GStep P W0 ops o σ U:=by
 intro σ' a w K Q hA hS hK
 rw [PE h hA hS,if_pos rfl]
 exact hL σ' a w K Q (aa1 hA) hS hK
theorem Un {o:Oper} (h:CZ σ ops o=some false) (hd:bQ σ o.dst=true):GStep P W0 ops o σ ⟨.ud,[],[],0,[]⟩:=by
 intro σ' a w K Q hA hS hK
 rw [PE h hA hS,if_neg (by simp)]
 obtain⟨env,F,hS⟩:=hS
 exact hK _ _ (hS.quiet (fun d hd'=>⟨by rw [hA.n];exact bn hd d hd',rfl⟩))
theorem Um {o:Oper} {b c:Bool} {rs:List (Nat × dB T)} {bF bH:List Nat} {nx:Nat} (e:b=c) (h:GStep P W0 ops o σ ⟨.c (.sc (.bool b)),rs,bF,nx,bH⟩):GStep P W0 ops o σ ⟨.c (.sc (.bool c)),rs,bF,nx,bH⟩:=e▸h
inductive Tr (P:Program) (W0:Fr) (ops:Array Oper):List Oper→St T→List (bI T)→St T→Prop
 | nil (σ:St T):Tr P W0 ops [] σ [] σ
 | cons {o:Oper} {l:List Oper} {σ σ2:St T} {U:bI T} {Us:List (bI T)} (h:GStep P W0 ops o σ U) (ht:Tr P W0 ops l (σ.upd o.dst U) Us σ2):Tr P W0 ops (o::l) σ (U::Us) σ2
theorem aaP {Q:Exit→Act→World→Prop} {l:List Oper} {Us:List (bI T)} (ht:Tr P W0 ops l σ Us σ2):∀{a:Act} {w:World},jD W0 σ a w→(∀a' w',jD W0 σ2 a' w'→Q .normal a' w')→wpList P ops Q l a w:=by
 induction ht with
 | nil σ=>exact fun hS hQ=>wpList_nil (hQ _ _ hS)
 | cons h ht ih=>
   intro a w hS hQ
   refine wpList_step (fun K hK=>?_)
   exact h _ a w K Q (Agree.refl _ _ _ _) hS (fun a' w' h'=>hK _ _ (ih h' hQ))
def needs (o:Oper):List Nat:=(o.after.toList.filter (fun e=>Region.binds .any e)).map (·.on)
def fO (D:Nat→Bool):Nat→List (Oper × bI T)→St T→St T
 | _,[],σ=>σ
 | i,(o,U)::l,σ=>fO D (i+1) l (match D i with
   | true=>σ.upd o.dst U
   | false=>σ)
def NH (U:bI T) (r:Nat):Prop:=∃p∈U.rs,p.1=r
theorem PG {α:Type} {r:Nat}:∀{l:List (Nat × α)} {d d':α},(∃p∈l,p.1=r)→lk d l r=lk d' l r
 | [],_,_,⟨p,hp,_⟩=>by cases hp
 | (k,x)::l,d,d',⟨p,hp,e⟩=>by
   unfold lk
   cases hb:Nat.beq k r
   ·rcases List.mem_cons.1 hp with rfl | hp
    ·exact absurd hb (by rw [show k=r from e];simp [Nat.beq_eq])
    ·exact PG ⟨p,hp,e⟩
   ·rfl
theorem AP {α:Type} {r:Nat} {l:List (Nat × α)} {d:α} (h:¬∃p∈l,p.1=r):lk d l r=d:=sJ _ _ _ (fun p hp e=>h ⟨p,hp,e⟩)
theorem Nh {dst:Option Nat} {U:bI T} {r:Nat} (h:σ.res r=σ'.res r):(σ.upd dst U).res r=(σ'.upd dst U).res r:=by rw [St.dP,St.dP,h]
theorem Nl {dst:Option Nat} {U:bI T} {t:Nat} (h:σ.tmp t=σ'.tmp t):(σ.upd dst U).tmp t=(σ'.upd dst U).tmp t:=by
 cases dst with
 | none=>exact h
 | some d=>
   by_cases e:d=t
   ·subst e;rw [St.oM,St.oM]
   ·rw [St.vH _ _ e,St.vH _ _ e,h]
theorem yH {dst:Option Nat} {U:bI T} {t:Nat} (h:dst≠some t):(σ.upd dst U).tmp t=σ.tmp t:=by
 cases dst with
 | none=>rfl
 | some d=>exact St.vH _ _ (fun e=>h (by rw [e]))
theorem Jg (D:Nat→Bool):∀{l:List (Oper × bI T)} {i:Nat} {σ:St T},(fO D i l σ).n=σ.n
 | [],_,_=>rfl
 | (o,U)::l,i,σ=>by
   unfold fO
   rw [Jg D]
   cases D i
   ·rfl
   ·exact St.Uz _ _ _
theorem UM (D:Nat→Bool):∀{l:List (Oper × bI T)} {i:Nat} {σ:St T},(fO D i l σ).A=σ.A
 | [],_,_=>rfl
 | (o,U)::l,i,σ=>by
   unfold fO
   rw [UM D]
   cases D i
   ·rfl
   ·exact St.iI _ _ _
theorem KG {D D':Nat→Bool} {r:Nat}:∀{l:List (Oper × bI T)} {i:Nat} {σ σ':St T},σ.res r=σ'.res r→(∀j x,l[j]? =some x→NH x.2 r→D (i+j)=D' (i+j))→(fO D i l σ).res r=(fO D' i l σ').res r
 | [],_,_,_,h,_=>h
 | (o,U)::l,i,σ,σ',h,hD=>by
   unfold fO
   refine KG ?_ (fun j x hj hk=>by have:=hD (j+1) x (by simpa using hj) hk;rw [show i+1+j=i+(j+1) by omega];exact this)
   by_cases hk:NH U r
   ·have:=hD 0 (o,U) rfl hk
    rw [Nat.add_zero] at this
    rw [this]
    cases D' i
    ·exact h
    ·exact Nh h
   ·have hno:∀s:St T,(s.upd o.dst U).res r=s.res r:=fun s=>by rw [St.dP];exact AP hk
    cases D i<;>cases D' i<;>simp only [hno,h]
theorem KH {D D':Nat→Bool} {t:Nat}:∀{l:List (Oper × bI T)} {i:Nat} {σ σ':St T},σ.tmp t=σ'.tmp t→(∀j x,l[j]? =some x→x.1.dst=some t→D (i+j)=D' (i+j))→(fO D i l σ).tmp t=(fO D' i l σ').tmp t
 | [],_,_,_,h,_=>h
 | (o,U)::l,i,σ,σ',h,hD=>by
   unfold fO
   refine KH ?_ (fun j x hj hk=>by have:=hD (j+1) x (by simpa using hj) hk;rw [show i+1+j=i+(j+1) by omega];exact this)
   by_cases hk:o.dst=some t
   ·have:=hD 0 (o,U) rfl hk
    rw [Nat.add_zero] at this
    rw [this]
    cases D' i
    ·exact h
    ·exact Nl h
   ·have hno:∀s:St T,(s.upd o.dst U).tmp t=s.tmp t:=fun s=>yH hk
    cases D i<;>cases D' i<;>simp only [hno,h]
theorem yI {r:Nat}:(σ.fresh r=true)↔r<1000∧(∀p∈σ.tm,r∉p.2.refs)∧(∀p∈σ.rs,p.1≠r∧r∉p.2.refs):=by
 have h1:∀l:List (Nat × Slot T),oW r l=true↔∀p∈l,r∉p.2.refs:=by
  intro l
  induction l with
  | nil=>simp [oW]
  | cons x l ih=>
    unfold oW
    cases hh:jH r x.2.refs
    ·have:r∉x.2.refs:=fun h=>by rw [ig.2 h] at hh;cases hh
     simp [ih,this]
    ·have:r∈x.2.refs:=ig.1 hh
     simp [this]
 have h2:∀l:List (Nat × dB T),oZ r l=true↔∀p∈l,p.1≠r∧r∉p.2.refs:=by
  intro l
  induction l with
  | nil=>simp [oZ]
  | cons x l ih=>
    unfold oZ
    cases hb:Nat.beq x.1 r
    ·have hne:x.1≠r:=fun e=>absurd hb (by rw [e];simp [Nat.beq_eq])
     cases hh:jH r x.2.refs
     ·have:r∉x.2.refs:=fun h=>by rw [ig.2 h] at hh;cases hh
      simp [ih,this,hne]
     ·have:r∈x.2.refs:=ig.1 hh
      simp [this]
    ·have:x.1=r:=Nat.eq_of_beq_eq_true hb
     simp [this]
 unfold St.fresh
 cases h0:Nat.blt r 1000
 ·simp only [Bool.false_eq_true,false_iff]
  intro h3
  have:Nat.blt r 1000=true:=by simpa [Nat.blt_eq] using h3.1
  rw [this] at h0;cases h0
 have hlt:r<1000:=by simpa [Nat.blt_eq] using h0
 cases h:oW r σ.tm
 ·simp only [Bool.false_eq_true,false_iff]
  intro h3
  rw [(h1 _).2 h3.2.1] at h;cases h
 ·simp only [h2]
  exact⟨fun h'=>⟨hlt,(h1 _).1 h,h'⟩,fun h'=>h'.2.2⟩
def bI.ES (U:bI T) (r:Nat):Prop:=r∉U.slot.refs∧∀p∈U.rs,p.1≠r∧r∉p.2.refs
theorem Xj {dst:Option Nat} {U:bI T} {r:Nat} (h:σ.fresh r=true) (hU:U.ES r):(σ.upd dst U).fresh r=true:=by
 rw [yI] at h⊢
 have hrs:∀p∈U.rs++σ.rs,p.1≠r∧r∉p.2.refs:=fun p hp=>(List.mem_append.1 hp).elim (hU.2 p) (h.2.2 p)
 cases dst with
 | none=>exact⟨h.1,h.2.1,hrs⟩
 | some d=>exact⟨h.1,fun p hp=>(List.mem_cons.1 hp).elim (fun e=>e▸hU.1) (h.2.1 p),hrs⟩
theorem MB {dst:Option Nat} {U:bI T} {r:Nat} (h:(σ.upd dst U).fresh r=true):σ.fresh r=true:=by
 rw [yI] at h⊢
 cases dst with
 | none=>exact⟨h.1,h.2.1,fun p hp=>h.2.2 p (List.mem_append_right _ hp)⟩
 | some d=>exact⟨h.1,fun p hp=>h.2.1 p (List.mem_cons_of_mem _ hp),fun p hp=>h.2.2 p (List.mem_append_right _ hp)⟩
theorem MC {D:Nat→Bool} {r:Nat}:∀{l:List (Oper × bI T)} {i:Nat} {σ:St T},σ.fresh r=true→(∀j x,l[j]? =some x→D (i+j)=true→x.2.ES r)→(fO D i l σ).fresh r=true
 | [],_,_,h,_=>h
 | (o,U)::l,i,σ,h,hq=>by
   unfold fO
   refine MC ?_ (fun j x hj hD=>hq (j+1) x (by simpa using hj) (by rw [show i+(j+1)=i+1+j by omega];exact hD))
   cases hD:D i
   ·exact h
   ·exact Xj h (hq 0 (o,U) rfl hD)
theorem aa2 (hS:jD W0 σ a w) (ht:∀t,σ1.tmp t=σ.tmp t) (hr:∀r,σ1.res r=σ.res r) (hn:σ1.n=σ.n) (hA:σ1.A=σ.A):jD W0 σ1 a w:=by
 obtain⟨env,F,h⟩:=hS
 have calm:Calm σ σ1 F F w w:=⟨hA,Nat.le_refl _,fun k _ hk=>⟨hk,rfl⟩⟩
 have same:∀r,Same σ σ1 env env F F w w r:=fun r=>⟨rfl,fun _=>Iff.rfl,hr r,fun _ _=>rfl⟩
 refine⟨env,F,h.below,h.tab,h.pin,fun k hk=>(by rw [hA];exact h.acc k hk),h.size.trans hn.symm,h.defers,fun r=>?_,h.own,h.apart,fun t=>?_⟩
 ·rw [hr r];exact GK calm (same r) (h.res r) ⟨fun _ _=>rfl,fun q _=>(same q.1).holds⟩
 ·rw [ht t];exact yc calm (h.tm t) (fun _ _=>rfl) (fun q _=>(same q.1).holds) (fun r i o _=>(same r).O9)
end
end Go.Proofs.YtcnfgfomholheaaGreatDoor.Z
end
section
namespace Go.Proofs.YtcnfgfomholheaaGreatDoor.Z
open Go.RowKit
set_option linter.unusedVariables false
set_option linter.unusedSimpArgs false
section
variable {T:dX} {P:Program} {W0:Fr} {σ σ' σ1 σ2:St T} {a:Act} {w w1:World} {ops:Array Oper}
def up (A:List Nat):List Nat→Nat
 | []=>0
 | k::r=>(2 ^ k ||| A.getD k 0) ||| up A r
def lZ:List (Oper × bI T)→List Nat→List Nat
 | [],A=>A
 | x::l,A=>lZ l (A++[up A (needs x.1)])
def yg {α:Type 0} (f:Nat→α→Bool):Nat→List α→Bool
 | _,[]=>true
 | i,x::l=>match f i x with
   | true=>yg f (i+1) l
   | false=>false
theorem vJ {α:Type} {f:Nat→α→Bool}:∀{l:List α} {i:Nat},yg f i l=true→∀j x,l[j]? =some x→f (i+j) x=true
 | [],_,_,j,x,h=>by simp at h
 | y::l,i,h,j,x,hj=>by
   unfold yg at h
   cases hf:f i y<;>rw [hf] at h<;>dsimp only at h
   ·cases h
   cases j with
   | zero=>simp at hj;subst hj;exact hf
   | succ j=>have:=vJ h j x (by simpa using hj);rw [show i+(j+1)=i+1+j by omega];exact this
theorem PI:∀(l:List (Oper × bI T)) (A:List Nat),∃B,lZ l A=A++B
 | [],A=>⟨[],by simp [lZ]⟩
 | x::l,A=>by
   obtain⟨B,h⟩:=PI l (A++[up A (needs x.1)])
   exact⟨[up A (needs x.1)]++B,by rw [lZ,h,List.append_assoc]⟩
theorem SG:∀{l:List (Oper × bI T)} {A:List Nat} {i:Nat} {x:Oper × bI T},l[i]? =some x→∃B,B.length=A.length+i∧(lZ l A).getD (A.length+i) 0=up B (needs x.1)∧∀k,k<A.length+i→B.getD k 0=(lZ l A).getD k 0
 | [],A,i,x,h=>by simp at h
 | y::l,A,0,x,h=>by
   simp at h
   subst h
   obtain⟨B,hB⟩:=PI l (A++[up A (needs y.1)])
   refine⟨A,rfl,?_,fun k hk=>?_⟩
   ·rw [lZ,hB];simp [List.getD_eq_getElem?_getD]
   ·rw [lZ,hB,List.append_assoc]
    have hk':k<A.length:=hk
    simp [List.getD_eq_getElem?_getD,List.getElem?_append_left hk']
 | y::l,A,i+1,x,h=>by
   obtain⟨B,h1,h2,h3⟩:=SG (l:=l) (A:=A++[up A (needs y.1)]) (i:=i) (x:=x) (by simpa using h)
   have e:(A++[up A (needs y.1)]).length+i=A.length+(i+1):=by simp;omega
   rw [e] at h1 h2 h3
   exact⟨B,h1,h2,h3⟩
theorem Xk {A:List Nat} {j:Nat}:∀{ns:List Nat},(up A ns).testBit j=true→∃k∈ns,j=k∨(A.getD k 0).testBit j=true
 | [],h=>by simp [up] at h
 | k::r,h=>by
   unfold up at h
   rw [Nat.testBit_or,Nat.testBit_or,Bool.or_eq_true,Bool.or_eq_true] at h
   rcases h with (h | h) | h
   ·rw [Nat.testBit_two_pow] at h
    have hkj:k=j:=by simpa using h
    exact⟨k,List.mem_cons_self, .inl hkj.symm⟩
   ·exact⟨k,List.mem_cons_self, .inr h⟩
   ·obtain⟨m,hm,h2⟩:=Xk h;exact⟨m,List.mem_cons_of_mem _ hm,h2⟩
def SH:Option Nat→Option Nat→Bool
 | some d,some d'=>!(Nat.beq d d')
 | _,_=>true
def sub (l m:List Nat):Bool:=l.all fun r=>jH r m
def UN (U:bI T):Bool:=sub U.slot.refs U.bF && sub U.bH U.bF && U.rs.all fun p=>jH p.1 U.bH && sub p.2.refs U.bF
def PK (A:List Nat) (i:Nat) (x:Oper × bI T) (j:Nat) (y:Oper × bI T):Bool:=
 Nat.beq i j || (SH x.1.dst y.1.dst && x.2.bH.all fun r=>!jH r y.2.bF || (A.getD j 0).testBit i || (A.getD i 0).testBit j)
def noSlot (x:Oper × bI T):Bool:=match x.1.dst with
 | none=>match x.2.slot.refs with
   | []=>true
   | _=>false
 | some _=>true
def Y9 (ops:Array Oper) (A:List Nat) (zs:List (Oper × bI T)) (i:Nat) (x:Oper × bI T):Bool:=
 (noSlot x && (needs x.1).all (fun k=>Nat.blt k i)) && UN x.2 && yg (fun j y=>PK A i x j y) 0 zs && (kL x.1.op++AO ops x.1).all fun t=>yg (fun j y=>SH y.1.dst (some t) || jH j (needs x.1) || (A.getD j 0).testBit i) 0 zs
def OQ (ops:Array Oper) (zs:List (Oper × bI T)):Bool:=yg (Y9 ops (lZ zs []) zs) 0 zs
structure Facts (ops:Array Oper) (zs:List (Oper × bI T)):Prop where
 lt:∀(i:Nat) x,zs[i]? =some x→∀k∈needs x.1,k<i
 nod:∀(i:Nat) x,zs[i]? =some x→x.1.dst=none→x.2.slot.refs=[]
 slot:∀(i:Nat) x,zs[i]? =some x→∀r∈x.2.slot.refs,r∈x.2.bF
 bH:∀(i:Nat) x,zs[i]? =some x→∀r∈x.2.bH,r∈x.2.bF
 rs:∀(i:Nat) x,zs[i]? =some x→∀p∈x.2.rs,p.1∈x.2.bH∧∀r∈p.2.refs,r∈x.2.bF
 dst:∀(i j:Nat) x y d,zs[i]? =some x→zs[j]? =some y→i≠j→x.1.dst=some d→y.1.dst≠some d
 ord:∀(i j:Nat) x y r,zs[i]? =some x→zs[j]? =some y→i≠j→r∈x.2.bH→r∈y.2.bF→((lZ zs []).getD j 0).testBit i=true∨((lZ zs []).getD i 0).testBit j=true
 tm:∀(i j:Nat) x y t,zs[i]? =some x→zs[j]? =some y→t∈kL x.1.op++AO ops x.1→y.1.dst=some t→j∈needs x.1∨((lZ zs []).getD j 0).testBit i=true
theorem GN {l m:List Nat} (h:sub l m=true):∀r∈l,r∈m:=fun r hr=>ig.1 (List.all_eq_true.1 h r hr)
theorem PL {d d':Option Nat} {t:Nat} (h:SH d d'=true) (h1:d=some t):d'≠some t:=by
 subst h1
 rintro rfl
 simp [SH,Nat.beq_eq] at h
theorem QZ {zs:List (Oper × bI T)} (h:OQ ops zs=true):Facts ops zs:=by
 have h0:∀(i:Nat) x,zs[i]? =some x→Y9 ops (lZ zs []) zs i x=true:=fun i x hx=>by have:=vJ h i x hx;rwa [Nat.zero_add] at this
 have h1:∀(i:Nat) x,zs[i]? =some x→((((noSlot x=true∧(needs x.1).all (fun k=>Nat.blt k i)=true)∧UN x.2=true)∧yg (fun j y=>PK (lZ zs []) i x j y) 0 zs=true)∧((kL x.1.op++AO ops x.1).all fun t=>yg (fun j y=>SH y.1.dst (some t) || jH j (needs x.1) || ((lZ zs []).getD j 0).testBit i) 0 zs)=true):=fun i x hx=>by
  have:=h0 i x hx
  unfold Y9 at this
  simpa only [Bool.and_eq_true] using this
 have h2:∀(i:Nat) x,zs[i]? =some x→((sub x.2.slot.refs x.2.bF=true∧sub x.2.bH x.2.bF=true)∧(x.2.rs.all fun p=>jH p.1 x.2.bH && sub p.2.refs x.2.bF)=true):=fun i x hx=>by
  have:=(h1 i x hx).1.1.2
  unfold UN at this
  simpa only [Bool.and_eq_true] using this
 have h3:∀(i j:Nat) x y,zs[i]? =some x→zs[j]? =some y→i≠j→(SH x.1.dst y.1.dst=true∧(x.2.bH.all fun r=>!jH r y.2.bF || ((lZ zs []).getD j 0).testBit i || ((lZ zs []).getD i 0).testBit j)=true):=fun i j x y hx hy hij=>by
  have:=vJ (h1 i x hx).1.2 j y hy
  unfold PK at this
  rw [Nat.zero_add,fD hij,Bool.false_or,Bool.and_eq_true] at this
  exact this
 refine⟨fun i x hx k hk=>?_,fun i x hx hd=>?_,fun i x hx=>GN (h2 i x hx).1.1,fun i x hx=>GN (h2 i x hx).1.2,fun i x hx p hp=>?_,fun i j x y d hx hy hij hd=>PL (h3 i j x y hx hy hij).1 hd,fun i j x y r hx hy hij hr hr2=>?_,fun i j x y t hx hy ht hd=>?_⟩
 ·have:=List.all_eq_true.1 (h1 i x hx).1.1.1.2 k hk
  simpa [Nat.blt_eq] using this
 ·have:=(h1 i x hx).1.1.1.1
  unfold noSlot at this
  rw [hd] at this
  dsimp only at this
  split at this
  ·assumption
  ·cases this
 ·have:=List.all_eq_true.1 (h2 i x hx).2 p hp
  rw [Bool.and_eq_true] at this
  exact⟨ig.1 this.1,GN this.2⟩
 ·have:=List.all_eq_true.1 (h3 i j x y hx hy hij).2 r hr
  rw [ig.2 hr2] at this
  simpa [Bool.or_eq_true] using this
 ·have:=vJ (List.all_eq_true.1 (h1 i x hx).2 t ht) j y hy
  rw [Nat.zero_add,Bool.or_eq_true,Bool.or_eq_true] at this
  rcases this with (h4 | h4) | h4
  ·exact absurd rfl (PL h4 hd)
  ·exact .inl (ig.1 h4)
  ·exact .inr h4
def Closed (zs:List (Oper × bI T)) (D:Nat→Bool):Prop:=∀(i:Nat) x,zs[i]? =some x→D i=true→∀k∈needs x.1,D k=true
theorem rQ {zs:List (Oper × bI T)} (hf:Facts ops zs) {D:Nat→Bool} (hc:Closed zs D):∀(i:Nat) x,zs[i]? =some x→(∀k∈needs x.1,D k=true)→∀j,((lZ zs []).getD i 0).testBit j=true→D j=true∧j<i:=by
 intro i
 induction i using Nat.strongRecOn with
 | _ i ih=>
   intro x hx hn j hj
   obtain⟨B,h1,h2,h3⟩:=SG (A:=[]) hx
   simp only [List.length_nil,Nat.zero_add] at h1 h2 h3
   rw [h2] at hj
   obtain⟨k,hk,h4⟩:=Xk hj
   have hki:=hf.lt i x hx k hk
   rcases h4 with rfl | h4
   ·exact⟨hn _ hk,hki⟩
   ·rw [h3 k hki] at h4
    have hlen:i<zs.length:=(List.getElem?_eq_some_iff.1 hx).1
    have hkx:zs[k]? =some zs[k]:=List.getElem?_eq_getElem (by omega)
    have:=ih k hki _ hkx (hc k _ hkx (hn k hk)) j h4
    exact⟨this.1,by omega⟩
theorem Xl {a b:Nat} (h:¬a<b):Nat.blt a b=false:=by
 cases hb:Nat.blt a b
 ·rfl
 ·exact absurd (by simpa [Nat.blt_eq] using hb) h
theorem sQ (D:Nat→Bool) (i:Nat) (o:Oper) (U:bI T) (l:List (Oper × bI T)) (σ:St T):fO D i ((o,U)::l) σ=fO D (i+1) l (match D i with
   | true=>σ.upd o.dst U
   | false=>σ):=rfl
theorem DF {D:Nat→Bool}:∀{l:List (Oper × bI T)} {i:Nat} {σ:St T},(∀j,j<l.length→D (i+j)=false)→fO D i l σ=σ
 | [],_,_,_=>rfl
 | (o,U)::l,i,σ,h=>by
   unfold fO
   have h0:=h 0 (by simp)
   rw [Nat.add_zero] at h0
   rw [h0]
   exact DF (fun j hj=>by have:=h (j+1) (by simpa using hj);rw [show i+1+j=i+(j+1) by omega];exact this)
theorem DI {D:Nat→Bool}:∀{l:List (Oper × bI T)} {i:Nat} {σ:St T},fO D (i+1) l σ=fO (fun j=>D (j+1)) i l σ
 | [],_,_=>rfl
 | (o,U)::l,i,σ=>by unfold fO;exact DI
theorem Za {l:List Oper} {Us:List (bI T)} (ht:Tr P W0 ops l σ Us σ2):l.length=Us.length∧σ2=fO (fun _=>true) 0 (l.zip Us) σ∧∀(i:Nat) x,(l.zip Us)[i]? =some x→GStep P W0 ops x.1 (fO (fun j=>Nat.blt j i) 0 (l.zip Us) σ) x.2:=by
 induction ht with
 | nil σ=>exact⟨rfl,rfl,fun i x h=>by simp at h⟩
 | @cons o l σ σ2 U Us h ht ih=>
   obtain⟨h1,h2,h3⟩:=ih
   refine⟨by simp [h1],?_,?_⟩
   ·rw [h2]
    show _=fO _ 0 ((o,U)::l.zip Us) σ
    rw [sQ,DI]
   ·intro i x hx
    cases i with
    | zero=>
      simp at hx
      subst hx
      rw [DF (D:=fun j=>Nat.blt j 0) (fun j _=>Xl (by omega))]
      exact h
    | succ i=>
      have:=h3 i x (by simpa using hx)
      show GStep P W0 ops x.1 (fO _ 0 ((o,U)::l.zip Us) σ) x.2
      rw [sQ,DI]
      exact this
theorem MF {D:Nat→Bool}:∀{l1:List (Oper × bI T)} {l2:List (Oper × bI T)} {i:Nat} {σ:St T},fO D i (l1++l2) σ=fO D (i+l1.length) l2 (fO D i l1 σ)
 | [],_,_,_=>rfl
 | (o,U)::l1,l2,i,σ=>by
   show fO D (i+1) (l1++l2) _=fO D _ l2 (fO D (i+1) l1 _)
   rw [MF]
   congr 1
   simp;omega
theorem MG {D D':Nat→Bool}:∀{l:List (Oper × bI T)} {i:Nat} {σ:St T},(∀j,j<l.length→D (i+j)=D' (i+j))→fO D i l σ=fO D' i l σ
 | [],_,_,_=>rfl
 | (o,U)::l,i,σ,h=>by
   unfold fO
   have h0:=h 0 (by simp)
   rw [Nat.add_zero] at h0
   rw [h0]
   exact MG (fun j hj=>by have:=h (j+1) (by simpa using hj);rw [show i+1+j=i+(j+1) by omega];exact this)
theorem DJ {D:Nat→Bool} {r:Nat}:∀{l:List (Oper × bI T)} {i:Nat} {σ:St T},(∀j x,l[j]? =some x→D (i+j)=true→¬NH x.2 r)→(fO D i l σ).res r=σ.res r
 | [],_,_,_=>rfl
 | (o,U)::l,i,σ,h=>by
   unfold fO
   rw [DJ (fun j x hj hD=>h (j+1) x (by simpa using hj) (by rw [show i+(j+1)=i+1+j by omega];exact hD))]
   cases hD:D i
   ·rfl
   ·rw [St.dP];exact AP (h 0 (o,U) rfl hD)
theorem DK {D:Nat→Bool} {t:Nat}:∀{l:List (Oper × bI T)} {i:Nat} {σ:St T},(∀j x,l[j]? =some x→D (i+j)=true→x.1.dst≠some t)→(fO D i l σ).tmp t=σ.tmp t
 | [],_,_,_=>rfl
 | (o,U)::l,i,σ,h=>by
   unfold fO
   rw [DK (fun j x hj hD=>h (j+1) x (by simpa using hj) (by rw [show i+(j+1)=i+1+j by omega];exact hD))]
   cases hD:D i
   ·rfl
   ·exact yH (h 0 (o,U) rfl hD)
end
end Go.Proofs.YtcnfgfomholheaaGreatDoor.Z
end
section
namespace Go.Proofs.YtcnfgfomholheaaGreatDoor.Z
open Go.RowKit
set_option linter.unusedVariables false
set_option linter.unusedSimpArgs false
section
variable {T:dX} {P:Program} {W0:Fr} {σ σ' σ1 σ2:St T} {a:Act} {w w1:World} {ops:Array Oper} {zs:List (Oper × bI T)}
theorem UO (hf:Facts ops zs) {j:Nat} {y:Oper × bI T} (hy:zs[j]? =some y) {r:Nat} (h:r∉y.2.bF):y.2.ES r:=
 ⟨fun hr=>h (hf.slot j y hy r hr),fun p hp=>⟨fun e=>h (e▸hf.bH j y hy p.1 (hf.rs j y hy p hp).1),fun hr=>h ((hf.rs j y hy p hp).2 r hr)⟩⟩
theorem UQ (hf:Facts ops zs) {D:Nat→Bool} (hc:Closed zs D) {i:Nat} {x:Oper × bI T} (hx:zs[i]? =some x) (hi:D i=false) (hn:∀k∈needs x.1,D k=true):
  Agree (fO (fun j=>Nat.blt j i) 0 zs σ) (fO D 0 zs σ) (kL x.1.op++AO ops x.1) x.2.bF x.2.bH:=by
 have hblt:∀j,Nat.blt j i=true↔j<i:=fun j=>by simp [Nat.blt_eq]
 have hno:∀j,¬j<i→Nat.blt j i=false:=fun j h=>Xl h
 have acp:∀j,((lZ zs []).getD i 0).testBit j=true→D j=true∧j<i:=fun j h=>rQ hf hc i x hx hn j h
 have hdesc:∀j y,zs[j]? =some y→((lZ zs []).getD j 0).testBit i=true→D j=false∧¬j<i:=by
  intro j y hy h
  constructor
  ·cases hD:D j
   ·rfl
   ·have:=(rQ hf hc j y hy (hc j y hy hD) i h).1
    rw [hi] at this;cases this
  ·intro hlt
   have:=(rQ hf (D:=fun _=>true) (fun _ _ _ _ _ _=>rfl) j y hy (fun _ _=>rfl) i h).2
   omega
 refine⟨fun t ht=>?_,fun r hr=>?_,fun r hr hfr=>?_,?_⟩
 ·refine KH rfl (fun j y hj hd=>?_)
  rw [Nat.zero_add]
  rcases hf.tm i j x y t hx hj ht hd with h1 | h1
  ·rw [hn j h1,(hblt j).2 (hf.lt i x hx j h1)]
  ·have:=hdesc j y hj h1
   rw [this.1,hno j this.2]
 ·refine KG rfl (fun j y hj hk=>?_)
  rw [Nat.zero_add]
  obtain⟨p,hp,rfl⟩:=hk
  have hpc:=(hf.rs j y hj p hp).1
  by_cases e:j=i
  ·subst e;rw [hi,hno j (Nat.lt_irrefl j)]
  ·rcases hf.ord j i y x p.1 hj hx e hpc hr with h | h
   ·have:=acp j h
    rw [this.1,(hblt j).2 this.2]
   ·have:=hdesc j y hj h
    rw [this.1,hno j this.2]
 ·have hbase:σ.fresh r=true:=by
   have key:∀(l:List (Oper × bI T)) (m:Nat) (D:Nat→Bool) (s:St T),(fO D m l s).fresh r=true→s.fresh r=true:=by
    intro l
    induction l with
    | nil=>exact fun _ _ _ h=>h
    | cons z l ih=>
      intro m D s h
      obtain⟨o,U⟩:=z
      rw [sQ] at h
      have:=ih _ _ _ h
      cases hD:D m<;>rw [hD] at this
      ·exact this
      ·exact MB this
   exact key _ _ _ _ hfr
  refine MC hbase (fun j y hj hD=>?_)
  rw [Nat.zero_add] at hD
  have hji:j≠i:=fun e=>by rw [e,hi] at hD;cases hD
  by_cases ht:r∈y.2.bF
  ·rcases hf.ord i j x y r hx hj (fun e=>hji e.symm) hr ht with h | h
   ·have:=(hdesc j y hj h).1
    rw [hD] at this;cases this
   ·have hlt:=(acp j h).2
    have key:∀(l:List (Oper × bI T)) (m:Nat) (s:St T),(fO (fun q=>Nat.blt q i) m l s).fresh r=true→∀q z,l[q]? =some z→m+q<i→z.2.ES r∨z.1.dst=none∧∀p∈z.2.rs,p.1≠r∧r∉p.2.refs:=by
     intro l
     induction l with
     | nil=>intro m s h q z hq;simp at hq
     | cons z0 l ih=>
       intro m s h q z hq hlt
       obtain⟨o,U⟩:=z0
       rw [sQ] at h
       cases q with
       | zero=>
         simp at hq
         subst hq
         have hb:Nat.blt m i=true:=(hblt m).2 (by omega)
         rw [hb] at h
         have h2:((s.upd o.dst U).fresh r)=true:=by
          have key2:∀(l:List (Oper × bI T)) (m:Nat) (D:Nat→Bool) (s:St T),(fO D m l s).fresh r=true→s.fresh r=true:=by
           intro l
           induction l with
           | nil=>exact fun _ _ _ h=>h
           | cons z l ih=>
             intro m D s h
             obtain⟨o,U⟩:=z
             rw [sQ] at h
             have:=ih _ _ _ h
             cases hD:D m<;>rw [hD] at this
             ·exact this
             ·exact MB this
          exact key2 _ _ _ _ h
         rw [yI] at h2
         replace h2:=h2.2
         cases hd:o.dst with
         | none=>
           rw [hd] at h2
           exact .inr ⟨rfl,fun p hp=>h2.2 p (List.mem_append_left _ hp)⟩
         | some d=>
           rw [hd] at h2
           exact .inl ⟨h2.1 (d,U.slot) List.mem_cons_self,fun p hp=>h2.2 p (List.mem_append_left _ hp)⟩
       | succ q=>exact ih _ _ h q z (by simpa using hq) (by omega)
    rcases key zs 0 σ hfr j y hj (by omega) with h2 | ⟨h2,h3⟩
    ·exact h2
    ·exact⟨fun hrs=>(by rw [hf.nod j y hj h2] at hrs;cases hrs),h3⟩
  ·exact UO hf hj ht
 ·rw [Jg,Jg]
def also (D:Nat→Bool) (i:Nat):Nat→Bool:=fun j=>match Nat.beq j i with
 | true=>true
 | false=>D j
theorem DL (D:Nat→Bool) (i:Nat):also D i i=true:=by simp [also,Nat.beq_eq]
theorem vV (D:Nat→Bool) {i j:Nat} (h:j≠i):also D i j=D j:=by simp [also,fD h]
theorem PN {α:Type}:∀{l:List α} {i:Nat} {x:α},l[i]? =some x→∃l1 l2,l=l1++x::l2∧l1.length=i
 | [],i,x,h=>by simp at h
 | y::l,0,x,h=>by simp at h;subst h;exact⟨[],l,rfl,rfl⟩
 | y::l,i+1,x,h=>by
   obtain⟨l1,l2,h1,h2⟩:=PN (l:=l) (i:=i) (by simpa using h)
   exact⟨y::l1,l2,by rw [h1];rfl,by simp [h2]⟩
theorem Q5 (hf:Facts ops zs) {D:Nat→Bool} (hc:Closed zs D) {i:Nat} {x:Oper × bI T} (hx:zs[i]? =some x) (hi:D i=false) (hn:∀k∈needs x.1,D k=true):
  (∀t,(fO (also D i) 0 zs σ).tmp t=((fO D 0 zs σ).upd x.1.dst x.2).tmp t)∧(∀r,(fO (also D i) 0 zs σ).res r=((fO D 0 zs σ).upd x.1.dst x.2).res r)∧(fO (also D i) 0 zs σ).n=((fO D 0 zs σ).upd x.1.dst x.2).n:=by
 obtain⟨l1,l2,hz,hl⟩:=PN hx
 have hsp:fO (also D i) 0 zs σ=fO (also D i) (i+1) l2 ((fO (also D i) 0 l1 σ).upd x.1.dst x.2):=by
  rw [hz,MF,Nat.zero_add,hl]
  obtain⟨o,U⟩:=x
  rw [sQ,DL]
 have hl2:∀j y,l2[j]? =some y→zs[i+1+j]? =some y:=fun j y hj=>by
  rw [hz,List.getElem?_append_right (by omega),hl,show i+1+j - i=j+1 by omega];simpa using hj
 refine⟨fun t=>?_,fun r=>?_,by rw [Jg,St.Uz,Jg]⟩
 ·by_cases ht:x.1.dst=some t
  ·rw [hsp,DK (fun j y hj _ hd=>hf.dst i (i+1+j) x y t hx (hl2 j y hj) (by omega) ht hd),ht,St.oM,St.oM]
  ·rw [yH ht]
   refine KH rfl (fun j y hj hd=>?_)
   rw [Nat.zero_add]
   refine vV D (fun e=>?_)
   subst e
   rw [hx] at hj
   cases hj
   exact ht hd
 ·by_cases hk:NH x.2 r
  ·have h1:(fO (also D i) 0 zs σ).res r=((fO (also D i) 0 l1 σ).upd x.1.dst x.2).res r:=by
    rw [hsp]
    refine DJ (fun j y hj hD hky=>?_)
    rw [vV D (by omega)] at hD
    have hy:=hl2 j y hj
    obtain⟨p,hp,rfl⟩:=hk
    obtain⟨p',hp',e⟩:=hky
    have hc1:=(hf.rs i x hx p hp).1
    have hc2:=(hf.rs _ y hy p' hp').1
    rw [e] at hc2
    rcases hf.ord i (i+1+j) x y p.1 hx hy (by omega) hc1 (hf.bH _ y hy _ hc2) with h | h
    ·have:=(rQ hf hc _ y hy (hc _ y hy hD) i h).1
     rw [hi] at this;cases this
    ·have:=(rQ hf hc i x hx hn _ h).2
     omega
   rw [h1,St.dP,St.dP]
   exact PG hk
  ·rw [show((fO D 0 zs σ).upd x.1.dst x.2).res r=(fO D 0 zs σ).res r by rw [St.dP];exact AP hk]
   refine KG rfl (fun j y hj hky=>?_)
   rw [Nat.zero_add]
   refine vV D (fun e=>?_)
   subst e
   rw [hx] at hj
   cases hj
   exact hk hky
def left (listed:Array Bool):Nat→Nat
 | 0=>0
 | n+1=>left listed n+match listed.getD n true with
   | true=>0
   | false=>1
theorem PO {listed:Array Bool} {i:Nat} (hi:listed.getD i true=false):∀n,left (listed.setIfInBounds i true) n+(if i<n then 1 else 0)=left listed n
 | 0=>by simp [left]
 | n+1=>by
   have ih:=PO hi n
   unfold left
   by_cases e:i=n
   ·subst e
    have h1:(listed.setIfInBounds i true).getD i true=true:=by
     by_cases h:i<listed.size<;>simp [Array.getD,h]
    rw [h1,hi]
    simp at ih⊢
    omega
   ·rw [getD_set_ne true e]
    have:(if i<n+1 then 1 else 0)=(if i<n then 1 else 0):=by
     by_cases h:i<n
     ·rw [if_pos h,if_pos (by omega)]
     ·rw [if_neg h,if_neg (by omega)]
    rw [this];omega
theorem MH {listed:Array Bool}:∀{n:Nat},left listed n=0→∀j,j<n→listed.getD j true=true
 | 0,_,j,h=>by omega
 | n+1,h,j,hj=>by
   unfold left at h
   by_cases e:j=n
   ·subst e
    cases hb:listed.getD j true
    ·rw [hb] at h;simp at h
    ·rfl
   ·exact MH (n:=n) (by omega) j (by omega)
theorem MI {o:Oper} {k:Nat}:k∈needs o↔∃e∈o.after,Region.binds .any e=true∧e.on=k:=by
 unfold needs
 simp only [List.mem_map,List.mem_filter,Array.mem_toList_iff]
 exact⟨fun⟨e,⟨h1,h2⟩,h3⟩=>⟨e,h1,h2,h3⟩,fun⟨e,h1,h2,h3⟩=>⟨e,⟨h1,h2⟩,h3⟩⟩
theorem Zb {Q:Exit→Act→World→Prop} {σ:St T} (hf:Facts ops zs) (hzo:∀(i:Nat) o,ops[i]? =some o→∃U,zs[i]? =some (o,U)) (hlen:zs.length=ops.size)
  (hg:∀(i:Nat) x,zs[i]? =some x→GStep P W0 ops x.1 (fO (fun j=>Nat.blt j i) 0 zs σ) x.2) (hQ:∀a' w',jD W0 (fO (fun _=>true) 0 zs σ) a' w'→Q .normal a' w'):
  ∀(fuel:Nat) (listed:Array Bool) (a:Act) (w:World),listed.size=ops.size→left listed ops.size≤fuel→Closed zs (fun j=>listed.getD j false)→jD W0 (fO (fun j=>listed.getD j false) 0 zs σ) a w→wpAny P .any ops Q fuel listed a w:=by
 intro fuel
 have hall:∀(listed:Array Bool) (a:Act) (w:World),listed.size=ops.size→(∀j,j<ops.size→listed.getD j true=true)→jD W0 (fO (fun j=>listed.getD j false) 0 zs σ) a w→Q .normal a w:=by
  intro listed a w hs h hS
  refine hQ _ _ ?_
  rw [MG (D':=fun j=>listed.getD j false) (fun j hj=>?_)]
  ·exact hS
  ·have h1:j<listed.size:=by omega
   have h2:=h j (by omega)
   simp only [Nat.zero_add]
   simp [Array.getD,h1] at h2⊢
   exact h2
 induction fuel with
 | zero=>
   intro listed a w hs hl hc hS
   have h0:=MH (Nat.le_zero.1 hl)
   refine⟨?_,hall listed a w hs h0 hS⟩
   refine List.eq_nil_iff_forall_not_mem.2 (fun j hj=>?_)
   obtain⟨h1,o,ho,_⟩:=mem_ready.1 hj
   have:=h0 j (Array.getElem?_eq_some_iff.1 ho).1
   rw [h1] at this;cases this
 | succ fuel ih=>
   intro listed a w hs hl hc hS
   refine⟨fun hr=>?_,fun i hi=>?_⟩
   ·refine hall listed a w hs (fun j hj=>?_) hS
    induction j using Nat.strongRecOn with
    | _ j ihj=>
      cases hb:listed.getD j true with
      | true=>rfl
      | false=>
        exfalso
        have ho:ops[j]? =some ops[j]:=Array.getElem?_eq_getElem hj
        obtain⟨U,hU⟩:=hzo j _ ho
        have hm:j∈Region.ready .any ops listed:=mem_ready.2 ⟨hb,_,ho,fun e he hbd=>by
         have hlt:=hf.lt j _ hU e.on (MI.2 ⟨e,he,hbd,rfl⟩)
         have h1:=ihj e.on hlt (by omega)
         have h2:e.on<listed.size:=by omega
         simp [Array.getD,h2] at h1⊢
         exact h1⟩
        rw [hr] at hm;cases hm
   ·obtain⟨h1,o,ho,hall'⟩:=mem_ready.1 hi
    obtain⟨U,hU⟩:=hzo i o ho
    have hilt:i<ops.size:=(Array.getElem?_eq_some_iff.1 ho).1
    have hif:listed.getD i false=false:=by
     have h2:i<listed.size:=by omega
     simp [Array.getD,h2] at h1⊢
     exact h1
    have hn:∀k∈needs o,listed.getD k false=true:=fun k hk=>by
     obtain⟨e,he,hb,rfl⟩:=MI.1 hk
     exact hall' e he hb
    have hA:=UQ (σ:=σ) hf hc hU hif hn
    obtain⟨e1,e2,e3⟩:=Q5 (σ:=σ) hf hc hU hif hn
    have hD:∀j,also (fun j=>listed.getD j false) i j=(listed.setIfInBounds i true).getD j false:=fun j=>by
     by_cases e:j=i
     ·subst e;rw [DL];have h2:j<listed.size:=by omega
      simp [Array.getD,h2]
     ·rw [vV _ e,getD_set_ne false (fun h=>e h.symm)]
    have hfun:also (fun j=>listed.getD j false) i=fun j=>(listed.setIfInBounds i true).getD j false:=funext hD
    have hgs:=hg i (o,U) hU (fO (fun j=>listed.getD j false) 0 zs σ) a w (wpAny P .any ops Q fuel (listed.setIfInBounds i true)) Q hA hS (fun a' w' hS'=>by
     refine ih _ a' w' (by simpa using hs) ?_ ?_ ?_
     ·have:=PO h1 ops.size
      rw [if_pos hilt] at this
      omega
     ·intro j y hy hDj k hk
      have acr:also (fun j=>listed.getD j false) i j=true:=by rw [hD];exact hDj
      show(listed.setIfInBounds i true).getD k false=true
      rw [←hD]
      by_cases e:k=i
      ·subst e;exact DL _ _
      ·rw [vV _ e]
       by_cases e2:j=i
       ·subst e2;rw [hU] at hy;cases hy;exact hn k hk
       ·rw [vV _ e2] at acr;exact hc j y hy acr k hk
     ·rw [←hfun]
      exact aa2 hS' e1 e2 e3 (by rw [UM,St.iI,UM]))
    unfold wpOp
    rw [ho]
    dsimp only
    by_cases hw:Region.wanted o (yielded ops a.tmps)=true
    ·rw [if_pos hw] at hgs⊢;exact .inl hgs
    ·rw [if_neg hw] at hgs⊢;exact hgs
theorem Zc (hS:jD W0 σ a w) (g:Grew w w1) (hsz:w1.heap.size=w.heap.size):jD W0 σ a w1:=by
 obtain⟨env,F,h⟩:=hS
 have calm:Calm σ σ F F w w1:=⟨rfl,g.size,fun k hk h=>⟨h,g.block k hk⟩⟩
 have same:∀r,Same σ σ env env F F w w1 r:=fun r=>⟨rfl,fun _=>Iff.rfl,rfl,fun k hk=>g.block k (fQ h hk)⟩
 refine⟨env,F,rO h.below g,h.tab,h.pin,h.acc,h.size,h.defers,fun r=>GK calm (same r) (h.res r) ⟨fun _ _=>rfl,fun q _=>(same q.1).holds⟩,fun r k hk=>?_,h.apart,fun t=>yc calm (h.tm t) (fun _ _=>rfl) (fun q _=>(same q.1).holds) (fun r i o _=>(same r).O9)⟩
 have:=h.own r k hk
 exact⟨this.1,by omega⟩
theorem aaQ {Q:Exit→Act→World→Prop} {id:Nat} {Us:List (bI T)} (hm:P.follows .mixedOrders=true) (ht:Tr P W0 ops ops.toList σ Us σ2) (hd:OQ ops (ops.toList.zip Us)=true) (hS:jD W0 σ a w) (hQ:∀a' w',jD W0 σ2 a' w'→Q .normal a' w'):(Code.region id ops true).wp P Q a w:=by
 obtain⟨h1,h2,h3⟩:=Za ht
 have hf:=QZ hd
 have hlen:(ops.toList.zip Us).length=ops.size:=by rw [List.length_zip,←h1];simp
 refine wp_region_any hm (Zb (σ:=σ) hf (fun i o ho=>?_) hlen h3 (fun a' w' h=>hQ a' w' (by rw [h2];exact h)) ops.size _ a w.drew (by simp) ?_ (fun i x hx hD=>?_) ?_)
 ·have hi:i<ops.size:=(Array.getElem?_eq_some_iff.1 ho).1
  have hi2:i<Us.length:=by rw [←h1];simpa using hi
  have ho':ops.toList[i]? =some o:=by rw [Array.getElem?_toList];exact ho
  exact⟨Us[i],by rw [List.getElem?_zip_eq_some];exact⟨ho',List.getElem?_eq_getElem hi2⟩⟩
 ·have key:∀(l:Array Bool) n,left l n≤n:=by
   intro l n
   induction n with
   | zero=>exact Nat.le_refl _
   | succ n ih=>unfold left;cases l.getD n true<;>simp<;>omega
  exact key _ _
 ·exfalso
  by_cases h:i<ops.size<;>simp [Array.getD,h] at hD
 ·rw [DF (fun j hj=>?_)]
  ·exact Zc hS (Grew.drew w) rfl
  ·by_cases h:0+j<ops.size<;>simp [Array.getD,h]
end
end Go.Proofs.YtcnfgfomholheaaGreatDoor.Z
end
section
namespace Go.Proofs.YtcnfgfomholheaaGreatDoor.Z
open Go.RowKit
set_option linter.unusedVariables false
set_option linter.unusedSimpArgs false
section
variable {T:dX} {P:Program} {W0:Fr} {σ σ' σ1:St T} {a:Act} {w w1:World} {env bD:Nat→Value} {F F1:Nat→Nat→Prop} {o:Oper} {bF bH:List Nat}
def uh {Tb:Nat→Type}:List (C0 Tb)→List Value→List (C0 Tb)
 | .sl e _::r, .slice none 0 0::vs=> .sl e []::uh r vs
 | .sc _::r,v::vs=> .sc v::uh r vs
 | _,_=>[]
def zeroE (T:dX) (e:Nat) (z:List Value):Option (T.Tb e):=T.xO e (uh (T.cells e (T.df e)) z)
theorem DN:∀{cs:List (C0 T.Tb)} {vs:List Value} {q:Nat} {x:C0 T.Tb},(uh cs vs)[q]? =some x→∃v,vs[q]? =some v∧(x= .sc v∨∃e,x= .sl e []∧v= .slice none 0 0)
 | [],vs,q,x,h=>by simp [uh] at h
 | .sc u::r,[],q,x,h=>by simp [uh] at h
 | .sc u::r,v::vs,0,x,h=>by simp [uh] at h;exact⟨v,rfl, .inl h.symm⟩
 | .sc u::r,v::vs,q+1,x,h=>by simp [uh] at h;simpa using DN h
 | .sl e l::r,[],q,x,h=>by simp [uh] at h
 | .sl e l::r,v::vs,q,x,h=>by
   unfold uh at h
   split at h
   ·rename_i h1 h2
    cases h1;cases h2
    cases q with
    | zero=>simp at h;exact⟨_,rfl, .inr ⟨_,h.symm,rfl⟩⟩
    | succ q=>simpa using DN (by simpa using h)
   ·rename_i h1 h2;cases h1
   ·simp at h
def Iq (σ:St T) (nx:Nat) (dst:Option Nat) (t:Nat) (x y:Operand):eX T:=
 match T.ti t with
 | some ti=>match ti.kind with
   | .slice e=>match T.ti e with
     | some i=>match T.el e with
       | true=>match zeroE T e i.zero with
         | some z=>match sv (dn σ x) with
           | some (.int _ l)=>match sv (dn σ y) with
             | some (.int _ c)=>match bQ σ dst with
               | true=>match σ.fresh nx with
                 | true=> .done ⟨.c (.hd nx),[(nx, .row nx e (List.replicate l.toNat z))],[nx],1,[nx]⟩ (some (0≤l∧l≤c∧(i.bytes:Int)*c≤281474976710656∧c≤9223372036854775807))
                 | false=> .stuck
               | false=> .stuck
             | _=> .stuck
           | _=> .stuck
         | none=> .stuck
       | false=> .stuck
     | none=> .stuck
   | _=> .stuck
 | none=> .stuck
theorem Zd {z:Array Value} {c s j q:Nat} (hz:z.size=s) (hq:q<s) (hj:j<c):(madeCells z (c*s))[j*s+q]? =z[q]?:=by
 have h1:j*s+q<c*s:=by
  have:(j+1)*s≤c*s:=Nat.mul_le_mul_right s hj
  rw [Nat.succ_mul] at this;omega
 have h2:(j*s+q) % z.size=q:=by rw [hz,Nat.mul_comm,Nat.mul_add_mod];exact Nat.mod_eq_of_lt hq
 simp [madeCells,h1,h2]
 have:q<z.size:=by omega
 simp [this]
theorem aa3 {e:Nat} {i:TI} {z:T.Tb e} {zv:Value} (hi:T.ti e=some i) (hel:T.el e=true) (hz:zeroE T e i.zero=some z) (hzv:zv.cells=i.zero.toArray) (hzl:i.zero.length=i.size) (h0:pO i.zero=true∨True) {l c:Nat} (hlc:l≤c) (hm:c≤maxLen) (w:World):
  Ow T.sz (w.alloc (.cells (madeCells zv.cells (c*i.size)) e)) (fun k=>k=w.heap.size) (.sl e ((List.replicate l z).map (T.enc e))) (.slice (some ⟨w.heap.size,0,none⟩) l c):=by
 have hcs:=T.mk_eq e _ z hz
 have hsz:T.sz e=i.size:=kV hi
 have hlen:=T.len e z i hel hi
 have hzs:zv.cells.size=i.size:=by rw [hzv];simpa using hzl
 have key:∀(j:Nat) (l':List V) (q:Nat) (x:V),((List.replicate l z).map (T.enc e))[j]? =some l'→l'[q]? =some x→∃v,i.zero[q]? =some v∧j<l∧q<i.size∧Ow T.sz (w.alloc (.cells (madeCells zv.cells (c*i.size)) e)) (fun _=>False) x v:=by
  intro j l' q x hj hq
  simp only [List.getElem?_map,List.getElem?_replicate] at hj
  split at hj
  ·rename_i hjl
   simp at hj
   subst hj
   rw [T.gG,List.getElem?_map] at hq
   obtain⟨c0,h1,h2⟩:=Option.map_eq_some_iff.1 hq
   have h3:q<i.size:=by rw [←hlen];exact(List.getElem?_eq_some_iff.1 h1).1
   have h1':=h1
   rw [hcs] at h1'
   obtain⟨v,h4,h5⟩:=DN h1'
   refine⟨v,h4,hjl,h3,?_⟩
   rcases h5 with rfl | ⟨e',rfl,rfl⟩
   ·subst h2
    exact .sc _ v (T.one e z (.sc v) (List.mem_of_getElem? h1))
   ·subst h2
    exact .nil _ e'
  ·cases hj
 have hl2:l=((List.replicate l z).map (T.enc e)).length:=by simp
 have:=Ow.sl (sz:=T.sz) (w:=w.alloc (.cells (madeCells zv.cells (c*i.size)) e)) (fun k=>k=w.heap.size) e ((List.replicate l z).map (T.enc e)) w.heap.size c (madeCells zv.cells (c*i.size)) (fun j q=>i.zero[q]?.getD undef) (fun _ _ _=>False) (Aw w _) rfl (by simpa using hlc) hm (by rw [size_madeCells,hsz])
  (fun j l' hj=>by
   simp only [List.getElem?_map,List.getElem?_replicate] at hj
   split at hj
   ·simp at hj;subst hj;rw [T.gG,List.length_map,hlen,hsz]
   ·cases hj)
  (fun j l' q x hj hq=>by
   obtain⟨v,h1,h2,h3,_⟩:=key j l' q x hj hq
   rw [hsz,Zd hzs h3 (by omega),hzv]
   simp [h1])
  (fun j l' q x hj hq=>by
   obtain⟨v,h1,h2,h3,h4⟩:=key j l' q x hj hq
   rw [h1];exact h4)
  (fun j q k h=>h.elim) (fun j q j' q' k h=>h.elim)
 rw [←hl2] at this
 exact this
theorem Xm {t:Nat} {x y:Operand} (ho:o.op= .makeSlice t x y) {v:Value} {w':World} (h:(Instr.makeSlice t (a.eval x) (a.eval y)).run P w= .ok v w'):(execOp a.eval o).run P w= .ok (.value v) w':=by
 unfold execOp;rw [ho];simp only [Sem.run_bind,h];rfl
theorem WB (hT:T.ok P) {nx t:Nat} {x y:Operand} {U:bI T} {ob:Option Prop} (ho:o.op= .makeSlice t x y) (h:Iq σ nx o.dst t x y= .done U ob) (hob:pG ob):eH P W0 o σ U:=by
 unfold Iq at h
 cases hi:T.ti t with
 | none=>rw [hi] at h;cases h
 | some ti=>
   rw [hi] at h
   dsimp only at h
   split at h
   ·rename_i e hk
    cases he:T.ti e with
    | none=>rw [he] at h;cases h
    | some i=>
      rw [he] at h
      dsimp only at h
      cases hel:T.el e<;>rw [hel] at h<;>dsimp only at h
      ·cases h
      cases hz:zeroE T e i.zero with
      | none=>rw [hz] at h;cases h
      | some z=>
        rw [hz] at h
        dsimp only at h
        split at h
        ·rename_i k1 l hl
         split at h
         ·rename_i k2 c hc
          cases hd:bQ σ o.dst<;>rw [hd] at h<;>dsimp only at h
          ·cases h
          cases hf:σ.fresh nx<;>rw [hf] at h<;>cases h
          intro σ' a w K Q hA ⟨env,F,hS⟩ hK
          obtain⟨inf,h1,h2,h3,⟨zv,h4,h4'⟩,h5,h6,h7,h8⟩:=hT t ti hi
          obtain⟨inf',g1,g2,g3,⟨zv',g4,g4'⟩,g5,_⟩:=hT e i he
          rw [hk] at h8
          have hob:0≤l∧l≤c∧(i.bytes:Int)*c≤281474976710656∧c≤9223372036854775807:=hob
          have e1:=iP (bG hS hA (x:=x) (by simp [ho,Op.operands])) hl
          have e2:=iP (bG hS hA (x:=y) (by simp [ho,Op.operands])) hc
          have hrun:=run_make (P:=P) w t e inf' zv' h8.1 g1 g4 k1 k2 l c hob.1 hob.2.1 (by rw [g3];exact hob.2.2.1) hob.2.2.2
          obtain⟨hu,hn⟩:=hA.new (by simp) hf
          refine jC (Xm ho (by rw [e1,e2];exact hrun)) (hK _ _ ?_)
          refine hS.fresh hu hn (Grew.alloc w _) (u:= .slice (some ⟨w.heap.size,0,none⟩) l.toNat c.toNat) (G:=fun k=>k=w.heap.size) (fun k hk=>by subst hk;rw [wS];omega) ?_ ?_ (fun d hd'=>by rw [hA.n];exact bn hd d hd')
          ·intro σ1 bD F1 calm henv hG hoth hv
           have:=aa3 (T:=T) he hel hz g4' g5 (.inr trivial) (l:=l.toNat) (c:=c.toNat) (by omega) (by have:=hob.2.2.2;simp only [maxLen];omega) w
           rw [←g2] at this
           show Ow _ _ _ _ (bD nx)
           rw [henv]
           exact this.mono (fun k hk=>(hG k).2 hk)
          ·intro σ1 bD F1 calm henv hoth hv hres
           exact⟨henv.symm,rfl⟩
         ·cases h
        ·cases h
   ·cases h
end
end Go.Proofs.YtcnfgfomholheaaGreatDoor.Z
end
section
namespace Go.Proofs.YtcnfgfomholheaaGreatDoor.Z
open Go.RowKit
set_option linter.unusedVariables false
set_option linter.unusedSimpArgs false
theorem kC {α:Type} {cs vs:List α} {n:Nat} (h:n+vs.length≤cs.length):(splice cs n vs).length=cs.length:=by
 simp [splice];omega
theorem gq {α:Type} {cs vs:List α} {n m:Nat} (h:n+vs.length≤cs.length):(splice cs n vs)[m]? =if m<n then cs[m]? else if m<n+vs.length then vs[m - n]? else cs[m]?:=by
 unfold splice
 by_cases h1:m<n
 ·rw [if_pos h1,List.append_assoc,List.getElem?_append_left (by simp;omega),List.getElem?_take_of_lt h1]
 ·rw [if_neg h1]
  by_cases h2:m<n+vs.length
  ·rw [if_pos h2,List.append_assoc,List.getElem?_append_right (by simp;omega),List.getElem?_append_left (by simp;omega)]
   congr 1
   simp;omega
  ·rw [if_neg h2,List.getElem?_append_right (by simp;omega),List.getElem?_drop]
   congr 1
   simp;omega
section
variable {sz:Nat→Nat} {w:World} {F:Nat→Prop}
theorem Gz {e:Nat} {xs:List (List V)} {v:Value} (h:Ow sz w F (.sl e xs) v) {i o:Nat} {old new:List V} {us:List Value} (hi:xs[i]? =some old) (hl:new.length=sz e) (ho:o+us.length≤sz e)
  (hold:∀q x,new[q]? =some x→(q<o∨o+us.length≤q)→old[q]? =some x) (H:Nat→Nat→Prop) (hnew:∀q x u,new[o+q]? =some x→us[q]? =some u→Ow sz w (H q) x u)
  (hH:∀q k,H q k→¬F k) (hHd:∀q q' k,H q k→H q' k→q=q'):
  ∃g cap cur,v= .slice (some ⟨g,0,none⟩) xs.length cap∧F g∧w.heap[g]? =some (.cells cur e (0,0))∧i*sz e+o+us.length≤cur.size∧
   Ow sz (w.setRow g (splice cur.toList (i*sz e+o) us).toArray) (fun k=>F k∨∃q,H q k) (.sl e (xs.set i new)) v:=by
 cases h with
 | nil F e=>simp at hi
 | sl F e xs g cap cur f G hg hF hn hm hz hs hcell hr hG hd=>
   have hilt:i<xs.length:=(List.getElem?_eq_some_iff.1 hi).1
   have hfit:i*sz e+o+us.length≤cur.size:=by
    have:(i+1)*sz e≤cap*sz e:=Nat.mul_le_mul_right _ (by omega)
    rw [Nat.succ_mul] at this
    omega
   refine⟨g,cap,cur,rfl,hF,hg,hfit,?_⟩
   have hlen:(splice cur.toList (i*sz e+o) us).length=cur.size:=by rw [kC (by simpa using hfit)];simp
   have hne:∀k,k≠g→(w.setRow g (splice cur.toList (i*sz e+o) us).toArray).heap[k]? =w.heap[k]?:=fun k hk=>setRow_other w g k _ hk
   have hlx:(xs.set i new).length=xs.length:=by simp
   rw [←hlx]
   have Xn:∀j l q x,(xs.set i new)[j]? =some l→l[q]? =some x→q<sz e∧((j=i∧o≤q∧q<o+us.length∧new[q]? =some x)∨(¬(j=i∧o≤q∧q<o+us.length)∧∃l',xs[j]? =some l'∧l'[q]? =some x)):=by
    intro j l q x hj hq
    rw [List.getElem?_set] at hj
    by_cases e1:i=j
    ·subst e1
     simp [hilt] at hj
     subst hj
     have h1:q<sz e:=by rw [←hl];exact(List.getElem?_eq_some_iff.1 hq).1
     refine⟨h1,?_⟩
     by_cases h2:o≤q∧q<o+us.length
     ·exact .inl ⟨rfl,h2.1,h2.2,hq⟩
     ·exact .inr ⟨fun h=>h2 ⟨h.2.1,h.2.2⟩,old,hi,hold q x hq (by omega)⟩
    ·rw [if_neg e1] at hj
     have h1:q<sz e:=by rw [←hs j l hj];exact(List.getElem?_eq_some_iff.1 hq).1
     exact⟨h1, .inr ⟨fun h=>e1 h.1.symm,l,hj,hq⟩⟩
   refine .sl _ e (xs.set i new) g cap _ (fun j q=>if j=i∧o≤q∧q<o+us.length then us[q - o]?.getD undef else f j q) (fun j q k=>if j=i∧o≤q∧q<o+us.length then H (q - o) k else G j q k) (setRow_heap w g cur _ e _ hg) (.inl hF) (by rw [hlx];exact hn) hm (by simpa using hlen.trans hz) ?_ ?_ ?_ ?_ ?_
   ·intro j l hj
    rw [List.getElem?_set] at hj
    by_cases e1:i=j
    ·subst e1;simp [hilt] at hj;subst hj;exact hl
    ·rw [if_neg e1] at hj;exact hs j l hj
   ·intro j l q x hj hq
    obtain⟨hqs,h1 | ⟨h1,l',h2,h3⟩⟩:=Xn j l q x hj hq
    ·obtain⟨rfl,h2,h3,h4⟩:=h1
     rw [List.getElem?_toArray,gq (by simpa using hfit),if_neg (by omega),if_pos (by omega),if_pos ⟨rfl,h2,h3⟩]
     rw [show j*sz e+q - (j*sz e+o)=q - o by omega]
     have:q - o<us.length:=by omega
     simp [this]
    ·have hc:=hcell j l' q x h2 h3
     rw [if_neg h1,List.getElem?_toArray,gq (by simpa using hfit)]
     have hout:j*sz e+q<i*sz e+o∨i*sz e+o+us.length≤j*sz e+q:=by
      rcases Nat.lt_trichotomy j i with h | h | h
      ·have:(j+1)*sz e≤i*sz e:=Nat.mul_le_mul_right _ h
       rw [Nat.succ_mul] at this;omega
      ·subst h
       by_cases h5:o≤q
       ·by_cases h6:q<o+us.length
        ·exact(h1 ⟨rfl,h5,h6⟩).elim
        ·omega
       ·omega
      ·have:(i+1)*sz e≤j*sz e:=Nat.mul_le_mul_right _ h
       rw [Nat.succ_mul] at this;omega
     rcases hout with h | h
     ·rw [if_pos h];simpa using hc
     ·rw [if_neg (by omega),if_neg (by omega)];simpa using hc
   ·intro j l q x hj hq
    obtain⟨hqs,h1 | ⟨h1,l',h2,h3⟩⟩:=Xn j l q x hj hq
    ·obtain⟨rfl,h2,h3,h4⟩:=h1
     have hlt:q - o<us.length:=by omega
     have h5:=hnew (q - o) x (us[q - o]) (by rw [show o+(q - o)=q by omega];exact h4) (by simp [hlt])
     have hc1:j=j∧o≤q∧q<o+us.length:=⟨rfl,h2,h3⟩
     rw [if_pos hc1,show us[q - o]?.getD undef=us[q - o] by simp [hlt]]
     exact(h5.frame (fun k hk _=>hne k (fun e=>hH _ k hk (e▸hF)))).mono (fun k hk=>by rw [if_pos hc1];exact hk)
    ·simp only [if_neg h1]
     exact(hr j l' q x h2 h3).frame (fun k hk _=>hne k (hG j q k hk).2)
   ·intro j q k hk
    by_cases h1:j=i∧o≤q∧q<o+us.length
    ·rw [if_pos h1] at hk
     exact⟨.inr ⟨_,hk⟩,fun e=>hH _ k hk (e▸hF)⟩
    ·rw [if_neg h1] at hk
     exact⟨.inl (hG j q k hk).1,(hG j q k hk).2⟩
   ·intro j q j' q' k hk hk'
    by_cases h1:j=i∧o≤q∧q<o+us.length
    ·rw [if_pos h1] at hk
     by_cases h2:j'=i∧o≤q'∧q'<o+us.length
     ·rw [if_pos h2] at hk'
      have:=hHd _ _ k hk hk'
      exact⟨h1.1.trans h2.1.symm,by omega⟩
     ·rw [if_neg h2] at hk'
      exact(hH _ k hk (hG j' q' k hk').1).elim
    ·rw [if_neg h1] at hk
     by_cases h2:j'=i∧o≤q'∧q'<o+us.length
     ·rw [if_pos h2] at hk'
      exact(hH _ k hk' (hG j q k hk).1).elim
     ·rw [if_neg h2] at hk'
      exact hd j q j' q' k hk hk'
end
section
variable {T:dX} {P:Program} {W0:Fr} {σ σ' σ1:St T} {a:Act} {w w1:World} {env bD:Nat→Value} {F F1:Nat→Nat→Prop} {o:Oper} {bF bH:List Nat}
def Jh (σ:St T):C0 T.Tb→Cell T→Option (C0 T.Tb × Option Nat)
 | .sl e _, .sc (.slice none 0 0)=>some (.sl e [],none)
 | _, .sc v=>some (.sc v,none)
 | _, .hd r=>match σ.res r with
   | .row _ e l=>some (.sl e l,some r)
   | _=>none
 | _,_=>none
def lY (σ:St T):List (C0 T.Tb)→List (Cell T)→Option (List (C0 T.Tb) × List (Option Nat))
 | c::cs,x::xs=>match Jh σ c x with
   | some (y,r)=>match lY σ cs xs with
     | some (ys,rs)=>some (y::ys,r::rs)
     | none=>none
   | none=>none
 | _,[]=>some ([],[])
 | _,_=>none
def dR:List (Option Nat)→List Nat
 | []=>[]
 | some r::l=>r::dR l
 | none::l=>dR l
def kM:List Nat→Bool
 | []=>true
 | a::l=>match jH a l with
   | true=>false
   | false=>kM l
def ji:List Nat→List (Nat × dB T)
 | []=>[]
 | r::l=>(r, .no)::ji l
theorem jR {r:Nat}:∀{l:List (Option Nat)},r∈dR l↔some r∈l
 | []=>by simp [dR]
 | some q::l=>by simp [dR,jR (l:=l)]
 | none::l=>by simp [dR,jR (l:=l)]
theorem Az {r:Nat}:∀{l:List (Option Nat)} {i j:Nat},kM (dR l)=true→l[i]? =some (some r)→l[j]? =some (some r)→i=j
 | [],i,j,_,h,_=>by simp at h
 | none::l,i,j,hn,h,h'=>by
   cases i with
   | zero=>simp at h
   | succ i=>cases j with
     | zero=>simp at h'
     | succ j=>have:=Az (l:=l) hn (by simpa using h) (by simpa using h');omega
 | some q::l,i,j,hn,h,h'=>by
   unfold dR kM at hn
   cases hq:jH q (dR l)<;>rw [hq] at hn<;>dsimp only at hn
   ·have hno:∀k,l[k]? =some (some q)→False:=fun k hk=>by
     have:q∈dR l:=jR.2 (List.mem_of_getElem? hk)
     rw [ig.2 this] at hq;cases hq
    cases i with
    | zero=>
      simp at h;subst h
      cases j with
      | zero=>rfl
      | succ j=>exact(hno j (by simpa using h')).elim
    | succ i=>cases j with
      | zero=>simp at h';subst h';exact(hno i (by simpa using h)).elim
      | succ j=>have:=Az (l:=l) hn (by simpa using h) (by simpa using h');omega
   ·cases hn
theorem Gv:∀{cs:List (C0 T.Tb)} {xs:List (Cell T)} {ys:List (C0 T.Tb)} {rs:List (Option Nat)},lY σ cs xs=some (ys,rs)→ys.length=xs.length∧rs.length=xs.length
 | cs,[],ys,rs,h=>by
   have:lY σ cs []=some ([],[]):=by cases cs<;>rfl
   rw [this] at h;cases h;exact⟨rfl,rfl⟩
 | [],x::xs,ys,rs,h=>by cases h
 | c::cs,x::xs,ys,rs,h=>by
   unfold lY at h
   cases h1:Jh σ c x with
   | none=>rw [h1] at h;cases h
   | some yr=>
     obtain⟨y,r⟩:=yr
     rw [h1] at h
     dsimp only at h
     cases h2:lY σ cs xs with
     | none=>rw [h2] at h;cases h
     | some ysr=>
       obtain⟨ys',rs'⟩:=ysr
       rw [h2] at h
       cases h
       have:=Gv h2
       simp [this]
theorem acu (hS:eU W0 σ a w env F) {c y:C0 T.Tb} {x:Cell T} {r:Option Nat} {u:Value} (hσ:∀s,r=some s→σ.res s=σ1.res s) (hx:iK σ env F w x u) (h:Jh σ1 c x=some (y,r)):Ow T.sz w (fun k=>∃q,r=some q∧F q k) (y.yZ T.enc) u:=by
 unfold Jh at h
 split at h
 ·cases h
  have:=hx.1
  subst this
  exact .nil _ _
 ·cases h
  obtain⟨h1,h2⟩:=hx
  subst h1
  exact .sc _ _ h2
 ·rename_i q
  cases hr:σ1.res q with
  | row b e l=>
    rw [hr] at h
    cases h
    have h1:=hS.res q
    rw [hσ q rfl,hr] at h1
    rw [hx.1]
    exact Ow.mono (show Ow T.sz w (F q) (.sl e (l.map (T.enc e))) (env q) from h1) (fun k hk=>⟨q,rfl,hk⟩)
  | no=>rw [hr] at h;cases h
  | bx t cs=>rw [hr] at h;cases h
  | sh bv e l=>rw [hr] at h;cases h
  | hl e0 d0 j0 cs0 l0=>rw [hr] at h;cases h
 ·cases h
theorem Gw:∀{cs:List (C0 T.Tb)} {xs:List (Cell T)} {ys:List (C0 T.Tb)} {rs:List (Option Nat)},lY σ cs xs=some (ys,rs)→∀r∈dR rs,∃b e l,σ.res r= .row b e l
 | cs,[],ys,rs,h,r,hr=>by
   have:lY σ cs []=some ([],[]):=by cases cs<;>rfl
   rw [this] at h;cases h;simp [dR] at hr
 | [],x::xs,ys,rs,h,r,hr=>by cases h
 | c::cs,x::xs,ys,rs,h,r,hr=>by
   unfold lY at h
   cases h1:Jh σ c x with
   | none=>rw [h1] at h;cases h
   | some yr=>
     obtain⟨y1,r1⟩:=yr
     rw [h1] at h
     dsimp only at h
     cases h2:lY σ cs xs with
     | none=>rw [h2] at h;cases h
     | some ysr=>
       obtain⟨ys',rs'⟩:=ysr
       rw [h2] at h
       cases h
       rcases List.mem_cons.1 (jR.1 hr) with h3 | h3
       ·subst h3
        unfold Jh at h1
        split at h1
        ·cases h1
        ·cases h1
        ·rename_i q
         cases hq:σ.res q with
         | row b e l=>rw [hq] at h1;cases h1;exact⟨_,_,_,hq⟩
         | no=>rw [hq] at h1;cases h1
         | bx t cs=>rw [hq] at h1;cases h1
         | sh bv e l=>rw [hq] at h1;cases h1
         | hl e d j cs l=>rw [hq] at h1;cases h1
        ·cases h1
       ·exact Gw h2 r (jR.2 h3)
theorem Ji:∀{cs:List (C0 T.Tb)} {xs:List (Cell T)} {us:List Value} {ys:List (C0 T.Tb)} {rs:List (Option Nat)},aY σ env F w xs us→lY σ1 cs xs=some (ys,rs)→∀u∈us,u.oneCell'=true
 | cs,[],us,ys,rs,hx,h,u,hu=>by cases hx;cases hu
 | [],x::xs,us,ys,rs,hx,h,u,hu=>by cases h
 | c::cs,x::xs,us,ys,rs,⟨u1,us',e,h3,h4⟩,h,u,hu=>by
   subst e
   unfold lY at h
   cases h1:Jh σ1 c x with
   | none=>rw [h1] at h;cases h
   | some yr=>
     obtain⟨y1,r1⟩:=yr
     rw [h1] at h
     dsimp only at h
     cases h2:lY σ1 cs xs with
     | none=>rw [h2] at h;cases h
     | some ysr=>
       obtain⟨ys',rs'⟩:=ysr
       rcases List.mem_cons.1 hu with rfl | hu
       ·unfold Jh at h1
        split at h1
        ·exact h3.2
        ·exact h3.2
        ·exact h3.2
        ·cases h1
       ·exact Ji h4 h2 u hu
theorem Gx (hS:eU W0 σ a w env F):∀{cs:List (C0 T.Tb)} {xs:List (Cell T)} {us:List Value} {ys:List (C0 T.Tb)} {rs:List (Option Nat)},aY σ env F w xs us→lY σ1 cs xs=some (ys,rs)→(∀s∈dR rs,σ.res s=σ1.res s)→∀{q:Nat} {y:C0 T.Tb} {u:Value},ys[q]? =some y→us[q]? =some u→Ow T.sz w (fun k=>∃r,rs[q]? =some (some r)∧F r k) (y.yZ T.enc) u
 | cs,[],us,ys,rs,hx,h,hσ,q,y,u,hy,hu=>by
   have:lY σ1 cs []=some ([],[]):=by cases cs<;>rfl
   rw [this] at h;cases h;simp at hy
 | [],x::xs,us,ys,rs,hx,h,hσ,q,y,u,hy,hu=>by cases h
 | c::cs,x::xs,us,ys,rs,⟨u1,us',e,h3,h4⟩,h,hσ,q,y,u,hy,hu=>by
   subst e
   unfold lY at h
   cases h1:Jh σ1 c x with
   | none=>rw [h1] at h;cases h
   | some yr=>
     obtain⟨y1,r1⟩:=yr
     rw [h1] at h
     dsimp only at h
     cases h2:lY σ1 cs xs with
     | none=>rw [h2] at h;cases h
     | some ysr=>
       obtain⟨ys',rs'⟩:=ysr
       rw [h2] at h
       cases h
       cases q with
       | zero=>
         simp at hy hu
         subst hy;subst hu
         exact(acu hS (fun s hs=>hσ s (jR.2 (by simp [hs]))) h3 h1).mono (fun k ⟨q,e,hk⟩=>⟨q,by simp [e],hk⟩)
       | succ q=>simpa using Gx hS h4 h2 (fun s hs=>hσ s (jR.2 (List.mem_cons_of_mem _ (jR.1 hs)))) (q:=q) (by simpa using hy) (by simpa using hu)
theorem oK {r:Nat} {x:dB T}:∀{l:List Nat},r∈l→lk x (ji l) r= .no
 | [],h=>by cases h
 | q::l,h=>by
   unfold ji lk
   cases hb:Nat.beq q r
   ·rcases List.mem_cons.1 h with rfl | h
    ·exact absurd hb (by simp [Nat.beq_eq])
    ·exact oK h
   ·rfl
theorem qA {r:Nat} {x:dB T}:∀{l:List Nat},r∉l→lk x (ji l) r=x
 | [],_=>rfl
 | q::l,h=>by
   unfold ji lk
   rw [fD (fun e=>h (by simp [e]))]
   exact qA (fun hm=>h (List.mem_cons_of_mem _ hm))
def Af (σ:St T) (nx:Nat) (dst:Option Nat) (t:Nat) (x v:Operand):eX T:=
 match dst with
 | none=>match T.ti t with
   | some ti=>match dn σ x with
     | .pe r i n=>match σ.res r with
       | .row bv e l=>match T.ti e with
         | some ei=>match T.el e with
           | true=>match cellsS (dn σ v) with
             | some vs=>match lY σ ((T.cells e (bV T e l i)).drop n) vs with
               | some (ys,rs)=>match kM (r::dR rs) with
                 | true=>match Nat.beq vs.length ti.size with
                   | true=>match Nat.ble (n+vs.length) ei.size with
                     | true=>match T.xO e (splice (T.cells e (bV T e l i)) n ys) with
                       | some y=>match σ.fresh nx with
                         | true=> .done ⟨.ud,(r, .row nx e (l.set i y))::ji (dR rs),r::nx::dR rs,1,r::nx::dR rs⟩ none
                         | false=> .stuck
                       | none=> .stuck
                     | false=> .stuck
                   | false=> .stuck
                 | false=> .stuck
               | none=> .stuck
             | none=> .stuck
           | false=> .stuck
         | none=> .stuck
       | _=> .stuck
     | _=> .stuck
   | none=> .stuck
 | some _=> .stuck
theorem QN (hT:T.ok P) {nx t:Nat} {x v:Operand} {U:bI T} {ob:Option Prop} (ho:o.op= .store t x v) (h:Af σ nx o.dst t x v= .done U ob):eH P W0 o σ U:=by
 unfold Af at h
 split at h
 ·rename_i hdn
  cases hi:T.ti t with
  | none=>rw [hi] at h;cases h
  | some ti=>
    rw [hi] at h
    dsimp only at h
    split at h
    ·rename_i r i n hx
     split at h
     ·rename_i bv e l hr
      cases dY:T.ti e with
      | none=>rw [dY] at h;cases h
      | some ei=>
        rw [dY] at h
        dsimp only at h
        cases hel:T.el e<;>rw [hel] at h<;>dsimp only at h
        ·cases h
        cases hc:cellsS (dn σ v) with
        | none=>rw [hc] at h;cases h
        | some vs=>
          rw [hc] at h
          dsimp only at h
          cases hk:lY σ ((T.cells e (bV T e l i)).drop n) vs with
          | none=>rw [hk] at h;cases h
          | some yr=>
            obtain⟨ys,rs⟩:=yr
            rw [hk] at h
            dsimp only at h
            cases hnd:kM (r::dR rs)<;>rw [hnd] at h<;>dsimp only at h
            ·cases h
            cases hb:Nat.beq vs.length ti.size<;>rw [hb] at h<;>dsimp only at h
            ·cases h
            cases hbl:Nat.ble (n+vs.length) ei.size<;>rw [hbl] at h<;>dsimp only at h
            ·cases h
            cases hy:T.xO e (splice (T.cells e (bV T e l i)) n ys) with
            | none=>rw [hy] at h;cases h
            | some y=>
              rw [hy] at h
              dsimp only at h
              cases hf:σ.fresh nx<;>rw [hf] at h<;>cases h
              intro σ' a w K Q hA ⟨env,F,hS⟩ hK
              have e1:=bG hS hA (x:=x) (by simp [ho,Op.operands])
              have e2:=bG hS hA (x:=v) (by simp [ho,Op.operands])
              rw [hx] at e1
              have hr':σ'.res r= .row bv e l:=by rw [hA.res r (by simp)];exact hr
              obtain⟨hil,g,cap,he,hp⟩:=e1.1 bv e l hr'
              obtain⟨hu,hno⟩:=hA.new (r:=nx) (by simp) hf
              have hnr:nx≠r:=fun e=>by rw [e,hr'] at hno;cases hno
              have hrr:r∉dR rs:=fun hm=>by unfold kM at hnd;rw [ig.2 hm] at hnd;cases hnd
              have hnd':kM (dR rs)=true:=by unfold kM at hnd;split at hnd<;>first | (cases hnd;done) | exact hnd
              have hrow:=Gw hk
              have hsame:∀q,(∃b e l,σ.res q= .row b e l)→q∈dR rs→σ'.res q=σ.res q:=fun q _ hq=>hA.res q (by simp [hq])
              have hcv:=lG e2 hc
              have hl1:=jq hcv
              simp only [Array.length_toList] at hl1
              have hb':=Nat.eq_of_beq_eq_true hb
              have O7:=Nat.le_of_ble_eq_true hbl
              have hkl:=Gv hk
              have GH:T.sz e=ei.size:=kV dY
              have hget:bV T e l i=l[i]:=by simp [bV,hil]
              have ND:(T.cells e (bV T e l i)).length=ei.size:=T.len e _ ei hel dY
              have hmk:=T.mk_eq e _ y hy
              have hfit:n+ys.length≤(T.cells e (bV T e l i)).length:=by rw [ND,hkl.1];exact O7
              have h3:=hS.res r
              rw [hr'] at h3
              let H:Nat→Nat→Prop:=fun q k=>∃s,rs[q]? =some (some s)∧F s k
              have hHm:∀q k,H q k→∃s,s∈dR rs∧F s k:=fun q k ⟨s,h1,h2⟩=>⟨s,jR.2 (List.mem_of_getElem? h1),h2⟩
              have hst:=Gz (us:=(a.eval v).cells.toList) (old:=T.enc e l[i]) (new:=T.enc e y) (i:=i) (o:=n) (show Ow T.sz w (F r) (.sl e (l.map (T.enc e))) (env r) from h3) (by simp [hil]) (by rw [T.gG,List.length_map,hmk,kC hfit,ND,GH]) (by rw [GH];simp only [Array.length_toList];omega)
               (by
                intro q x' hq hqo
                rw [T.gG,List.getElem?_map,hmk,gq hfit] at hq
                rw [T.gG,List.getElem?_map,←hget]
                have:ys.length=(a.eval v).cells.toList.length:=by rw [hkl.1];simpa using hl1
                rcases hqo with h | h
                ·rw [if_pos h] at hq;exact hq
                ·rw [if_neg (by omega),if_neg (by omega)] at hq;exact hq)
               H
               (by
                intro q x' u hq zn
                rw [T.gG,List.getElem?_map,hmk,gq hfit] at hq
                have kH:q<(a.eval v).cells.toList.length:=(List.getElem?_eq_some_iff.1 zn).1
                have:ys.length=(a.eval v).cells.toList.length:=by rw [hkl.1];simpa using hl1
                rw [if_neg (by omega),if_pos (by omega),show n+q - n=q by omega] at hq
                obtain⟨y0,hy0,rfl⟩:=Option.map_eq_some_iff.1 hq
                have key:=Gx hS (σ1:=σ) hcv hk (fun s hs=>hA.res s (by simp [hs])) hy0 zn
                exact key)
               (fun q k hq hF=>by
                obtain⟨s,hs,hk2⟩:=hHm q k hq
                have:=hS.apart s r k hk2 hF
                exact hrr (this▸hs))
               (fun q q' k ⟨s,h1,h2⟩ ⟨s',h1',h2'⟩=>by
                have:=hS.apart s s' k h2 h2'
                subst this
                exact Az hnd' h1 h1')
              obtain⟨g',cap',cur,he',hFg,hg,Jc,how⟩:=hst
              rw [he] at he'
              simp only [Value.slice.injEq,Option.some.injEq,Addr.mk.injEq,and_true,true_and] at he'
              obtain⟨rfl,-,-⟩:=he'
              have hrun:=uf (hT t ti hi) (v:=a.eval v) (n:=i*T.sz e+n) hg (by omega) (by simpa using Jc) (Ji hcv hk)
              refine vF (vG ho (by rw [hp,add_lit,Nat.zero_add];exact hrun)) (hK _ _ ?_)
              have hgW:=hS.own r g hFg
              let U1:bI T:=⟨.ud,(r, .row nx e (l.set i y))::ji (dR rs),r::nx::dR rs,1,r::nx::dR rs⟩
              let w1:World:=w.setRow g (splice cur.toList (i*T.sz e+n) (a.eval v).cells.toList).toArray
              let F1:Nat→Nat→Prop:=fun s k=>(s=r∧(F r k∨∃q,H q k))∨(s≠r∧s∉dR rs∧F s k)
              have iZ:(σ'.upd o.dst U1).res r= .row nx e (l.set i y):=by rw [St.dP];simp [U1,lk]
              have gu:∀s,s∈dR rs→(σ'.upd o.dst U1).res s= .no:=fun s hs=>by
               rw [St.dP]
               show lk _ ((r,_)::ji (dR rs)) s=_
               unfold lk
               rw [fD (k:=r) (t:=s) (fun e=>hrr (by rw [e];exact hs))]
               exact oK hs
              have rM:∀s,s≠r→s∉dR rs→(σ'.upd o.dst U1).res s=σ'.res s:=fun s h1 h2=>by
               rw [St.dP]
               show lk _ ((r,_)::ji (dR rs)) s=_
               unfold lk
               rw [fD (k:=r) (t:=s) (fun e=>h1 e.symm)]
               exact qA h2
              have hne:∀k,k≠g→w1.heap[k]? =w.heap[k]?:=fun k hk=>setRow_other w g k _ hk
              have hF1:∀s k,F1 s k→∃s',F s' k:=by
               rintro s k (⟨_,h | ⟨q,hq⟩⟩ | ⟨_,_,h⟩)
               ·exact⟨_,h⟩
               ·obtain⟨s',_,h⟩:=hHm q k hq;exact⟨_,h⟩
               ·exact⟨_,h⟩
              have calm:Calm σ' (σ'.upd o.dst U1) F F1 w w1:=⟨St.iI _ _ _,by rw [setRow_size];exact Nat.le_refl _,fun k hk hst=>⟨fun s hs=>by obtain⟨s',h⟩:=hF1 s k hs;exact hst s' h,hne k (fun e=>hst r (e▸hFg))⟩⟩
              refine hS.upd (bD:=env) (F1:=F1) (fun s=>s=r∨s∈dR rs) (below_setRow hS.below hgW.1 _) calm ?_ ?_ ?_ ?_ ?_ (fun d hd=>by rw [hdn] at hd;cases hd)
              ·intro s hs
               have h1:s≠r:=fun e=>hs (.inl e)
               have h2:s∉dR rs:=fun e=>hs (.inr e)
               exact⟨rfl,fun k=>⟨fun h=>by
                rcases h with ⟨h,_⟩ | ⟨_,_,h⟩
                ·exact(h1 h).elim
                ·exact h,fun h=> .inr ⟨h1,h2,h⟩⟩,rM s h1 h2,fun k hk=>hne k (fun e=>h1 (hS.apart s r k hk (e▸hFg)))⟩
              ·intro s hs
               by_cases e1:s=r
               ·subst e1
                rw [iZ]
                show Ow T.sz w1 (F1 s) (.sl e ((l.set i y).map (T.enc e))) (env s)
                rw [List.map_set]
                exact how.mono (fun k hk=> .inl ⟨rfl,hk⟩)
               ·have h2:=hs.resolve_left e1
                rw [gu s h2]
                rintro k (⟨h,_⟩ | ⟨_,h,_⟩)
                ·exact e1 h
                ·exact h h2
              ·intro s k hs hk
               obtain⟨s',h⟩:=hF1 s k hk
               have:=hS.own s' k h
               exact⟨this.1,by rw [setRow_size];exact this.2⟩
              ·intro s s' k hs h1 h2
               have hcon:∀q,q≠r→q∉dR rs→F q k→¬(F r k∨∃q,H q k):=by
                rintro q hq1 hq2 hq (h | ⟨j,h⟩)
                ·exact hq1 (hS.apart q r k hq h)
                ·obtain⟨s',hs',h⟩:=hHm j k h
                 exact hq2 (hS.apart q s' k hq h▸hs')
               rcases h1 with ⟨rfl,h1⟩ | ⟨h1a,h1b,h1⟩<;>rcases h2 with ⟨h2',h2⟩ | ⟨Z8,h2b,h2⟩
               ·exact h2'.symm
               ·exact(hcon s' Z8 h2b h2 h1).elim
               ·exact(hcon s h1a h1b h1 (h2'▸h2)).elim
               ·exact hS.apart s s' k h1 h2
              ·intro s hs
               refine .inr ⟨rfl,?_,fun b=>?_⟩
               ·refine⟨fun kF e' l' hl=>?_,fun kF e' l' hl=>?_,fun e' d' j' cs' l' hl=>?_⟩
                ·by_cases e1:s=r
                 ·subst e1
                  rw [iZ] at hl
                  cases hl
                  exact⟨bv,l,hr',by simp⟩
                 ·rw [gu s (hs.resolve_left e1)] at hl;cases hl
                ·by_cases e1:s=r
                 ·subst e1
                  rw [iZ] at hl
                  cases hl
                 ·rw [gu s (hs.resolve_left e1)] at hl;cases hl
                ·by_cases e1:s=r
                 ·subst e1
                  rw [iZ] at hl
                  cases hl
                 ·rw [gu s (hs.resolve_left e1)] at hl;cases hl
               ·by_cases e1:s=r
                ·subst e1
                 by_cases e3:b=nx
                 ·subst e3;exact .inr (jI.Wx hu)
                 ·refine .inl ?_
                  rintro⟨e',l',hl⟩
                  rw [iZ] at hl
                  simp only [dB.row.injEq] at hl
                  exact(e3 hl.1.symm).elim
                ·refine .inl ?_
                 rintro⟨e',l',hl⟩
                 rw [gu s (hs.resolve_left e1)] at hl;cases hl
     ·cases h
    ·cases h
 ·cases h
end
end Go.Proofs.YtcnfgfomholheaaGreatDoor.Z
end
section
namespace Go.Proofs.YtcnfgfomholheaaGreatDoor.Z
open Go.RowKit
set_option linter.unusedVariables false
set_option linter.unusedSimpArgs false
inductive CK where
 | int
 | bool
 | text
def MJ (P:Program) (t:TypeId):Option CK:=match P.underlying t with
 | some (.int _)=>some .int
 | some .bool=>some .bool
 | some .string=>some .text
 | _=>none
def KI (P:Program):Nat→List Field→Option (List CK)
 | _,[]=>some []
 | j,f::fs=>match f.name== "_" with
   | true=>none
   | false=>match Nat.beq f.offset j with
     | true=>match MJ P f.type with
       | some c=>match KI P (j+1) fs with
         | some r=>some (c::r)
         | none=>none
       | none=>none
     | false=>none
def KJ (P:Program) (t:TypeId):Option (Bool × List CK):=match P.underlying t with
 | some (.struct fs)=>match P.stoodInHeld t || P.eqGuardType P.depth t with
   | true=>none
   | false=>match KI P 0 fs.toList with
     | some l=>some (true,l)
     | none=>none
 | _=>match MJ P t with
   | some c=>some (false,[c])
   | none=>none
def SL:Value→Value→Option (CK × Bool)
 | .int k a, .int k' b=>match NG k k' with
   | true=>some (.int,a==b)
   | false=>none
 | .bool a, .bool b=>some (.bool,a==b)
 | .string a, .string b=>some (.text,a.toList==b.toList)
 | _,_=>none
section
variable {T:dX} {P:Program} {W0:Fr} {σ σ' σ1:St T} {a:Act} {w w1:World} {env bD:Nat→Value} {F F1:Nat→Nat→Prop} {o:Oper} {bF bH:List Nat}
def DR:List (Cell T)→List (Cell T)→Option (List CK × Bool)
 | [],[]=>some ([],true)
 | .sc u::r, .sc v::s=>match SL u v with
   | some (k,b)=>match r,s with
     | [],[]=>some ([k],b)
     | r,s=>match DR r s with
       | some (ks,c)=>some (k::ks,b && c)
       | none=>none
   | none=>none
 | _,_=>none
def eqS (op:BinOp) (b:Bool):Option Bool:=match op with
 | .eql=>some b
 | .neq=>some (!b)
 | _=>none
def TV (P:Program) (σ:St T) (dst:Option Nat) (op:BinOp) (t:TypeId) (x y:Operand):eX T:=
 match bQ σ dst with
 | true=>match dn σ x,dn σ y with
   | .ag l, .ag m=>match DR l m with
     | some (ks,b)=>match eqS op b with
       | some r=> .done ⟨.c (.sc (.bool r)),[],[],0,[]⟩ (some (KJ P t=some (true,ks)))
       | none=> .stuck
     | none=> .stuck
   | .c (.sc u), .c (.sc v)=>match SL u v with
     | some (.bool,b)=>match eqS op b with
       | some r=> .done ⟨.c (.sc (.bool r)),[],[],0,[]⟩ (some (KJ P t=some (false,[.bool])))
       | none=> .stuck
     | _=> .stuck
   | _,_=> .stuck
 | false=> .stuck
theorem zx {t:TypeId} {c:CK} (h:MJ P t=some c) {u v:Value} {b:Bool} (hv:SL u v=some (c,b)) (d:Nat) (w:World):(Op.equalIn (d+1) t u v).run P w= .ok b w:=by
 unfold SL at hv
 unfold MJ at h
 split at hv
 ·rename_i k a k' b'
  split at hv
  ·rename_i hk
   cases hv
   have:=Pq hk
   subst this
   split at h<;>cases h
   rename_i hu
   exact run_equalIn_int w d t k _ a b' hu
  ·cases hv
 ·cases hv
  split at h<;>cases h
  rename_i hu
  exact run_equalIn_bool' w d t _ _ hu
 ·cases hv
  split at h<;>cases h
  rename_i hu
  exact run_equalIn_string w d t _ _ hu
 ·cases hv
theorem Fz {t:TypeId} {c:CK} (h:MJ P t=some c) {xs:Array Value} {j:Nat} {v:Value} (hv:xs[j]? =some v) (w:World):(part t xs j).run P w= .ok v w:=by
 have hag:(isAgg t).run P w= .ok false w:=by
  unfold MJ at h
  unfold isAgg
  split at h<;>first | (cases h;done) | (rename_i hu;simp [Sem.run_bind,run_underlying hu])
 simp [part,Sem.run_bind,hag,hv]
theorem DT {d:Nat} {xs ys:Array Value} {w:World}:∀{fs:List Field} {j:Nat} {ks:List CK} {l m:List (Cell T)} {b:Bool},KI P j fs=some ks→DR l m=some (ks,b)→(∀i c,l[i]? =some c→∃v,xs[j+i]? =some v∧∀u,c=Cell.sc u→v=u)→(∀i c,m[i]? =some c→∃v,ys[j+i]? =some v∧∀u,c=Cell.sc u→v=u)→(Op.eqFields (d+1) xs ys fs).run P w= .ok b w
 | [],j,ks,l,m,b,h1,h2,hx,hy=>by
   cases h1
   unfold DR at h2
   split at h2
   ·cases h2;simp [Op.eqFields]
   ·split at h2
    ·split at h2
     ·cases h2
     ·split at h2<;>cases h2
    ·cases h2
   ·cases h2
 | f::fs,j,ks,l,m,b,h1,h2,hx,hy=>by
   unfold KI at h1
   have hn:(f.name== "_")=false:=by
    cases hn:f.name== "_"
    ·rfl
    ·rw [hn] at h1;cases h1
   rw [hn] at h1
   dsimp only at h1
   cases ho:Nat.beq f.offset j<;>rw [ho] at h1<;>dsimp only at h1
   ·cases h1
   have ho:=Nat.eq_of_beq_eq_true ho
   cases hc:MJ P f.type with
   | none=>rw [hc] at h1;cases h1
   | some c=>
     rw [hc] at h1
     dsimp only at h1
     cases hr:KI P (j+1) fs with
     | none=>rw [hr] at h1;cases h1
     | some rest=>
       rw [hr] at h1
       cases h1
       have hne:f.name≠ "_" :=by simpa using hn
       have key:∀(u v:Value) (r s:List (Cell T)) (b0:Bool),l= .sc u::r→m= .sc v::s→SL u v=some (c,b0)→(∀b1,(Op.eqFields (d+1) xs ys fs).run P w= .ok b1 w→(Op.eqFields (d+1) xs ys (f::fs)).run P w= .ok (b0 && b1) w):=by
        intro u v r s b0 hl hm hv b1 hb1
        obtain⟨u',h3,h3'⟩:=hx 0 (.sc u) (by simp [hl])
        obtain⟨v',h4,h4'⟩:=hy 0 (.sc v) (by simp [hm])
        have h5:=h3' u rfl
        have h6:=h4' v rfl
        subst h5;subst h6
        rw [Nat.add_zero] at h3 h4
        have p1:=Fz hc h3 w
        have p2:=Fz hc h4 w
        have p3:=zx hc hv d w
        rw [Op.eqFields]
        simp only [if_pos hne,ho,Sem.run_bind,p1,p2,p3,Result.andThen_ok]
        cases b0
        ·simp
        ·simpa using hb1
       unfold DR at h2
       split at h2
       ·cases h2
       ·rename_i u r v s
        split at h2
        ·rename_i k b0 hv
         split at h2
         ·simp only [Option.some.injEq,Prod.mk.injEq,List.cons.injEq] at h2
          obtain⟨⟨rfl,rfl⟩,rfl⟩:=h2
          have hfs:fs=[]:=by
           cases fs with
           | nil=>rfl
           | cons g gs=>
             exfalso
             unfold KI at hr
             split at hr
             ·cases hr
             ·split at hr
              ·split at hr
               ·split at hr<;>cases hr
               ·cases hr
              ·cases hr
          subst hfs
          have:=key u v [] [] b0 rfl rfl hv true (by simp [Op.eqFields])
          simpa using this
         ·split at h2
          ·rename_i ks' c' hl'
           simp only [Option.some.injEq,Prod.mk.injEq,List.cons.injEq] at h2
           obtain⟨⟨rfl,rfl⟩,rfl⟩:=h2
           refine key u v r s b0 rfl rfl hv c' (DT hr hl' (fun i c hi=>?_) (fun i c hi=>?_))
           ·have:=hx (i+1) c (by simpa using hi)
            rwa [show j+(i+1)=j+1+i by omega] at this
           ·have:=hy (i+1) c (by simpa using hi)
            rwa [show j+(i+1)=j+1+i by omega] at this
          ·cases h2
        ·cases h2
       ·cases h2
theorem cells_at {cs:List (Cell T)} {vs:List Value} (h:aY σ env F w cs vs):∀(i:Nat) (c:Cell T),cs[i]? =some c→∃v:Value,vs[i]? =some v∧∀u:Value,c=Cell.sc u→v=u:=by
 induction cs generalizing vs with
 | nil=>intro i c hi;simp at hi
 | cons x cs ih=>
   obtain⟨v,r,e,h1,h2⟩:=h
   subst e
   intro i c hi
   cases i with
   | zero=>simp at hi;subst hi;exact⟨v,rfl,fun u hu=>by subst hu;exact h1.1⟩
   | succ i=>simpa using ih h2 i c (by simpa using hi)
theorem PS {op:BinOp} {b r:Bool} (h:eqS op b=some r):(op= .eql∧r=b)∨(op= .neq∧r=!b):=by
 unfold eqS at h;cases op<;>simp only [Option.some.injEq,reduceCtorEq] at h<;>simp [←h]
theorem aaL {op:BinOp} {t ty:TypeId} {x y:Operand} {U:bI T} {ob:Option Prop} (ho:o.op= .binOp op t x y ty) (h:TV P σ o.dst op t x y= .done U ob) (hob:pG ob):eH P W0 o σ U:=by
 unfold TV at h
 cases hd:bQ σ o.dst<;>rw [hd] at h<;>dsimp only at h
 ·cases h
 split at h
 ·rename_i l m hl hm
  split at h
  ·rename_i ks b he
   split at h
   ·rename_i r hr
    cases h
    refine quiet_step (bn hd) (fun σ' a w env F hA hS=>⟨.bool r,?_,⟨rfl,rfl⟩⟩)
    have e1:=bG hS hA (x:=x) (by simp [ho,Op.operands])
    have e2:=bG hS hA (x:=y) (by simp [ho,Op.operands])
    rw [hl] at e1
    rw [hm] at e2
    obtain⟨us,g1,g2⟩:=e1
    obtain⟨vs,g3,g4⟩:=e2
    have hob:KJ P t=some (true,ks):=hob
    unfold KJ at hob
    split at hob
    ·rename_i fs hfs
     split at hob
     ·cases hob
     ·rename_i hst
      split at hob
      ·rename_i ks' hks
       cases hob
       simp only [Bool.or_eq_false_iff] at hst
       have hf:P.fieldsOf t=fs:=by simp [Program.fieldsOf,hfs]
       have hrun:(Op.equalIn 10000 t (.agg us) (.agg vs)).run P w= .ok b w:=by
        rw [run_equalIn_struct (P:=P) w 9999 t us vs (by rw [hf];exact hfs) hst.1,hf]
        exact DT (d:=9998) hks he (fun i c hi=>by simpa using cells_at g2 i c hi) (fun i c hi=>by simpa using cells_at g4 i c hi)
       unfold execOp;rw [ho]
       simp only [g1,g3,Sem.run_bind,run_eqGuard_agg (P:=P) w op t x y us vs hst.2,Result.andThen_ok]
       rcases PS hr with ⟨rfl,rfl⟩ | ⟨rfl,rfl⟩
       ·rw [run_eql_struct,hrun];rfl
       ·rw [run_neq_struct,hrun];rfl
      ·cases hob
    ·split at hob<;>cases hob
   ·cases h
  ·cases h
 ·rename_i u v hu hv
  split at h
  ·rename_i b hb
   split at h
   ·rename_i r hr
    cases h
    refine quiet_step (bn hd) (fun σ' a w env F hA hS=>⟨.bool r,?_,⟨rfl,rfl⟩⟩)
    have e1:=bG hS hA (x:=x) (by simp [ho,Op.operands])
    have e2:=bG hS hA (x:=y) (by simp [ho,Op.operands])
    rw [hu] at e1
    rw [hv] at e2
    have g1:=e1.1
    have g2:=e2.1
    have hob:KJ P t=some (false,[.bool]):=hob
    have hck:MJ P t=some .bool:=by
     unfold KJ at hob
     split at hob
     ·split at hob
      ·cases hob
      ·split at hob<;>cases hob
     ·split at hob
      ·rename_i hc;cases hob;exact hc
      ·cases hob
    unfold SL at hb
    split at hb
    ·split at hb<;>cases hb
    ·rename_i p q
     cases hb
     have hrun:=zx (P:=P) hck (u:= .bool p) (v:= .bool q) rfl 9999 w
     unfold execOp;rw [ho]
     rcases PS hr with ⟨rfl,rfl⟩ | ⟨rfl,rfl⟩
     ·simp [g1,g2,Sem.run_bind,eqGuard,binOp,Op.equal,Op.maxDepth,hrun]
     ·simp [g1,g2,Sem.run_bind,eqGuard,binOp,Op.equal,Op.maxDepth,hrun]
    ·cases hb
    ·cases hb
   ·cases h
  ·cases h
 ·cases h
end
end Go.Proofs.YtcnfgfomholheaaGreatDoor.Z
end
section
namespace Go.Proofs.YtcnfgfomholheaaGreatDoor.Z
open Go.RowKit
set_option linter.unusedVariables false
set_option linter.unusedSimpArgs false
section
variable {T:dX} {P:Program} {W0:Fr} {σ σ' σ1:St T} {a:Act} {w w1:World} {env bD:Nat→Value} {F F1:Nat→Nat→Prop} {o:Oper} {bF bH:List Nat}
def numOf (T:dX) (e:Nat) (y:T.Tb e):Int:=match T.cells e y with
 | [.sc (.int .u8 n)]=>n
 | _=>0
def Xo (T:dX) (e:Nat):Prop:=∀y:T.Tb e,T.cells e y=[.sc (.int .u8 (numOf T e y))]
def Il (σ:St T) (dst:Option Nat) (ts td:Nat) (x:Operand):eX T:=
 match T.ti ts with
 | some si=>match T.ti td with
   | some di=>match bQ σ dst with
     | true=>match di.kind with
       | .num k=>match si.kind with
         | .num _=>match sv (dn σ x) with
           | some (.int _ n)=> .done ⟨.c (.sc (.int k (k.wrap n))),[],[],0,[]⟩ none
           | _=> .stuck
         | _=> .stuck
       | .text=>match si.kind with
         | .text=>match sv (dn σ x) with
           | some (.string b)=> .done ⟨.c (.sc (.string b)),[],[],0,[]⟩ none
           | _=> .stuck
         | .slice e=>match T.ti e with
           | some ei=>match ei.kind with
             | .num .u8=>match I7 σ (dn σ x) with
               | some ⟨p,e',l⟩=>match Nat.beq e' e with
                 | true=> .done ⟨.c (.sc (.string (strOfNums (l.map (numOf T e'))))),[],tZ p,0,[]⟩ (some (Xo T e'))
                 | false=> .stuck
               | none=> .stuck
             | _=> .stuck
           | none=> .stuck
         | _=> .stuck
       | _=> .stuck
     | false=> .stuck
   | none=> .stuck
 | none=> .stuck
theorem wX {ts td:Nat} {x:Operand} (ho:o.op= .convert ts td x) {v:Value} (h:(convert ts td (a.eval x)).run P w= .ok v w):(execOp a.eval o).run P w= .ok (.value v) w:=by
 unfold execOp;rw [ho];simp only [Sem.run_bind,h];rfl
theorem Xp {e:Nat} {ei:TI} {P':Nat→Prop} {l:List (T.Tb e)} {v:Value} {ts td:Nat} (dY:T.ti e=some ei) (hsz:ei.size=1) (hn:Xo T e) (hs:P.underlying ts=some (.slice e)) (he:P.underlying e=some (.int .u8)) (hd:P.underlying td=some .string) (h:Rd T.sz w P' (.sl e (l.map (T.enc e))) v):
  (convert ts td v).run P w= .ok (.string (strOfNums (l.map (numOf T e)))) w:=by
 generalize hx:l.map (T.enc e)=xs at h
 cases h with
 | nil e A c=>
   have:l=[]:=by simpa using hx
   subst this
   have h0:strOfNums ([]:List Int)=ByteArray.empty:=rfl
   simp only [List.map_nil]
   rw [h0,run_convert_bytes_string w ts td e A 0 c hs he hd]
   cases A with
   | none=>simp [Conv.bytesToString]
   | some ad=>simpa using run_bytesToString (P:=P) w ad 0 c [] (by simpa using run_loadCells_list (P:=P) w ad [] (fun j v hj=>by simp at hj))
 | sl e xs ad c f hc hp hlt hss hcell hr=>
   subst hx
   have hl:(loadCells ad l.length).run P w= .ok ((l.map (numOf T e)).map (Value.int .u8)).toArray w:=by
    have:=run_loadCells_list (P:=P) w ad ((l.map (numOf T e)).map (Value.int .u8)) (fun j v hj=>by
     simp only [List.map_map,List.getElem?_map] at hj
     obtain⟨y,hy,hv⟩:=Option.map_eq_some_iff.1 hj
     have h1:(l.map (T.enc e))[j]? =some (T.enc e y):=by simp [hy]
     have h2:T.enc e y=[.sc (.int .u8 (numOf T e y))]:=by rw [T.gG,hn y];rfl
     have h3:=hcell j _ 0 (.sc (.int .u8 (numOf T e y))) h1 (by rw [h2];rfl)
     have h4:=hr j _ 0 (.sc (.int .u8 (numOf T e y))) h1 (by rw [h2];rfl)
     have h5:T.sz e=1:=by rw [kV dY,hsz]
     rw [h5] at h3
     simp only [Nat.mul_one,Nat.add_zero] at h3
     rw [h3]
     generalize f j 0=u at h4
     cases h4
     exact congrArg some hv)
    simpa using this
   rw [run_convert_bytes_string w ts td e _ _ c hs he hd,List.length_map,run_bytesToString w ad l.length c _ hl,foldl_push_bytes]
   simp [strOfNums,ByteArray.empty,ByteArray.emptyWithCapacity]
   rfl
theorem WC (hT:T.ok P) {ts td:Nat} {x:Operand} {U:bI T} {ob:Option Prop} (ho:o.op= .convert ts td x) (h:Il σ o.dst ts td x= .done U ob) (hob:pG ob):eH P W0 o σ U:=by
 unfold Il at h
 cases hsi:T.ti ts with
 | none=>rw [hsi] at h;cases h
 | some si=>
   rw [hsi] at h
   dsimp only at h
   cases hdi:T.ti td with
   | none=>rw [hdi] at h;cases h
   | some di=>
     rw [hdi] at h
     dsimp only at h
     cases hd:bQ σ o.dst<;>rw [hd] at h<;>dsimp only at h
     ·cases h
     obtain⟨sinf,s1,s2,s3,s4,s5,s6,s7,s8⟩:=hT ts si hsi
     obtain⟨aeh,d1,d2,d3,d4,d5,d6,d7,d8⟩:=hT td di hdi
     split at h
     ·rename_i k hk
      rw [hk] at d8
      split at h
      ·rename_i k' hk'
       rw [hk'] at s8
       split at h
       ·rename_i k'' n hn
        cases h
        refine quiet_step (bn hd) (fun σ' a w env F hA hS=>⟨.int k (k.wrap n),wX ho ?_,⟨rfl,rfl⟩⟩)
        have e1:=iP (bG hS hA (x:=x) (by simp [ho,Op.operands])) hn
        simp [convert,run_underlying s8.1,run_underlying d8.1,e1,Conv.intToInt]
       ·cases h
      ·cases h
     ·rename_i hk
      rw [hk] at d8
      split at h
      ·rename_i hk'
       rw [hk'] at s8
       split at h
       ·rename_i b hn
        cases h
        refine quiet_step (bn hd) (fun σ' a w env F hA hS=>⟨.string b,wX ho ?_,⟨rfl,rfl⟩⟩)
        have e1:=iP (bG hS hA (x:=x) (by simp [ho,Op.operands])) hn
        simp [convert,run_underlying s8.1,run_underlying d8.1,e1]
       ·cases h
      ·rename_i e hk'
       rw [hk'] at s8
       cases dY:T.ti e with
       | none=>rw [dY] at h;cases h
       | some ei=>
         rw [dY] at h
         dsimp only at h
         split at h
         ·rename_i hek
          cases hr:I7 σ (dn σ x) with
          | none=>rw [hr] at h;cases h
          | some pel=>
            obtain⟨p,e',l⟩:=pel
            rw [hr] at h
            dsimp only at h
            cases hb:Nat.beq e' e<;>rw [hb] at h<;>cases h
            have hee:=Nat.eq_of_beq_eq_true hb
            subst hee
            obtain⟨aei,g1,g2,g3,g4,g5,g6,g7,g8⟩:=hT e' ei dY
            rw [hek] at g8
            refine quiet_step (bn hd) (fun σ' a w env F hA hS=>⟨_,wX ho ?_,⟨rfl,rfl⟩⟩)
            have e1:=bG hS hA (x:=x) (by simp [ho,Op.operands])
            obtain⟨h9,h10⟩:=EM hS hA e1 hr (fun _ h=>h)
            exact Xp dY g8.2 hob s8.1 g8.1 d8.1 h10
         ·cases h
      ·cases h
     ·cases h
end
end Go.Proofs.YtcnfgfomholheaaGreatDoor.Z
end
