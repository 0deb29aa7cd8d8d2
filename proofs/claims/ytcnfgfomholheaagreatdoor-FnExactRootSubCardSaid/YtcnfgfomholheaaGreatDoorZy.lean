/- Several texts of this claim in one (a claim holds at most 60 files). -/
import Derived.Laws.Cover1
import Derived.Laws.IdiomCopy
import Derived.Lib.Overlaps
import Derived.Lib.SliceRun
import Derived.Maps.Range
import Derived.Shelf.Spec.SlicesInsertGrow
import Derived.Shelf.RegionOpenPlain
import Derived.Test.YtcnfgfomholheaaGreatDoorZc
import Derived.Test.YtcnfgfomholheaaGreatDoorZp
import Derived.Test.YtcnfgfomholheaaGreatDoorPx8
section
namespace Go.Proofs.YtcnfgfomholheaaGreatDoor.Q
open Go.RowKit Go.Proofs.YtcnfgfomholheaaGreatDoor.X Go.Proofs.YtcnfgfomholheaaGreatDoorW.PrintWords Go.Proofs.YtcnfgfomholheaaGreatDoorW.PrintLast Go.Proofs.YtcnfgfomholheaaGreatDoorW.PrintMore
open Go.Proofs.YtcnfgfomholheaaGreatDoor.Z (V El ck Ow Fam row_part row_in ow_open CallWOb)
set_option linter.unusedVariables false
set_option linter.unusedSimpArgs false
section
variable {P:Program}
theorem gU (w:World) (dT sT ty elem:TypeId) (sz:Nat) (b o dLen dCap:Nat) (a:Addr) (sLen sCap:Nat) (cs:List Value)
  (hu:P.underlying dT=some (.slice elem)) (hs:(P.info? elem).map (·.size)=some sz) (hn:cs.length=Nat.min sLen dLen*sz)
  (hsrc:∀j v,cs[j]? =some v→w.cell? (a.add j)=some v) (hc:∀j,j<cs.length→(w.cell? ⟨b,o+j,none⟩).isSome=true) (hf:∀j,j<cs.length→w.frozen? ⟨b,o+j,none⟩=false) (h1:∀v∈cs,v.oneCell'=true):
  (Builtin.copy_ #[dT,sT] ty #[.slice (some ⟨b,o,none⟩) dLen dCap, .slice (some a) sLen sCap]).run P w= .ok (goInt (Nat.min sLen dLen)) (w.setCells b o cs):=by
 have hl:=run_loadCells_list (P:=P) w a cs hsrc
 have hst:=run_storeCells_cells (P:=P) b o cs 0 w (by simpa using hc) (by simpa using hf) h1
 cases hq:P.info? elem with
 | none=>simp [hq] at hs
 | some i=>
   have hi:i.size=sz:=by simpa [hq] using hs
   simp [Builtin.copy_,run_underlying hu,Builtin.lenOf,Builtin.firstCells,sizeOf,typeInfo,hq,hi,←hn,hl,hst]
theorem Lu (w:World) (t e ty:TypeId) (z:Value) (ht:P.underlying t=some (.slice e)) (hv:∀w,(zeroValue e).run P w= .ok z w) (h1:∀u∈z.cells.toList,u.oneCell'=true) (b o n c:Nat) (hz:0<z.cells.size) (hn:0<n)
  (hc:∀j,j<n*z.cells.size→(w.cell? ⟨b,o+j,none⟩).isSome=true) (hf:∀j,j<n*z.cells.size→w.frozen? ⟨b,o+j,none⟩=false):
  (Builtin.clear_ #[t] ty #[.slice (some ⟨b,o,none⟩) n c]).run P w= .ok (.tuple #[]) (w.setCells b o (Builtin.zeroCells z.cells n).toList):=by
 have hzl:(Builtin.zeroCells z.cells n).toList.length=n*z.cells.size:=by simp [Builtin.zeroCells]
 have hst:=run_storeCells_cells (P:=P) b o (Builtin.zeroCells z.cells n).toList 0 w (by rw [hzl];simpa using hc) (by rw [hzl];simpa using hf) (by
  intro v hv'
  simp only [Builtin.zeroCells,Array.toList_map,List.mem_map] at hv'
  obtain⟨i,_,rfl⟩:=hv'
  have hlt:i % z.cells.size<z.cells.size:=Nat.mod_lt _ hz
  rw [getElem!_pos z.cells _ hlt]
  exact h1 _ (Array.getElem_mem_toList hlt))
 simp only [Nat.add_zero] at hst
 obtain⟨m,rfl⟩:∃m,n=m+1:=⟨n - 1,by omega⟩
 simp [Builtin.clear_,run_underlying ht,hv,hst]
end
theorem eP (W:World) (g o:Nat) (vs:List Value):W.grownBy (W.setCells g o vs) (some g):=by
 obtain⟨s1,s2,s3,s4⟩:=qm g vs o W
 exact⟨s1,s2,s3,by rw [s4];exact Nat.le_refl _,fun k _ hk=>oI vs o k (fun e=>hk (by rw [e]))⟩
theorem grown_below {w W w1:World} {row:Option Nat} (h:w.grownBy W row) (hb:Below W.heap.size W w1):w.grownBy w1 row:=
 ⟨hb.os.trans h.os,hb.tape.trans h.tape,hb.output.trans h.output,Nat.le_trans h.size hb.size,fun k hk hn=>(hb.block k (Nat.lt_of_lt_of_le hk h.size)).trans (h.block k hk hn)⟩
theorem Ba {w W:World} {g B:Nat} {v:Value} (h:w.grownBy W (some g)) (hB:w.cell? ⟨B,0,none⟩=some v) (hne:B≠g):W.cell? ⟨B,0,none⟩=some v:=by
 have hlt:B<w.heap.size:=by
  rcases Nat.lt_or_ge B w.heap.size with h' | h'
  ·exact h'
  ·simp [World.cell?,Array.getElem?_eq_none h'] at hB
 rw [World.cell?_of_block (w:=w) (h.block B hlt (fun e=>hne (by injection e)))]
 exact hB
theorem gV {g e o:Nat} {vs:List Value} {W:World} {cur:Array Value} (hh:W.heap[g]? =some (.cells cur e (0,0))) (hf:o+vs.length≤cur.size):∃c2,(W.setCells g o vs).heap[g]? =some (.cells c2 e (0,0))∧c2.size=cur.size∧c2.toList.take o=cur.toList.take o∧(c2.toList.drop o).take vs.length=vs∧c2.toList.drop (o+vs.length)=cur.toList.drop (o+vs.length):=by
 obtain⟨c2,h1,h2,h3⟩:=oH vs o W cur hh hf
 have hl:(cur.toList.take o).length=o:=by rw [List.length_take,Array.length_toList];omega
 refine⟨c2,h1,h2,?_,?_,?_⟩
 ·rw [h3,List.append_assoc,List.take_append_of_le_length (by omega),List.take_of_length_le (by omega)]
 ·rw [h3,List.append_assoc,List.drop_left' hl,List.take_left' rfl]
 ·rw [h3,List.drop_left' (by rw [List.length_append,hl])]
theorem Bc {x1 x2 y:List Value} {a b:Nat} {p v s:List Value} (h1:x1.take a=p) (h2:(y.drop a).take v.length=v) (h2t:y.take a=x2.take a) (h2d:y.drop (a+v.length)=x2.drop (a+v.length)) (h3:x2.take a=p) (h4:(x2.drop (a+v.length)).take s.length=s) (hb:b=a+v.length+s.length) (ha:p.length=a):y.take b=p++v++s:=by
 subst hb
 have e:y=y.take a++((y.drop a).take v.length++(y.drop (a+v.length))):=by
  rw [←List.drop_drop,List.take_append_drop,List.take_append_drop]
 rw [e,h2,h2t,h3,h2d,←List.append_assoc,Nat.add_assoc,show a+(v.length+s.length)=(p++v).length+s.length from by rw [List.length_append,ha];omega,List.take_length_add_append,h4]
theorem xw {α β:Type} {f g:α→List β}:∀{l:List α},(∀t∈l,f t=g t)→l.flatMap f=l.flatMap g
 | [],_=>rfl
 | a::l,h=>by rw [List.flatMap_cons,List.flatMap_cons,h a List.mem_cons_self,xw (fun t ht=>h t (List.mem_cons_of_mem _ ht))]
theorem adG (m:Nat) (z0 z1 z2:Value):(Builtin.zeroCells #[z0,z1,z2] m).size=m*3:=by simp [Builtin.zeroCells]
abbrev jq:=(Nat × List V) × Value × Value × Value
def aX (c:jq):List Value:=[c.2.1,c.2.2.1,c.2.2.2]
def rX (c:jq):Prop:=∀u∈aX c,u.oneCell'=true
def jZ (e:Nat) (W:World) (base:Nat) (v:Value) (ts:List jq):Prop:=(Kd.raw 3).R e W base (fun _=>True) v (ts.map aX)
section
variable {e:Nat}
theorem nZ {W:World} {base n cap:Nat} {A:Option Addr} {ts:List jq} (h:jZ e W base (.slice A n cap) ts):n=ts.length:=by
 have:=(Kd.bn h).1
 rwa [List.length_map] at this
theorem oU {W:World} {base g n cap:Nat} {ts:List jq} (h:jZ e W base (.slice (some ⟨g,0,none⟩) n cap) ts) (i:Nat) (c:jq) (hc:ts[i]? =some c):
  W.cell? ⟨g,i*3,none⟩=some c.2.1∧W.cell? ⟨g,i*3+1,none⟩=some c.2.2.1∧W.cell? ⟨g,i*3+2,none⟩=some c.2.2.2∧(∀j,W.frozen? ⟨g,i*3+j,none⟩=false)∧rX c:=by
 have hn:=nZ h
 obtain⟨hi,hg⟩:=List.getElem?_eq_some_iff.1 hc
 obtain⟨cc,hl,hM,hcc,hf⟩:=Kd.adr h [] (i:Int) (by omega) (by omega)
 simp only [Int.toNat_natCast] at hM hcc hf
 have e:(ts.map aX).getD i []=aX c:=by rw [List.getD_eq_getElem?_getD,List.getElem?_map,hc];rfl
 rw [e] at hM
 obtain⟨rfl,_,ho⟩:=hM
 exact⟨hcc 0 _ rfl,hcc 1 _ rfl,hcc 2 _ rfl,hf,ho⟩
theorem tV {W:World} {base n cap:Nat} {A:Option Addr} {ts:List jq} (h:jZ e W base (.slice A n cap) ts) (hp:0<n):∃g,A=some ⟨g,0,none⟩∧g<W.heap.size∧base≤g:=by
 have hn:=nZ h
 obtain⟨g,cap',e',hb,hlt,_⟩:=Kd.XR h (by rw [List.length_map];omega)
 injection e' with e1 e2 e3
 exact⟨g,e1,hlt,hb⟩
theorem NS {W w1:World} {base:Nat} {v:Value} {ts:List jq} {row:Option Nat} (h:jZ e W base v ts) (hg:W.grownBy w1 row) (hne:row≠v.ownBlock):jZ e w1 base v ts:=Kd.aae h rfl hg hne
theorem lI {W w1:World} {base:Nat} {v:Value} {ts:List jq} (h:jZ e W base v ts) (hb:Below W.heap.size W w1):jZ e w1 base v ts:=Kd.jC h hb
theorem Qz {W:World} {g base:Nat} (c:jq) (h1:rX c) (h:W.heap[g]? =some (.cells (aX c).toArray e (0,0))) (hb:base≤g):jZ e W base (.slice (some ⟨g,0,none⟩) 1 1) [c]:=by
 refine⟨fun _ _=>trivial,aX c,⟨rfl, .inr ⟨g,1,_,rfl,hb,h,Nat.le_refl _,by decide,rfl,rfl⟩⟩,rfl,fun j x hj=>?_⟩
 have hj0:j=0:=by have:=(List.getElem?_eq_some_iff.1 hj).1;simp at this;exact this
 subst hj0
 have hx:aX c=x:=by simpa using hj
 subst hx
 exact⟨rfl,rfl,h1⟩
theorem ni (ts:List jq):(ts.flatMap aX).length=ts.length*3:=by
 induction ts with
 | nil=>rfl
 | cons c r ih=>rw [List.flatMap_cons,List.length_append,ih,List.length_cons];show 3+_=_;omega
theorem nH (ts:List jq) (i:Nat):(ts.flatMap aX).take (i*3)=(ts.take i).flatMap aX:=by
 induction i generalizing ts with
 | zero=>simp
 | succ i ih=>
   cases ts with
   | nil=>simp
   | cons c r=>
     rw [List.flatMap_cons,List.take_succ_cons,List.flatMap_cons,←ih r,show(i+1)*3=(aX c).length+i*3 from by show _=3+_;omega,List.take_length_add_append]
theorem Bf (ts:List jq) (i:Nat):(ts.flatMap aX).drop (i*3)=(ts.drop i).flatMap aX:=by
 induction i generalizing ts with
 | zero=>simp
 | succ i ih=>
   cases ts with
   | nil=>simp
   | cons c r=>
     rw [List.flatMap_cons,List.drop_succ_cons,←ih r,show(i+1)*3=(aX c).length+i*3 from by show _=3+_;omega,List.drop_length_add_append]
theorem Bg {w:World} {base:Nat} {ok:Nat→Prop}:∀(ts:List jq) (inner:List Value),dw ((Kd.raw 3).M w base ok) 3 (ts.map aX) inner→inner=ts.flatMap aX∧∀c∈ts,rX c
 | [],inner,h=>⟨List.eq_nil_of_length_eq_zero (by have:=h.1;simpa using this),fun c hc=>by cases hc⟩
 | c::r,inner,h=>by
   have hl:inner.length=(r.length+1)*3:=by have:=h.1;simpa using this
   obtain⟨e,_,ho⟩:=h.2 0 (aX c) rfl
   replace e:inner.take 3=aX c:=by simpa using e
   obtain⟨i1,i2⟩:=Bg (w:=w) (base:=base) (ok:=ok) r (inner.drop 3) ⟨by rw [List.length_drop,hl,List.length_map];omega,fun j p hj=>by
    have:=h.2 (j+1) p (by simpa using hj)
    rw [List.drop_drop]
    rwa [show(j+1)*3=3+j*3 from by omega] at this⟩
   refine⟨?_,fun x hx=>?_⟩
   ·rw [List.flatMap_cons,←i1,←e,List.take_append_drop]
   ·rcases List.mem_cons.1 hx with rfl | hx
    ·rw [Nat.zero_mul,List.drop_zero,e] at ho;exact ho
    ·exact i2 x hx
theorem Jf {w:World} {base:Nat} {ok:Nat→Prop} (ts:List jq) (h1:∀c∈ts,rX c):dw ((Kd.raw 3).M w base ok) 3 (ts.map aX) (ts.flatMap aX):=by
 refine⟨by rw [ni,List.length_map],fun j p hj=>?_⟩
 rw [List.getElem?_map] at hj
 obtain⟨c,hc,rfl⟩:=Option.map_eq_some_iff.1 hj
 obtain⟨hjl,hg⟩:=List.getElem?_eq_some_iff.1 hc
 rw [Bf,List.drop_eq_getElem_cons hjl,hg,List.flatMap_cons]
 refine⟨List.take_left' rfl,rfl,h1 c (by rw [←hg];exact List.getElem_mem hjl)⟩
theorem xA {W:World} {base g n cap:Nat} {ts:List jq} (h:jZ e W base (.slice (some ⟨g,0,none⟩) n cap) ts):
  ∃cur,W.heap[g]? =some (.cells cur e (0,0))∧base≤g∧n≤cap∧cap≤maxLen∧cur.size=cap*3∧cur.toList.take (n*3)=ts.flatMap aX∧n=ts.length∧∀c∈ts,rX c:=by
 have hn:=nZ h
 obtain⟨_,inner,ho,hr⟩:=h
 obtain⟨rfl,h1⟩:=Bg ts inner hr
 obtain⟨_,hz | ⟨g',cap',cur,e',hb,hh,hc1,hc2,hs,ht⟩⟩:=ho
 ·simp at hz
 ·injection e' with e1 e2 e3
  injection e1 with e1
  injection e1 with e1
  subst e1;subst e3
  rw [List.length_map,←hn] at ht hc1
  exact⟨cur,hh,hb,hc1,hc2,hs,ht,hn,h1⟩
theorem xB {W:World} {base g cap:Nat} {ts:List jq} {cur:Array Value} (hh:W.heap[g]? =some (.cells cur e (0,0))) (hb:base≤g) (hc1:ts.length≤cap) (hc2:cap≤maxLen) (hs:cur.size=cap*3) (ht:cur.toList.take (ts.length*3)=ts.flatMap aX) (h1:∀c∈ts,rX c):
  jZ e W base (.slice (some ⟨g,0,none⟩) ts.length cap) ts:=by
 refine⟨fun _ _=>trivial,ts.flatMap aX,⟨by rw [ni,List.length_map];rfl, .inr ⟨g,cap,cur,by rw [List.length_map],hb,hh,by rw [List.length_map];exact hc1,hc2,hs,by rw [List.length_map];exact ht⟩⟩,Jf ts h1⟩
section
variable {P:Program} {ops:Array Oper} {rest:List Oper} {o:Oper} {a:Act} {Q:Exit→Act→World→Prop}
theorem DN {W:World} (hN:o.dst=none) (hgd:o.guard=none) (p x:Operand) (ho:o.op= .store e p x) {g n cap o' base:Nat} (i:Nat) (ts:List jq) (c:jq) (vU:a.eval p= .pointer (some ⟨g,o',none⟩)) (hoff:o'=i*3)
  (hx:a.eval x= .agg #[c.2.1,c.2.2.1,c.2.2.2]) (hone:rX c) (ht:(P.info? e).map (·.size)=some 3) (HO:jZ e W base (.slice (some ⟨g,0,none⟩) n cap) ts) (hi:i<n)
  (h:∀w1,jZ e w1 base (.slice (some ⟨g,0,none⟩) n cap) (ts.set i c)→Below base W w1→W.grownBy w1 (some g)→wpList P ops Q rest a w1):wpList P ops Q (o::rest) a W:=by
 have hn:=nZ HO
 obtain⟨c0,c1,c2,_,_⟩:=oU HO i ts[i] (List.getElem?_eq_getElem (by omega))
 refine Kd.acd (Kd.raw 3) base hN hgd e p x ho e (i:Int) 0 (ts.map aX) (aX c) _ (aX c) (aX ts[i]) (fun _=>True) (fun _=>False) vU ?_ hx ?_ ht hone HO (by omega) (by omega) rfl ?_ (by show 0+3≤3;omega) ⟨rfl,rfl,hone⟩ (fun _ h_=>h_.elim) (Below.refl _ _) ?_
 ·rw [hoff];simp;rfl
 ·simp [Value.cells,aX]
 ·intro j u hj
  simp only [Int.toNat_natCast]
  show W.cell? ⟨g,i*3+j,none⟩=_
  match j,hj with
  | 0,hj=>simp [aX] at hj;subst hj;exact c0
  | 1,hj=>simp [aX] at hj;subst hj;exact c1
  | 2,hj=>simp [aX] at hj;subst hj;exact c2
  | j+3,hj=>simp [aX] at hj
 ·intro w1 hr hb hg
  refine h w1 ?_ hb hg
  simp only [Int.toNat_natCast] at hr
  unfold jZ
  rw [List.map_set]
  exact hr
end
theorem QA (ts:List jq) (c:jq) (i:Nat) (hi:i≤ts.length):(ts.take i++c::ts.drop i).length=ts.length+1:=by
 rw [List.length_append,List.length_cons,List.length_take,List.length_drop];omega
theorem yK (ts:List jq) (c:jq) (i:Nat):(ts.take i++c::ts.drop i).flatMap aX=(ts.take i).flatMap aX++aX c++(ts.drop i).flatMap aX:=by
 rw [List.flatMap_append,List.flatMap_cons,List.append_assoc]
def jL (t:El):jq:=((t.1,t.2.1),t.2.2.getD 0 undef,t.2.2.getD 1 undef,t.2.2.getD 2 undef)
def tX (c:jq):El:=(c.1.1,c.1.2,aX c)
theorem zJ {t:El} (h:t.2.2.length=3):tX (jL t)=t:=by
 obtain⟨a,b,c⟩:=t
 match c,h with
 | [_,_,_],_=>rfl
theorem zK {W:World} {F:Nat→Prop} {sz:Nat→Nat} {els:List El} {G:Nat→Nat→Nat→Prop} {v:Value} (hs:sz e=3) (h:Fam sz W e F els G) (hr:W.ownsRow 0 e (sz e) v els.length (els.flatMap Z.ck)):jZ e W 0 v (els.map jL)∧(els.map jL).map tX=els:=by
 have hl:∀t∈els,t.2.2.length=3:=fun t ht=>by rw [(h.el t ht).2.1,hs]
 have hm:(els.map jL).map tX=els:=by
  rw [List.map_map]
  exact(List.map_congr_left (fun t ht=>zJ (hl t ht))).trans (List.map_id els)
 have hf:(els.map jL).flatMap aX=els.flatMap Z.ck:=by
  rw [List.flatMap_map]
  refine xw (fun t ht=>?_)
  exact congrArg (fun z:El=>z.2.2) (zJ (hl t ht))
 refine⟨⟨fun _ _=>trivial,(els.map jL).flatMap aX,?_,Jf _ (fun c hc=>?_)⟩,hm⟩
 ·rw [hf,List.length_map,List.length_map,show(Kd.raw 3).sz=3 from rfl,←hs]
  exact hr
 ·obtain⟨t,ht,rfl⟩:=List.mem_map.1 hc
  intro u hu
  rw [show aX (jL t)=t.2.2 from congrArg (fun z:El=>z.2.2) (zJ (hl t ht))] at hu
  obtain⟨q,hq,rfl⟩:=List.mem_iff_getElem.1 hu
  have hlx:=(h.el t ht).1
  have hly:=(h.el t ht).2.1
  obtain⟨u,h1,h2⟩:=(h.el t ht).2.2 q _ (List.getElem?_eq_getElem (by omega:q<t.2.1.length))
  have:=Option.some.inj ((List.getElem?_eq_getElem hq).symm.trans h1)
  rw [this]
  exact h2.one
theorem LC {W:World} {base:Nat} {sz:Nat→Nat} {v:Value} {ts:List jq} (hs:sz e=3) (h:jZ e W base v ts):W.ownsRow 0 e (sz e) v (ts.map tX).length ((ts.map tX).flatMap Z.ck):=by
 obtain⟨_,inner,ho,hr⟩:=h
 obtain⟨rfl,h1⟩:=Bg ts inner hr
 rw [List.length_map,List.flatMap_map,hs]
 rw [List.length_map] at ho
 obtain⟨h2,h3⟩:=ho
 refine⟨h2,h3.imp id ?_⟩
 rintro⟨g,cap,cur,a1,a2,a3⟩
 exact⟨g,cap,cur,a1,Nat.zero_le _,a3⟩
end
abbrev lX:=(Nat × List V) × Value
def ck1 (c:lX):List Value:=[c.2]
def yL (c:lX):Prop:=∀u∈ck1 c,u.oneCell'=true
def vT (e:Nat) (W:World) (base:Nat) (v:Value) (ts:List lX):Prop:=(Kd.raw 1).R e W base (fun _=>True) v (ts.map ck1)
section
variable {e:Nat}
theorem Fz {W:World} {base n cap:Nat} {A:Option Addr} {ts:List lX} (h:vT e W base (.slice A n cap) ts):n=ts.length:=by
 have:=(Kd.bn h).1
 rwa [List.length_map] at this
theorem QB {W:World} {base n cap:Nat} {A:Option Addr} {ts:List lX} (h:vT e W base (.slice A n cap) ts) (hp:0<n):∃g,A=some ⟨g,0,none⟩∧g<W.heap.size∧base≤g:=by
 have hn:=Fz h
 obtain⟨g,cap',e',hb,hlt,_⟩:=Kd.XR h (by rw [List.length_map];omega)
 injection e' with e1 e2 e3
 exact⟨g,e1,hlt,hb⟩
theorem DR (ts:List lX):(ts.flatMap ck1).length=ts.length*1:=by
 induction ts with
 | nil=>rfl
 | cons c r ih=>rw [List.flatMap_cons,List.length_append,ih,List.length_cons];show 1+_=_;omega
theorem VZ (ts:List lX) (i:Nat):(ts.flatMap ck1).take (i*1)=(ts.take i).flatMap ck1:=by
 induction i generalizing ts with
 | zero=>simp
 | succ i ih=>
   cases ts with
   | nil=>simp
   | cons c r=>
     rw [List.flatMap_cons,List.take_succ_cons,List.flatMap_cons,←ih r,show(i+1)*1=(ck1 c).length+i*1 from by show _=1+_;omega,List.take_length_add_append]
theorem Jg (ts:List lX) (i:Nat):(ts.flatMap ck1).drop (i*1)=(ts.drop i).flatMap ck1:=by
 induction i generalizing ts with
 | zero=>simp
 | succ i ih=>
   cases ts with
   | nil=>simp
   | cons c r=>
     rw [List.flatMap_cons,List.drop_succ_cons,←ih r,show(i+1)*1=(ck1 c).length+i*1 from by show _=1+_;omega,List.drop_length_add_append]
theorem Bh {w:World} {base:Nat} {ok:Nat→Prop}:∀(ts:List lX) (inner:List Value),dw ((Kd.raw 1).M w base ok) 1 (ts.map ck1) inner→inner=ts.flatMap ck1∧∀c∈ts,yL c
 | [],inner,h=>⟨List.eq_nil_of_length_eq_zero (by have:=h.1;simpa using this),fun c hc=>by cases hc⟩
 | c::r,inner,h=>by
   have hl:inner.length=(r.length+1)*1:=by have:=h.1;simpa using this
   obtain⟨e,_,ho⟩:=h.2 0 (ck1 c) rfl
   replace e:inner.take 1=ck1 c:=by simpa using e
   obtain⟨i1,i2⟩:=Bh (w:=w) (base:=base) (ok:=ok) r (inner.drop 1) ⟨by rw [List.length_drop,hl,List.length_map];omega,fun j p hj=>by
    have:=h.2 (j+1) p (by simpa using hj)
    rw [List.drop_drop]
    rwa [show(j+1)*1=1+j*1 from by omega] at this⟩
   refine⟨?_,fun x hx=>?_⟩
   ·rw [List.flatMap_cons,←i1,←e,List.take_append_drop]
   ·rcases List.mem_cons.1 hx with rfl | hx
    ·rw [Nat.zero_mul,List.drop_zero,e] at ho;exact ho
    ·exact i2 x hx
theorem Jh {w:World} {base:Nat} {ok:Nat→Prop} (ts:List lX) (h1:∀c∈ts,yL c):dw ((Kd.raw 1).M w base ok) 1 (ts.map ck1) (ts.flatMap ck1):=by
 refine⟨by rw [DR,List.length_map],fun j p hj=>?_⟩
 rw [List.getElem?_map] at hj
 obtain⟨c,hc,rfl⟩:=Option.map_eq_some_iff.1 hj
 obtain⟨hjl,hg⟩:=List.getElem?_eq_some_iff.1 hc
 rw [Jg,List.drop_eq_getElem_cons hjl,hg,List.flatMap_cons]
 refine⟨List.take_left' rfl,rfl,h1 c (by rw [←hg];exact List.getElem_mem hjl)⟩
theorem aax {W:World} {base g n cap:Nat} {ts:List lX} (h:vT e W base (.slice (some ⟨g,0,none⟩) n cap) ts):
  ∃cur,W.heap[g]? =some (.cells cur e (0,0))∧base≤g∧n≤cap∧cap≤maxLen∧cur.size=cap*1∧cur.toList.take (n*1)=ts.flatMap ck1∧n=ts.length∧∀c∈ts,yL c:=by
 have hn:=Fz h
 obtain⟨_,inner,ho,hr⟩:=h
 obtain⟨rfl,h1⟩:=Bh ts inner hr
 obtain⟨_,hz | ⟨g',cap',cur,e',hb,hh,hc1,hc2,hs,ht⟩⟩:=ho
 ·simp at hz
 ·injection e' with e1 e2 e3
  injection e1 with e1
  injection e1 with e1
  subst e1;subst e3
  rw [List.length_map,←hn] at ht hc1
  exact⟨cur,hh,hb,hc1,hc2,hs,ht,hn,h1⟩
theorem aay {W:World} {base g cap:Nat} {ts:List lX} {cur:Array Value} (hh:W.heap[g]? =some (.cells cur e (0,0))) (hb:base≤g) (hc1:ts.length≤cap) (hc2:cap≤maxLen) (hs:cur.size=cap*1) (ht:cur.toList.take (ts.length*1)=ts.flatMap ck1) (h1:∀c∈ts,yL c):
  vT e W base (.slice (some ⟨g,0,none⟩) ts.length cap) ts:=by
 refine⟨fun _ _=>trivial,ts.flatMap ck1,⟨by rw [DR,List.length_map];rfl, .inr ⟨g,cap,cur,by rw [List.length_map],hb,hh,by rw [List.length_map];exact hc1,hc2,hs,by rw [List.length_map];exact ht⟩⟩,Jh ts h1⟩
theorem aaz (ts:List lX) (c:lX) (i:Nat) (hi:i≤ts.length):(ts.take i++c::ts.drop i).length=ts.length+1:=by
 rw [List.length_append,List.length_cons,List.length_take,List.length_drop];omega
theorem NT (ts:List lX) (c:lX) (i:Nat):(ts.take i++c::ts.drop i).flatMap ck1=(ts.take i).flatMap ck1++ck1 c++(ts.drop i).flatMap ck1:=by
 rw [List.flatMap_append,List.flatMap_cons,List.append_assoc]
def tY (t:El):lX:=((t.1,t.2.1),t.2.2.getD 0 undef)
def Hw (c:lX):El:=(c.1.1,c.1.2,ck1 c)
theorem Ji {t:El} (h:t.2.2.length=1):Hw (tY t)=t:=by
 obtain⟨a,b,c⟩:=t
 match c,h with
 | [_],_=>rfl
theorem UU {W:World} {F:Nat→Prop} {sz:Nat→Nat} {els:List El} {G:Nat→Nat→Nat→Prop} {v:Value} (hs:sz e=1) (h:Fam sz W e F els G) (hr:W.ownsRow 0 e (sz e) v els.length (els.flatMap Z.ck)):vT e W 0 v (els.map tY)∧(els.map tY).map Hw=els:=by
 have hl:∀t∈els,t.2.2.length=1:=fun t ht=>by rw [(h.el t ht).2.1,hs]
 have hm:(els.map tY).map Hw=els:=by
  rw [List.map_map]
  exact(List.map_congr_left (fun t ht=>Ji (hl t ht))).trans (List.map_id els)
 have hf:(els.map tY).flatMap ck1=els.flatMap Z.ck:=by
  rw [List.flatMap_map]
  refine xw (fun t ht=>?_)
  exact congrArg (fun z:El=>z.2.2) (Ji (hl t ht))
 refine⟨⟨fun _ _=>trivial,(els.map tY).flatMap ck1,?_,Jh _ (fun c hc=>?_)⟩,hm⟩
 ·rw [hf,List.length_map,List.length_map,show(Kd.raw 1).sz=1 from rfl,←hs]
  exact hr
 ·obtain⟨t,ht,rfl⟩:=List.mem_map.1 hc
  intro u hu
  rw [show ck1 (tY t)=t.2.2 from congrArg (fun z:El=>z.2.2) (Ji (hl t ht))] at hu
  obtain⟨q,hq,rfl⟩:=List.mem_iff_getElem.1 hu
  have hlx:=(h.el t ht).1
  have hly:=(h.el t ht).2.1
  obtain⟨u,h1,h2⟩:=(h.el t ht).2.2 q _ (List.getElem?_eq_getElem (by omega:q<t.2.1.length))
  have:=Option.some.inj ((List.getElem?_eq_getElem hq).symm.trans h1)
  rw [this]
  exact h2.one
theorem acI {W:World} {base:Nat} {sz:Nat→Nat} {v:Value} {ts:List lX} (hs:sz e=1) (h:vT e W base v ts):W.ownsRow 0 e (sz e) v (ts.map Hw).length ((ts.map Hw).flatMap Z.ck):=by
 obtain⟨_,inner,ho,hr⟩:=h
 obtain⟨rfl,h1⟩:=Bh ts inner hr
 rw [List.length_map,List.flatMap_map,hs]
 rw [List.length_map] at ho
 obtain⟨h2,h3⟩:=ho
 refine⟨h2,h3.imp id ?_⟩
 rintro⟨g,cap,cur,a1,a2,a3⟩
 exact⟨g,cap,cur,a1,Nat.zero_le _,a3⟩
end
theorem Bj (ts:List lX):(ts.flatMap ck1).length=ts.length:=by simpa using DR ts
theorem zf (ts:List lX) (i:Nat):(ts.flatMap ck1).take i=(ts.take i).flatMap ck1:=by have:=VZ ts i;rwa [Nat.mul_one] at this
theorem TQ (ts:List lX) (i:Nat):(ts.flatMap ck1).drop i=(ts.drop i).flatMap ck1:=by have:=Jg ts i;rwa [Nat.mul_one] at this
theorem NU {e:Nat} {W:World} {base g n cap:Nat} {ts:List lX} (h:vT e W base (.slice (some ⟨g,0,none⟩) n cap) ts):
  ∃cur,W.heap[g]? =some (.cells cur e (0,0))∧base≤g∧n≤cap∧cap≤maxLen∧cur.size=cap∧cur.toList.take n=ts.flatMap ck1∧n=ts.length∧∀c∈ts,yL c:=by
 have:=aax h
 simpa only [Nat.mul_one] using this
theorem NV {e:Nat} {W:World} {base g cap:Nat} {ts:List lX} {cur:Array Value} (hh:W.heap[g]? =some (.cells cur e (0,0))) (hb:base≤g) (hc1:ts.length≤cap) (hc2:cap≤maxLen) (hs:cur.size=cap) (ht:cur.toList.take ts.length=ts.flatMap ck1) (h1:∀c∈ts,yL c):
  vT e W base (.slice (some ⟨g,0,none⟩) ts.length cap) ts:=aay hh hb hc1 hc2 (by rw [Nat.mul_one];exact hs) (by rw [Nat.mul_one];exact ht) h1
end Go.Proofs.YtcnfgfomholheaaGreatDoor.Q
end
section
namespace Go.Proofs.YtcnfgfomholheaaGreatDoor.Q
open Go.RowKit Go.Proofs.YtcnfgfomholheaaGreatDoor.X Go.Proofs.YtcnfgfomholheaaGreatDoorW.PrintWords Go.Proofs.YtcnfgfomholheaaGreatDoorW.PrintLast Go.Proofs.YtcnfgfomholheaaGreatDoorW.PrintMore
open Go.Proofs.YtcnfgfomholheaaGreatDoor.Z (V El ck Ow Fam row_part row_in ow_open CallWOb)
set_option linter.unusedVariables false
set_option linter.unusedSimpArgs false
def LD (t:ByteArray):Value→Bool
 | .string s=>s.toList==t.toList
 | _=>false
def zh (t:ByteArray) (c:jq):Bool:=LD t c.2.1
def kp (t:ByteArray) (c:jq):Bool:=!zh t c
def DT (t:ByteArray) (ts:List jq):Int:=match ts.findIdx? (zh t) with
 | none=>-1
 | some i=>i
theorem LG.calls (B:Nat) (t:ByteArray) (a v q:Value) (w:World) (ha:∃s,a= .string s) (h1:v.oneCell'=true) (h2:q.oneCell'=true) (hB:w.cell? ⟨B,0,none⟩=some (.string t)):
  Calls Tryz.prog 204 #[.agg #[a,v,q], .pointer (some ⟨B,0,none⟩)] w fun e w'=>e= .returned (.bool (LD t a))∧Below w.heap.size w w':=by
 obtain⟨s,rfl⟩:=ha
 have hB2:=fun o=>Go.Lib.cell?_alloc_some o hB
 go_enter Tryz.func204,Tryz.ntmps204
 go_wp2
 go_ret
 exact⟨by first | rfl | (simp;done),aj (Below.refl _ _) _⟩
set_option maxHeartbeats 4000000 in
set_option maxRecDepth 100000 in
theorem Yw.calls (B:Nat) (t:ByteArray) (ts:List jq) (hS:∀c∈ts,∃s,c.2.1=Value.string s) (A:Option Addr) (n cap base:Nat) (w:World) (hR:jZ 44 w base (.slice A n cap) ts) (hB:w.cell? ⟨B,0,none⟩=some (.string t)):
  Calls Tryz.prog 114 #[.slice A n cap, .func (.func 204) #[] #[.pointer (some ⟨B,0,none⟩)]] w fun e w'=>e= .returned (.int .i64 (DT t ts))∧Below w.heap.size w w':=by
 have hn:=nZ hR
 have hm:n≤9223372036854775807:=Kd.IY (by have:=(Kd.bn hR);rw [←this.1] at this;exact this.2.2)
 have HR:=Aside0.mk hR
 have HB:=Aside0.mk hB
 have HN:=Aside0.mk hn
 have HSS:=Aside0.mk hS
 clear hR hB hn hS
 go_enter Tryz.func114,Tryz.ntmps114
 go_wp2
 go_loopg [5,8] n (fun gg _ s8 wr=>∃kk:Nat,kk≤n∧n - kk≤gg∧s8= .int .i64 kk∧Aside0 (Below w.heap.size w wr)∧Aside0 (∀j c,j<kk→ts[j]? =some c→zh t c=false))
 case atStart=>exact⟨0,Nat.zero_le _,by omega,rfl,⟨Below.refl _ w⟩,⟨fun j c hj=>absurd hj (Nat.not_lt_zero _)⟩⟩
 case round=>
  obtain⟨kk,hkk,hg,rfl,BW,AA⟩:=hrel
  by_cases hlt:kk<n
  ·have hltz:(kk:Int)<(n:Int):=by omega
   obtain⟨c,hc⟩:∃c,ts[kk]? =some c:=⟨_,List.getElem?_eq_getElem (by have:=HN.out;omega)⟩
   obtain⟨g,rfl,_,_⟩:=tV HR.out (by omega)
   obtain⟨c0,c1,c2,fz,oc⟩:=oU (lI HR.out BW.out) kk c hc
   have hBB:wr.cell? ⟨B,0,none⟩=some (.string t):=(by rw [BW.out.cell (by
    rcases Nat.lt_or_ge B w.heap.size with h' | h'
    ·exact h'
    ·exact absurd HB.out (by simp [World.cell?,Array.getElem?_eq_none h']))];exact HB.out)
   have hcall:=LG.calls B t c.2.1 c.2.2.1 c.2.2.2 wr (HSS.out c (List.mem_of_getElem? hc)) (oc _ (by simp [aX])) (oc _ (by simp [aX])) hBB
   rw [show LD t c.2.1=zh t c from rfl] at hcall
   have HC:=Aside0.mk hc
   clear hc fz oc hBB
   cases hq:zh t c with
   | true=>
     rw [hq] at hcall
     have HQ:=Aside0.mk hq
     clear hq
     go_wp2_with (go_at_call 204;refine hcall.mono ?_;rintro e w' ⟨rfl,hb'⟩)
     go_ret
     refine⟨?_,bM BW.out hb'⟩
     have e:DT t ts=(kk:Int):=by
      unfold DT
      obtain⟨hk,hg⟩:=List.getElem?_eq_some_iff.1 HC.out
      rw [List.findIdx?_eq_some_iff_getElem.2 ⟨hk,by rw [hg];exact HQ.out,fun j hj=>by rw [AA.out j _ hj (List.getElem?_eq_getElem (by omega))];simp⟩]
     rw [e]
     rfl
   | false=>
     rw [hq] at hcall
     have HQ:=Aside0.mk hq
     clear hq
     go_wp2_with (go_at_call 204;refine hcall.mono ?_;rintro e w' ⟨rfl,hb'⟩)
     go_roundg (n - (kk+1))
     case measure=>omega
     case rel=>
      refine⟨kk+1,by omega,by omega,by go_num,⟨bM BW.out hb'⟩,⟨fun j c' hj hc'=>?_⟩⟩
      by_cases e:j=kk
      ·subst e
       obtain rfl:=Option.some.inj (HC.out.symm.trans hc')
       exact HQ.out
      ·exact AA.out j c' (by omega) hc'
  ·have hltz:¬(kk:Int)<(n:Int):=by omega
   have:kk=n:=by omega
   subst this
   go_wp2
   go_ret
   refine⟨?_,BW.out⟩
   have e:DT t ts= -1:=by
    unfold DT
    rw [List.findIdx?_eq_none_iff.2 (fun x hx=>by
     obtain⟨j,hj,rfl⟩:=List.mem_iff_getElem.1 hx
     exact AA.out j _ (by have:=HN.out;omega) (List.getElem?_eq_getElem hj))]
   rw [e]
   rfl
set_option maxHeartbeats 8000000 in
set_option maxRecDepth 100000 in
theorem V3.calls (B:Nat) (t:ByteArray) (ts:List jq) (hS:∀c∈ts,∃s,c.2.1=Value.string s) (A:Option Addr) (n cap base:Nat) (w:World) (hR:jZ 44 w base (.slice A n cap) ts) (hB:w.cell? ⟨B,0,none⟩=some (.string t)) (hne:∀ad,A=some ad→ad.block≠B):
  Calls Tryz.prog 203 #[.slice A n cap, .func (.func 204) #[] #[.pointer (some ⟨B,0,none⟩)]] w fun e w'=>∃m,e= .returned (.slice A m cap)∧jZ 44 w' base (.slice A m cap) (ts.filter (kp t))∧w.grownBy w' (Value.slice A n cap).ownBlock:=by
 have hn:=nZ hR
 have hm:n≤9223372036854775807:=Kd.IY (by have:=(Kd.bn hR);rw [←this.1] at this;exact this.2.2)
 have hcn:n≤cap:=(Kd.bn hR).2.1
 have hI:=Yw.calls B t ts hS A n cap base w hR hB
 have hsp:DT t ts= -1∧(∀c∈ts,zh t c=false)∨∃k0,k0<n∧DT t ts=(k0:Int)∧(∃c,ts[k0]? =some c∧zh t c=true)∧∀j c,j<k0→ts[j]? =some c→zh t c=false:=by
  unfold DT
  cases h:ts.findIdx? (zh t) with
  | none=>exact .inl ⟨rfl,fun c hc=>List.findIdx?_eq_none_iff.1 h c hc⟩
  | some i=>
    obtain⟨hi,h1,h2⟩:=List.findIdx?_eq_some_iff_getElem.1 h
    refine .inr ⟨i,by omega,rfl,⟨_,List.getElem?_eq_getElem hi,h1⟩,fun j c hj hc=>?_⟩
    obtain⟨hj',rfl⟩:=List.getElem?_eq_some_iff.1 hc
    have:=h2 j hj
    simpa using this
 have HR:=Aside0.mk hR
 have HB:=Aside0.mk hB
 have HN:=Aside0.mk hn
 have HE:=Aside0.mk hne
 have HSS:=Aside0.mk hS
 clear hR hB hn hne hS
 rcases hsp with ⟨e1,hall⟩ | ⟨k0,hk0,e1,hhit,hall⟩
 ·rw [e1] at hI
  have hf:ts.filter (kp t)=ts:=List.filter_eq_self.2 (fun c hc=>by unfold kp;rw [hall c hc];rfl)
  have HF:=Aside0.mk hf
  have HI:=Aside0.mk hI
  clear e1 hall hf hI
  go_enter Tryz.func203,Tryz.ntmps203
  go_wp2_with (go_at_call 114;refine HI.out.mono ?_;rintro e w' ⟨rfl,hb'⟩)
  go_ret
  refine⟨n,rfl,?_,grown_below (World.grownBy.refl _ _) hb'⟩
  rw [HF.out]
  exact lI HR.out hb'
 ·rw [e1] at hI
  obtain⟨g,rfl,hgl,hgb⟩:=tV HR.out (by omega)
  have HI:=Aside0.mk hI
  have HA:=Aside0.mk hall
  have HH:=Aside0.mk hhit
  have GL:=Aside0.mk hgl
  have GB:=Aside0.mk hgb
  have HS:=Aside0.mk hk0
  clear hI hall hhit e1 hgl hgb
  have hne1:((k0:Int)== -1)=false:=beq_eq_false_iff_ne.2 (by omega)
  go_enter Tryz.func203,Tryz.ntmps203
  go_wp2_with (go_at_call 114;refine HI.out.mono ?_;rintro e w0' ⟨rfl,hb0⟩)
  go_loopg [5,6,7] n (fun gg s5 s6 _ wr=>∃(i j:Nat) (ts':List jq),s5= .int .i64 i∧s6= .int .i64 j∧i<j∧j≤n∧n - j≤gg∧Aside0 (ts'.length=ts.length)∧Aside0 (ts'.take i=(ts.take j).filter (kp t))∧Aside0 (ts'.drop j=ts.drop j)∧Aside0 (jZ 44 wr base (.slice (some ⟨g,0,none⟩) n cap) ts')∧Aside0 (w.grownBy wr (some g)))
  case atStart=>
   refine⟨k0,k0+1,ts,rfl,by go_num,by omega,by omega,by omega,⟨rfl⟩,⟨?_⟩,⟨rfl⟩,⟨lI HR.out hb0⟩,⟨grown_below (World.grownBy.refl _ _) hb0⟩⟩
   obtain⟨c,hc,hh⟩:=HH.out
   rw [List.take_add_one,hc,List.filter_append]
   have:[c].filter (kp t)=[]:=by simp [kp,hh]
   rw [show(some c).toList=[c] from rfl,this,List.append_nil]
   refine(List.filter_eq_self.2 (fun x hx=>?_)).symm
   obtain⟨j,hj,rfl⟩:=List.mem_take_iff_getElem.1 hx
   unfold kp
   rw [HA.out j _ (by omega) (List.getElem?_eq_getElem (by omega))]
   rfl
  case round=>
   obtain⟨i,j,ts',rfl,rfl,hij,hjn,hgg,L',T',D',R',G'⟩:=hrel
   have hcell:=Ba G'.out HB.out (fun e=>HE.out _ rfl e.symm)
   by_cases hlt:j<n
   ·have hltz:(j:Int)<(n:Int):=by omega
    have hjl:j<ts.length:=by have:=HN.out;omega
    obtain⟨c,hc⟩:∃c,ts[j]? =some c:=⟨_,List.getElem?_eq_getElem hjl⟩
    have hc':ts'[j]? =some c:=by
     have e:(ts'.drop j)[0]? =(ts.drop j)[0]?:=by rw [D'.out]
     rw [List.getElem?_drop,List.getElem?_drop] at e
     simpa [hc] using e
    obtain⟨c0,c1,c2,fz,oc⟩:=oU R'.out j c hc'
    have HC:=Aside0.mk hc
    have HL:=Aside0.mk hjl
    have OC:=Aside0.mk oc
    have HCB:=Aside0.mk hcell
    clear hc hc' hcell fz oc hjl
    cases hq:zh t c with
    | true=>
      have HQ:=Aside0.mk hq
      clear hq
      go_wp2_with (first | ((with_reducible refine Hf (N:=7) rfl ?_);refine Nw ?hg (N:=7) ?hd (cs:=#[.string (⟨#[]⟩:ByteArray), .int .i64 0, .int .i64 0]) (t:=44) ?hr ?_;(case hd=>rfl);(case hg=>rfl);(case hr=>first | (go_simp;done) | (go_simp;rfl));intro gb hgb w1 hbx hb1;have X1:=Qz (base:=gb) (((0,[]), .string (⟨#[]⟩:ByteArray), .int .i64 0, .int .i64 0):jq) (by intro u hu;simp [aX] at hu;rcases hu with rfl | rfl | rfl<;>rfl) hbx (Nat.le_refl _);have R1:=lI R'.out hb1;have G1:=grown_below G'.out hb1;have Z1:wr.heap.size≤gb:=Nat.le_of_eq hgb.symm;have X1:=Aside0.mk X1;have R1:=Aside0.mk R1;have G1:=Aside0.mk G1;have Z1:=Aside0.mk Z1;clear hgb hbx hb1) | ((with_reducible refine Ak (t:=44) (p:=7) rfl ?_);refine DN (o':=?oo) rfl rfl _ _ rfl 0 _ c ?vU ?hoff ?hx OC.out (by kernel_rfl) X1.out (by omega) ?_;(case vU=>rfl);(case hoff=>rfl);(case hx=>rfl);intro w2 hr2 hb2 hg2;have X2:=hr2;have R2:=NS R1.out hg2 (by have:=Z1.out;have:=GL.out;have:=G'.out.size;intro e;have e:some gb=some g:=e;injection e with e;omega);have G2:=World.grownBy.andThen G1.out hg2 (fun j hj=> .inl (by injection hj with hj;have:=Z1.out;have:=G'.out.size;omega));have HB2:=Ba G2 HB.out (fun e=>HE.out _ rfl e.symm);obtain⟨b0,b1,b2,-,-⟩:=oU X2 0 c rfl;simp only [Nat.zero_mul,Nat.zero_add] at b0 b1 b2;have X2:=Aside0.mk X2;have R2:=Aside0.mk R2;have G2:=Aside0.mk G2;have HB2:=Aside0.mk HB2;clear hr2 hb2 hg2) | (go_at_call 204;refine(LG.calls B t c.2.1 c.2.2.1 c.2.2.2 _ (HSS.out c (List.mem_of_getElem? HC.out)) (OC.out _ (by simp [aX])) (OC.out _ (by simp [aX])) HB2.out).mono ?_;rintro e w3 ⟨rfl,hb3⟩;rw [show LD t c.2.1=_ from HQ.out];have X3:=lI X2.out hb3;have R3:=lI R2.out hb3;have G3:=grown_below G2.out hb3;clear b0 b1 b2;obtain⟨b0,b1,b2,-,-⟩:=oU X3 0 c rfl;simp only [Nat.zero_mul,Nat.zero_add] at b0 b1 b2;have R3:=Aside0.mk R3;have G3:=Aside0.mk G3;clear hb3))
      go_roundg (n - (j+1))
      case measure=>omega
      case rel=>
       refine⟨i,j+1,ts',rfl,by go_num,by omega,by omega,by omega,L',⟨?_⟩,⟨?_⟩,R3,G3⟩
       ·rw [T'.out,List.take_add_one,HC.out,List.filter_append]
        simp [kp,HQ.out]
       ·have:=congrArg (List.drop 1) D'.out
        rwa [List.drop_drop,List.drop_drop] at this
    | false=>
      have HQ:=Aside0.mk hq
      clear hq
      go_wp2_with (first | ((with_reducible refine Hf (N:=7) rfl ?_);refine Nw ?hg (N:=7) ?hd (cs:=#[.string (⟨#[]⟩:ByteArray), .int .i64 0, .int .i64 0]) (t:=44) ?hr ?_;(case hd=>rfl);(case hg=>rfl);(case hr=>first | (go_simp;done) | (go_simp;rfl));intro gb hgb w1 hbx hb1;have X1:=Qz (base:=gb) (((0,[]), .string (⟨#[]⟩:ByteArray), .int .i64 0, .int .i64 0):jq) (by intro u hu;simp [aX] at hu;rcases hu with rfl | rfl | rfl<;>rfl) hbx (Nat.le_refl _);have R1:=lI R'.out hb1;have G1:=grown_below G'.out hb1;have Z1:wr.heap.size≤gb:=Nat.le_of_eq hgb.symm;have X1:=Aside0.mk X1;have R1:=Aside0.mk R1;have G1:=Aside0.mk G1;have Z1:=Aside0.mk Z1;clear hgb hbx hb1) | ((with_reducible refine Ak (t:=44) (p:=7) rfl ?_);refine DN (o':=?oo) rfl rfl _ _ rfl 0 _ c ?vU ?hoff ?hx OC.out (by kernel_rfl) X1.out (by omega) ?_;(case vU=>rfl);(case hoff=>rfl);(case hx=>rfl);intro w2 hr2 hb2 hg2;have X2:=hr2;have R2:=NS R1.out hg2 (by have:=Z1.out;have:=GL.out;have:=G'.out.size;intro e;have e:some gb=some g:=e;injection e with e;omega);have G2:=World.grownBy.andThen G1.out hg2 (fun j hj=> .inl (by injection hj with hj;have:=Z1.out;have:=G'.out.size;omega));have HB2:=Ba G2 HB.out (fun e=>HE.out _ rfl e.symm);obtain⟨b0,b1,b2,-,-⟩:=oU X2 0 c rfl;simp only [Nat.zero_mul,Nat.zero_add] at b0 b1 b2;have X2:=Aside0.mk X2;have R2:=Aside0.mk R2;have G2:=Aside0.mk G2;have HB2:=Aside0.mk HB2;clear hr2 hb2 hg2) | (go_at_call 204;refine(LG.calls B t c.2.1 c.2.2.1 c.2.2.2 _ (HSS.out c (List.mem_of_getElem? HC.out)) (OC.out _ (by simp [aX])) (OC.out _ (by simp [aX])) HB2.out).mono ?_;rintro e w3 ⟨rfl,hb3⟩;rw [show LD t c.2.1=_ from HQ.out];have X3:=lI X2.out hb3;have R3:=lI R2.out hb3;have G3:=grown_below G2.out hb3;clear b0 b1 b2;obtain⟨b0,b1,b2,-,-⟩:=oU X3 0 c rfl;simp only [Nat.zero_mul,Nat.zero_add] at b0 b1 b2;have R3:=Aside0.mk R3;have G3:=Aside0.mk G3;clear hb3) | ((with_reducible refine Ak (t:=44) (p:=33) rfl ?_);refine DN (o':=i*3) rfl rfl _ _ rfl i _ c ?vU ?hoff ?hx OC.out (by kernel_rfl) R3.out (by omega) ?_;(case vU=>first | rfl | (go_simp;done) | (go_simp;rfl) | (simp [Act.eval,Act.put];done));(case hoff=>rfl);(case hx=>rfl);intro w4 hr4 hb4 hg4;have R4:=Aside0.mk hr4;have G4:=Aside0.mk (World.grownBy.andThen G3.out hg4 (fun j hj=> .inr hj));clear hr4 hb4 hg4))
      go_roundg (n - (j+1))
      case measure=>omega
      case rel=>
       refine⟨i+1,j+1,ts'.set i c,by go_num,by go_num,by omega,by omega,by omega,⟨by rw [List.length_set];exact L'.out⟩,⟨?_⟩,⟨?_⟩,R4,G4⟩
       ·rw [List.take_succ_eq_append_getElem (by rw [List.length_set];have:=L'.out;have:=HL.out;omega),List.getElem_set_self,List.take_set_of_le (Nat.le_refl _),T'.out,List.take_add_one,HC.out,List.filter_append]
        simp [kp,HQ.out]
       ·rw [List.drop_set_of_lt (by omega)]
        have:=congrArg (List.drop 1) D'.out
        rwa [List.drop_drop,List.drop_drop] at this
   ·obtain rfl:j=n:=by omega
    have hltz:¬(j:Int)<(j:Int):=by omega
    obtain⟨cur,hh,hgb,hc1,hc2,hsz,htk,hn,hone⟩:=xA R'.out
    have hcl:∀ty,(Builtin.clear_ #[29] ty #[.slice (some ⟨g,i*3,none⟩) (j - i) (cap - i)]).run Tryz.prog wr= .ok (.tuple #[]) (wr.setCells g (i*3) (Builtin.zeroCells #[.string (⟨#[]⟩:ByteArray), .int .i64 0, .int .i64 0] (j - i)).toList):=fun ty=>
     Lu wr 29 44 ty (.agg #[.string (⟨#[]⟩:ByteArray), .int .i64 0, .int .i64 0]) Tryz.underlying29 (fun _=>by kernel_rfl) (by decide) g (i*3) (j - i) _ (by decide) (by omega)
      (fun q hq=>by rw [cell_of_row wr g _ cur 44 (0,0) hh];simp;simp [Value.cells] at hq;omega) (fun q hq=>je hh _)
    have hzl:(Builtin.zeroCells #[.string (⟨#[]⟩:ByteArray), .int .i64 0, .int .i64 0] (j - i)).toList.length=(j - i)*3:=by rw [Array.length_toList];exact adG _ _ _ _
    generalize (Builtin.zeroCells #[.string (⟨#[]⟩:ByteArray), .int .i64 0, .int .i64 0] (j - i)).toList=zs at hcl hzl
    have hfin:jZ 44 (wr.setCells g (i*3) zs) base (.slice (some ⟨g,0,none⟩) i cap) (ts.filter (kp t)):=by
     obtain⟨cur',h3,h4,h5⟩:=oH zs (i*3) wr cur hh (by rw [hzl,hsz];omega)
     have hT:=T'.out
     rw [List.take_of_length_le (by have:=L'.out;omega:ts.length≤j)] at hT
     have hil:(ts.filter (kp t)).length=i:=by rw [←hT,List.length_take];omega
     have:=xB (ts:=ts.filter (kp t)) (cap:=cap) h3 hgb (by omega) hc2 (by rw [h4,hsz]) (by
      rw [h5,hil,List.append_assoc,List.take_append_of_le_length (by rw [List.length_take,Array.length_toList];omega),List.take_take,Nat.min_self,←hT,←nH,←htk,List.take_take,Nat.min_eq_left (by omega)]) (fun c hc=>hone c (by rw [←hT] at hc;exact List.mem_of_mem_take hc))
     rwa [hil] at this
    have hG:=World.grownBy.andThen G'.out (eP wr g (i*3) zs) (fun q hq=> .inr hq)
    have F1:=Aside0.mk hfin
    have F2:=Aside0.mk hG
    clear hfin hG hh hgb hc1 hc2 hsz htk hn hone hzl hcell
    go_wp2
    go_ret
    exact⟨i,rfl,F1.out,F2.out⟩
end Go.Proofs.YtcnfgfomholheaaGreatDoor.Q
end
section
namespace Go.Proofs.YtcnfgfomholheaaGreatDoor.Q
open Go.RowKit Go.Proofs.YtcnfgfomholheaaGreatDoor.X Go.Proofs.YtcnfgfomholheaaGreatDoorW.PrintWords Go.Proofs.YtcnfgfomholheaaGreatDoorW.PrintLast Go.Proofs.YtcnfgfomholheaaGreatDoorW.PrintMore
open Go.Proofs.YtcnfgfomholheaaGreatDoor.Z (V El ck Ow Fam row_part row_in ow_open CallWOb)
set_option linter.unusedVariables false
set_option linter.unusedSimpArgs false
end Go.Proofs.YtcnfgfomholheaaGreatDoor.Q
end
section
namespace Go.Proofs.YtcnfgfomholheaaGreatDoor.Q
open Go.RowKit Go.Proofs.YtcnfgfomholheaaGreatDoor.X Go.Proofs.YtcnfgfomholheaaGreatDoorW.PrintWords Go.Proofs.YtcnfgfomholheaaGreatDoorW.PrintLast Go.Proofs.YtcnfgfomholheaaGreatDoorW.PrintMore
open Go.Proofs.YtcnfgfomholheaaGreatDoor.Z (V El ck Ow Fam row_part row_in ow_open CallWOb)
set_option linter.unusedVariables false
set_option linter.unusedSimpArgs false
theorem V4:(Tryz.prog.info? 44).map (fun i=>(i.zero,i.size,i.bytes))=some (some (Value.agg #[.string (⟨#[]⟩:ByteArray), .int .i64 0, .int .i64 0]),3,32):=by kernel_rfl
set_option maxHeartbeats 4000000 in
set_option maxRecDepth 100000 in
theorem TR (ts:List jq) (c:jq) (A:Option Addr) (n cap base vb vc:Nat) (w:World) (hR:jZ 44 w base (.slice A n cap) ts) (hV:jZ 44 w 0 (.slice (some ⟨vb,0,none⟩) 1 vc) [c]) (hb:base≤w.heap.size) (hbig:(n+1)*32≤140737488355328):
  Calls Tryz.prog 185 #[.slice A n cap, .int .i64 n, .slice (some ⟨vb,0,none⟩) 1 vc] w fun e w'=>∃v',e= .returned v'∧jZ 44 w' base v' (ts++[c])∧w.grownBy w' (Value.slice A n cap).ownBlock∧(v'.ownBlock=(Value.slice A n cap).ownBlock∨∃b,v'.ownBlock=some b∧w.heap.size≤b):=by
 have hn:=nZ hR
 have hm:n≤9223372036854775807:=Kd.IY (by have:=(Kd.bn hR);rw [←this.1] at this;exact this.2.2)
 have hcn:n≤cap:=(Kd.bn hR).2.1
 have HR:=Aside0.mk hR
 have HV:=Aside0.mk hV
 have HN:=Aside0.mk hn
 have HG:=Aside0.mk hbig
 have HB:=Aside0.mk hb
 have hh:(A=none→n=0):=by
  rintro rfl
  rcases Nat.eq_zero_or_pos n with h0 | h0
  ·exact h0
  ·obtain⟨g,e,_⟩:=tV hR h0
   cases e
 clear hR hV hn hbig hb
 go_enter Tryz.func185,Tryz.ntmps185
 cases A with
 | none=>
   obtain rfl:=hh rfl
   clear hh
   go_wp2_with (at_builtin;refine Kd.lg (Kd.raw 3) (w0:=w) base rfl _ _ 29 44 _ 32 rfl Tryz.underlying29 V4 rfl (by decide) (by decide) (.slice none 0 cap) (ts.map aX) ([c].map aX) (some ⟨vb,0,none⟩) 1 vc (fun _=>True) (fun _=>False) rfl rfl HR.out (Kd.bn HV.out).2.2 (fun _ _ h_=>h_) (fun _ h_=>h_.elim) (fun _ _=>trivial) (Below.refl _ _) HB.out (by rw [List.length_map,←HN.out];exact HG.out) ?_;intro v1 w1 hr hb1 hg1 hat)
   go_ret
   exact⟨v1,rfl,by unfold jZ;rw [List.map_append];exact hr,hg1,hat⟩
 | some ad=>
   clear hh
   go_wp2_with (at_builtin;refine Kd.lg (Kd.raw 3) (w0:=w) base rfl _ _ 29 44 _ 32 rfl Tryz.underlying29 V4 rfl (by decide) (by decide) (.slice (some ad) n cap) (ts.map aX) ([c].map aX) (some ⟨vb,0,none⟩) 1 vc (fun _=>True) (fun _=>False) rfl rfl HR.out (Kd.bn HV.out).2.2 (fun _ _ h_=>h_) (fun _ h_=>h_.elim) (fun _ _=>trivial) (Below.refl _ _) HB.out (by rw [List.length_map,←HN.out];exact HG.out) ?_;intro v1 w1 hr hb1 hg1 hat)
   all_goals (go_ret;exact⟨v1,rfl,by unfold jZ;rw [List.map_append];exact hr,hg1,hat⟩)
set_option maxHeartbeats 4000000 in
set_option maxRecDepth 100000 in
theorem OX (g n c i vb m vc:Nat) (cs vs:List Value) (w:World) (hi:i<n) (hm:0<m) (hroom:n+m≤c) (hc63:c≤9223372036854775807) (hvb:vb≠g) (hcl:cs.length=n*3) (hvl:vs.length=m*3)
  (hcs:∀j v,cs[j]? =some v→w.cell? ⟨g,j,none⟩=some v) (hsp:∀j,j<(n+m)*3→(w.cell? ⟨g,j,none⟩).isSome=true) (hfz:∀j,w.frozen? ⟨g,j,none⟩=false)
  (hvs:∀j v,vs[j]? =some v→w.cell? ⟨vb,j,none⟩=some v) (h1c:∀v∈cs,v.oneCell'=true) (h1v:∀v∈vs,v.oneCell'=true)
  (tA tB:TypeId) (kA kB:Nat) (hsa:w.shape? vb=some (tA,kA)) (hsb:w.shape? g=some (tB,kB)) (hkB:kB≠0) (hfa:w.frozen? ⟨vb,0,none⟩=false) (hfe:w.frozen? ⟨vb,kA,none⟩=false):
  Calls Tryz.prog 185 #[.slice (some ⟨g,0,none⟩) n c, .int .i64 i, .slice (some ⟨vb,0,none⟩) m vc] w fun e w'=>
   e= .returned (.slice (some ⟨g,0,none⟩) (n+m) c)∧w'=(w.drew.setCells g ((i+m)*3) (cs.drop (i*3))).setCells g (i*3) vs:=by
 have hz1:¬((m:Int)=0):=by omega
 have hz2:¬((i:Int)=(n:Int)):=by omega
 have hsz:(Tryz.prog.info? 44).map (·.size)=some 3:=by kernel_rfl
 have hov:∀lb cb,(callFunc 213 #[.slice (some ⟨vb,0,none⟩) m vc, .slice (some ⟨g,(i+m)*3,none⟩) lb cb]).run Tryz.prog w= .ok (.value (.bool false)) w:=fun lb cb=>by
  rw [run_callFunc_extern Tryz.func213 (by kernel_rfl) (by kernel_rfl) (by kernel_rfl) (e:=Extern.SlicesOverlaps.overlaps #[29,29] #[4]) (by kernel_rfl),
   Go.Lib.run_overlaps_apart w 29 4 44 Tryz.underlying29 3 (fun _=>by kernel_rfl) ⟨vb,0,none⟩ ⟨g,(i+m)*3,none⟩ m vc lb cb hvb tA tB kA kB hsa hsb hkB hfa hfe]
  rfl
 have hdl:(cs.drop (i*3)).length=(n - i)*3:=by rw [List.length_drop,hcl];omega
 have hw1:IntKind.i64.wrap ((i:Int)+(m:Int))=(i:Int)+(m:Int):=by rw [IntKind.wrap_i64];omega
 have hb1:(0:Int)≤(i:Int)+(m:Int):=by omega
 have hin:i≤n:=by omega
 have htn:((i:Int)+(m:Int)).toNat=i+m:=by omega
 have hb2:¬(c=i+m):=by omega
 have hb3:(i:Int)≤(n:Int)+(m:Int):=by omega
 have hb4:¬(c=i):=by omega
 have hcp1:∀ty dc sc,(Builtin.copy_ #[29,29] ty #[.slice (some ⟨g,(i+m)*3,none⟩) (n+m - (i+m)) dc, .slice (some ⟨g,i*3,none⟩) (n+m - i) sc]).run Tryz.prog w.drew= .ok (goInt (Nat.min (n+m - i) (n+m - (i+m)))) (w.drew.setCells g ((i+m)*3) (cs.drop (i*3))):=fun ty dc sc=>
  gU w.drew _ _ ty 44 3 g ((i+m)*3) (n+m - (i+m)) dc ⟨g,i*3,none⟩ (n+m - i) sc (cs.drop (i*3)) Tryz.underlying29 hsz (by rw [hdl];simp only [Nat.min_def];split<;>omega)
   (fun j v hj=>by rw [Addr.add_lit];exact hcs (i*3+j) v (by rwa [List.getElem?_drop] at hj))
   (fun j hj=>hsp _ (by omega)) (fun j hj=>hfz _) (fun v hv=>h1c v (List.mem_of_mem_drop hv))
 obtain⟨W1,hW1⟩:∃W1,W1=w.drew.setCells g ((i+m)*3) (cs.drop (i*3)):=⟨_,rfl⟩
 have hsp1:∀k,k<(n+m)*3→(W1.cell? ⟨g,k,none⟩).isSome=true:=fun k hk=>by
  rw [hW1]
  exact isSome_setCells g (cs.drop (i*3)) ((i+m)*3) w.drew (fun j hj=>hsp ((i+m)*3+j) (by rw [hdl] at hj;omega)) k (hsp k hk)
 have hcp2:∀(W:World),(∀x,W.cell? x=W1.cell? x)→(∀x,W.frozen? x=W1.frozen? x)→∀ty dc,(Builtin.copy_ #[29,29] ty #[.slice (some ⟨g,i*3,none⟩) (n+m - i) dc, .slice (some ⟨vb,0,none⟩) m vc]).run Tryz.prog W= .ok (goInt (Nat.min m (n+m - i))) (W.setCells g (i*3) vs):=fun W hWc hWf ty dc=>
  gU W _ _ ty 44 3 g (i*3) (n+m - i) dc ⟨vb,0,none⟩ m vc vs Tryz.underlying29 hsz (by rw [hvl];simp only [Nat.min_def];split<;>omega)
   (fun j v hj=>by
    rw [Addr.add_lit,hWc,hW1,World.cell?_setCells_out g _ _ _ _ (fun h _=>absurd h hvb),Nat.zero_add]
    exact hvs j v hj)
   (fun j hj=>by rw [hWc];exact hsp1 _ (by omega)) (fun j hj=>by rw [hWf,hW1,World.frozen?_setCells];exact hfz _) h1v
 rw [←hW1] at hcp1
 go_enter Tryz.func185,Tryz.ntmps185
 have mixed:Tryz.prog.follows .mixedOrders=true:=by kernel_rfl
 go_wp2_with (simp only [hov])
 go_region_law_o (refine step_copy_runI rfl _ _ 29 29 rfl _ _ (by simp [Act.eval,Act.put]) (by simp [Act.eval,Act.put]) (hcp1 _ _ _) ?_)
 go_wp2_with (at_builtin;refine wpList_copy_runI _ rfl _ _ 29 29 rfl _ _ rfl rfl (hcp2 _ (fun _=>rfl) (fun _=>rfl) _ _) ?_)
 go_ret
 first | exact⟨rfl,rfl⟩ | exact⟨rfl,by rw [hW1]⟩
set_option maxHeartbeats 4000000 in
set_option maxRecDepth 100000 in
theorem QC (g n c i vb m vc:Nat) (cs vs:List Value) (w:World) (hi:i<n) (hm:0<m) (hnc:n≤c) (hroom:c<n+m) (hbig:(n+m)*32≤140737488355328) (hcl:cs.length=n*3) (hvl:vs.length=m*3)
  (hcs:∀j v,cs[j]? =some v→w.cell? ⟨g,j,none⟩=some v) (hvs:∀j v,vs[j]? =some v→w.cell? ⟨vb,j,none⟩=some v) (h1c:∀v∈cs,v.oneCell'=true) (h1v:∀v∈vs,v.oneCell'=true):
  Calls Tryz.prog 185 #[.slice (some ⟨g,0,none⟩) n c, .int .i64 i, .slice (some ⟨vb,0,none⟩) m vc] w fun e w'=>
   e= .returned (.slice (some ⟨w.heap.size,0,none⟩) (n+m) (grownCap w (n+m) c 44))∧
   w'=(((w.alloc (.cells ((cs.take (i*3)).toArray++Builtin.zeroCells (Value.agg #[.string (⟨#[]⟩:ByteArray), .int .i64 0, .int .i64 0]).cells (n+m - i)++Builtin.zeroCells (Value.agg #[.string (⟨#[]⟩:ByteArray), .int .i64 0, .int .i64 0]).cells (grownCap w (n+m) c 44 - (n+m))) 44)).drew.setCells w.heap.size (i*3) vs).drew).setCells w.heap.size ((i+m)*3) (cs.drop (i*3)):=by
 have mixed:Tryz.prog.follows .mixedOrders=true:=by kernel_rfl
 obtain⟨i0,hi0,hz0,hzs,hzb⟩:=info_parts V4
 have hz1:¬((m:Int)=0):=by omega
 have hz2:¬((i:Int)=(n:Int)):=by omega
 have hz3:(c:Int)<(n:Int)+(m:Int):=by omega
 have hsz:(Tryz.prog.info? 44).map (·.size)=some 3:=by kernel_rfl
 have hbw:g<w.heap.size:=block_lt_of_cell (hcs 0 _ (List.getElem?_eq_getElem (by omega)))
 have hvw:vb<w.heap.size:=block_lt_of_cell (hvs 0 _ (List.getElem?_eq_getElem (by omega)))
 have hkk:(n:Int)+(m:Int) - (i:Int)=((n+m - i:Nat):Int):=by omega
 have hik:i+(n+m - i)=n+m:=by omega
 have hold:(Builtin.firstCells i0.size i (.slice (some ⟨g,0,none⟩) i c)).run Tryz.prog w.drew= .ok (cs.take (i*3)).toArray w.drew:=by
  rw [hzs]
  exact run_firstCells_some w.drew 3 i ⟨g,0,none⟩ i c (cs.take (i*3)) (by rw [List.length_take];omega) (fun j v hj=>by
   rw [Addr.add_lit,Nat.zero_add]
   rw [List.getElem?_take] at hj
   split at hj
   ·exact hcs j v hj
   ·cases hj)
 have hrz:∀ty,(Builtin.append_ #[29,3] ty #[.slice (some ⟨g,0,none⟩) i c, .int .i64 ((n:Int)+(m:Int) - (i:Int))]).run Tryz.prog w=
   .ok (.slice (some ⟨w.heap.size,0,none⟩) (n+m) (grownCap w (n+m) c 44)) (w.drew.alloc (.cells ((cs.take (i*3)).toArray++Builtin.zeroCells (Value.agg #[.string (⟨#[]⟩:ByteArray), .int .i64 0, .int .i64 0]).cells (n+m - i)++Builtin.zeroCells (Value.agg #[.string (⟨#[]⟩:ByteArray), .int .i64 0, .int .i64 0]).cells (grownCap w (n+m) c 44 - (n+m))) 44)):=fun ty=>by
  have h:=Go.Lib.run_append_grow_zeros w 29 3 ty 44 i0 _ .i64 .i64 Tryz.underlying29 Tryz.underlying3 hi0 hz0 (some ⟨g,0,none⟩) i c (cs.take (i*3)) hold (n+m - i) (by omega) (by omega) (by omega) (by omega) (by rw [hzb];omega) (by rw [hzb,hik];exact growslice_fits hroom hbig)
  rw [hik] at h
  rw [hkk]
  exact h
 obtain⟨G,hG⟩:∃G,G=grownCap w (n+m) c 44:=⟨_,rfl⟩
 obtain⟨ROW,hROW⟩:∃ROW:Array Value,ROW=(cs.take (i*3)).toArray++Builtin.zeroCells (Value.agg #[.string (⟨#[]⟩:ByteArray), .int .i64 0, .int .i64 0]).cells (n+m - i)++Builtin.zeroCells (Value.agg #[.string (⟨#[]⟩:ByteArray), .int .i64 0, .int .i64 0]).cells (G - (n+m)):=⟨_,rfl⟩
 rw [←hG] at hrz⊢
 rw [←hROW] at hrz⊢
 have hRl:(n+m)*3≤ROW.size:=by
  rw [hROW]
  simp [Builtin.zeroCells,Value.cells]
  omega
 obtain⟨W1,hW1⟩:∃W1,W1=w.drew.alloc (.cells ROW 44):=⟨_,rfl⟩
 rw [←hW1] at hrz
 have hN:∀j,j<(n+m)*3→(W1.cell? ⟨w.heap.size,j,none⟩).isSome=true:=fun j hj=>by
  rw [hW1,World.cell?_alloc_at (w:=w.drew) ROW _ w.heap.size j rfl,Array.getElem?_eq_getElem (by omega)];rfl
 have hNf:∀j,W1.frozen? ⟨w.heap.size,j,none⟩=false:=fun j=>by rw [hW1];exact World.frozen?_alloc_at (w:=w.drew) ROW _ w.heap.size j rfl
 have hOb:∀j v,w.cell? ⟨g,j,none⟩=some v→W1.cell? ⟨g,j,none⟩=some v:=fun j v h=>by rw [hW1,World.cell?_alloc_past (w:=w.drew) _ g j hbw];exact h
 have hOv:∀j v,w.cell? ⟨vb,j,none⟩=some v→W1.cell? ⟨vb,j,none⟩=some v:=fun j v h=>by rw [hW1,World.cell?_alloc_past (w:=w.drew) _ vb j hvw];exact h
 have hcpA:∀(W:World),(∀x,W.cell? x=W1.cell? x)→(∀x,W.frozen? x=W1.frozen? x)→∀ty dc,(Builtin.copy_ #[29,29] ty #[.slice (some ⟨w.heap.size,i*3,none⟩) (n+m - i) dc, .slice (some ⟨vb,0,none⟩) m vc]).run Tryz.prog W= .ok (goInt (Nat.min m (n+m - i))) (W.setCells w.heap.size (i*3) vs):=fun W hWc hWf ty dc=>
  gU W _ _ ty 44 3 w.heap.size (i*3) (n+m - i) dc ⟨vb,0,none⟩ m vc vs Tryz.underlying29 hsz (by rw [hvl];simp only [Nat.min_def];split<;>omega)
   (fun j v hj=>by rw [Addr.add_lit,hWc,Nat.zero_add];exact hOv _ v (hvs j v hj))
   (fun j hj=>by rw [hWc];exact hN _ (by omega)) (fun j hj=>by rw [hWf];exact hNf _) h1v
 have hGn:n+m≤G:=by rw [hG];exact grownCap_ge w _ _ _
 have hG63:G≤9223372036854775807:=by
  have:=grownCap_le_maxLen w (n+m) c 44 (by unfold maxLen;omega)
  rw [←hG] at this
  unfold maxLen at this
  omega
 have hGi:¬(G=i):=by omega
 have hGim:¬(G=i+m):=by omega
 have hci:¬(c=i):=by omega
 have hbN:g≠w.heap.size:=by omega
 have hdl:(cs.drop (i*3)).length=(n - i)*3:=by rw [List.length_drop,hcl];omega
 have hcpB:∀(W:World),(∀x,W.cell? x=(W1.setCells w.heap.size (i*3) vs).cell? x)→(∀x,W.frozen? x=(W1.setCells w.heap.size (i*3) vs).frozen? x)→∀ty dc sc,(Builtin.copy_ #[29,29] ty #[.slice (some ⟨w.heap.size,(i+m)*3,none⟩) (n+m - (i+m)) dc, .slice (some ⟨g,i*3,none⟩) (n - i) sc]).run Tryz.prog W= .ok (goInt (Nat.min (n - i) (n+m - (i+m)))) (W.setCells w.heap.size ((i+m)*3) (cs.drop (i*3))):=fun W hWc hWf ty dc sc=>
  gU W _ _ ty 44 3 w.heap.size ((i+m)*3) (n+m - (i+m)) dc ⟨g,i*3,none⟩ (n - i) sc (cs.drop (i*3)) Tryz.underlying29 hsz (by rw [hdl];simp only [Nat.min_def];split<;>omega)
   (fun j v hj=>by
    rw [Addr.add_lit,hWc,World.cell?_setCells_out _ _ _ _ _ (fun h _=>absurd h hbN)]
    exact hOb _ v (hcs (i*3+j) v (by rwa [List.getElem?_drop] at hj)))
   (fun j hj=>by rw [hWc];exact isSome_setCells w.heap.size vs (i*3) W1 (fun q hq=>hN (i*3+q) (by rw [hvl] at hq;omega)) _ (hN _ (by rw [hdl] at hj;omega)))
   (fun j hj=>by rw [hWf,World.frozen?_setCells];exact hNf _) (fun v hv=>h1c v (List.mem_of_mem_drop hv))
 subst hW1
 have hE1:∀x,((w.alloc (.cells ROW 44)).drew).cell? x=(w.drew.alloc (.cells ROW 44)).cell? x:=fun x=>rfl
 have hE2:∀x,((w.alloc (.cells ROW 44)).drew).frozen? x=(w.drew.alloc (.cells ROW 44)).frozen? x:=fun x=>rfl
 have hF1:∀x,(((w.alloc (.cells ROW 44)).drew.setCells w.heap.size (i*3) vs).drew).cell? x=((w.drew.alloc (.cells ROW 44)).setCells w.heap.size (i*3) vs).cell? x:=fun x=>rfl
 have hF2:∀x,(((w.alloc (.cells ROW 44)).drew.setCells w.heap.size (i*3) vs).drew).frozen? x=((w.drew.alloc (.cells ROW 44)).setCells w.heap.size (i*3) vs).frozen? x:=fun x=>rfl
 have hw1:IntKind.i64.wrap ((i:Int)+(m:Int))=(i:Int)+(m:Int):=by rw [IntKind.wrap_i64];omega
 have hb1:(0:Int)≤(i:Int)+(m:Int):=by omega
 have hin:i≤n:=by omega
 have htn:((i:Int)+(m:Int)).toNat=i+m:=by omega
 have hb3:(i:Int)≤(n:Int):=by omega
 clear hkk hik hold hROW hG hRl
 go_enter Tryz.func185,Tryz.ntmps185
 go_wp2_with (first
  | (at_builtin;refine Go.Lib.wpList_append_run _ rfl _ _ _ _ rfl _ _ rfl rfl _ _ (hrz _) ?_)
  | (at_builtin;refine wpList_copy_runI _ rfl _ _ 29 29 rfl _ _ rfl rfl (hcpA _ hE1 hE2 _ _) ?_)
  | (at_builtin;refine wpList_copy_runI _ rfl _ _ 29 29 rfl _ _ rfl rfl (hcpB _ (fun _=>rfl) (fun _=>rfl) _ _ _) ?_))
 go_region_law_o (refine step_copy_runI rfl _ _ 29 29 rfl (.slice (some ⟨w.heap.size,(i+m)*3,none⟩) (n+m - (i+m)) (G - (i+m))) (.slice (some ⟨g,i*3,none⟩) (n - i) (c - i)) (by simp [Act.eval,Act.put]) (by simp [Act.eval,Act.put]) (hcpB _ hF1 hF2 3 (G - (i+m)) (c - i)) ?_)
 go_wp2
 go_ret
 exact⟨rfl,rfl⟩
theorem V5.calls (ts:List jq) (c:jq) (A:Option Addr) (n cap base i vb vc:Nat) (w:World) (hR:jZ 44 w base (.slice A n cap) ts) (hi:i≤n) (NY:jZ 44 w 0 (.slice (some ⟨vb,0,none⟩) 1 vc) [c])
  (hne:∀ad,A=some ad→ad.block≠vb) (hb:base≤w.heap.size) (hbig:(n+1)*32≤140737488355328):
  Calls Tryz.prog 185 #[.slice A n cap, .int .i64 i, .slice (some ⟨vb,0,none⟩) 1 vc] w fun e w'=>∃v',e= .returned v'∧jZ 44 w' base v' (ts.take i++c::ts.drop i)∧w.grownBy w' (Value.slice A n cap).ownBlock∧(v'.ownBlock=(Value.slice A n cap).ownBlock∨∃b,v'.ownBlock=some b∧w.heap.size≤b):=by
 have hn:=nZ hR
 obtain⟨cv,hV,_,hv1,hv2,hvz,hvt,_,Yx⟩:=xA NY
 have h1:rX c:=Yx c (List.mem_singleton.2 rfl)
 replace hvt:cv.toList.take (1*3)=aX c:=by simpa using hvt
 by_cases hin:i=n
 ·subst hin
  have:=TR ts c A i cap base vb vc w hR NY hb hbig
  rw [List.take_of_length_le (by omega),List.drop_of_length_le (by omega)]
  exact this
 ·obtain⟨g,rfl,hgl,hgb⟩:=tV hR (by omega)
  obtain⟨cur,hh,_,hc1,hc2,hsz,htk,_,hone⟩:=xA hR
  have hcl:(ts.flatMap aX).length=n*3:=by rw [ni,←hn]
  have hvl:(aX c).length=1*3:=rfl
  have hcs:∀j v,(ts.flatMap aX)[j]? =some v→w.cell? ⟨g,j,none⟩=some v:=by
   intro j v hj
   rw [←htk,List.getElem?_take] at hj
   split at hj
   ·rw [cell_of_row w g j cur 44 (0,0) hh];simpa using hj
   ·cases hj
  have hvs:∀j v,(aX c)[j]? =some v→w.cell? ⟨vb,j,none⟩=some v:=by
   intro j v hj
   rw [←hvt,List.getElem?_take] at hj
   split at hj
   ·rw [cell_of_row w vb j cv 44 (0,0) hV];simpa using hj
   ·cases hj
  have h1c:∀v∈ts.flatMap aX,v.oneCell'=true:=by
   intro v hv
   obtain⟨x,hx,hv⟩:=List.mem_flatMap.1 hv
   exact hone x hx v hv
  have h1v:∀v∈aX c,v.oneCell'=true:=h1
  have hd:(ts.flatMap aX).drop (i*3)=(ts.drop i).flatMap aX:=Bf ts i
  have hdl:((ts.drop i).flatMap aX).length=(n - i)*3:=by rw [ni,List.length_drop,←hn]
  have htl:((ts.take i).flatMap aX).length=i*3:=by rw [ni,List.length_take];omega
  have hnew:∀x∈ts.take i++c::ts.drop i,rX x:=by
   intro x hx
   rcases List.mem_append.1 hx with hx | hx
   ·exact hone x (List.mem_of_mem_take hx)
   ·rcases List.mem_cons.1 hx with rfl | hx
    ·exact h1
    ·exact hone x (List.mem_of_mem_drop hx)
  have hil:=QA ts c i (by omega)
  by_cases hroom:n+1≤cap
  ·refine(OX g n cap i vb 1 vc (ts.flatMap aX) (aX c) w (by omega) (by omega) hroom (by unfold maxLen at hc2;omega) (fun e=>hne _ rfl e.symm) hcl hvl hcs (fun j hj=>by rw [cell_of_row w g j cur 44 (0,0) hh,Array.getElem?_eq_getElem (by omega)];rfl) (fun j=>je hh _) hvs h1c h1v
    44 44 cv.size cur.size (by simp [World.shape?,hV,aX]) (by simp [World.shape?,hh]) (by omega) (je hV _) (je hV _)).mono ?_
   rintro e w' ⟨rfl,rfl⟩
   obtain⟨c1,a1,a2,a3,a4,a5⟩:=gV (W:=w.drew) (o:=(i+1)*3) (vs:=(ts.flatMap aX).drop (i*3)) hh (by rw [hd,hdl,hsz];omega)
   obtain⟨c2,b1,b2,b3,b4,b5⟩:=gV (o:=i*3) (vs:=aX c) a1 (by rw [a2,hsz,hvl];omega)
   have hg:w.grownBy ((w.drew.setCells g ((i+1)*3) ((ts.flatMap aX).drop (i*3))).setCells g (i*3) (aX c)) (some g):=by
    have q1:=eP w.drew g ((i+1)*3) ((ts.flatMap aX).drop (i*3))
    have q2:=World.grownBy.andThen q1 (eP _ g (i*3) (aX c)) (fun q hq=> .inr hq)
    exact⟨q2.os,q2.tape,q2.output,q2.size,q2.block⟩
   refine⟨_,rfl,?_,hg, .inl rfl⟩
   have hkey:c2.toList.take ((n+1)*3)=(ts.take i).flatMap aX++aX c++(ts.drop i).flatMap aX:=by
    have e1:c1.toList.take (i*3)=(ts.take i).flatMap aX:=by
     have:=congrArg (List.take (i*3)) a3
     rw [List.take_take,List.take_take,Nat.min_eq_left (by omega)] at this
     rw [this,←nH,←htk,List.take_take,Nat.min_eq_left (by omega)]
    rw [hd] at a4
    exact Bc (x1:=c1.toList) (x2:=c1.toList) (a:=i*3) e1 b4 b3 b5 e1 (by rw [hvl,show i*3+1*3=(i+1)*3 from by omega];exact a4) (by rw [hvl,hdl];omega) htl
   have:=xB (ts:=ts.take i++c::ts.drop i) (cap:=cap) b1 hgb (by rw [hil];omega) hc2 (by rw [b2,a2,hsz]) (by rw [hil,yK,←hn];exact hkey) hnew
   rwa [hil,←hn] at this
  ·refine(QC g n cap i vb 1 vc (ts.flatMap aX) (aX c) w (by omega) (by omega) hc1 (by omega) hbig hcl hvl hcs hvs h1c h1v).mono ?_
   rintro e w' ⟨rfl,rfl⟩
   have Yy:n+1≤grownCap w (n+1) cap 44:=grownCap_ge w _ _ _
   have NZ:grownCap w (n+1) cap 44≤maxLen:=grownCap_le_maxLen w (n+1) cap 44 (by unfold maxLen;omega)
   generalize hGG:grownCap w (n+1) cap 44=G at Yy NZ
   have hRs:(((ts.flatMap aX).take (i*3)).toArray++Builtin.zeroCells (Value.agg #[.string (⟨#[]⟩:ByteArray), .int .i64 0, .int .i64 0]).cells (n+1 - i)++Builtin.zeroCells (Value.agg #[.string (⟨#[]⟩:ByteArray), .int .i64 0, .int .i64 0]).cells (G - (n+1))).size=G*3:=by
    simp [Builtin.zeroCells,Value.cells,hcl]
    omega
   have N7:(((ts.flatMap aX).take (i*3)).toArray++Builtin.zeroCells (Value.agg #[.string (⟨#[]⟩:ByteArray), .int .i64 0, .int .i64 0]).cells (n+1 - i)++Builtin.zeroCells (Value.agg #[.string (⟨#[]⟩:ByteArray), .int .i64 0, .int .i64 0]).cells (G - (n+1))).toList.take (i*3)=(ts.take i).flatMap aX:=by
    rw [Array.toList_append,Array.toList_append,List.append_assoc,List.take_left' (by rw [List.toList_toArray,nH,htl]),List.toList_toArray,nH]
   generalize ((ts.flatMap aX).take (i*3)).toArray++Builtin.zeroCells (Value.agg #[.string (⟨#[]⟩:ByteArray), .int .i64 0, .int .i64 0]).cells (n+1 - i)++Builtin.zeroCells (Value.agg #[.string (⟨#[]⟩:ByteArray), .int .i64 0, .int .i64 0]).cells (G - (n+1))=ROW at hRs N7
   have h0:((w.alloc (.cells ROW 44)).drew).heap[w.heap.size]? =some (.cells ROW 44 (0,0)):=Fg w _
   obtain⟨c1,a1,a2,a3,a4,a5⟩:=gV (o:=i*3) (vs:=aX c) h0 (by rw [hvl,hRs];omega)
   obtain⟨c2,b1,b2,b3,b4,b5⟩:=gV (W:=(((w.alloc (.cells ROW 44)).drew).setCells w.heap.size (i*3) (aX c)).drew) (o:=(i+1)*3) (vs:=(ts.flatMap aX).drop (i*3)) a1 (by rw [hd,hdl,a2,hRs];omega)
   have hg:w.grownBy (((((w.alloc (.cells ROW 44)).drew).setCells w.heap.size (i*3) (aX c)).drew).setCells w.heap.size ((i+1)*3) ((ts.flatMap aX).drop (i*3))) (some g):=by
    have q0:w.grownBy (w.alloc (.cells ROW 44)).drew (some g):=by
     have hb0:=rJ (aj (Below.refl w.heap.size w) (.cells ROW 44))
     exact⟨hb0.os,hb0.tape,hb0.output,hb0.size,fun k hk _=>hb0.block k hk⟩
    have q1:=World.grownBy.andThen q0 (eP _ w.heap.size (i*3) (aX c)) (fun q hq=> .inl (by injection hq with hq;omega))
    have q2:w.grownBy ((((w.alloc (.cells ROW 44)).drew).setCells w.heap.size (i*3) (aX c)).drew) (some g):=⟨q1.os,q1.tape,q1.output,q1.size,q1.block⟩
    exact World.grownBy.andThen q2 (eP _ w.heap.size ((i+1)*3) ((ts.flatMap aX).drop (i*3))) (fun q hq=> .inl (by injection hq with hq;omega))
   refine⟨_,rfl,?_,hg, .inr ⟨w.heap.size,rfl,Nat.le_refl _⟩⟩
   have hkey:c2.toList.take ((n+1)*3)=((ts.take i).flatMap aX++aX c)++(ts.drop i).flatMap aX:=by
    have e1:c1.toList.take ((i+1)*3)=(ts.take i).flatMap aX++aX c:=by
     have e2:c1.toList=c1.toList.take (i*3)++(c1.toList.drop (i*3)):=(List.take_append_drop _ _).symm
     rw [e2,a3,N7,show(i+1)*3=((ts.take i).flatMap aX).length+(aX c).length from by rw [htl,hvl];omega,List.take_length_add_append,a4]
    have e3:c2.toList=c2.toList.take ((i+1)*3)++c2.toList.drop ((i+1)*3):=(List.take_append_drop _ _).symm
    rw [hd] at b4
    rw [e3,b3,e1,show(n+1)*3=((ts.take i).flatMap aX++aX c).length+((ts.drop i).flatMap aX).length from by rw [List.length_append,htl,hvl,hdl];omega,List.take_length_add_append,b4]
   have:=xB (ts:=ts.take i++c::ts.drop i) (cap:=G) b1 hb (by rw [hil];omega) NZ (by rw [b2,a2,hRs]) (by rw [hil,yK,←hn];exact hkey) hnew
   rwa [hil,←hn] at this
theorem V6:(Tryz.prog.info? 31).map (fun i=>(i.zero,i.size,i.bytes))=some (some (Value.agg #[.slice none 0 0, .slice none 0 0, .slice none 0 0]),3,72):=by kernel_rfl
set_option maxHeartbeats 4000000 in
set_option maxRecDepth 100000 in
theorem TS (ts:List jq) (c:jq) (A:Option Addr) (n cap base vb vc:Nat) (w:World) (hR:jZ 31 w base (.slice A n cap) ts) (hV:jZ 31 w 0 (.slice (some ⟨vb,0,none⟩) 1 vc) [c]) (hb:base≤w.heap.size) (hbig:(n+1)*72≤140737488355328):
  Calls Tryz.prog 180 #[.slice A n cap, .int .i64 n, .slice (some ⟨vb,0,none⟩) 1 vc] w fun e w'=>∃v',e= .returned v'∧jZ 31 w' base v' (ts++[c])∧w.grownBy w' (Value.slice A n cap).ownBlock∧(v'.ownBlock=(Value.slice A n cap).ownBlock∨∃b,v'.ownBlock=some b∧w.heap.size≤b):=by
 have hn:=nZ hR
 have hm:n≤9223372036854775807:=Kd.IY (by have:=(Kd.bn hR);rw [←this.1] at this;exact this.2.2)
 have hcn:n≤cap:=(Kd.bn hR).2.1
 have HR:=Aside0.mk hR
 have HV:=Aside0.mk hV
 have HN:=Aside0.mk hn
 have HG:=Aside0.mk hbig
 have HB:=Aside0.mk hb
 have hh:(A=none→n=0):=by
  rintro rfl
  rcases Nat.eq_zero_or_pos n with h0 | h0
  ·exact h0
  ·obtain⟨g,e,_⟩:=tV hR h0
   cases e
 clear hR hV hn hbig hb
 go_enter Tryz.func180,Tryz.ntmps180
 cases A with
 | none=>
   obtain rfl:=hh rfl
   clear hh
   go_wp2_with (at_builtin;refine Kd.lg (Kd.raw 3) (w0:=w) base rfl _ _ 28 31 _ 72 rfl Tryz.underlying28 V6 rfl (by decide) (by decide) (.slice none 0 cap) (ts.map aX) ([c].map aX) (some ⟨vb,0,none⟩) 1 vc (fun _=>True) (fun _=>False) rfl rfl HR.out (Kd.bn HV.out).2.2 (fun _ _ h_=>h_) (fun _ h_=>h_.elim) (fun _ _=>trivial) (Below.refl _ _) HB.out (by rw [List.length_map,←HN.out];exact HG.out) ?_;intro v1 w1 hr hb1 hg1 hat)
   go_ret
   exact⟨v1,rfl,by unfold jZ;rw [List.map_append];exact hr,hg1,hat⟩
 | some ad=>
   clear hh
   go_wp2_with (at_builtin;refine Kd.lg (Kd.raw 3) (w0:=w) base rfl _ _ 28 31 _ 72 rfl Tryz.underlying28 V6 rfl (by decide) (by decide) (.slice (some ad) n cap) (ts.map aX) ([c].map aX) (some ⟨vb,0,none⟩) 1 vc (fun _=>True) (fun _=>False) rfl rfl HR.out (Kd.bn HV.out).2.2 (fun _ _ h_=>h_) (fun _ h_=>h_.elim) (fun _ _=>trivial) (Below.refl _ _) HB.out (by rw [List.length_map,←HN.out];exact HG.out) ?_;intro v1 w1 hr hb1 hg1 hat)
   all_goals (go_ret;exact⟨v1,rfl,by unfold jZ;rw [List.map_append];exact hr,hg1,hat⟩)
set_option maxHeartbeats 4000000 in
set_option maxRecDepth 100000 in
theorem OY (g n c i vb m vc:Nat) (cs vs:List Value) (w:World) (hi:i<n) (hm:0<m) (hroom:n+m≤c) (hc63:c≤9223372036854775807) (hvb:vb≠g) (hcl:cs.length=n*3) (hvl:vs.length=m*3)
  (hcs:∀j v,cs[j]? =some v→w.cell? ⟨g,j,none⟩=some v) (hsp:∀j,j<(n+m)*3→(w.cell? ⟨g,j,none⟩).isSome=true) (hfz:∀j,w.frozen? ⟨g,j,none⟩=false)
  (hvs:∀j v,vs[j]? =some v→w.cell? ⟨vb,j,none⟩=some v) (h1c:∀v∈cs,v.oneCell'=true) (h1v:∀v∈vs,v.oneCell'=true)
  (tA tB:TypeId) (kA kB:Nat) (hsa:w.shape? vb=some (tA,kA)) (hsb:w.shape? g=some (tB,kB)) (hkB:kB≠0) (hfa:w.frozen? ⟨vb,0,none⟩=false) (hfe:w.frozen? ⟨vb,kA,none⟩=false):
  Calls Tryz.prog 180 #[.slice (some ⟨g,0,none⟩) n c, .int .i64 i, .slice (some ⟨vb,0,none⟩) m vc] w fun e w'=>
   e= .returned (.slice (some ⟨g,0,none⟩) (n+m) c)∧w'=(w.drew.setCells g ((i+m)*3) (cs.drop (i*3))).setCells g (i*3) vs:=by
 have hz1:¬((m:Int)=0):=by omega
 have hz2:¬((i:Int)=(n:Int)):=by omega
 have hsz:(Tryz.prog.info? 31).map (·.size)=some 3:=by kernel_rfl
 have hov:∀lb cb,(callFunc 211 #[.slice (some ⟨vb,0,none⟩) m vc, .slice (some ⟨g,(i+m)*3,none⟩) lb cb]).run Tryz.prog w= .ok (.value (.bool false)) w:=fun lb cb=>by
  rw [run_callFunc_extern Tryz.func211 (by kernel_rfl) (by kernel_rfl) (by kernel_rfl) (e:=Extern.SlicesOverlaps.overlaps #[28,28] #[4]) (by kernel_rfl),
   Go.Lib.run_overlaps_apart w 28 4 31 Tryz.underlying28 3 (fun _=>by kernel_rfl) ⟨vb,0,none⟩ ⟨g,(i+m)*3,none⟩ m vc lb cb hvb tA tB kA kB hsa hsb hkB hfa hfe]
  rfl
 have hdl:(cs.drop (i*3)).length=(n - i)*3:=by rw [List.length_drop,hcl];omega
 have hw1:IntKind.i64.wrap ((i:Int)+(m:Int))=(i:Int)+(m:Int):=by rw [IntKind.wrap_i64];omega
 have hb1:(0:Int)≤(i:Int)+(m:Int):=by omega
 have hin:i≤n:=by omega
 have htn:((i:Int)+(m:Int)).toNat=i+m:=by omega
 have hb2:¬(c=i+m):=by omega
 have hb3:(i:Int)≤(n:Int)+(m:Int):=by omega
 have hb4:¬(c=i):=by omega
 have hcp1:∀ty dc sc,(Builtin.copy_ #[28,28] ty #[.slice (some ⟨g,(i+m)*3,none⟩) (n+m - (i+m)) dc, .slice (some ⟨g,i*3,none⟩) (n+m - i) sc]).run Tryz.prog w.drew= .ok (goInt (Nat.min (n+m - i) (n+m - (i+m)))) (w.drew.setCells g ((i+m)*3) (cs.drop (i*3))):=fun ty dc sc=>
  gU w.drew _ _ ty 31 3 g ((i+m)*3) (n+m - (i+m)) dc ⟨g,i*3,none⟩ (n+m - i) sc (cs.drop (i*3)) Tryz.underlying28 hsz (by rw [hdl];simp only [Nat.min_def];split<;>omega)
   (fun j v hj=>by rw [Addr.add_lit];exact hcs (i*3+j) v (by rwa [List.getElem?_drop] at hj))
   (fun j hj=>hsp _ (by omega)) (fun j hj=>hfz _) (fun v hv=>h1c v (List.mem_of_mem_drop hv))
 obtain⟨W1,hW1⟩:∃W1,W1=w.drew.setCells g ((i+m)*3) (cs.drop (i*3)):=⟨_,rfl⟩
 have hsp1:∀k,k<(n+m)*3→(W1.cell? ⟨g,k,none⟩).isSome=true:=fun k hk=>by
  rw [hW1]
  exact isSome_setCells g (cs.drop (i*3)) ((i+m)*3) w.drew (fun j hj=>hsp ((i+m)*3+j) (by rw [hdl] at hj;omega)) k (hsp k hk)
 have hcp2:∀(W:World),(∀x,W.cell? x=W1.cell? x)→(∀x,W.frozen? x=W1.frozen? x)→∀ty dc,(Builtin.copy_ #[28,28] ty #[.slice (some ⟨g,i*3,none⟩) (n+m - i) dc, .slice (some ⟨vb,0,none⟩) m vc]).run Tryz.prog W= .ok (goInt (Nat.min m (n+m - i))) (W.setCells g (i*3) vs):=fun W hWc hWf ty dc=>
  gU W _ _ ty 31 3 g (i*3) (n+m - i) dc ⟨vb,0,none⟩ m vc vs Tryz.underlying28 hsz (by rw [hvl];simp only [Nat.min_def];split<;>omega)
   (fun j v hj=>by
    rw [Addr.add_lit,hWc,hW1,World.cell?_setCells_out g _ _ _ _ (fun h _=>absurd h hvb),Nat.zero_add]
    exact hvs j v hj)
   (fun j hj=>by rw [hWc];exact hsp1 _ (by omega)) (fun j hj=>by rw [hWf,hW1,World.frozen?_setCells];exact hfz _) h1v
 rw [←hW1] at hcp1
 go_enter Tryz.func180,Tryz.ntmps180
 have mixed:Tryz.prog.follows .mixedOrders=true:=by kernel_rfl
 go_wp2_with (simp only [hov])
 go_region_law_o (refine step_copy_runI rfl _ _ 28 28 rfl _ _ (by simp [Act.eval,Act.put]) (by simp [Act.eval,Act.put]) (hcp1 _ _ _) ?_)
 go_wp2_with (at_builtin;refine wpList_copy_runI _ rfl _ _ 28 28 rfl _ _ rfl rfl (hcp2 _ (fun _=>rfl) (fun _=>rfl) _ _) ?_)
 go_ret
 first | exact⟨rfl,rfl⟩ | exact⟨rfl,by rw [hW1]⟩
set_option maxHeartbeats 4000000 in
set_option maxRecDepth 100000 in
theorem QD (g n c i vb m vc:Nat) (cs vs:List Value) (w:World) (hi:i<n) (hm:0<m) (hnc:n≤c) (hroom:c<n+m) (hbig:(n+m)*72≤140737488355328) (hcl:cs.length=n*3) (hvl:vs.length=m*3)
  (hcs:∀j v,cs[j]? =some v→w.cell? ⟨g,j,none⟩=some v) (hvs:∀j v,vs[j]? =some v→w.cell? ⟨vb,j,none⟩=some v) (h1c:∀v∈cs,v.oneCell'=true) (h1v:∀v∈vs,v.oneCell'=true):
  Calls Tryz.prog 180 #[.slice (some ⟨g,0,none⟩) n c, .int .i64 i, .slice (some ⟨vb,0,none⟩) m vc] w fun e w'=>
   e= .returned (.slice (some ⟨w.heap.size,0,none⟩) (n+m) (grownCap w (n+m) c 31))∧
   w'=(((w.alloc (.cells ((cs.take (i*3)).toArray++Builtin.zeroCells (Value.agg #[.slice none 0 0, .slice none 0 0, .slice none 0 0]).cells (n+m - i)++Builtin.zeroCells (Value.agg #[.slice none 0 0, .slice none 0 0, .slice none 0 0]).cells (grownCap w (n+m) c 31 - (n+m))) 31)).drew.setCells w.heap.size (i*3) vs).drew).setCells w.heap.size ((i+m)*3) (cs.drop (i*3)):=by
 have mixed:Tryz.prog.follows .mixedOrders=true:=by kernel_rfl
 obtain⟨i0,hi0,hz0,hzs,hzb⟩:=info_parts V6
 have hz1:¬((m:Int)=0):=by omega
 have hz2:¬((i:Int)=(n:Int)):=by omega
 have hz3:(c:Int)<(n:Int)+(m:Int):=by omega
 have hsz:(Tryz.prog.info? 31).map (·.size)=some 3:=by kernel_rfl
 have hbw:g<w.heap.size:=block_lt_of_cell (hcs 0 _ (List.getElem?_eq_getElem (by omega)))
 have hvw:vb<w.heap.size:=block_lt_of_cell (hvs 0 _ (List.getElem?_eq_getElem (by omega)))
 have hkk:(n:Int)+(m:Int) - (i:Int)=((n+m - i:Nat):Int):=by omega
 have hik:i+(n+m - i)=n+m:=by omega
 have hold:(Builtin.firstCells i0.size i (.slice (some ⟨g,0,none⟩) i c)).run Tryz.prog w.drew= .ok (cs.take (i*3)).toArray w.drew:=by
  rw [hzs]
  exact run_firstCells_some w.drew 3 i ⟨g,0,none⟩ i c (cs.take (i*3)) (by rw [List.length_take];omega) (fun j v hj=>by
   rw [Addr.add_lit,Nat.zero_add]
   rw [List.getElem?_take] at hj
   split at hj
   ·exact hcs j v hj
   ·cases hj)
 have hrz:∀ty,(Builtin.append_ #[28,3] ty #[.slice (some ⟨g,0,none⟩) i c, .int .i64 ((n:Int)+(m:Int) - (i:Int))]).run Tryz.prog w=
   .ok (.slice (some ⟨w.heap.size,0,none⟩) (n+m) (grownCap w (n+m) c 31)) (w.drew.alloc (.cells ((cs.take (i*3)).toArray++Builtin.zeroCells (Value.agg #[.slice none 0 0, .slice none 0 0, .slice none 0 0]).cells (n+m - i)++Builtin.zeroCells (Value.agg #[.slice none 0 0, .slice none 0 0, .slice none 0 0]).cells (grownCap w (n+m) c 31 - (n+m))) 31)):=fun ty=>by
  have h:=Go.Lib.run_append_grow_zeros w 28 3 ty 31 i0 _ .i64 .i64 Tryz.underlying28 Tryz.underlying3 hi0 hz0 (some ⟨g,0,none⟩) i c (cs.take (i*3)) hold (n+m - i) (by omega) (by omega) (by omega) (by omega) (by rw [hzb];omega) (by rw [hzb,hik];exact growslice_fits hroom hbig)
  rw [hik] at h
  rw [hkk]
  exact h
 obtain⟨G,hG⟩:∃G,G=grownCap w (n+m) c 31:=⟨_,rfl⟩
 obtain⟨ROW,hROW⟩:∃ROW:Array Value,ROW=(cs.take (i*3)).toArray++Builtin.zeroCells (Value.agg #[.slice none 0 0, .slice none 0 0, .slice none 0 0]).cells (n+m - i)++Builtin.zeroCells (Value.agg #[.slice none 0 0, .slice none 0 0, .slice none 0 0]).cells (G - (n+m)):=⟨_,rfl⟩
 rw [←hG] at hrz⊢
 rw [←hROW] at hrz⊢
 have hRl:(n+m)*3≤ROW.size:=by
  rw [hROW]
  simp [Builtin.zeroCells,Value.cells]
  omega
 obtain⟨W1,hW1⟩:∃W1,W1=w.drew.alloc (.cells ROW 31):=⟨_,rfl⟩
 rw [←hW1] at hrz
 have hN:∀j,j<(n+m)*3→(W1.cell? ⟨w.heap.size,j,none⟩).isSome=true:=fun j hj=>by
  rw [hW1,World.cell?_alloc_at (w:=w.drew) ROW _ w.heap.size j rfl,Array.getElem?_eq_getElem (by omega)];rfl
 have hNf:∀j,W1.frozen? ⟨w.heap.size,j,none⟩=false:=fun j=>by rw [hW1];exact World.frozen?_alloc_at (w:=w.drew) ROW _ w.heap.size j rfl
 have hOb:∀j v,w.cell? ⟨g,j,none⟩=some v→W1.cell? ⟨g,j,none⟩=some v:=fun j v h=>by rw [hW1,World.cell?_alloc_past (w:=w.drew) _ g j hbw];exact h
 have hOv:∀j v,w.cell? ⟨vb,j,none⟩=some v→W1.cell? ⟨vb,j,none⟩=some v:=fun j v h=>by rw [hW1,World.cell?_alloc_past (w:=w.drew) _ vb j hvw];exact h
 have hcpA:∀(W:World),(∀x,W.cell? x=W1.cell? x)→(∀x,W.frozen? x=W1.frozen? x)→∀ty dc,(Builtin.copy_ #[28,28] ty #[.slice (some ⟨w.heap.size,i*3,none⟩) (n+m - i) dc, .slice (some ⟨vb,0,none⟩) m vc]).run Tryz.prog W= .ok (goInt (Nat.min m (n+m - i))) (W.setCells w.heap.size (i*3) vs):=fun W hWc hWf ty dc=>
  gU W _ _ ty 31 3 w.heap.size (i*3) (n+m - i) dc ⟨vb,0,none⟩ m vc vs Tryz.underlying28 hsz (by rw [hvl];simp only [Nat.min_def];split<;>omega)
   (fun j v hj=>by rw [Addr.add_lit,hWc,Nat.zero_add];exact hOv _ v (hvs j v hj))
   (fun j hj=>by rw [hWc];exact hN _ (by omega)) (fun j hj=>by rw [hWf];exact hNf _) h1v
 have hGn:n+m≤G:=by rw [hG];exact grownCap_ge w _ _ _
 have hG63:G≤9223372036854775807:=by
  have:=grownCap_le_maxLen w (n+m) c 31 (by unfold maxLen;omega)
  rw [←hG] at this
  unfold maxLen at this
  omega
 have hGi:¬(G=i):=by omega
 have hGim:¬(G=i+m):=by omega
 have hci:¬(c=i):=by omega
 have hbN:g≠w.heap.size:=by omega
 have hdl:(cs.drop (i*3)).length=(n - i)*3:=by rw [List.length_drop,hcl];omega
 have hcpB:∀(W:World),(∀x,W.cell? x=(W1.setCells w.heap.size (i*3) vs).cell? x)→(∀x,W.frozen? x=(W1.setCells w.heap.size (i*3) vs).frozen? x)→∀ty dc sc,(Builtin.copy_ #[28,28] ty #[.slice (some ⟨w.heap.size,(i+m)*3,none⟩) (n+m - (i+m)) dc, .slice (some ⟨g,i*3,none⟩) (n - i) sc]).run Tryz.prog W= .ok (goInt (Nat.min (n - i) (n+m - (i+m)))) (W.setCells w.heap.size ((i+m)*3) (cs.drop (i*3))):=fun W hWc hWf ty dc sc=>
  gU W _ _ ty 31 3 w.heap.size ((i+m)*3) (n+m - (i+m)) dc ⟨g,i*3,none⟩ (n - i) sc (cs.drop (i*3)) Tryz.underlying28 hsz (by rw [hdl];simp only [Nat.min_def];split<;>omega)
   (fun j v hj=>by
    rw [Addr.add_lit,hWc,World.cell?_setCells_out _ _ _ _ _ (fun h _=>absurd h hbN)]
    exact hOb _ v (hcs (i*3+j) v (by rwa [List.getElem?_drop] at hj)))
   (fun j hj=>by rw [hWc];exact isSome_setCells w.heap.size vs (i*3) W1 (fun q hq=>hN (i*3+q) (by rw [hvl] at hq;omega)) _ (hN _ (by rw [hdl] at hj;omega)))
   (fun j hj=>by rw [hWf,World.frozen?_setCells];exact hNf _) (fun v hv=>h1c v (List.mem_of_mem_drop hv))
 subst hW1
 have hE1:∀x,((w.alloc (.cells ROW 31)).drew).cell? x=(w.drew.alloc (.cells ROW 31)).cell? x:=fun x=>rfl
 have hE2:∀x,((w.alloc (.cells ROW 31)).drew).frozen? x=(w.drew.alloc (.cells ROW 31)).frozen? x:=fun x=>rfl
 have hF1:∀x,(((w.alloc (.cells ROW 31)).drew.setCells w.heap.size (i*3) vs).drew).cell? x=((w.drew.alloc (.cells ROW 31)).setCells w.heap.size (i*3) vs).cell? x:=fun x=>rfl
 have hF2:∀x,(((w.alloc (.cells ROW 31)).drew.setCells w.heap.size (i*3) vs).drew).frozen? x=((w.drew.alloc (.cells ROW 31)).setCells w.heap.size (i*3) vs).frozen? x:=fun x=>rfl
 have hw1:IntKind.i64.wrap ((i:Int)+(m:Int))=(i:Int)+(m:Int):=by rw [IntKind.wrap_i64];omega
 have hb1:(0:Int)≤(i:Int)+(m:Int):=by omega
 have hin:i≤n:=by omega
 have htn:((i:Int)+(m:Int)).toNat=i+m:=by omega
 have hb3:(i:Int)≤(n:Int):=by omega
 clear hkk hik hold hROW hG hRl
 go_enter Tryz.func180,Tryz.ntmps180
 go_wp2_with (first
  | (at_builtin;refine Go.Lib.wpList_append_run _ rfl _ _ _ _ rfl _ _ rfl rfl _ _ (hrz _) ?_)
  | (at_builtin;refine wpList_copy_runI _ rfl _ _ 28 28 rfl _ _ rfl rfl (hcpA _ hE1 hE2 _ _) ?_)
  | (at_builtin;refine wpList_copy_runI _ rfl _ _ 28 28 rfl _ _ rfl rfl (hcpB _ (fun _=>rfl) (fun _=>rfl) _ _ _) ?_))
 go_region_law_o (refine step_copy_runI rfl _ _ 28 28 rfl (.slice (some ⟨w.heap.size,(i+m)*3,none⟩) (n+m - (i+m)) (G - (i+m))) (.slice (some ⟨g,i*3,none⟩) (n - i) (c - i)) (by simp [Act.eval,Act.put]) (by simp [Act.eval,Act.put]) (hcpB _ hF1 hF2 3 (G - (i+m)) (c - i)) ?_)
 go_wp2
 go_ret
 exact⟨rfl,rfl⟩
theorem V7.calls (ts:List jq) (c:jq) (A:Option Addr) (n cap base i vb vc:Nat) (w:World) (hR:jZ 31 w base (.slice A n cap) ts) (hi:i≤n) (NY:jZ 31 w 0 (.slice (some ⟨vb,0,none⟩) 1 vc) [c])
  (hne:∀ad,A=some ad→ad.block≠vb) (hb:base≤w.heap.size) (hbig:(n+1)*72≤140737488355328):
  Calls Tryz.prog 180 #[.slice A n cap, .int .i64 i, .slice (some ⟨vb,0,none⟩) 1 vc] w fun e w'=>∃v',e= .returned v'∧jZ 31 w' base v' (ts.take i++c::ts.drop i)∧w.grownBy w' (Value.slice A n cap).ownBlock∧(v'.ownBlock=(Value.slice A n cap).ownBlock∨∃b,v'.ownBlock=some b∧w.heap.size≤b):=by
 have hn:=nZ hR
 obtain⟨cv,hV,_,hv1,hv2,hvz,hvt,_,Yx⟩:=xA NY
 have h1:rX c:=Yx c (List.mem_singleton.2 rfl)
 replace hvt:cv.toList.take (1*3)=aX c:=by simpa using hvt
 by_cases hin:i=n
 ·subst hin
  have:=TS ts c A i cap base vb vc w hR NY hb hbig
  rw [List.take_of_length_le (by omega),List.drop_of_length_le (by omega)]
  exact this
 ·obtain⟨g,rfl,hgl,hgb⟩:=tV hR (by omega)
  obtain⟨cur,hh,_,hc1,hc2,hsz,htk,_,hone⟩:=xA hR
  have hcl:(ts.flatMap aX).length=n*3:=by rw [ni,←hn]
  have hvl:(aX c).length=1*3:=rfl
  have hcs:∀j v,(ts.flatMap aX)[j]? =some v→w.cell? ⟨g,j,none⟩=some v:=by
   intro j v hj
   rw [←htk,List.getElem?_take] at hj
   split at hj
   ·rw [cell_of_row w g j cur 31 (0,0) hh];simpa using hj
   ·cases hj
  have hvs:∀j v,(aX c)[j]? =some v→w.cell? ⟨vb,j,none⟩=some v:=by
   intro j v hj
   rw [←hvt,List.getElem?_take] at hj
   split at hj
   ·rw [cell_of_row w vb j cv 31 (0,0) hV];simpa using hj
   ·cases hj
  have h1c:∀v∈ts.flatMap aX,v.oneCell'=true:=by
   intro v hv
   obtain⟨x,hx,hv⟩:=List.mem_flatMap.1 hv
   exact hone x hx v hv
  have h1v:∀v∈aX c,v.oneCell'=true:=h1
  have hd:(ts.flatMap aX).drop (i*3)=(ts.drop i).flatMap aX:=Bf ts i
  have hdl:((ts.drop i).flatMap aX).length=(n - i)*3:=by rw [ni,List.length_drop,←hn]
  have htl:((ts.take i).flatMap aX).length=i*3:=by rw [ni,List.length_take];omega
  have hnew:∀x∈ts.take i++c::ts.drop i,rX x:=by
   intro x hx
   rcases List.mem_append.1 hx with hx | hx
   ·exact hone x (List.mem_of_mem_take hx)
   ·rcases List.mem_cons.1 hx with rfl | hx
    ·exact h1
    ·exact hone x (List.mem_of_mem_drop hx)
  have hil:=QA ts c i (by omega)
  by_cases hroom:n+1≤cap
  ·refine(OY g n cap i vb 1 vc (ts.flatMap aX) (aX c) w (by omega) (by omega) hroom (by unfold maxLen at hc2;omega) (fun e=>hne _ rfl e.symm) hcl hvl hcs (fun j hj=>by rw [cell_of_row w g j cur 31 (0,0) hh,Array.getElem?_eq_getElem (by omega)];rfl) (fun j=>je hh _) hvs h1c h1v
    31 31 cv.size cur.size (by simp [World.shape?,hV,aX]) (by simp [World.shape?,hh]) (by omega) (je hV _) (je hV _)).mono ?_
   rintro e w' ⟨rfl,rfl⟩
   obtain⟨c1,a1,a2,a3,a4,a5⟩:=gV (W:=w.drew) (o:=(i+1)*3) (vs:=(ts.flatMap aX).drop (i*3)) hh (by rw [hd,hdl,hsz];omega)
   obtain⟨c2,b1,b2,b3,b4,b5⟩:=gV (o:=i*3) (vs:=aX c) a1 (by rw [a2,hsz,hvl];omega)
   have hg:w.grownBy ((w.drew.setCells g ((i+1)*3) ((ts.flatMap aX).drop (i*3))).setCells g (i*3) (aX c)) (some g):=by
    have q1:=eP w.drew g ((i+1)*3) ((ts.flatMap aX).drop (i*3))
    have q2:=World.grownBy.andThen q1 (eP _ g (i*3) (aX c)) (fun q hq=> .inr hq)
    exact⟨q2.os,q2.tape,q2.output,q2.size,q2.block⟩
   refine⟨_,rfl,?_,hg, .inl rfl⟩
   have hkey:c2.toList.take ((n+1)*3)=(ts.take i).flatMap aX++aX c++(ts.drop i).flatMap aX:=by
    have e1:c1.toList.take (i*3)=(ts.take i).flatMap aX:=by
     have:=congrArg (List.take (i*3)) a3
     rw [List.take_take,List.take_take,Nat.min_eq_left (by omega)] at this
     rw [this,←nH,←htk,List.take_take,Nat.min_eq_left (by omega)]
    rw [hd] at a4
    exact Bc (x1:=c1.toList) (x2:=c1.toList) (a:=i*3) e1 b4 b3 b5 e1 (by rw [hvl,show i*3+1*3=(i+1)*3 from by omega];exact a4) (by rw [hvl,hdl];omega) htl
   have:=xB (ts:=ts.take i++c::ts.drop i) (cap:=cap) b1 hgb (by rw [hil];omega) hc2 (by rw [b2,a2,hsz]) (by rw [hil,yK,←hn];exact hkey) hnew
   rwa [hil,←hn] at this
  ·refine(QD g n cap i vb 1 vc (ts.flatMap aX) (aX c) w (by omega) (by omega) hc1 (by omega) hbig hcl hvl hcs hvs h1c h1v).mono ?_
   rintro e w' ⟨rfl,rfl⟩
   have Yy:n+1≤grownCap w (n+1) cap 31:=grownCap_ge w _ _ _
   have NZ:grownCap w (n+1) cap 31≤maxLen:=grownCap_le_maxLen w (n+1) cap 31 (by unfold maxLen;omega)
   generalize hGG:grownCap w (n+1) cap 31=G at Yy NZ
   have hRs:(((ts.flatMap aX).take (i*3)).toArray++Builtin.zeroCells (Value.agg #[.slice none 0 0, .slice none 0 0, .slice none 0 0]).cells (n+1 - i)++Builtin.zeroCells (Value.agg #[.slice none 0 0, .slice none 0 0, .slice none 0 0]).cells (G - (n+1))).size=G*3:=by
    simp [Builtin.zeroCells,Value.cells,hcl]
    omega
   have N7:(((ts.flatMap aX).take (i*3)).toArray++Builtin.zeroCells (Value.agg #[.slice none 0 0, .slice none 0 0, .slice none 0 0]).cells (n+1 - i)++Builtin.zeroCells (Value.agg #[.slice none 0 0, .slice none 0 0, .slice none 0 0]).cells (G - (n+1))).toList.take (i*3)=(ts.take i).flatMap aX:=by
    rw [Array.toList_append,Array.toList_append,List.append_assoc,List.take_left' (by rw [List.toList_toArray,nH,htl]),List.toList_toArray,nH]
   generalize ((ts.flatMap aX).take (i*3)).toArray++Builtin.zeroCells (Value.agg #[.slice none 0 0, .slice none 0 0, .slice none 0 0]).cells (n+1 - i)++Builtin.zeroCells (Value.agg #[.slice none 0 0, .slice none 0 0, .slice none 0 0]).cells (G - (n+1))=ROW at hRs N7
   have h0:((w.alloc (.cells ROW 31)).drew).heap[w.heap.size]? =some (.cells ROW 31 (0,0)):=Fg w _
   obtain⟨c1,a1,a2,a3,a4,a5⟩:=gV (o:=i*3) (vs:=aX c) h0 (by rw [hvl,hRs];omega)
   obtain⟨c2,b1,b2,b3,b4,b5⟩:=gV (W:=(((w.alloc (.cells ROW 31)).drew).setCells w.heap.size (i*3) (aX c)).drew) (o:=(i+1)*3) (vs:=(ts.flatMap aX).drop (i*3)) a1 (by rw [hd,hdl,a2,hRs];omega)
   have hg:w.grownBy (((((w.alloc (.cells ROW 31)).drew).setCells w.heap.size (i*3) (aX c)).drew).setCells w.heap.size ((i+1)*3) ((ts.flatMap aX).drop (i*3))) (some g):=by
    have q0:w.grownBy (w.alloc (.cells ROW 31)).drew (some g):=by
     have hb0:=rJ (aj (Below.refl w.heap.size w) (.cells ROW 31))
     exact⟨hb0.os,hb0.tape,hb0.output,hb0.size,fun k hk _=>hb0.block k hk⟩
    have q1:=World.grownBy.andThen q0 (eP _ w.heap.size (i*3) (aX c)) (fun q hq=> .inl (by injection hq with hq;omega))
    have q2:w.grownBy ((((w.alloc (.cells ROW 31)).drew).setCells w.heap.size (i*3) (aX c)).drew) (some g):=⟨q1.os,q1.tape,q1.output,q1.size,q1.block⟩
    exact World.grownBy.andThen q2 (eP _ w.heap.size ((i+1)*3) ((ts.flatMap aX).drop (i*3))) (fun q hq=> .inl (by injection hq with hq;omega))
   refine⟨_,rfl,?_,hg, .inr ⟨w.heap.size,rfl,Nat.le_refl _⟩⟩
   have hkey:c2.toList.take ((n+1)*3)=((ts.take i).flatMap aX++aX c)++(ts.drop i).flatMap aX:=by
    have e1:c1.toList.take ((i+1)*3)=(ts.take i).flatMap aX++aX c:=by
     have e2:c1.toList=c1.toList.take (i*3)++(c1.toList.drop (i*3)):=(List.take_append_drop _ _).symm
     rw [e2,a3,N7,show(i+1)*3=((ts.take i).flatMap aX).length+(aX c).length from by rw [htl,hvl];omega,List.take_length_add_append,a4]
    have e3:c2.toList=c2.toList.take ((i+1)*3)++c2.toList.drop ((i+1)*3):=(List.take_append_drop _ _).symm
    rw [hd] at b4
    rw [e3,b3,e1,show(n+1)*3=((ts.take i).flatMap aX++aX c).length+((ts.drop i).flatMap aX).length from by rw [List.length_append,htl,hvl,hdl];omega,List.take_length_add_append,b4]
   have:=xB (ts:=ts.take i++c::ts.drop i) (cap:=G) b1 hb (by rw [hil];omega) NZ (by rw [b2,a2,hRs]) (by rw [hil,yK,←hn];exact hkey) hnew
   rwa [hil,←hn] at this
end Go.Proofs.YtcnfgfomholheaaGreatDoor.Q
end
section
namespace Go.Proofs.YtcnfgfomholheaaGreatDoor.Q
open Go.RowKit Go.Proofs.YtcnfgfomholheaaGreatDoor.X Go.Proofs.YtcnfgfomholheaaGreatDoorW.PrintWords Go.Proofs.YtcnfgfomholheaaGreatDoorW.PrintLast Go.Proofs.YtcnfgfomholheaaGreatDoorW.PrintMore
open Go.Proofs.YtcnfgfomholheaaGreatDoor.Z (V El ck Ow Fam row_part row_in ow_open CallWOb)
set_option linter.unusedVariables false
set_option linter.unusedSimpArgs false
theorem V8:(Tryz.prog.info? 9).map (fun i=>(i.zero,i.size,i.bytes))=some (some (Value.string (⟨#[]⟩:ByteArray)),1,16):=by kernel_rfl
set_option maxHeartbeats 4000000 in
set_option maxRecDepth 100000 in
theorem TT (ts:List lX) (c:lX) (A:Option Addr) (n cap base vb vc:Nat) (w:World) (hR:vT 9 w base (.slice A n cap) ts) (hV:vT 9 w 0 (.slice (some ⟨vb,0,none⟩) 1 vc) [c]) (hb:base≤w.heap.size) (hbig:(n+1)*16≤140737488355328):
  Calls Tryz.prog 179 #[.slice A n cap, .int .i64 n, .slice (some ⟨vb,0,none⟩) 1 vc] w fun e w'=>∃v',e= .returned v'∧vT 9 w' base v' (ts++[c])∧w.grownBy w' (Value.slice A n cap).ownBlock∧(v'.ownBlock=(Value.slice A n cap).ownBlock∨∃b,v'.ownBlock=some b∧w.heap.size≤b):=by
 have hn:=Fz hR
 have hm:n≤9223372036854775807:=Kd.IY (by have:=(Kd.bn hR);rw [←this.1] at this;exact this.2.2)
 have hcn:n≤cap:=(Kd.bn hR).2.1
 have HR:=Aside0.mk hR
 have HV:=Aside0.mk hV
 have HN:=Aside0.mk hn
 have HG:=Aside0.mk hbig
 have HB:=Aside0.mk hb
 have hh:(A=none→n=0):=by
  rintro rfl
  rcases Nat.eq_zero_or_pos n with h0 | h0
  ·exact h0
  ·obtain⟨g,e,_⟩:=QB hR h0
   cases e
 clear hR hV hn hbig hb
 go_enter Tryz.func179,Tryz.ntmps179
 cases A with
 | none=>
   obtain rfl:=hh rfl
   clear hh
   go_wp2_with (at_builtin;refine Kd.lg (Kd.raw 1) (w0:=w) base rfl _ _ 22 9 _ 16 rfl Tryz.underlying22 V8 rfl (by decide) (by decide) (.slice none 0 cap) (ts.map ck1) ([c].map ck1) (some ⟨vb,0,none⟩) 1 vc (fun _=>True) (fun _=>False) rfl rfl HR.out (Kd.bn HV.out).2.2 (fun _ _ h_=>h_) (fun _ h_=>h_.elim) (fun _ _=>trivial) (Below.refl _ _) HB.out (by rw [List.length_map,←HN.out];exact HG.out) ?_;intro v1 w1 hr hb1 hg1 hat)
   go_ret
   exact⟨v1,rfl,by unfold vT;rw [List.map_append];exact hr,hg1,hat⟩
 | some ad=>
   clear hh
   go_wp2_with (at_builtin;refine Kd.lg (Kd.raw 1) (w0:=w) base rfl _ _ 22 9 _ 16 rfl Tryz.underlying22 V8 rfl (by decide) (by decide) (.slice (some ad) n cap) (ts.map ck1) ([c].map ck1) (some ⟨vb,0,none⟩) 1 vc (fun _=>True) (fun _=>False) rfl rfl HR.out (Kd.bn HV.out).2.2 (fun _ _ h_=>h_) (fun _ h_=>h_.elim) (fun _ _=>trivial) (Below.refl _ _) HB.out (by rw [List.length_map,←HN.out];exact HG.out) ?_;intro v1 w1 hr hb1 hg1 hat)
   all_goals (go_ret;exact⟨v1,rfl,by unfold vT;rw [List.map_append];exact hr,hg1,hat⟩)
set_option maxHeartbeats 4000000 in
set_option maxRecDepth 100000 in
theorem OZ (g n c i vb m vc:Nat) (cs vs:List Value) (w:World) (hi:i<n) (hm:0<m) (hroom:n+m≤c) (hc63:c≤9223372036854775807) (hvb:vb≠g) (hcl:cs.length=n) (hvl:vs.length=m)
  (hcs:∀j v,cs[j]? =some v→w.cell? ⟨g,j,none⟩=some v) (hsp:∀j,j<(n+m)→(w.cell? ⟨g,j,none⟩).isSome=true) (hfz:∀j,w.frozen? ⟨g,j,none⟩=false)
  (hvs:∀j v,vs[j]? =some v→w.cell? ⟨vb,j,none⟩=some v) (h1c:∀v∈cs,v.oneCell'=true) (h1v:∀v∈vs,v.oneCell'=true)
  (tA tB:TypeId) (kA kB:Nat) (hsa:w.shape? vb=some (tA,kA)) (hsb:w.shape? g=some (tB,kB)) (hkB:kB≠0) (hfa:w.frozen? ⟨vb,0,none⟩=false) (hfe:w.frozen? ⟨vb,kA,none⟩=false):
  Calls Tryz.prog 179 #[.slice (some ⟨g,0,none⟩) n c, .int .i64 i, .slice (some ⟨vb,0,none⟩) m vc] w fun e w'=>
   e= .returned (.slice (some ⟨g,0,none⟩) (n+m) c)∧w'=(w.drew.setCells g ((i+m)) (cs.drop (i))).setCells g (i) vs:=by
 have hz1:¬((m:Int)=0):=by omega
 have hz2:¬((i:Int)=(n:Int)):=by omega
 have hsz:(Tryz.prog.info? 9).map (·.size)=some 1:=by kernel_rfl
 have hov:∀lb cb,(callFunc 209 #[.slice (some ⟨vb,0,none⟩) m vc, .slice (some ⟨g,(i+m),none⟩) lb cb]).run Tryz.prog w= .ok (.value (.bool false)) w:=fun lb cb=>by
  rw [run_callFunc_extern Tryz.func209 (by kernel_rfl) (by kernel_rfl) (by kernel_rfl) (e:=Extern.SlicesOverlaps.overlaps #[22,22] #[4]) (by kernel_rfl),
   Go.Lib.run_overlaps_apart w 22 4 9 Tryz.underlying22 1 (fun _=>by kernel_rfl) ⟨vb,0,none⟩ ⟨g,(i+m),none⟩ m vc lb cb hvb tA tB kA kB hsa hsb hkB hfa hfe]
  rfl
 have hdl:(cs.drop (i)).length=(n - i):=by rw [List.length_drop,hcl]
 have hw1:IntKind.i64.wrap ((i:Int)+(m:Int))=(i:Int)+(m:Int):=by rw [IntKind.wrap_i64];omega
 have hb1:(0:Int)≤(i:Int)+(m:Int):=by omega
 have hin:i≤n:=by omega
 have htn:((i:Int)+(m:Int)).toNat=i+m:=by omega
 have hb2:¬(c=i+m):=by omega
 have hb3:(i:Int)≤(n:Int)+(m:Int):=by omega
 have hb4:¬(c=i):=by omega
 have hcp1:∀ty dc sc,(Builtin.copy_ #[22,22] ty #[.slice (some ⟨g,(i+m),none⟩) (n+m - (i+m)) dc, .slice (some ⟨g,i,none⟩) (n+m - i) sc]).run Tryz.prog w.drew= .ok (goInt (Nat.min (n+m - i) (n+m - (i+m)))) (w.drew.setCells g ((i+m)) (cs.drop (i))):=fun ty dc sc=>
  gU w.drew _ _ ty 9 1 g ((i+m)) (n+m - (i+m)) dc ⟨g,i,none⟩ (n+m - i) sc (cs.drop (i)) Tryz.underlying22 hsz (by rw [hdl];simp only [Nat.min_def];split<;>omega)
   (fun j v hj=>by rw [Addr.add_lit];exact hcs (i+j) v (by rwa [List.getElem?_drop] at hj))
   (fun j hj=>hsp _ (by omega)) (fun j hj=>hfz _) (fun v hv=>h1c v (List.mem_of_mem_drop hv))
 obtain⟨W1,hW1⟩:∃W1,W1=w.drew.setCells g ((i+m)) (cs.drop (i)):=⟨_,rfl⟩
 have hsp1:∀k,k<(n+m)→(W1.cell? ⟨g,k,none⟩).isSome=true:=fun k hk=>by
  rw [hW1]
  exact isSome_setCells g (cs.drop (i)) ((i+m)) w.drew (fun j hj=>hsp ((i+m)+j) (by rw [hdl] at hj;omega)) k (hsp k hk)
 have hcp2:∀(W:World),(∀x,W.cell? x=W1.cell? x)→(∀x,W.frozen? x=W1.frozen? x)→∀ty dc,(Builtin.copy_ #[22,22] ty #[.slice (some ⟨g,i,none⟩) (n+m - i) dc, .slice (some ⟨vb,0,none⟩) m vc]).run Tryz.prog W= .ok (goInt (Nat.min m (n+m - i))) (W.setCells g (i) vs):=fun W hWc hWf ty dc=>
  gU W _ _ ty 9 1 g (i) (n+m - i) dc ⟨vb,0,none⟩ m vc vs Tryz.underlying22 hsz (by rw [hvl];simp only [Nat.min_def];split<;>omega)
   (fun j v hj=>by
    rw [Addr.add_lit,hWc,hW1,World.cell?_setCells_out g _ _ _ _ (fun h _=>absurd h hvb),Nat.zero_add]
    exact hvs j v hj)
   (fun j hj=>by rw [hWc];exact hsp1 _ (by omega)) (fun j hj=>by rw [hWf,hW1,World.frozen?_setCells];exact hfz _) h1v
 rw [←hW1] at hcp1
 go_enter Tryz.func179,Tryz.ntmps179
 have mixed:Tryz.prog.follows .mixedOrders=true:=by kernel_rfl
 go_wp2_with (simp only [hov])
 go_region_law_o (refine step_copy_runI rfl _ _ 22 22 rfl _ _ (by simp [Act.eval,Act.put]) (by simp [Act.eval,Act.put]) (hcp1 _ _ _) ?_)
 go_wp2_with (at_builtin;refine wpList_copy_runI _ rfl _ _ 22 22 rfl _ _ rfl rfl (hcp2 _ (fun _=>rfl) (fun _=>rfl) _ _) ?_)
 go_ret
 first | exact⟨rfl,rfl⟩ | exact⟨rfl,by rw [hW1]⟩
set_option maxHeartbeats 4000000 in
set_option maxRecDepth 100000 in
theorem QE (g n c i vb m vc:Nat) (cs vs:List Value) (w:World) (hi:i<n) (hm:0<m) (hnc:n≤c) (hroom:c<n+m) (hbig:(n+m)*16≤140737488355328) (hcl:cs.length=n) (hvl:vs.length=m)
  (hcs:∀j v,cs[j]? =some v→w.cell? ⟨g,j,none⟩=some v) (hvs:∀j v,vs[j]? =some v→w.cell? ⟨vb,j,none⟩=some v) (h1c:∀v∈cs,v.oneCell'=true) (h1v:∀v∈vs,v.oneCell'=true):
  Calls Tryz.prog 179 #[.slice (some ⟨g,0,none⟩) n c, .int .i64 i, .slice (some ⟨vb,0,none⟩) m vc] w fun e w'=>
   e= .returned (.slice (some ⟨w.heap.size,0,none⟩) (n+m) (grownCap w (n+m) c 9))∧
   w'=(((w.alloc (.cells ((cs.take (i)).toArray++Builtin.zeroCells (Value.string (⟨#[]⟩:ByteArray)).cells (n+m - i)++Builtin.zeroCells (Value.string (⟨#[]⟩:ByteArray)).cells (grownCap w (n+m) c 9 - (n+m))) 9)).drew.setCells w.heap.size (i) vs).drew).setCells w.heap.size ((i+m)) (cs.drop (i)):=by
 have mixed:Tryz.prog.follows .mixedOrders=true:=by kernel_rfl
 obtain⟨i0,hi0,hz0,hzs,hzb⟩:=info_parts V8
 have hz1:¬((m:Int)=0):=by omega
 have hz2:¬((i:Int)=(n:Int)):=by omega
 have hz3:(c:Int)<(n:Int)+(m:Int):=by omega
 have hsz:(Tryz.prog.info? 9).map (·.size)=some 1:=by kernel_rfl
 have hbw:g<w.heap.size:=block_lt_of_cell (hcs 0 _ (List.getElem?_eq_getElem (by omega)))
 have hvw:vb<w.heap.size:=block_lt_of_cell (hvs 0 _ (List.getElem?_eq_getElem (by omega)))
 have hkk:(n:Int)+(m:Int) - (i:Int)=((n+m - i:Nat):Int):=by omega
 have hik:i+(n+m - i)=n+m:=by omega
 have hold:(Builtin.firstCells i0.size i (.slice (some ⟨g,0,none⟩) i c)).run Tryz.prog w.drew= .ok (cs.take (i)).toArray w.drew:=by
  rw [hzs]
  exact run_firstCells_some w.drew 1 i ⟨g,0,none⟩ i c (cs.take (i)) (by rw [List.length_take];omega) (fun j v hj=>by
   rw [Addr.add_lit,Nat.zero_add]
   rw [List.getElem?_take] at hj
   split at hj
   ·exact hcs j v hj
   ·cases hj)
 have hrz:∀ty,(Builtin.append_ #[22,3] ty #[.slice (some ⟨g,0,none⟩) i c, .int .i64 ((n:Int)+(m:Int) - (i:Int))]).run Tryz.prog w=
   .ok (.slice (some ⟨w.heap.size,0,none⟩) (n+m) (grownCap w (n+m) c 9)) (w.drew.alloc (.cells ((cs.take (i)).toArray++Builtin.zeroCells (Value.string (⟨#[]⟩:ByteArray)).cells (n+m - i)++Builtin.zeroCells (Value.string (⟨#[]⟩:ByteArray)).cells (grownCap w (n+m) c 9 - (n+m))) 9)):=fun ty=>by
  have h:=Go.Lib.run_append_grow_zeros w 22 3 ty 9 i0 _ .i64 .i64 Tryz.underlying22 Tryz.underlying3 hi0 hz0 (some ⟨g,0,none⟩) i c (cs.take (i)) hold (n+m - i) (by omega) (by omega) (by omega) (by omega) (by rw [hzb];omega) (by rw [hzb,hik];exact growslice_fits hroom hbig)
  rw [hik] at h
  rw [hkk]
  exact h
 obtain⟨G,hG⟩:∃G,G=grownCap w (n+m) c 9:=⟨_,rfl⟩
 obtain⟨ROW,hROW⟩:∃ROW:Array Value,ROW=(cs.take (i)).toArray++Builtin.zeroCells (Value.string (⟨#[]⟩:ByteArray)).cells (n+m - i)++Builtin.zeroCells (Value.string (⟨#[]⟩:ByteArray)).cells (G - (n+m)):=⟨_,rfl⟩
 rw [←hG] at hrz⊢
 rw [←hROW] at hrz⊢
 have hRl:(n+m)≤ROW.size:=by
  rw [hROW]
  simp [Builtin.zeroCells,Value.cells]
  omega
 obtain⟨W1,hW1⟩:∃W1,W1=w.drew.alloc (.cells ROW 9):=⟨_,rfl⟩
 rw [←hW1] at hrz
 have hN:∀j,j<(n+m)→(W1.cell? ⟨w.heap.size,j,none⟩).isSome=true:=fun j hj=>by
  rw [hW1,World.cell?_alloc_at (w:=w.drew) ROW _ w.heap.size j rfl,Array.getElem?_eq_getElem (by omega)];rfl
 have hNf:∀j,W1.frozen? ⟨w.heap.size,j,none⟩=false:=fun j=>by rw [hW1];exact World.frozen?_alloc_at (w:=w.drew) ROW _ w.heap.size j rfl
 have hOb:∀j v,w.cell? ⟨g,j,none⟩=some v→W1.cell? ⟨g,j,none⟩=some v:=fun j v h=>by rw [hW1,World.cell?_alloc_past (w:=w.drew) _ g j hbw];exact h
 have hOv:∀j v,w.cell? ⟨vb,j,none⟩=some v→W1.cell? ⟨vb,j,none⟩=some v:=fun j v h=>by rw [hW1,World.cell?_alloc_past (w:=w.drew) _ vb j hvw];exact h
 have hcpA:∀(W:World),(∀x,W.cell? x=W1.cell? x)→(∀x,W.frozen? x=W1.frozen? x)→∀ty dc,(Builtin.copy_ #[22,22] ty #[.slice (some ⟨w.heap.size,i,none⟩) (n+m - i) dc, .slice (some ⟨vb,0,none⟩) m vc]).run Tryz.prog W= .ok (goInt (Nat.min m (n+m - i))) (W.setCells w.heap.size (i) vs):=fun W hWc hWf ty dc=>
  gU W _ _ ty 9 1 w.heap.size (i) (n+m - i) dc ⟨vb,0,none⟩ m vc vs Tryz.underlying22 hsz (by rw [hvl];simp only [Nat.min_def];split<;>omega)
   (fun j v hj=>by rw [Addr.add_lit,hWc,Nat.zero_add];exact hOv _ v (hvs j v hj))
   (fun j hj=>by rw [hWc];exact hN _ (by omega)) (fun j hj=>by rw [hWf];exact hNf _) h1v
 have hGn:n+m≤G:=by rw [hG];exact grownCap_ge w _ _ _
 have hG63:G≤9223372036854775807:=by
  have:=grownCap_le_maxLen w (n+m) c 9 (by unfold maxLen;omega)
  rw [←hG] at this
  unfold maxLen at this
  omega
 have hGi:¬(G=i):=by omega
 have hGim:¬(G=i+m):=by omega
 have hci:¬(c=i):=by omega
 have hbN:g≠w.heap.size:=by omega
 have hdl:(cs.drop (i)).length=(n - i):=by rw [List.length_drop,hcl]
 have hcpB:∀(W:World),(∀x,W.cell? x=(W1.setCells w.heap.size (i) vs).cell? x)→(∀x,W.frozen? x=(W1.setCells w.heap.size (i) vs).frozen? x)→∀ty dc sc,(Builtin.copy_ #[22,22] ty #[.slice (some ⟨w.heap.size,(i+m),none⟩) (n+m - (i+m)) dc, .slice (some ⟨g,i,none⟩) (n - i) sc]).run Tryz.prog W= .ok (goInt (Nat.min (n - i) (n+m - (i+m)))) (W.setCells w.heap.size ((i+m)) (cs.drop (i))):=fun W hWc hWf ty dc sc=>
  gU W _ _ ty 9 1 w.heap.size ((i+m)) (n+m - (i+m)) dc ⟨g,i,none⟩ (n - i) sc (cs.drop (i)) Tryz.underlying22 hsz (by rw [hdl];simp only [Nat.min_def];split<;>omega)
   (fun j v hj=>by
    rw [Addr.add_lit,hWc,World.cell?_setCells_out _ _ _ _ _ (fun h _=>absurd h hbN)]
    exact hOb _ v (hcs (i+j) v (by rwa [List.getElem?_drop] at hj)))
   (fun j hj=>by rw [hWc];exact isSome_setCells w.heap.size vs (i) W1 (fun q hq=>hN (i+q) (by rw [hvl] at hq;omega)) _ (hN _ (by rw [hdl] at hj;omega)))
   (fun j hj=>by rw [hWf,World.frozen?_setCells];exact hNf _) (fun v hv=>h1c v (List.mem_of_mem_drop hv))
 subst hW1
 have hE1:∀x,((w.alloc (.cells ROW 9)).drew).cell? x=(w.drew.alloc (.cells ROW 9)).cell? x:=fun x=>rfl
 have hE2:∀x,((w.alloc (.cells ROW 9)).drew).frozen? x=(w.drew.alloc (.cells ROW 9)).frozen? x:=fun x=>rfl
 have hF1:∀x,(((w.alloc (.cells ROW 9)).drew.setCells w.heap.size (i) vs).drew).cell? x=((w.drew.alloc (.cells ROW 9)).setCells w.heap.size (i) vs).cell? x:=fun x=>rfl
 have hF2:∀x,(((w.alloc (.cells ROW 9)).drew.setCells w.heap.size (i) vs).drew).frozen? x=((w.drew.alloc (.cells ROW 9)).setCells w.heap.size (i) vs).frozen? x:=fun x=>rfl
 have hw1:IntKind.i64.wrap ((i:Int)+(m:Int))=(i:Int)+(m:Int):=by rw [IntKind.wrap_i64];omega
 have hb1:(0:Int)≤(i:Int)+(m:Int):=by omega
 have hin:i≤n:=by omega
 have htn:((i:Int)+(m:Int)).toNat=i+m:=by omega
 have hb3:(i:Int)≤(n:Int):=by omega
 clear hkk hik hold hROW hG hRl
 go_enter Tryz.func179,Tryz.ntmps179
 go_wp2_with (first
  | (at_builtin;refine Go.Lib.wpList_append_run _ rfl _ _ _ _ rfl _ _ rfl rfl _ _ (hrz _) ?_)
  | (at_builtin;refine wpList_copy_runI _ rfl _ _ 22 22 rfl _ _ rfl rfl (hcpA _ hE1 hE2 _ _) ?_)
  | (at_builtin;refine wpList_copy_runI _ rfl _ _ 22 22 rfl _ _ rfl rfl (hcpB _ (fun _=>rfl) (fun _=>rfl) _ _ _) ?_))
 go_region_law_o (refine step_copy_runI rfl _ _ 22 22 rfl (.slice (some ⟨w.heap.size,(i+m),none⟩) (n+m - (i+m)) (G - (i+m))) (.slice (some ⟨g,i,none⟩) (n - i) (c - i)) (by simp [Act.eval,Act.put]) (by simp [Act.eval,Act.put]) (hcpB _ hF1 hF2 3 (G - (i+m)) (c - i)) ?_)
 go_wp2
 go_ret
 exact⟨rfl,rfl⟩
theorem V9.calls (ts:List lX) (c:lX) (A:Option Addr) (n cap base i vb vc:Nat) (w:World) (hR:vT 9 w base (.slice A n cap) ts) (hi:i≤n) (NY:vT 9 w 0 (.slice (some ⟨vb,0,none⟩) 1 vc) [c])
  (hne:∀ad,A=some ad→ad.block≠vb) (hb:base≤w.heap.size) (hbig:(n+1)*16≤140737488355328):
  Calls Tryz.prog 179 #[.slice A n cap, .int .i64 i, .slice (some ⟨vb,0,none⟩) 1 vc] w fun e w'=>∃v',e= .returned v'∧vT 9 w' base v' (ts.take i++c::ts.drop i)∧w.grownBy w' (Value.slice A n cap).ownBlock∧(v'.ownBlock=(Value.slice A n cap).ownBlock∨∃b,v'.ownBlock=some b∧w.heap.size≤b):=by
 have hn:=Fz hR
 obtain⟨cv,hV,_,hv1,hv2,hvz,hvt,_,Yx⟩:=NU NY
 have h1:yL c:=Yx c (List.mem_singleton.2 rfl)
 replace hvt:cv.toList.take (1)=ck1 c:=by simpa using hvt
 by_cases hin:i=n
 ·subst hin
  have:=TT ts c A i cap base vb vc w hR NY hb hbig
  rw [List.take_of_length_le (by omega),List.drop_of_length_le (by omega)]
  exact this
 ·obtain⟨g,rfl,hgl,hgb⟩:=QB hR (by omega)
  obtain⟨cur,hh,_,hc1,hc2,hsz,htk,_,hone⟩:=NU hR
  have hcl:(ts.flatMap ck1).length=n:=by rw [Bj,←hn]
  have hvl:(ck1 c).length=1:=rfl
  have hcs:∀j v,(ts.flatMap ck1)[j]? =some v→w.cell? ⟨g,j,none⟩=some v:=by
   intro j v hj
   rw [←htk,List.getElem?_take] at hj
   split at hj
   ·rw [cell_of_row w g j cur 9 (0,0) hh];simpa using hj
   ·cases hj
  have hvs:∀j v,(ck1 c)[j]? =some v→w.cell? ⟨vb,j,none⟩=some v:=by
   intro j v hj
   rw [←hvt,List.getElem?_take] at hj
   split at hj
   ·rw [cell_of_row w vb j cv 9 (0,0) hV];simpa using hj
   ·cases hj
  have h1c:∀v∈ts.flatMap ck1,v.oneCell'=true:=by
   intro v hv
   obtain⟨x,hx,hv⟩:=List.mem_flatMap.1 hv
   exact hone x hx v hv
  have h1v:∀v∈ck1 c,v.oneCell'=true:=h1
  have hd:(ts.flatMap ck1).drop (i)=(ts.drop i).flatMap ck1:=TQ ts i
  have hdl:((ts.drop i).flatMap ck1).length=(n - i):=by rw [Bj,List.length_drop,←hn]
  have htl:((ts.take i).flatMap ck1).length=i:=by rw [Bj,List.length_take];omega
  have hnew:∀x∈ts.take i++c::ts.drop i,yL x:=by
   intro x hx
   rcases List.mem_append.1 hx with hx | hx
   ·exact hone x (List.mem_of_mem_take hx)
   ·rcases List.mem_cons.1 hx with rfl | hx
    ·exact h1
    ·exact hone x (List.mem_of_mem_drop hx)
  have hil:=aaz ts c i (by omega)
  by_cases hroom:n+1≤cap
  ·refine(OZ g n cap i vb 1 vc (ts.flatMap ck1) (ck1 c) w (by omega) (by omega) hroom (by unfold maxLen at hc2;omega) (fun e=>hne _ rfl e.symm) hcl hvl hcs (fun j hj=>by rw [cell_of_row w g j cur 9 (0,0) hh,Array.getElem?_eq_getElem (by omega)];rfl) (fun j=>je hh _) hvs h1c h1v
    9 9 cv.size cur.size (by simp [World.shape?,hV,ck1]) (by simp [World.shape?,hh]) (by omega) (je hV _) (je hV _)).mono ?_
   rintro e w' ⟨rfl,rfl⟩
   obtain⟨c1,a1,a2,a3,a4,a5⟩:=gV (W:=w.drew) (o:=(i+1)) (vs:=(ts.flatMap ck1).drop (i)) hh (by rw [hd,hdl,hsz];omega)
   obtain⟨c2,b1,b2,b3,b4,b5⟩:=gV (o:=i) (vs:=ck1 c) a1 (by rw [a2,hsz,hvl];omega)
   have hg:w.grownBy ((w.drew.setCells g ((i+1)) ((ts.flatMap ck1).drop (i))).setCells g (i) (ck1 c)) (some g):=by
    have q1:=eP w.drew g ((i+1)) ((ts.flatMap ck1).drop (i))
    have q2:=World.grownBy.andThen q1 (eP _ g (i) (ck1 c)) (fun q hq=> .inr hq)
    exact⟨q2.os,q2.tape,q2.output,q2.size,q2.block⟩
   refine⟨_,rfl,?_,hg, .inl rfl⟩
   have hkey:c2.toList.take ((n+1))=(ts.take i).flatMap ck1++ck1 c++(ts.drop i).flatMap ck1:=by
    have e1:c1.toList.take (i)=(ts.take i).flatMap ck1:=by
     have:=congrArg (List.take (i)) a3
     rw [List.take_take,List.take_take,Nat.min_eq_left (by omega)] at this
     rw [this,←zf,←htk,List.take_take,Nat.min_eq_left (by omega)]
    rw [hd] at a4
    exact Bc (x1:=c1.toList) (x2:=c1.toList) (a:=i) e1 b4 b3 b5 e1 (by rw [hvl,show i+1=(i+1) from by omega];exact a4) (by rw [hvl,hdl];omega) htl
   have:=NV (ts:=ts.take i++c::ts.drop i) (cap:=cap) b1 hgb (by rw [hil];omega) hc2 (by rw [b2,a2,hsz]) (by rw [hil,NT,←hn];exact hkey) hnew
   rwa [hil,←hn] at this
  ·refine(QE g n cap i vb 1 vc (ts.flatMap ck1) (ck1 c) w (by omega) (by omega) hc1 (by omega) hbig hcl hvl hcs hvs h1c h1v).mono ?_
   rintro e w' ⟨rfl,rfl⟩
   have Yy:n+1≤grownCap w (n+1) cap 9:=grownCap_ge w _ _ _
   have NZ:grownCap w (n+1) cap 9≤maxLen:=grownCap_le_maxLen w (n+1) cap 9 (by unfold maxLen;omega)
   generalize hGG:grownCap w (n+1) cap 9=G at Yy NZ
   have hRs:(((ts.flatMap ck1).take (i)).toArray++Builtin.zeroCells (Value.string (⟨#[]⟩:ByteArray)).cells (n+1 - i)++Builtin.zeroCells (Value.string (⟨#[]⟩:ByteArray)).cells (G - (n+1))).size=G:=by
    simp [Builtin.zeroCells,Value.cells,hcl]
    omega
   have N7:(((ts.flatMap ck1).take (i)).toArray++Builtin.zeroCells (Value.string (⟨#[]⟩:ByteArray)).cells (n+1 - i)++Builtin.zeroCells (Value.string (⟨#[]⟩:ByteArray)).cells (G - (n+1))).toList.take (i)=(ts.take i).flatMap ck1:=by
    rw [Array.toList_append,Array.toList_append,List.append_assoc,List.take_left' (by rw [List.toList_toArray,zf,htl]),List.toList_toArray,zf]
   generalize ((ts.flatMap ck1).take (i)).toArray++Builtin.zeroCells (Value.string (⟨#[]⟩:ByteArray)).cells (n+1 - i)++Builtin.zeroCells (Value.string (⟨#[]⟩:ByteArray)).cells (G - (n+1))=ROW at hRs N7
   have h0:((w.alloc (.cells ROW 9)).drew).heap[w.heap.size]? =some (.cells ROW 9 (0,0)):=Fg w _
   obtain⟨c1,a1,a2,a3,a4,a5⟩:=gV (o:=i) (vs:=ck1 c) h0 (by rw [hvl,hRs];omega)
   obtain⟨c2,b1,b2,b3,b4,b5⟩:=gV (W:=(((w.alloc (.cells ROW 9)).drew).setCells w.heap.size (i) (ck1 c)).drew) (o:=(i+1)) (vs:=(ts.flatMap ck1).drop (i)) a1 (by rw [hd,hdl,a2,hRs];omega)
   have hg:w.grownBy (((((w.alloc (.cells ROW 9)).drew).setCells w.heap.size (i) (ck1 c)).drew).setCells w.heap.size ((i+1)) ((ts.flatMap ck1).drop (i))) (some g):=by
    have q0:w.grownBy (w.alloc (.cells ROW 9)).drew (some g):=by
     have hb0:=rJ (aj (Below.refl w.heap.size w) (.cells ROW 9))
     exact⟨hb0.os,hb0.tape,hb0.output,hb0.size,fun k hk _=>hb0.block k hk⟩
    have q1:=World.grownBy.andThen q0 (eP _ w.heap.size (i) (ck1 c)) (fun q hq=> .inl (by injection hq with hq;omega))
    have q2:w.grownBy ((((w.alloc (.cells ROW 9)).drew).setCells w.heap.size (i) (ck1 c)).drew) (some g):=⟨q1.os,q1.tape,q1.output,q1.size,q1.block⟩
    exact World.grownBy.andThen q2 (eP _ w.heap.size ((i+1)) ((ts.flatMap ck1).drop (i))) (fun q hq=> .inl (by injection hq with hq;omega))
   refine⟨_,rfl,?_,hg, .inr ⟨w.heap.size,rfl,Nat.le_refl _⟩⟩
   have hkey:c2.toList.take ((n+1))=((ts.take i).flatMap ck1++ck1 c)++(ts.drop i).flatMap ck1:=by
    have e1:c1.toList.take ((i+1))=(ts.take i).flatMap ck1++ck1 c:=by
     have e2:c1.toList=c1.toList.take (i)++(c1.toList.drop (i)):=(List.take_append_drop _ _).symm
     rw [e2,a3,N7,show(i+1)=((ts.take i).flatMap ck1).length+(ck1 c).length from by rw [htl,hvl],List.take_length_add_append,a4]
    have e3:c2.toList=c2.toList.take ((i+1))++c2.toList.drop ((i+1)):=(List.take_append_drop _ _).symm
    rw [hd] at b4
    rw [e3,b3,e1,show(n+1)=((ts.take i).flatMap ck1++ck1 c).length+((ts.drop i).flatMap ck1).length from by rw [List.length_append,htl,hvl,hdl];omega,List.take_length_add_append,b4]
   have:=NV (ts:=ts.take i++c::ts.drop i) (cap:=G) b1 hb (by rw [hil];omega) NZ (by rw [b2,a2,hRs]) (by rw [hil,NT,←hn];exact hkey) hnew
   rwa [hil,←hn] at this
end Go.Proofs.YtcnfgfomholheaaGreatDoor.Q
end
section
namespace Go.Proofs.YtcnfgfomholheaaGreatDoor.Q
open Go.RowKit Go.Proofs.YtcnfgfomholheaaGreatDoor.X Go.Proofs.YtcnfgfomholheaaGreatDoorW.PrintWords Go.Proofs.YtcnfgfomholheaaGreatDoorW.PrintLast Go.Proofs.YtcnfgfomholheaaGreatDoorW.PrintMore
open Go.Proofs.YtcnfgfomholheaaGreatDoor.Z (V El ck Ow Fam row_part row_in ow_open CallWOb)
set_option linter.unusedVariables false
set_option linter.unusedSimpArgs false
theorem VJ (l:List SS) (t:ByteArray):CallWOb T Tryz.prog 203 [.c (.gv eS l), .c (.fn 204 9 [.string t])] (.c (.ow eS (l.filter fun s=>!(s.f0.toList==t.toList)))):=by
 refine⟨⟨_,Tryz.func203,by kernel_rfl,by kernel_rfl⟩,fun w vs S Fw ev V _ _ hFw hap N8 hargs=>?_⟩
 obtain⟨v,r,rfl,⟨hv,hO⟩,v2,r2,rfl,⟨B,rfl,hSB,hB⟩,rfl⟩:=hargs
 obtain⟨els,G,h0,h1,h2,h3,h4,h5⟩:=ow_open hO
 obtain⟨hR,hof⟩:=zK (sz:=T.sz) rfl h2 h3
 obtain⟨A,n,cap,rfl⟩:∃A n cap,v= .slice A n cap:=by
  rcases hO.form with ⟨_,h⟩ | ⟨g,cap,cur,h,_⟩
  ·exact⟨_,_,_,h⟩
  ·exact⟨_,_,_,h⟩
 have hlen:∀t∈els,t.2.2.length=3:=fun t ht=>(h2.el t ht).2.1
 have adH:∀(j:Nat) (t:El) (s:SS),els[j]? =some t→l[j]? =some s→(jL t).2.1= .string s.f0:=fun j t s ht hs=>by
  have hx:t.2.1=T.enc eS s:=Z.adI (T:=T) (e:=eS) h0 ht hs
  obtain⟨u,h6,h7⟩:=(h2.el t (List.mem_of_getElem? ht)).2.2 0 (.sc (.string s.f0)) (by rw [hx];rfl)
  cases h7
  show t.2.2.getD 0 undef=_
  rw [List.getD_eq_getElem?_getD,h6];rfl
 have hstr:∀c∈els.map jL,∃s,c.2.1=Value.string s:=fun c hc=>by
  obtain⟨t,ht,rfl⟩:=List.mem_map.1 hc
  obtain⟨j,hj⟩:=List.getElem?_of_mem ht
  have hl:els.length=l.length:=Z.tZ (T:=T) (e:=eS) h0
  have hjl:=(List.getElem?_eq_some_iff.1 hj).1
  exact⟨_,adH j t _ hj (List.getElem?_eq_getElem (by omega))⟩
 have hcell:w.cell? ⟨B,0,none⟩=some (.string t):=by rw [cell_of_row w B 0 _ _ _ hB];rfl
 have hne:∀ad,A=some ad→ad.block≠B:=fun ad ha e=>N8 0 B (h5 B (by rw [ha,←e];rfl)).1 hSB
 refine(V3.calls B t (els.map jL) hstr A n cap 0 w hR hcell hne).mono ?_
 rintro e w' ⟨m,rfl,hR',hG⟩
 have hr':=LC (sz:=T.sz) rfl hR'
 have hsub:(((els.map jL).filter (kp t)).map tX).Sublist els:=by
  have:=(List.filter_sublist (p:=kp t) (l:=els.map jL)).map tX
  rwa [hof] at this
 have DU:=row_part h0 h1 h2 h4 h5 hr' hsub hG (by cases A<;>rfl)
 have he:(((els.map jL).filter (kp t)).map tX).map (·.2.1)=(l.filter fun s=>!(s.f0.toList==t.toList)).map (T.enc eS):=by
  have e1:((els.map jL).filter (kp t)).map tX=els.filter (kp t ∘ jL):=by
   rw [List.filter_map,List.map_map]
   exact(List.map_congr_left (fun a ha=>zJ (hlen a (List.mem_filter.1 ha).1))).trans (List.map_id _)
  rw [e1]
  refine Z.Jj (f:=T.enc eS) (g:=fun t:El=>t.2.1) (p:=kp t ∘ jL) (q:=fun s:SS=>!(s.f0.toList==t.toList)) h0 (fun j t' s ht hs=>?_)
  show(!LD t (jL t').2.1)=_
  rw [adH j t' s ht hs]
  rfl
 rw [he] at DU
 exact Z.FB DU (fun k hk=> .inr ⟨0,hk.1⟩) hG (fun g hg=>⟨0,(h5 g hg).1⟩) (by intro S;trivial)
theorem afV (l:List SS) (y:SS) (i:Nat) (hi:i≤l.length) (hbig:(l.length+1)*32≤140737488355328):CallWOb T Tryz.prog 185 [.c (.gv eS l), .c (.c (.sc (.int .i64 (i:Int)))), .c (.gv eS [y])] (.c (.ow eS (l.take i++y::l.drop i))):=by
 refine⟨⟨_,Tryz.func185,by kernel_rfl,by kernel_rfl⟩,fun w vs S Fw ev V _ _ hFw hap N8 hargs=>?_⟩
 obtain⟨v,r,rfl,⟨hv,hO⟩,v2,r2,rfl,⟨rfl,_⟩,v3,r3,rfl,⟨hv3,hO3⟩,rfl⟩:=hargs
 obtain⟨els,G,h0,h1,h2,h3,h4,h5⟩:=ow_open hO
 obtain⟨hR,hof⟩:=zK (sz:=T.sz) rfl h2 h3
 have hl:els.length=l.length:=Z.tZ (T:=T) (e:=eS) h0
 obtain⟨DV,G3,k0,k1,k2,k3,k4,k5⟩:=ow_open hO3
 obtain⟨Yz,adJ⟩:=zK (sz:=T.sz) rfl k2 k3
 obtain⟨t3,rfl⟩:∃t3,DV=[t3]:=by
  have:=Z.tZ (T:=T) (e:=eS) k0
  match DV,this with
  | [t3],_=>exact⟨t3,rfl⟩
 obtain⟨A,n,cap,rfl,hn⟩:∃A n cap,v= .slice A n cap∧n=l.length:=by
  obtain⟨A,cap,h,_⟩:=Z.DW (T:=T) (e:=eS) (l:=l) hO
  exact⟨A,_,cap,h,rfl⟩
 obtain⟨vb,vc,rfl⟩:∃vb vc,v3= .slice (some ⟨vb,0,none⟩) 1 vc:=by
  rcases hO3.form with ⟨h,_⟩ | ⟨g,cap,cur,h,_⟩
  ·cases h
  ·exact⟨g,cap,h⟩
 have hne:∀ad,A=some ad→ad.block≠vb:=fun ad ha e=>by
  have h6:=(h5 vb (by rw [ha,←e];rfl)).1
  have h7:=(k5 vb rfl).1
  exact absurd (hap _ _ _ h6 h7) (by simp [Z.AW.cells])
 refine(V5.calls (els.map jL) (jL t3) A n cap 0 i vb vc w hR (by omega) Yz hne (Nat.zero_le _) (by rw [hn];exact hbig)).mono ?_
 rintro e w' ⟨v',rfl,hR',hG,hob⟩
 have hr':=LC (sz:=T.sz) rfl hR'
 have ht3:tX (jL t3)=t3:=zJ (k2.el t3 (List.mem_singleton.2 rfl)).2.1
 have hm:((els.map jL).take i++jL t3::(els.map jL).drop i).map tX=els.take i++t3::els.drop i:=by rw [List.map_append,List.map_cons,List.map_take,List.map_drop,hof,ht3]
 rw [hm,show(els.take i++t3::els.drop i).length=els.length+1 by simp;omega] at hr'
 have DU:=row_in (i:=i) (y:=T.enc eS y) h0 h1 h2 h4 h5 k2 (fun k hk e=>absurd (hap _ _ _ (h5 k e.symm).1 hk) (by simp [Z.AW.cells])) (fun k hk hk'=>absurd (hap _ _ _ hk hk') (by simp [Z.AW.cells])) (List.cons.inj k0).1 (by omega) hr' hG hob
 have he:(l.map (T.enc eS)).take i++T.enc eS y::(l.map (T.enc eS)).drop i=(l.take i++y::l.drop i).map (T.enc eS):=by
  refine Eq.trans ?_ (List.map_append).symm
  exact congr (congrArg _ List.map_take.symm) (congrArg _ List.map_drop.symm)
 rw [he] at DU
 refine Z.FB DU (fun k hk=>?_) hG (fun g hg=>⟨_,(h5 g hg).1⟩) (by intro S;trivial)
 rcases hk with ⟨hk | hk,_⟩ | hk
 ·exact .inr ⟨_,hk⟩
 ·exact .inr ⟨_,hk⟩
 ·rcases hob with h | ⟨b,h,h'⟩
  ·exact .inr ⟨_,(h5 k (by rw [←h];exact hk)).1⟩
  ·rw [h] at hk
   cases hk
   exact .inl h'
theorem afZ (l:List SN) (y:SN) (i:Nat) (hi:i≤l.length) (hbig:(l.length+1)*72≤140737488355328):CallWOb T Tryz.prog 180 [.c (.gv eN l), .c (.c (.sc (.int .i64 (i:Int)))), .c (.gv eN [y])] (.c (.ow eN (l.take i++y::l.drop i))):=by
 refine⟨⟨_,Tryz.func180,by kernel_rfl,by kernel_rfl⟩,fun w vs S Fw ev V _ _ hFw hap N8 hargs=>?_⟩
 obtain⟨v,r,rfl,⟨hv,hO⟩,v2,r2,rfl,⟨rfl,_⟩,v3,r3,rfl,⟨hv3,hO3⟩,rfl⟩:=hargs
 obtain⟨els,G,h0,h1,h2,h3,h4,h5⟩:=ow_open hO
 obtain⟨hR,hof⟩:=zK (sz:=T.sz) rfl h2 h3
 have hl:els.length=l.length:=Z.tZ (T:=T) (e:=eN) h0
 obtain⟨DV,G3,k0,k1,k2,k3,k4,k5⟩:=ow_open hO3
 obtain⟨Yz,adJ⟩:=zK (sz:=T.sz) rfl k2 k3
 obtain⟨t3,rfl⟩:∃t3,DV=[t3]:=by
  have:=Z.tZ (T:=T) (e:=eN) k0
  match DV,this with
  | [t3],_=>exact⟨t3,rfl⟩
 obtain⟨A,n,cap,rfl,hn⟩:∃A n cap,v= .slice A n cap∧n=l.length:=by
  obtain⟨A,cap,h,_⟩:=Z.DW (T:=T) (e:=eN) (l:=l) hO
  exact⟨A,_,cap,h,rfl⟩
 obtain⟨vb,vc,rfl⟩:∃vb vc,v3= .slice (some ⟨vb,0,none⟩) 1 vc:=by
  rcases hO3.form with ⟨h,_⟩ | ⟨g,cap,cur,h,_⟩
  ·cases h
  ·exact⟨g,cap,h⟩
 have hne:∀ad,A=some ad→ad.block≠vb:=fun ad ha e=>by
  have h6:=(h5 vb (by rw [ha,←e];rfl)).1
  have h7:=(k5 vb rfl).1
  exact absurd (hap _ _ _ h6 h7) (by simp [Z.AW.cells])
 refine(V7.calls (els.map jL) (jL t3) A n cap 0 i vb vc w hR (by omega) Yz hne (Nat.zero_le _) (by rw [hn];exact hbig)).mono ?_
 rintro e w' ⟨v',rfl,hR',hG,hob⟩
 have hr':=LC (sz:=T.sz) rfl hR'
 have ht3:tX (jL t3)=t3:=zJ (k2.el t3 (List.mem_singleton.2 rfl)).2.1
 have hm:((els.map jL).take i++jL t3::(els.map jL).drop i).map tX=els.take i++t3::els.drop i:=by rw [List.map_append,List.map_cons,List.map_take,List.map_drop,hof,ht3]
 rw [hm,show(els.take i++t3::els.drop i).length=els.length+1 by simp;omega] at hr'
 have DU:=row_in (i:=i) (y:=T.enc eN y) h0 h1 h2 h4 h5 k2 (fun k hk e=>absurd (hap _ _ _ (h5 k e.symm).1 hk) (by simp [Z.AW.cells])) (fun k hk hk'=>absurd (hap _ _ _ hk hk') (by simp [Z.AW.cells])) (List.cons.inj k0).1 (by omega) hr' hG hob
 have he:(l.map (T.enc eN)).take i++T.enc eN y::(l.map (T.enc eN)).drop i=(l.take i++y::l.drop i).map (T.enc eN):=by
  refine Eq.trans ?_ (List.map_append).symm
  exact congr (congrArg _ List.map_take.symm) (congrArg _ List.map_drop.symm)
 rw [he] at DU
 refine Z.FB DU (fun k hk=>?_) hG (fun g hg=>⟨_,(h5 g hg).1⟩) (by intro S;trivial)
 rcases hk with ⟨hk | hk,_⟩ | hk
 ·exact .inr ⟨_,hk⟩
 ·exact .inr ⟨_,hk⟩
 ·rcases hob with h | ⟨b,h,h'⟩
  ·exact .inr ⟨_,(h5 k (by rw [←h];exact hk)).1⟩
  ·rw [h] at hk
   cases hk
   exact .inl h'
theorem afY (l:List ByteArray) (y:ByteArray) (i:Nat) (hi:i≤l.length) (hbig:(l.length+1)*16≤140737488355328):CallWOb T Tryz.prog 179 [.c (.gv 9 l), .c (.c (.sc (.int .i64 (i:Int)))), .c (.gv 9 [y])] (.c (.ow 9 (l.take i++y::l.drop i))):=by
 refine⟨⟨_,Tryz.func179,by kernel_rfl,by kernel_rfl⟩,fun w vs S Fw ev V _ _ hFw hap N8 hargs=>?_⟩
 obtain⟨v,r,rfl,⟨hv,hO⟩,v2,r2,rfl,⟨rfl,_⟩,v3,r3,rfl,⟨hv3,hO3⟩,rfl⟩:=hargs
 obtain⟨els,G,h0,h1,h2,h3,h4,h5⟩:=ow_open hO
 obtain⟨hR,hof⟩:=UU (sz:=T.sz) rfl h2 h3
 have hl:els.length=l.length:=Z.tZ (T:=T) (e:=9) h0
 obtain⟨DV,G3,k0,k1,k2,k3,k4,k5⟩:=ow_open hO3
 obtain⟨Yz,adJ⟩:=UU (sz:=T.sz) rfl k2 k3
 obtain⟨t3,rfl⟩:∃t3,DV=[t3]:=by
  have:=Z.tZ (T:=T) (e:=9) k0
  match DV,this with
  | [t3],_=>exact⟨t3,rfl⟩
 obtain⟨A,n,cap,rfl,hn⟩:∃A n cap,v= .slice A n cap∧n=l.length:=by
  obtain⟨A,cap,h,_⟩:=Z.DW (T:=T) (e:=9) (l:=l) hO
  exact⟨A,_,cap,h,rfl⟩
 obtain⟨vb,vc,rfl⟩:∃vb vc,v3= .slice (some ⟨vb,0,none⟩) 1 vc:=by
  rcases hO3.form with ⟨h,_⟩ | ⟨g,cap,cur,h,_⟩
  ·cases h
  ·exact⟨g,cap,h⟩
 have hne:∀ad,A=some ad→ad.block≠vb:=fun ad ha e=>by
  have h6:=(h5 vb (by rw [ha,←e];rfl)).1
  have h7:=(k5 vb rfl).1
  exact absurd (hap _ _ _ h6 h7) (by simp [Z.AW.cells])
 refine(V9.calls (els.map tY) (tY t3) A n cap 0 i vb vc w hR (by omega) Yz hne (Nat.zero_le _) (by rw [hn];exact hbig)).mono ?_
 rintro e w' ⟨v',rfl,hR',hG,hob⟩
 have hr':=acI (sz:=T.sz) rfl hR'
 have ht3:Hw (tY t3)=t3:=Ji (k2.el t3 (List.mem_singleton.2 rfl)).2.1
 have hm:((els.map tY).take i++tY t3::(els.map tY).drop i).map Hw=els.take i++t3::els.drop i:=by rw [List.map_append,List.map_cons,List.map_take,List.map_drop,hof,ht3]
 rw [hm,show(els.take i++t3::els.drop i).length=els.length+1 by simp;omega] at hr'
 have DU:=row_in (i:=i) (y:=T.enc 9 y) h0 h1 h2 h4 h5 k2 (fun k hk e=>absurd (hap _ _ _ (h5 k e.symm).1 hk) (by simp [Z.AW.cells])) (fun k hk hk'=>absurd (hap _ _ _ hk hk') (by simp [Z.AW.cells])) (List.cons.inj k0).1 (by omega) hr' hG hob
 have he:(l.map (T.enc 9)).take i++T.enc 9 y::(l.map (T.enc 9)).drop i=(l.take i++y::l.drop i).map (T.enc 9):=by
  refine Eq.trans ?_ (List.map_append).symm
  exact congr (congrArg _ List.map_take.symm) (congrArg _ List.map_drop.symm)
 rw [he] at DU
 refine Z.FB DU (fun k hk=>?_) hG (fun g hg=>⟨_,(h5 g hg).1⟩) (by intro S;trivial)
 rcases hk with ⟨hk | hk,_⟩ | hk
 ·exact .inr ⟨_,hk⟩
 ·exact .inr ⟨_,hk⟩
 ·rcases hob with h | ⟨b,h,h'⟩
  ·exact .inr ⟨_,(h5 k (by rw [←h];exact hk)).1⟩
  ·rw [h] at hk
   cases hk
   exact .inl h'
end Go.Proofs.YtcnfgfomholheaaGreatDoor.Q
end
