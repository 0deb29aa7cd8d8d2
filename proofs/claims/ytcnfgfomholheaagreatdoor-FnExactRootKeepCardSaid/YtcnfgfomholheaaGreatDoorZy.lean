/- Several texts of this claim in one (a claim holds at most 60 files). -/
import Derived.Laws.Cover1
import Derived.Laws.IdiomCopy
import Derived.Lib.Overlaps
import Derived.Lib.SliceRun
import Derived.Maps.Range
import Derived.Shelf.Spec.SlicesInsertGrow
import Derived.Shelf.RegionOpenPlain
import Derived.Test.YtcnfgfomholheaaGreatDoorZc
import Derived.Test.YtcnfgfomholheaaGreatDoorZp
import Derived.Test.YtcnfgfomholheaaGreatDoorPx8
section
namespace Go.Proofs.YtcnfgfomholheaaGreatDoor.Q
open Go.RowKit Go.Proofs.YtcnfgfomholheaaGreatDoor.X Go.Proofs.YtcnfgfomholheaaGreatDoorW.PrintWords Go.Proofs.YtcnfgfomholheaaGreatDoorW.PrintLast Go.Proofs.YtcnfgfomholheaaGreatDoorW.PrintMore
open Go.Proofs.YtcnfgfomholheaaGreatDoor.Z (V El ck Ow Fam row_part row_in ow_open CallWOb)
set_option linter.unusedVariables false
set_option linter.unusedSimpArgs false
section
variable {P:Program}
theorem oG (w:World) (dT sT ty elem:TypeId) (sz:Nat) (b o dLen dCap:Nat) (a:Addr) (sLen sCap:Nat) (cs:List Value)
  (hu:P.underlying dT=some (.slice elem)) (hs:(P.info? elem).map (·.size)=some sz) (hn:cs.length=Nat.min sLen dLen*sz)
  (hsrc:∀j v,cs[j]? =some v→w.cell? (a.add j)=some v) (hc:∀j,j<cs.length→(w.cell? ⟨b,o+j,none⟩).isSome=true) (hf:∀j,j<cs.length→w.frozen? ⟨b,o+j,none⟩=false) (h1:∀v∈cs,v.oneCell'=true):
  (Builtin.copy_ #[dT,sT] ty #[.slice (some ⟨b,o,none⟩) dLen dCap, .slice (some a) sLen sCap]).run P w= .ok (goInt (Nat.min sLen dLen)) (w.setCells b o cs):=by
 have hl:=run_loadCells_list (P:=P) w a cs hsrc
 have hst:=run_storeCells_cells (P:=P) b o cs 0 w (by simpa using hc) (by simpa using hf) h1
 cases hq:P.info? elem with
 | none=>simp [hq] at hs
 | some i=>
   have hi:i.size=sz:=by simpa [hq] using hs
   simp [Builtin.copy_,run_underlying hu,Builtin.lenOf,Builtin.firstCells,sizeOf,typeInfo,hq,hi,←hn,hl,hst]
theorem Ju (w:World) (t e ty:TypeId) (z:Value) (ht:P.underlying t=some (.slice e)) (hv:∀w,(zeroValue e).run P w= .ok z w) (h1:∀u∈z.cells.toList,u.oneCell'=true) (b o n c:Nat) (hz:0<z.cells.size) (hn:0<n)
  (hc:∀j,j<n*z.cells.size→(w.cell? ⟨b,o+j,none⟩).isSome=true) (hf:∀j,j<n*z.cells.size→w.frozen? ⟨b,o+j,none⟩=false):
  (Builtin.clear_ #[t] ty #[.slice (some ⟨b,o,none⟩) n c]).run P w= .ok (.tuple #[]) (w.setCells b o (Builtin.zeroCells z.cells n).toList):=by
 have hzl:(Builtin.zeroCells z.cells n).toList.length=n*z.cells.size:=by simp [Builtin.zeroCells]
 have hst:=run_storeCells_cells (P:=P) b o (Builtin.zeroCells z.cells n).toList 0 w (by rw [hzl];simpa using hc) (by rw [hzl];simpa using hf) (by
  intro v hv'
  simp only [Builtin.zeroCells,Array.toList_map,List.mem_map] at hv'
  obtain⟨i,_,rfl⟩:=hv'
  have hlt:i % z.cells.size<z.cells.size:=Nat.mod_lt _ hz
  rw [getElem!_pos z.cells _ hlt]
  exact h1 _ (Array.getElem_mem_toList hlt))
 simp only [Nat.add_zero] at hst
 obtain⟨m,rfl⟩:∃m,n=m+1:=⟨n - 1,by omega⟩
 simp [Builtin.clear_,run_underlying ht,hv,hst]
end
theorem kW (W:World) (g o:Nat) (vs:List Value):W.grownBy (W.setCells g o vs) (some g):=by
 obtain⟨s1,s2,s3,s4⟩:=oC g vs o W
 exact⟨s1,s2,s3,by rw [s4];exact Nat.le_refl _,fun k _ hk=>mV vs o k (fun e=>hk (by rw [e]))⟩
theorem grown_below {w W w1:World} {row:Option Nat} (h:w.grownBy W row) (hb:Below W.heap.size W w1):w.grownBy w1 row:=
 ⟨hb.os.trans h.os,hb.tape.trans h.tape,hb.output.trans h.output,Nat.le_trans h.size hb.size,fun k hk hn=>(hb.block k (Nat.lt_of_lt_of_le hk h.size)).trans (h.block k hk hn)⟩
theorem yX {w W:World} {g B:Nat} {v:Value} (h:w.grownBy W (some g)) (hB:w.cell? ⟨B,0,none⟩=some v) (hne:B≠g):W.cell? ⟨B,0,none⟩=some v:=by
 have hlt:B<w.heap.size:=by
  rcases Nat.lt_or_ge B w.heap.size with h' | h'
  ·exact h'
  ·simp [World.cell?,Array.getElem?_eq_none h'] at hB
 rw [World.cell?_of_block (w:=w) (h.block B hlt (fun e=>hne (by injection e)))]
 exact hB
theorem oH {g e o:Nat} {vs:List Value} {W:World} {cur:Array Value} (hh:W.heap[g]? =some (.cells cur e (0,0))) (hf:o+vs.length≤cur.size):∃c2,(W.setCells g o vs).heap[g]? =some (.cells c2 e (0,0))∧c2.size=cur.size∧c2.toList.take o=cur.toList.take o∧(c2.toList.drop o).take vs.length=vs∧c2.toList.drop (o+vs.length)=cur.toList.drop (o+vs.length):=by
 obtain⟨c2,h1,h2,h3⟩:=mQ vs o W cur hh hf
 have hl:(cur.toList.take o).length=o:=by rw [List.length_take,Array.length_toList];omega
 refine⟨c2,h1,h2,?_,?_,?_⟩
 ·rw [h3,List.append_assoc,List.take_append_of_le_length (by omega),List.take_of_length_le (by omega)]
 ·rw [h3,List.append_assoc,List.drop_left' hl,List.take_left' rfl]
 ·rw [h3,List.drop_left' (by rw [List.length_append,hl])]
theorem TF {x1 x2 y:List Value} {a b:Nat} {p v s:List Value} (h1:x1.take a=p) (h2:(y.drop a).take v.length=v) (h2t:y.take a=x2.take a) (h2d:y.drop (a+v.length)=x2.drop (a+v.length)) (h3:x2.take a=p) (h4:(x2.drop (a+v.length)).take s.length=s) (hb:b=a+v.length+s.length) (ha:p.length=a):y.take b=p++v++s:=by
 subst hb
 have e:y=y.take a++((y.drop a).take v.length++(y.drop (a+v.length))):=by
  rw [←List.drop_drop,List.take_append_drop,List.take_append_drop]
 rw [e,h2,h2t,h3,h2d,←List.append_assoc,Nat.add_assoc,show a+(v.length+s.length)=(p++v).length+s.length from by rw [List.length_append,ha];omega,List.take_length_add_append,h4]
theorem Bl {α β:Type} {f g:α→List β}:∀{l:List α},(∀t∈l,f t=g t)→l.flatMap f=l.flatMap g
 | [],_=>rfl
 | a::l,h=>by rw [List.flatMap_cons,List.flatMap_cons,h a List.mem_cons_self,Bl (fun t ht=>h t (List.mem_cons_of_mem _ ht))]
theorem abn (m:Nat) (z0 z1 z2:Value):(Builtin.zeroCells #[z0,z1,z2] m).size=m*3:=by simp [Builtin.zeroCells]
abbrev jh:=(Nat × List V) × Value × Value × Value
def cu (c:jh):List Value:=[c.2.1,c.2.2.1,c.2.2.2]
def uj (c:jh):Prop:=∀u∈cu c,u.oneCell'=true
def kL (e:Nat) (W:World) (base:Nat) (v:Value) (ts:List jh):Prop:=(Kd.raw 3).R e W base (fun _=>True) v (ts.map cu)
section
variable {e:Nat}
theorem pK {W:World} {base n cap:Nat} {A:Option Addr} {ts:List jh} (h:kL e W base (.slice A n cap) ts):n=ts.length:=by
 have:=(Kd.bJ h).1
 rwa [List.length_map] at this
theorem ni {W:World} {base g n cap:Nat} {ts:List jh} (h:kL e W base (.slice (some ⟨g,0,none⟩) n cap) ts) (i:Nat) (c:jh) (hc:ts[i]? =some c):
  W.cell? ⟨g,i*3,none⟩=some c.2.1∧W.cell? ⟨g,i*3+1,none⟩=some c.2.2.1∧W.cell? ⟨g,i*3+2,none⟩=some c.2.2.2∧(∀j,W.frozen? ⟨g,i*3+j,none⟩=false)∧uj c:=by
 have hn:=pK h
 obtain⟨hi,hg⟩:=List.getElem?_eq_some_iff.1 hc
 obtain⟨cc,hl,hM,hcc,hf⟩:=Kd.aa9 h [] (i:Int) (by omega) (by omega)
 simp only [Int.toNat_natCast] at hM hcc hf
 have e:(ts.map cu).getD i []=cu c:=by rw [List.getD_eq_getElem?_getD,List.getElem?_map,hc];rfl
 rw [e] at hM
 obtain⟨rfl,_,ho⟩:=hM
 exact⟨hcc 0 _ rfl,hcc 1 _ rfl,hcc 2 _ rfl,hf,ho⟩
theorem yV {W:World} {base n cap:Nat} {A:Option Addr} {ts:List jh} (h:kL e W base (.slice A n cap) ts) (hp:0<n):∃g,A=some ⟨g,0,none⟩∧g<W.heap.size∧base≤g:=by
 have hn:=pK h
 obtain⟨g,cap',e',hb,hlt,_⟩:=Kd.aa8 h (by rw [List.length_map];omega)
 injection e' with e1 e2 e3
 exact⟨g,e1,hlt,hb⟩
theorem KO {W w1:World} {base:Nat} {v:Value} {ts:List jh} {row:Option Nat} (h:kL e W base v ts) (hg:W.grownBy w1 row) (hne:row≠v.ownBlock):kL e w1 base v ts:=Kd.XU h rfl hg hne
theorem kC {W w1:World} {base:Nat} {v:Value} {ts:List jh} (h:kL e W base v ts) (hb:Below W.heap.size W w1):kL e w1 base v ts:=Kd.iV h hb
theorem NV {W:World} {g base:Nat} (c:jh) (h1:uj c) (h:W.heap[g]? =some (.cells (cu c).toArray e (0,0))) (hb:base≤g):kL e W base (.slice (some ⟨g,0,none⟩) 1 1) [c]:=by
 refine⟨fun _ _=>trivial,cu c,⟨rfl, .inr ⟨g,1,_,rfl,hb,h,Nat.le_refl _,by decide,rfl,rfl⟩⟩,rfl,fun j x hj=>?_⟩
 have hj0:j=0:=by have:=(List.getElem?_eq_some_iff.1 hj).1;simp at this;exact this
 subst hj0
 have hx:cu c=x:=by simpa using hj
 subst hx
 exact⟨rfl,rfl,h1⟩
theorem sD (ts:List jh):(ts.flatMap cu).length=ts.length*3:=by
 induction ts with
 | nil=>rfl
 | cons c r ih=>rw [List.flatMap_cons,List.length_append,ih,List.length_cons];show 3+_=_;omega
theorem uh (ts:List jh) (i:Nat):(ts.flatMap cu).take (i*3)=(ts.take i).flatMap cu:=by
 induction i generalizing ts with
 | zero=>simp
 | succ i ih=>
   cases ts with
   | nil=>simp
   | cons c r=>
     rw [List.flatMap_cons,List.take_succ_cons,List.flatMap_cons,←ih r,show(i+1)*3=(cu c).length+i*3 from by show _=3+_;omega,List.take_length_add_append]
theorem GV (ts:List jh) (i:Nat):(ts.flatMap cu).drop (i*3)=(ts.drop i).flatMap cu:=by
 induction i generalizing ts with
 | zero=>simp
 | succ i ih=>
   cases ts with
   | nil=>simp
   | cons c r=>
     rw [List.flatMap_cons,List.drop_succ_cons,←ih r,show(i+1)*3=(cu c).length+i*3 from by show _=3+_;omega,List.drop_length_add_append]
theorem y7 {w:World} {base:Nat} {ok:Nat→Prop}:∀(ts:List jh) (inner:List Value),dh ((Kd.raw 3).M w base ok) 3 (ts.map cu) inner→inner=ts.flatMap cu∧∀c∈ts,uj c
 | [],inner,h=>⟨List.eq_nil_of_length_eq_zero (by have:=h.1;simpa using this),fun c hc=>by cases hc⟩
 | c::r,inner,h=>by
   have hl:inner.length=(r.length+1)*3:=by have:=h.1;simpa using this
   obtain⟨e,_,ho⟩:=h.2 0 (cu c) rfl
   replace e:inner.take 3=cu c:=by simpa using e
   obtain⟨i1,i2⟩:=y7 (w:=w) (base:=base) (ok:=ok) r (inner.drop 3) ⟨by rw [List.length_drop,hl,List.length_map];omega,fun j p hj=>by
    have:=h.2 (j+1) p (by simpa using hj)
    rw [List.drop_drop]
    rwa [show(j+1)*3=3+j*3 from by omega] at this⟩
   refine⟨?_,fun x hx=>?_⟩
   ·rw [List.flatMap_cons,←i1,←e,List.take_append_drop]
   ·rcases List.mem_cons.1 hx with rfl | hx
    ·rw [Nat.zero_mul,List.drop_zero,e] at ho;exact ho
    ·exact i2 x hx
theorem GY {w:World} {base:Nat} {ok:Nat→Prop} (ts:List jh) (h1:∀c∈ts,uj c):dh ((Kd.raw 3).M w base ok) 3 (ts.map cu) (ts.flatMap cu):=by
 refine⟨by rw [sD,List.length_map],fun j p hj=>?_⟩
 rw [List.getElem?_map] at hj
 obtain⟨c,hc,rfl⟩:=Option.map_eq_some_iff.1 hj
 obtain⟨hjl,hg⟩:=List.getElem?_eq_some_iff.1 hc
 rw [GV,List.drop_eq_getElem_cons hjl,hg,List.flatMap_cons]
 refine⟨List.take_left' rfl,rfl,h1 c (by rw [←hg];exact List.getElem_mem hjl)⟩
theorem Fh {W:World} {base g n cap:Nat} {ts:List jh} (h:kL e W base (.slice (some ⟨g,0,none⟩) n cap) ts):
  ∃cur,W.heap[g]? =some (.cells cur e (0,0))∧base≤g∧n≤cap∧cap≤maxLen∧cur.size=cap*3∧cur.toList.take (n*3)=ts.flatMap cu∧n=ts.length∧∀c∈ts,uj c:=by
 have hn:=pK h
 obtain⟨_,inner,ho,hr⟩:=h
 obtain⟨rfl,h1⟩:=y7 ts inner hr
 obtain⟨_,hz | ⟨g',cap',cur,e',hb,hh,hc1,hc2,hs,ht⟩⟩:=ho
 ·simp at hz
 ·injection e' with e1 e2 e3
  injection e1 with e1
  injection e1 with e1
  subst e1;subst e3
  rw [List.length_map,←hn] at ht hc1
  exact⟨cur,hh,hb,hc1,hc2,hs,ht,hn,h1⟩
theorem Fj {W:World} {base g cap:Nat} {ts:List jh} {cur:Array Value} (hh:W.heap[g]? =some (.cells cur e (0,0))) (hb:base≤g) (hc1:ts.length≤cap) (hc2:cap≤maxLen) (hs:cur.size=cap*3) (ht:cur.toList.take (ts.length*3)=ts.flatMap cu) (h1:∀c∈ts,uj c):
  kL e W base (.slice (some ⟨g,0,none⟩) ts.length cap) ts:=by
 refine⟨fun _ _=>trivial,ts.flatMap cu,⟨by rw [sD,List.length_map];rfl, .inr ⟨g,cap,cur,by rw [List.length_map],hb,hh,by rw [List.length_map];exact hc1,hc2,hs,by rw [List.length_map];exact ht⟩⟩,GY ts h1⟩
section
variable {P:Program} {ops:Array Oper} {rest:List Oper} {o:Oper} {a:Act} {Q:Exit→Act→World→Prop}
theorem Bf {W:World} (hN:o.dst=none) (hgd:o.guard=none) (p x:Operand) (ho:o.op= .store e p x) {g n cap o' base:Nat} (i:Nat) (ts:List jh) (c:jh) (tV:a.eval p= .pointer (some ⟨g,o',none⟩)) (hoff:o'=i*3)
  (hx:a.eval x= .agg #[c.2.1,c.2.2.1,c.2.2.2]) (hone:uj c) (ht:(P.info? e).map (·.size)=some 3) (HO:kL e W base (.slice (some ⟨g,0,none⟩) n cap) ts) (hi:i<n)
  (h:∀w1,kL e w1 base (.slice (some ⟨g,0,none⟩) n cap) (ts.set i c)→Below base W w1→W.grownBy w1 (some g)→wpList P ops Q rest a w1):wpList P ops Q (o::rest) a W:=by
 have hn:=pK HO
 obtain⟨c0,c1,c2,_,_⟩:=ni HO i ts[i] (List.getElem?_eq_getElem (by omega))
 refine Kd.aah (Kd.raw 3) base hN hgd e p x ho e (i:Int) 0 (ts.map cu) (cu c) _ (cu c) (cu ts[i]) (fun _=>True) (fun _=>False) tV ?_ hx ?_ ht hone HO (by omega) (by omega) rfl ?_ (by show 0+3≤3;omega) ⟨rfl,rfl,hone⟩ (fun _ h_=>h_.elim) (Below.refl _ _) ?_
 ·rw [hoff];simp;rfl
 ·simp [Value.cells,cu]
 ·intro j u hj
  simp only [Int.toNat_natCast]
  show W.cell? ⟨g,i*3+j,none⟩=_
  match j,hj with
  | 0,hj=>simp [cu] at hj;subst hj;exact c0
  | 1,hj=>simp [cu] at hj;subst hj;exact c1
  | 2,hj=>simp [cu] at hj;subst hj;exact c2
  | j+3,hj=>simp [cu] at hj
 ·intro w1 hr hb hg
  refine h w1 ?_ hb hg
  simp only [Int.toNat_natCast] at hr
  unfold kL
  rw [List.map_set]
  exact hr
end
theorem Ya (ts:List jh) (c:jh) (i:Nat) (hi:i≤ts.length):(ts.take i++c::ts.drop i).length=ts.length+1:=by
 rw [List.length_append,List.length_cons,List.length_take,List.length_drop];omega
theorem KP (ts:List jh) (c:jh) (i:Nat):(ts.take i++c::ts.drop i).flatMap cu=(ts.take i).flatMap cu++cu c++(ts.drop i).flatMap cu:=by
 rw [List.flatMap_append,List.flatMap_cons,List.append_assoc]
def jR (t:El):jh:=((t.1,t.2.1),t.2.2.getD 0 undef,t.2.2.getD 1 undef,t.2.2.getD 2 undef)
def vk (c:jh):El:=(c.1.1,c.1.2,cu c)
theorem Bg {t:El} (h:t.2.2.length=3):vk (jR t)=t:=by
 obtain⟨a,b,c⟩:=t
 match c,h with
 | [_,_,_],_=>rfl
theorem Jv {W:World} {F:Nat→Prop} {sz:Nat→Nat} {els:List El} {G:Nat→Nat→Nat→Prop} {v:Value} (hs:sz e=3) (h:Fam sz W e F els G) (hr:W.ownsRow 0 e (sz e) v els.length (els.flatMap Z.ck)):kL e W 0 v (els.map jR)∧(els.map jR).map vk=els:=by
 have hl:∀t∈els,t.2.2.length=3:=fun t ht=>by rw [(h.el t ht).2.1,hs]
 have hm:(els.map jR).map vk=els:=by
  rw [List.map_map]
  exact(List.map_congr_left (fun t ht=>Bg (hl t ht))).trans (List.map_id els)
 have hf:(els.map jR).flatMap cu=els.flatMap Z.ck:=by
  rw [List.flatMap_map]
  refine Bl (fun t ht=>?_)
  exact congrArg (fun z:El=>z.2.2) (Bg (hl t ht))
 refine⟨⟨fun _ _=>trivial,(els.map jR).flatMap cu,?_,GY _ (fun c hc=>?_)⟩,hm⟩
 ·rw [hf,List.length_map,List.length_map,show(Kd.raw 3).sz=3 from rfl,←hs]
  exact hr
 ·obtain⟨t,ht,rfl⟩:=List.mem_map.1 hc
  intro u hu
  rw [show cu (jR t)=t.2.2 from congrArg (fun z:El=>z.2.2) (Bg (hl t ht))] at hu
  obtain⟨q,hq,rfl⟩:=List.mem_iff_getElem.1 hu
  have hlx:=(h.el t ht).1
  have hly:=(h.el t ht).2.1
  obtain⟨u,h1,h2⟩:=(h.el t ht).2.2 q _ (List.getElem?_eq_getElem (by omega:q<t.2.1.length))
  have:=Option.some.inj ((List.getElem?_eq_getElem hq).symm.trans h1)
  rw [this]
  exact h2.one
theorem Rj {W:World} {base:Nat} {sz:Nat→Nat} {v:Value} {ts:List jh} (hs:sz e=3) (h:kL e W base v ts):W.ownsRow 0 e (sz e) v (ts.map vk).length ((ts.map vk).flatMap Z.ck):=by
 obtain⟨_,inner,ho,hr⟩:=h
 obtain⟨rfl,h1⟩:=y7 ts inner hr
 rw [List.length_map,List.flatMap_map,hs]
 rw [List.length_map] at ho
 obtain⟨h2,h3⟩:=ho
 refine⟨h2,h3.imp id ?_⟩
 rintro⟨g,cap,cur,a1,a2,a3⟩
 exact⟨g,cap,cur,a1,Nat.zero_le _,a3⟩
end
section
variable {e:Nat}
end
end Go.Proofs.YtcnfgfomholheaaGreatDoor.Q
end
section
namespace Go.Proofs.YtcnfgfomholheaaGreatDoor.Q
open Go.RowKit Go.Proofs.YtcnfgfomholheaaGreatDoor.X Go.Proofs.YtcnfgfomholheaaGreatDoorW.PrintWords Go.Proofs.YtcnfgfomholheaaGreatDoorW.PrintLast Go.Proofs.YtcnfgfomholheaaGreatDoorW.PrintMore
open Go.Proofs.YtcnfgfomholheaaGreatDoor.Z (V El ck Ow Fam row_part row_in ow_open CallWOb)
set_option linter.unusedVariables false
set_option linter.unusedSimpArgs false
def Jt (t:ByteArray):Value→Bool
 | .string s=>s.toList==t.toList
 | _=>false
def xE (t:ByteArray) (c:jh):Bool:=Jt t c.2.1
def kp (t:ByteArray) (c:jh):Bool:=!xE t c
def Bc (t:ByteArray) (ts:List jh):Int:=match ts.findIdx? (xE t) with
 | none=>-1
 | some i=>i
end Go.Proofs.YtcnfgfomholheaaGreatDoor.Q
end
section
namespace Go.Proofs.YtcnfgfomholheaaGreatDoor.Q
open Go.RowKit Go.Proofs.YtcnfgfomholheaaGreatDoor.X Go.Proofs.YtcnfgfomholheaaGreatDoorW.PrintWords Go.Proofs.YtcnfgfomholheaaGreatDoorW.PrintLast Go.Proofs.YtcnfgfomholheaaGreatDoorW.PrintMore
open Go.Proofs.YtcnfgfomholheaaGreatDoor.Z (V El ck Ow Fam row_part row_in ow_open CallWOb)
set_option linter.unusedVariables false
set_option linter.unusedSimpArgs false
end Go.Proofs.YtcnfgfomholheaaGreatDoor.Q
end
section
namespace Go.Proofs.YtcnfgfomholheaaGreatDoor.Q
open Go.RowKit Go.Proofs.YtcnfgfomholheaaGreatDoor.X Go.Proofs.YtcnfgfomholheaaGreatDoorW.PrintWords Go.Proofs.YtcnfgfomholheaaGreatDoorW.PrintLast Go.Proofs.YtcnfgfomholheaaGreatDoorW.PrintMore
open Go.Proofs.YtcnfgfomholheaaGreatDoor.Z (V El ck Ow Fam row_part row_in ow_open CallWOb)
set_option linter.unusedVariables false
set_option linter.unusedSimpArgs false
end Go.Proofs.YtcnfgfomholheaaGreatDoor.Q
end
section
namespace Go.Proofs.YtcnfgfomholheaaGreatDoor.Q
open Go.RowKit Go.Proofs.YtcnfgfomholheaaGreatDoor.X Go.Proofs.YtcnfgfomholheaaGreatDoorW.PrintWords Go.Proofs.YtcnfgfomholheaaGreatDoorW.PrintLast Go.Proofs.YtcnfgfomholheaaGreatDoorW.PrintMore
open Go.Proofs.YtcnfgfomholheaaGreatDoor.Z (V El ck Ow Fam row_part row_in ow_open CallWOb)
set_option linter.unusedVariables false
set_option linter.unusedSimpArgs false
end Go.Proofs.YtcnfgfomholheaaGreatDoor.Q
end
section
namespace Go.Proofs.YtcnfgfomholheaaGreatDoor.Q
open Go.RowKit Go.Proofs.YtcnfgfomholheaaGreatDoor.X Go.Proofs.YtcnfgfomholheaaGreatDoorW.PrintWords Go.Proofs.YtcnfgfomholheaaGreatDoorW.PrintLast Go.Proofs.YtcnfgfomholheaaGreatDoorW.PrintMore
open Go.Proofs.YtcnfgfomholheaaGreatDoor.Z (V El ck Ow Fam row_part row_in ow_open CallWOb)
set_option linter.unusedVariables false
set_option linter.unusedSimpArgs false
end Go.Proofs.YtcnfgfomholheaaGreatDoor.Q
end
