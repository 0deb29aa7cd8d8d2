/- Several texts of this claim in one (a claim holds at most 60 files). -/
import Derived.Laws.Cover1
import Derived.Laws.IdiomCopy
import Derived.Lib.Overlaps
import Derived.Lib.SliceRun
import Derived.Maps.Range
import Derived.Shelf.Spec.SlicesInsertGrow
import Derived.Shelf.RegionOpenPlain
import Derived.Test.YtcnfgfomholheaaGreatDoorZc
import Derived.Test.YtcnfgfomholheaaGreatDoorZp
import Derived.Test.YtcnfgfomholheaaGreatDoorPx8
section
namespace Go.Proofs.YtcnfgfomholheaaGreatDoor.Q
open Go.RowKit Go.Proofs.YtcnfgfomholheaaGreatDoor.X Go.Proofs.YtcnfgfomholheaaGreatDoorW.PrintWords Go.Proofs.YtcnfgfomholheaaGreatDoorW.PrintLast Go.Proofs.YtcnfgfomholheaaGreatDoorW.PrintMore
open Go.Proofs.YtcnfgfomholheaaGreatDoor.Z (V El ck Ow Fam row_part row_in ow_open CallWOb)
set_option linter.unusedVariables false
set_option linter.unusedSimpArgs false
section
variable {P:Program}
theorem qY (w:World) (t e ty:TypeId) (z:Value) (ht:P.underlying t=some (.slice e)) (hv:∀w,(zeroValue e).run P w= .ok z w) (h1:∀u∈z.cells.toList,u.oneCell'=true) (b o n c:Nat) (hz:0<z.cells.size) (hn:0<n)
  (hc:∀j,j<n*z.cells.size→(w.cell? ⟨b,o+j,none⟩).isSome=true) (hf:∀j,j<n*z.cells.size→w.frozen? ⟨b,o+j,none⟩=false):
  (Builtin.clear_ #[t] ty #[.slice (some ⟨b,o,none⟩) n c]).run P w= .ok (.tuple #[]) (w.setCells b o (Builtin.zeroCells z.cells n).toList):=by
 have hzl:(Builtin.zeroCells z.cells n).toList.length=n*z.cells.size:=by simp [Builtin.zeroCells]
 have hst:=run_storeCells_cells (P:=P) b o (Builtin.zeroCells z.cells n).toList 0 w (by rw [hzl];simpa using hc) (by rw [hzl];simpa using hf) (by
  intro v hv'
  simp only [Builtin.zeroCells,Array.toList_map,List.mem_map] at hv'
  obtain⟨i,_,rfl⟩:=hv'
  have hlt:i % z.cells.size<z.cells.size:=Nat.mod_lt _ hz
  rw [getElem!_pos z.cells _ hlt]
  exact h1 _ (Array.getElem_mem_toList hlt))
 simp only [Nat.add_zero] at hst
 obtain⟨m,rfl⟩:∃m,n=m+1:=⟨n - 1,by omega⟩
 simp [Builtin.clear_,run_underlying ht,hv,hst]
end
theorem lC (W:World) (g o:Nat) (vs:List Value):W.grownBy (W.setCells g o vs) (some g):=by
 obtain⟨s1,s2,s3,s4⟩:=oN g vs o W
 exact⟨s1,s2,s3,by rw [s4];exact Nat.le_refl _,fun k _ hk=>nD vs o k (fun e=>hk (by rw [e]))⟩
theorem grown_below {w W w1:World} {row:Option Nat} (h:w.grownBy W row) (hb:Below W.heap.size W w1):w.grownBy w1 row:=
 ⟨hb.os.trans h.os,hb.tape.trans h.tape,hb.output.trans h.output,Nat.le_trans h.size hb.size,fun k hk hn=>(hb.block k (Nat.lt_of_lt_of_le hk h.size)).trans (h.block k hk hn)⟩
theorem zF {w W:World} {g B:Nat} {v:Value} (h:w.grownBy W (some g)) (hB:w.cell? ⟨B,0,none⟩=some v) (hne:B≠g):W.cell? ⟨B,0,none⟩=some v:=by
 have hlt:B<w.heap.size:=by
  rcases Nat.lt_or_ge B w.heap.size with h' | h'
  ·exact h'
  ·simp [World.cell?,Array.getElem?_eq_none h'] at hB
 rw [World.cell?_of_block (w:=w) (h.block B hlt (fun e=>hne (by injection e)))]
 exact hB
theorem oP {g e o:Nat} {vs:List Value} {W:World} {cur:Array Value} (hh:W.heap[g]? =some (.cells cur e (0,0))) (hf:o+vs.length≤cur.size):∃c2,(W.setCells g o vs).heap[g]? =some (.cells c2 e (0,0))∧c2.size=cur.size∧c2.toList.take o=cur.toList.take o∧(c2.toList.drop o).take vs.length=vs∧c2.toList.drop (o+vs.length)=cur.toList.drop (o+vs.length):=by
 obtain⟨c2,h1,h2,h3⟩:=nC vs o W cur hh hf
 have hl:(cur.toList.take o).length=o:=by rw [List.length_take,Array.length_toList];omega
 refine⟨c2,h1,h2,?_,?_,?_⟩
 ·rw [h3,List.append_assoc,List.take_append_of_le_length (by omega),List.take_of_length_le (by omega)]
 ·rw [h3,List.append_assoc,List.drop_left' hl,List.take_left' rfl]
 ·rw [h3,List.drop_left' (by rw [List.length_append,hl])]
theorem vU {α β:Type} {f g:α→List β}:∀{l:List α},(∀t∈l,f t=g t)→l.flatMap f=l.flatMap g
 | [],_=>rfl
 | a::l,h=>by rw [List.flatMap_cons,List.flatMap_cons,h a List.mem_cons_self,vU (fun t ht=>h t (List.mem_cons_of_mem _ ht))]
theorem abR (m:Nat) (z0:Value):(Builtin.zeroCells #[z0] m).size=m*1:=by simp [Builtin.zeroCells]
theorem WE (m:Nat) (z0 z1 z2:Value):(Builtin.zeroCells #[z0,z1,z2] m).size=m*3:=by simp [Builtin.zeroCells]
abbrev jZ:=(Nat × List V) × Value × Value × Value
def gY (c:jZ):List Value:=[c.2.1,c.2.2.1,c.2.2.2]
def zG (c:jZ):Prop:=∀u∈gY c,u.oneCell'=true
def nN (e:Nat) (W:World) (base:Nat) (v:Value) (ts:List jZ):Prop:=(Kd.raw 3).R e W base (fun _=>True) v (ts.map gY)
section
variable {e:Nat}
theorem vk {W:World} {base n cap:Nat} {A:Option Addr} {ts:List jZ} (h:nN e W base (.slice A n cap) ts):n=ts.length:=by
 have:=(Kd.bU h).1
 rwa [List.length_map] at this
theorem nO {W:World} {base g n cap:Nat} {ts:List jZ} (h:nN e W base (.slice (some ⟨g,0,none⟩) n cap) ts) (i:Nat) (c:jZ) (hc:ts[i]? =some c):
  W.cell? ⟨g,i*3,none⟩=some c.2.1∧W.cell? ⟨g,i*3+1,none⟩=some c.2.2.1∧W.cell? ⟨g,i*3+2,none⟩=some c.2.2.2∧(∀j,W.frozen? ⟨g,i*3+j,none⟩=false)∧zG c:=by
 have hn:=vk h
 obtain⟨hi,hg⟩:=List.getElem?_eq_some_iff.1 hc
 obtain⟨cc,hl,hM,hcc,hf⟩:=Kd.abx h [] (i:Int) (by omega) (by omega)
 simp only [Int.toNat_natCast] at hM hcc hf
 have e:(ts.map gY).getD i []=gY c:=by rw [List.getD_eq_getElem?_getD,List.getElem?_map,hc];rfl
 rw [e] at hM
 obtain⟨rfl,_,ho⟩:=hM
 exact⟨hcc 0 _ rfl,hcc 1 _ rfl,hcc 2 _ rfl,hf,ho⟩
theorem OG {W:World} {base n cap:Nat} {A:Option Addr} {ts:List jZ} (h:nN e W base (.slice A n cap) ts) (hp:0<n):∃g,A=some ⟨g,0,none⟩∧g<W.heap.size∧base≤g:=by
 have hn:=vk h
 obtain⟨g,cap',e',hb,hlt,_⟩:=Kd.abw h (by rw [List.length_map];omega)
 injection e' with e1 e2 e3
 exact⟨g,e1,hlt,hb⟩
theorem LC {W w1:World} {base:Nat} {v:Value} {ts:List jZ} {row:Option Nat} (h:nN e W base v ts) (hg:W.grownBy w1 row) (hne:row≠v.ownBlock):nN e w1 base v ts:=Kd.Yt h rfl hg hne
theorem kP {W w1:World} {base:Nat} {v:Value} {ts:List jZ} (h:nN e W base v ts) (hb:Below W.heap.size W w1):nN e w1 base v ts:=Kd.je h hb
theorem OH {W:World} {g base:Nat} (c:jZ) (h1:zG c) (h:W.heap[g]? =some (.cells (gY c).toArray e (0,0))) (hb:base≤g):nN e W base (.slice (some ⟨g,0,none⟩) 1 1) [c]:=by
 refine⟨fun _ _=>trivial,gY c,⟨rfl, .inr ⟨g,1,_,rfl,hb,h,Nat.le_refl _,by decide,rfl,rfl⟩⟩,rfl,fun j x hj=>?_⟩
 have hj0:j=0:=by have:=(List.getElem?_eq_some_iff.1 hj).1;simp at this;exact this
 subst hj0
 have hx:gY c=x:=by simpa using hj
 subst hx
 exact⟨rfl,rfl,h1⟩
theorem sQ (ts:List jZ):(ts.flatMap gY).length=ts.length*3:=by
 induction ts with
 | nil=>rfl
 | cons c r ih=>rw [List.flatMap_cons,List.length_append,ih,List.length_cons];show 3+_=_;omega
theorem Hr (ts:List jZ) (i:Nat):(ts.flatMap gY).take (i*3)=(ts.take i).flatMap gY:=by
 induction i generalizing ts with
 | zero=>simp
 | succ i ih=>
   cases ts with
   | nil=>simp
   | cons c r=>
     rw [List.flatMap_cons,List.take_succ_cons,List.flatMap_cons,←ih r,show(i+1)*3=(gY c).length+i*3 from by show _=3+_;omega,List.take_length_add_append]
theorem Uu (ts:List jZ) (i:Nat):(ts.flatMap gY).drop (i*3)=(ts.drop i).flatMap gY:=by
 induction i generalizing ts with
 | zero=>simp
 | succ i ih=>
   cases ts with
   | nil=>simp
   | cons c r=>
     rw [List.flatMap_cons,List.drop_succ_cons,←ih r,show(i+1)*3=(gY c).length+i*3 from by show _=3+_;omega,List.drop_length_add_append]
theorem zH {w:World} {base:Nat} {ok:Nat→Prop}:∀(ts:List jZ) (inner:List Value),dn ((Kd.raw 3).M w base ok) 3 (ts.map gY) inner→inner=ts.flatMap gY∧∀c∈ts,zG c
 | [],inner,h=>⟨List.eq_nil_of_length_eq_zero (by have:=h.1;simpa using this),fun c hc=>by cases hc⟩
 | c::r,inner,h=>by
   have hl:inner.length=(r.length+1)*3:=by have:=h.1;simpa using this
   obtain⟨e,_,ho⟩:=h.2 0 (gY c) rfl
   replace e:inner.take 3=gY c:=by simpa using e
   obtain⟨i1,i2⟩:=zH (w:=w) (base:=base) (ok:=ok) r (inner.drop 3) ⟨by rw [List.length_drop,hl,List.length_map];omega,fun j p hj=>by
    have:=h.2 (j+1) p (by simpa using hj)
    rw [List.drop_drop]
    rwa [show(j+1)*3=3+j*3 from by omega] at this⟩
   refine⟨?_,fun x hx=>?_⟩
   ·rw [List.flatMap_cons,←i1,←e,List.take_append_drop]
   ·rcases List.mem_cons.1 hx with rfl | hx
    ·rw [Nat.zero_mul,List.drop_zero,e] at ho;exact ho
    ·exact i2 x hx
theorem Ht {w:World} {base:Nat} {ok:Nat→Prop} (ts:List jZ) (h1:∀c∈ts,zG c):dn ((Kd.raw 3).M w base ok) 3 (ts.map gY) (ts.flatMap gY):=by
 refine⟨by rw [sQ,List.length_map],fun j p hj=>?_⟩
 rw [List.getElem?_map] at hj
 obtain⟨c,hc,rfl⟩:=Option.map_eq_some_iff.1 hj
 obtain⟨hjl,hg⟩:=List.getElem?_eq_some_iff.1 hc
 rw [Uu,List.drop_eq_getElem_cons hjl,hg,List.flatMap_cons]
 refine⟨List.take_left' rfl,rfl,h1 c (by rw [←hg];exact List.getElem_mem hjl)⟩
theorem OI {W:World} {base g n cap:Nat} {ts:List jZ} (h:nN e W base (.slice (some ⟨g,0,none⟩) n cap) ts):
  ∃cur,W.heap[g]? =some (.cells cur e (0,0))∧base≤g∧n≤cap∧cap≤maxLen∧cur.size=cap*3∧cur.toList.take (n*3)=ts.flatMap gY∧n=ts.length∧∀c∈ts,zG c:=by
 have hn:=vk h
 obtain⟨_,inner,ho,hr⟩:=h
 obtain⟨rfl,h1⟩:=zH ts inner hr
 obtain⟨_,hz | ⟨g',cap',cur,e',hb,hh,hc1,hc2,hs,ht⟩⟩:=ho
 ·simp at hz
 ·injection e' with e1 e2 e3
  injection e1 with e1
  injection e1 with e1
  subst e1;subst e3
  rw [List.length_map,←hn] at ht hc1
  exact⟨cur,hh,hb,hc1,hc2,hs,ht,hn,h1⟩
theorem OJ {W:World} {base g cap:Nat} {ts:List jZ} {cur:Array Value} (hh:W.heap[g]? =some (.cells cur e (0,0))) (hb:base≤g) (hc1:ts.length≤cap) (hc2:cap≤maxLen) (hs:cur.size=cap*3) (ht:cur.toList.take (ts.length*3)=ts.flatMap gY) (h1:∀c∈ts,zG c):
  nN e W base (.slice (some ⟨g,0,none⟩) ts.length cap) ts:=by
 refine⟨fun _ _=>trivial,ts.flatMap gY,⟨by rw [sQ,List.length_map];rfl, .inr ⟨g,cap,cur,by rw [List.length_map],hb,hh,by rw [List.length_map];exact hc1,hc2,hs,by rw [List.length_map];exact ht⟩⟩,Ht ts h1⟩
section
variable {P:Program} {ops:Array Oper} {rest:List Oper} {o:Oper} {a:Act} {Q:Exit→Act→World→Prop}
theorem BQ {W:World} (hN:o.dst=none) (hgd:o.guard=none) (p x:Operand) (ho:o.op= .store e p x) {g n cap o' base:Nat} (i:Nat) (ts:List jZ) (c:jZ) (uq:a.eval p= .pointer (some ⟨g,o',none⟩)) (hoff:o'=i*3)
  (hx:a.eval x= .agg #[c.2.1,c.2.2.1,c.2.2.2]) (hone:zG c) (ht:(P.info? e).map (·.size)=some 3) (HO:nN e W base (.slice (some ⟨g,0,none⟩) n cap) ts) (hi:i<n)
  (h:∀w1,nN e w1 base (.slice (some ⟨g,0,none⟩) n cap) (ts.set i c)→Below base W w1→W.grownBy w1 (some g)→wpList P ops Q rest a w1):wpList P ops Q (o::rest) a W:=by
 have hn:=vk HO
 obtain⟨c0,c1,c2,_,_⟩:=nO HO i ts[i] (List.getElem?_eq_getElem (by omega))
 refine Kd.aav (Kd.raw 3) base hN hgd e p x ho e (i:Int) 0 (ts.map gY) (gY c) _ (gY c) (gY ts[i]) (fun _=>True) (fun _=>False) uq ?_ hx ?_ ht hone HO (by omega) (by omega) rfl ?_ (by show 0+3≤3;omega) ⟨rfl,rfl,hone⟩ (fun _ h_=>h_.elim) (Below.refl _ _) ?_
 ·rw [hoff];simp;rfl
 ·simp [Value.cells,gY]
 ·intro j u hj
  simp only [Int.toNat_natCast]
  show W.cell? ⟨g,i*3+j,none⟩=_
  match j,hj with
  | 0,hj=>simp [gY] at hj;subst hj;exact c0
  | 1,hj=>simp [gY] at hj;subst hj;exact c1
  | 2,hj=>simp [gY] at hj;subst hj;exact c2
  | j+3,hj=>simp [gY] at hj
 ·intro w1 hr hb hg
  refine h w1 ?_ hb hg
  simp only [Int.toNat_natCast] at hr
  unfold nN
  rw [List.map_set]
  exact hr
end
def lD (t:El):jZ:=((t.1,t.2.1),t.2.2.getD 0 undef,t.2.2.getD 1 undef,t.2.2.getD 2 undef)
def yg (c:jZ):El:=(c.1.1,c.1.2,gY c)
theorem Hu {t:El} (h:t.2.2.length=3):yg (lD t)=t:=by
 obtain⟨a,b,c⟩:=t
 match c,h with
 | [_,_,_],_=>rfl
theorem Sj {W:World} {F:Nat→Prop} {sz:Nat→Nat} {els:List El} {G:Nat→Nat→Nat→Prop} {v:Value} (hs:sz e=3) (h:Fam sz W e F els G) (hr:W.ownsRow 0 e (sz e) v els.length (els.flatMap Z.ck)):nN e W 0 v (els.map lD)∧(els.map lD).map yg=els:=by
 have hl:∀t∈els,t.2.2.length=3:=fun t ht=>by rw [(h.el t ht).2.1,hs]
 have hm:(els.map lD).map yg=els:=by
  rw [List.map_map]
  exact(List.map_congr_left (fun t ht=>Hu (hl t ht))).trans (List.map_id els)
 have hf:(els.map lD).flatMap gY=els.flatMap Z.ck:=by
  rw [List.flatMap_map]
  refine vU (fun t ht=>?_)
  exact congrArg (fun z:El=>z.2.2) (Hu (hl t ht))
 refine⟨⟨fun _ _=>trivial,(els.map lD).flatMap gY,?_,Ht _ (fun c hc=>?_)⟩,hm⟩
 ·rw [hf,List.length_map,List.length_map,show(Kd.raw 3).sz=3 from rfl,←hs]
  exact hr
 ·obtain⟨t,ht,rfl⟩:=List.mem_map.1 hc
  intro u hu
  rw [show gY (lD t)=t.2.2 from congrArg (fun z:El=>z.2.2) (Hu (hl t ht))] at hu
  obtain⟨q,hq,rfl⟩:=List.mem_iff_getElem.1 hu
  have hlx:=(h.el t ht).1
  have hly:=(h.el t ht).2.1
  obtain⟨u,h1,h2⟩:=(h.el t ht).2.2 q _ (List.getElem?_eq_getElem (by omega:q<t.2.1.length))
  have:=Option.some.inj ((List.getElem?_eq_getElem hq).symm.trans h1)
  rw [this]
  exact h2.one
theorem Sl {W:World} {base:Nat} {sz:Nat→Nat} {v:Value} {ts:List jZ} (hs:sz e=3) (h:nN e W base v ts):W.ownsRow 0 e (sz e) v (ts.map yg).length ((ts.map yg).flatMap Z.ck):=by
 obtain⟨_,inner,ho,hr⟩:=h
 obtain⟨rfl,h1⟩:=zH ts inner hr
 rw [List.length_map,List.flatMap_map,hs]
 rw [List.length_map] at ho
 obtain⟨h2,h3⟩:=ho
 refine⟨h2,h3.imp id ?_⟩
 rintro⟨g,cap,cur,a1,a2,a3⟩
 exact⟨g,cap,cur,a1,Nat.zero_le _,a3⟩
end
abbrev vV:=(Nat × List V) × Value
def ck1 (c:vV):List Value:=[c.2]
def Nr (c:vV):Prop:=∀u∈ck1 c,u.oneCell'=true
def LD (e:Nat) (W:World) (base:Nat) (v:Value) (ts:List vV):Prop:=(Kd.raw 1).R e W base (fun _=>True) v (ts.map ck1)
section
variable {e:Nat}
theorem aaK {W:World} {base n cap:Nat} {A:Option Addr} {ts:List vV} (h:LD e W base (.slice A n cap) ts):n=ts.length:=by
 have:=(Kd.bU h).1
 rwa [List.length_map] at this
theorem sS (ts:List vV):(ts.flatMap ck1).length=ts.length*1:=by
 induction ts with
 | nil=>rfl
 | cons c r ih=>rw [List.flatMap_cons,List.length_append,ih,List.length_cons];show 1+_=_;omega
theorem Uw (ts:List vV) (i:Nat):(ts.flatMap ck1).take (i*1)=(ts.take i).flatMap ck1:=by
 induction i generalizing ts with
 | zero=>simp
 | succ i ih=>
   cases ts with
   | nil=>simp
   | cons c r=>
     rw [List.flatMap_cons,List.take_succ_cons,List.flatMap_cons,←ih r,show(i+1)*1=(ck1 c).length+i*1 from by show _=1+_;omega,List.take_length_add_append]
theorem Ux (ts:List vV) (i:Nat):(ts.flatMap ck1).drop (i*1)=(ts.drop i).flatMap ck1:=by
 induction i generalizing ts with
 | zero=>simp
 | succ i ih=>
   cases ts with
   | nil=>simp
   | cons c r=>
     rw [List.flatMap_cons,List.drop_succ_cons,←ih r,show(i+1)*1=(ck1 c).length+i*1 from by show _=1+_;omega,List.drop_length_add_append]
theorem zI {w:World} {base:Nat} {ok:Nat→Prop}:∀(ts:List vV) (inner:List Value),dn ((Kd.raw 1).M w base ok) 1 (ts.map ck1) inner→inner=ts.flatMap ck1∧∀c∈ts,Nr c
 | [],inner,h=>⟨List.eq_nil_of_length_eq_zero (by have:=h.1;simpa using this),fun c hc=>by cases hc⟩
 | c::r,inner,h=>by
   have hl:inner.length=(r.length+1)*1:=by have:=h.1;simpa using this
   obtain⟨e,_,ho⟩:=h.2 0 (ck1 c) rfl
   replace e:inner.take 1=ck1 c:=by simpa using e
   obtain⟨i1,i2⟩:=zI (w:=w) (base:=base) (ok:=ok) r (inner.drop 1) ⟨by rw [List.length_drop,hl,List.length_map];omega,fun j p hj=>by
    have:=h.2 (j+1) p (by simpa using hj)
    rw [List.drop_drop]
    rwa [show(j+1)*1=1+j*1 from by omega] at this⟩
   refine⟨?_,fun x hx=>?_⟩
   ·rw [List.flatMap_cons,←i1,←e,List.take_append_drop]
   ·rcases List.mem_cons.1 hx with rfl | hx
    ·rw [Nat.zero_mul,List.drop_zero,e] at ho;exact ho
    ·exact i2 x hx
theorem Hw {w:World} {base:Nat} {ok:Nat→Prop} (ts:List vV) (h1:∀c∈ts,Nr c):dn ((Kd.raw 1).M w base ok) 1 (ts.map ck1) (ts.flatMap ck1):=by
 refine⟨by rw [sS,List.length_map],fun j p hj=>?_⟩
 rw [List.getElem?_map] at hj
 obtain⟨c,hc,rfl⟩:=Option.map_eq_some_iff.1 hj
 obtain⟨hjl,hg⟩:=List.getElem?_eq_some_iff.1 hc
 rw [Ux,List.drop_eq_getElem_cons hjl,hg,List.flatMap_cons]
 refine⟨List.take_left' rfl,rfl,h1 c (by rw [←hg];exact List.getElem_mem hjl)⟩
theorem YM {W:World} {base g n cap:Nat} {ts:List vV} (h:LD e W base (.slice (some ⟨g,0,none⟩) n cap) ts):
  ∃cur,W.heap[g]? =some (.cells cur e (0,0))∧base≤g∧n≤cap∧cap≤maxLen∧cur.size=cap*1∧cur.toList.take (n*1)=ts.flatMap ck1∧n=ts.length∧∀c∈ts,Nr c:=by
 have hn:=aaK h
 obtain⟨_,inner,ho,hr⟩:=h
 obtain⟨rfl,h1⟩:=zI ts inner hr
 obtain⟨_,hz | ⟨g',cap',cur,e',hb,hh,hc1,hc2,hs,ht⟩⟩:=ho
 ·simp at hz
 ·injection e' with e1 e2 e3
  injection e1 with e1
  injection e1 with e1
  subst e1;subst e3
  rw [List.length_map,←hn] at ht hc1
  exact⟨cur,hh,hb,hc1,hc2,hs,ht,hn,h1⟩
theorem YN {W:World} {base g cap:Nat} {ts:List vV} {cur:Array Value} (hh:W.heap[g]? =some (.cells cur e (0,0))) (hb:base≤g) (hc1:ts.length≤cap) (hc2:cap≤maxLen) (hs:cur.size=cap*1) (ht:cur.toList.take (ts.length*1)=ts.flatMap ck1) (h1:∀c∈ts,Nr c):
  LD e W base (.slice (some ⟨g,0,none⟩) ts.length cap) ts:=by
 refine⟨fun _ _=>trivial,ts.flatMap ck1,⟨by rw [sS,List.length_map];rfl, .inr ⟨g,cap,cur,by rw [List.length_map],hb,hh,by rw [List.length_map];exact hc1,hc2,hs,by rw [List.length_map];exact ht⟩⟩,Hw ts h1⟩
def yh (t:El):vV:=((t.1,t.2.1),t.2.2.getD 0 undef)
def JI (c:vV):El:=(c.1.1,c.1.2,ck1 c)
theorem OL {t:El} (h:t.2.2.length=1):JI (yh t)=t:=by
 obtain⟨a,b,c⟩:=t
 match c,h with
 | [_],_=>rfl
theorem aaL {W:World} {F:Nat→Prop} {sz:Nat→Nat} {els:List El} {G:Nat→Nat→Nat→Prop} {v:Value} (hs:sz e=1) (h:Fam sz W e F els G) (hr:W.ownsRow 0 e (sz e) v els.length (els.flatMap Z.ck)):LD e W 0 v (els.map yh)∧(els.map yh).map JI=els:=by
 have hl:∀t∈els,t.2.2.length=1:=fun t ht=>by rw [(h.el t ht).2.1,hs]
 have hm:(els.map yh).map JI=els:=by
  rw [List.map_map]
  exact(List.map_congr_left (fun t ht=>OL (hl t ht))).trans (List.map_id els)
 have hf:(els.map yh).flatMap ck1=els.flatMap Z.ck:=by
  rw [List.flatMap_map]
  refine vU (fun t ht=>?_)
  exact congrArg (fun z:El=>z.2.2) (OL (hl t ht))
 refine⟨⟨fun _ _=>trivial,(els.map yh).flatMap ck1,?_,Hw _ (fun c hc=>?_)⟩,hm⟩
 ·rw [hf,List.length_map,List.length_map,show(Kd.raw 1).sz=1 from rfl,←hs]
  exact hr
 ·obtain⟨t,ht,rfl⟩:=List.mem_map.1 hc
  intro u hu
  rw [show ck1 (yh t)=t.2.2 from congrArg (fun z:El=>z.2.2) (OL (hl t ht))] at hu
  obtain⟨q,hq,rfl⟩:=List.mem_iff_getElem.1 hu
  have hlx:=(h.el t ht).1
  have hly:=(h.el t ht).2.1
  obtain⟨u,h1,h2⟩:=(h.el t ht).2.2 q _ (List.getElem?_eq_getElem (by omega:q<t.2.1.length))
  have:=Option.some.inj ((List.getElem?_eq_getElem hq).symm.trans h1)
  rw [this]
  exact h2.one
theorem aaM {W:World} {base:Nat} {sz:Nat→Nat} {v:Value} {ts:List vV} (hs:sz e=1) (h:LD e W base v ts):W.ownsRow 0 e (sz e) v (ts.map JI).length ((ts.map JI).flatMap Z.ck):=by
 obtain⟨_,inner,ho,hr⟩:=h
 obtain⟨rfl,h1⟩:=zI ts inner hr
 rw [List.length_map,List.flatMap_map,hs]
 rw [List.length_map] at ho
 obtain⟨h2,h3⟩:=ho
 refine⟨h2,h3.imp id ?_⟩
 rintro⟨g,cap,cur,a1,a2,a3⟩
 exact⟨g,cap,cur,a1,Nat.zero_le _,a3⟩
end
end Go.Proofs.YtcnfgfomholheaaGreatDoor.Q
end
section
namespace Go.Proofs.YtcnfgfomholheaaGreatDoor.Q
open Go.RowKit Go.Proofs.YtcnfgfomholheaaGreatDoor.X Go.Proofs.YtcnfgfomholheaaGreatDoorW.PrintWords Go.Proofs.YtcnfgfomholheaaGreatDoorW.PrintLast Go.Proofs.YtcnfgfomholheaaGreatDoorW.PrintMore
open Go.Proofs.YtcnfgfomholheaaGreatDoor.Z (V El ck Ow Fam row_part row_in ow_open CallWOb)
set_option linter.unusedVariables false
set_option linter.unusedSimpArgs false
def JJ (t:ByteArray):Value→Bool
 | .string s=>s.toList==t.toList
 | _=>false
def yj (t:ByteArray) (c:jZ):Bool:=JJ t c.2.1
def kp (t:ByteArray) (c:jZ):Bool:=!yj t c
def BR (t:ByteArray) (ts:List jZ):Int:=match ts.findIdx? (yj t) with
 | none=>-1
 | some i=>i
theorem JK.calls (B:Nat) (t:ByteArray) (a v q:Value) (w:World) (ha:∃s,a= .string s) (h1:v.oneCell'=true) (h2:q.oneCell'=true) (hB:w.cell? ⟨B,0,none⟩=some (.string t)):
  Calls Tryz.prog 204 #[.agg #[a,v,q], .pointer (some ⟨B,0,none⟩)] w fun e w'=>e= .returned (.bool (JJ t a))∧Below w.heap.size w w':=by
 obtain⟨s,rfl⟩:=ha
 have hB2:=fun o=>Go.Lib.cell?_alloc_some o hB
 go_enter Tryz.func204,Tryz.ntmps204
 go_wp2
 go_ret
 exact⟨by first | rfl | (simp;done),aj (Below.refl _ _) _⟩
set_option maxHeartbeats 4000000 in
set_option maxRecDepth 100000 in
theorem WG.calls (B:Nat) (t:ByteArray) (ts:List jZ) (hS:∀c∈ts,∃s,c.2.1=Value.string s) (A:Option Addr) (n cap base:Nat) (w:World) (hR:nN 44 w base (.slice A n cap) ts) (hB:w.cell? ⟨B,0,none⟩=some (.string t)):
  Calls Tryz.prog 114 #[.slice A n cap, .func (.func 204) #[] #[.pointer (some ⟨B,0,none⟩)]] w fun e w'=>e= .returned (.int .i64 (BR t ts))∧Below w.heap.size w w':=by
 have hn:=vk hR
 have hm:n≤9223372036854775807:=Kd.ZO (by have:=(Kd.bU hR);rw [←this.1] at this;exact this.2.2)
 have HR:=Aside0.mk hR
 have HB:=Aside0.mk hB
 have HN:=Aside0.mk hn
 have ZU:=Aside0.mk hS
 clear hR hB hn hS
 go_enter Tryz.func114,Tryz.ntmps114
 go_wp2
 go_loopg [5,8] n (fun gg _ s8 wr=>∃kk:Nat,kk≤n∧n - kk≤gg∧s8= .int .i64 kk∧Aside0 (Below w.heap.size w wr)∧Aside0 (∀j c,j<kk→ts[j]? =some c→yj t c=false))
 case atStart=>exact⟨0,Nat.zero_le _,by omega,rfl,⟨Below.refl _ w⟩,⟨fun j c hj=>absurd hj (Nat.not_lt_zero _)⟩⟩
 case round=>
  obtain⟨kk,hkk,hg,rfl,BW,AA⟩:=hrel
  by_cases hlt:kk<n
  ·have hltz:(kk:Int)<(n:Int):=by omega
   obtain⟨c,hc⟩:∃c,ts[kk]? =some c:=⟨_,List.getElem?_eq_getElem (by have:=HN.out;omega)⟩
   obtain⟨g,rfl,_,_⟩:=OG HR.out (by omega)
   obtain⟨c0,c1,c2,fz,oc⟩:=nO (kP HR.out BW.out) kk c hc
   have hBB:wr.cell? ⟨B,0,none⟩=some (.string t):=(by rw [BW.out.cell (by
    rcases Nat.lt_or_ge B w.heap.size with h' | h'
    ·exact h'
    ·exact absurd HB.out (by simp [World.cell?,Array.getElem?_eq_none h']))];exact HB.out)
   have hcall:=JK.calls B t c.2.1 c.2.2.1 c.2.2.2 wr (ZU.out c (List.mem_of_getElem? hc)) (oc _ (by simp [gY])) (oc _ (by simp [gY])) hBB
   rw [show JJ t c.2.1=yj t c from rfl] at hcall
   have HC:=Aside0.mk hc
   clear hc fz oc hBB
   cases hq:yj t c with
   | true=>
     rw [hq] at hcall
     have HQ:=Aside0.mk hq
     clear hq
     go_wp2_with (go_at_call 204;refine hcall.mono ?_;rintro e w' ⟨rfl,hb'⟩)
     go_ret
     refine⟨?_,bI BW.out hb'⟩
     have e:BR t ts=(kk:Int):=by
      unfold BR
      obtain⟨hk,hg⟩:=List.getElem?_eq_some_iff.1 HC.out
      rw [List.findIdx?_eq_some_iff_getElem.2 ⟨hk,by rw [hg];exact HQ.out,fun j hj=>by rw [AA.out j _ hj (List.getElem?_eq_getElem (by omega))];simp⟩]
     rw [e]
     rfl
   | false=>
     rw [hq] at hcall
     have HQ:=Aside0.mk hq
     clear hq
     go_wp2_with (go_at_call 204;refine hcall.mono ?_;rintro e w' ⟨rfl,hb'⟩)
     go_roundg (n - (kk+1))
     case measure=>omega
     case rel=>
      refine⟨kk+1,by omega,by omega,by go_num,⟨bI BW.out hb'⟩,⟨fun j c' hj hc'=>?_⟩⟩
      by_cases e:j=kk
      ·subst e
       obtain rfl:=Option.some.inj (HC.out.symm.trans hc')
       exact HQ.out
      ·exact AA.out j c' (by omega) hc'
  ·have hltz:¬(kk:Int)<(n:Int):=by omega
   have:kk=n:=by omega
   subst this
   go_wp2
   go_ret
   refine⟨?_,BW.out⟩
   have e:BR t ts= -1:=by
    unfold BR
    rw [List.findIdx?_eq_none_iff.2 (fun x hx=>by
     obtain⟨j,hj,rfl⟩:=List.mem_iff_getElem.1 hx
     exact AA.out j _ (by have:=HN.out;omega) (List.getElem?_eq_getElem hj))]
   rw [e]
   rfl
set_option maxHeartbeats 8000000 in
set_option maxRecDepth 100000 in
theorem Uy.calls (B:Nat) (t:ByteArray) (ts:List jZ) (hS:∀c∈ts,∃s,c.2.1=Value.string s) (A:Option Addr) (n cap base:Nat) (w:World) (hR:nN 44 w base (.slice A n cap) ts) (hB:w.cell? ⟨B,0,none⟩=some (.string t)) (hne:∀ad,A=some ad→ad.block≠B):
  Calls Tryz.prog 203 #[.slice A n cap, .func (.func 204) #[] #[.pointer (some ⟨B,0,none⟩)]] w fun e w'=>∃m,e= .returned (.slice A m cap)∧nN 44 w' base (.slice A m cap) (ts.filter (kp t))∧w.grownBy w' (Value.slice A n cap).ownBlock:=by
 have hn:=vk hR
 have hm:n≤9223372036854775807:=Kd.ZO (by have:=(Kd.bU hR);rw [←this.1] at this;exact this.2.2)
 have hcn:n≤cap:=(Kd.bU hR).2.1
 have hI:=WG.calls B t ts hS A n cap base w hR hB
 have hsp:BR t ts= -1∧(∀c∈ts,yj t c=false)∨∃k0,k0<n∧BR t ts=(k0:Int)∧(∃c,ts[k0]? =some c∧yj t c=true)∧∀j c,j<k0→ts[j]? =some c→yj t c=false:=by
  unfold BR
  cases h:ts.findIdx? (yj t) with
  | none=>exact .inl ⟨rfl,fun c hc=>List.findIdx?_eq_none_iff.1 h c hc⟩
  | some i=>
    obtain⟨hi,h1,h2⟩:=List.findIdx?_eq_some_iff_getElem.1 h
    refine .inr ⟨i,by omega,rfl,⟨_,List.getElem?_eq_getElem hi,h1⟩,fun j c hj hc=>?_⟩
    obtain⟨hj',rfl⟩:=List.getElem?_eq_some_iff.1 hc
    have:=h2 j hj
    simpa using this
 have HR:=Aside0.mk hR
 have HB:=Aside0.mk hB
 have HN:=Aside0.mk hn
 have HE:=Aside0.mk hne
 have ZU:=Aside0.mk hS
 clear hR hB hn hne hS
 rcases hsp with ⟨e1,hall⟩ | ⟨k0,hk0,e1,hhit,hall⟩
 ·rw [e1] at hI
  have hf:ts.filter (kp t)=ts:=List.filter_eq_self.2 (fun c hc=>by unfold kp;rw [hall c hc];rfl)
  have HF:=Aside0.mk hf
  have HI:=Aside0.mk hI
  clear e1 hall hf hI
  go_enter Tryz.func203,Tryz.ntmps203
  go_wp2_with (go_at_call 114;refine HI.out.mono ?_;rintro e w' ⟨rfl,hb'⟩)
  go_ret
  refine⟨n,rfl,?_,grown_below (World.grownBy.refl _ _) hb'⟩
  rw [HF.out]
  exact kP HR.out hb'
 ·rw [e1] at hI
  obtain⟨g,rfl,hgl,hgb⟩:=OG HR.out (by omega)
  have HI:=Aside0.mk hI
  have HA:=Aside0.mk hall
  have HH:=Aside0.mk hhit
  have GL:=Aside0.mk hgl
  have GB:=Aside0.mk hgb
  have HS:=Aside0.mk hk0
  clear hI hall hhit e1 hgl hgb
  have hne1:((k0:Int)== -1)=false:=beq_eq_false_iff_ne.2 (by omega)
  go_enter Tryz.func203,Tryz.ntmps203
  go_wp2_with (go_at_call 114;refine HI.out.mono ?_;rintro e w0' ⟨rfl,hb0⟩)
  go_loopg [5,6,7] n (fun gg s5 s6 _ wr=>∃(i j:Nat) (ts':List jZ),s5= .int .i64 i∧s6= .int .i64 j∧i<j∧j≤n∧n - j≤gg∧Aside0 (ts'.length=ts.length)∧Aside0 (ts'.take i=(ts.take j).filter (kp t))∧Aside0 (ts'.drop j=ts.drop j)∧Aside0 (nN 44 wr base (.slice (some ⟨g,0,none⟩) n cap) ts')∧Aside0 (w.grownBy wr (some g)))
  case atStart=>
   refine⟨k0,k0+1,ts,rfl,by go_num,by omega,by omega,by omega,⟨rfl⟩,⟨?_⟩,⟨rfl⟩,⟨kP HR.out hb0⟩,⟨grown_below (World.grownBy.refl _ _) hb0⟩⟩
   obtain⟨c,hc,hh⟩:=HH.out
   rw [List.take_add_one,hc,List.filter_append]
   have:[c].filter (kp t)=[]:=by simp [kp,hh]
   rw [show(some c).toList=[c] from rfl,this,List.append_nil]
   refine(List.filter_eq_self.2 (fun x hx=>?_)).symm
   obtain⟨j,hj,rfl⟩:=List.mem_take_iff_getElem.1 hx
   unfold kp
   rw [HA.out j _ (by omega) (List.getElem?_eq_getElem (by omega))]
   rfl
  case round=>
   obtain⟨i,j,ts',rfl,rfl,hij,hjn,hgg,L',T',D',R',G'⟩:=hrel
   have hcell:=zF G'.out HB.out (fun e=>HE.out _ rfl e.symm)
   by_cases hlt:j<n
   ·have hltz:(j:Int)<(n:Int):=by omega
    have hjl:j<ts.length:=by have:=HN.out;omega
    obtain⟨c,hc⟩:∃c,ts[j]? =some c:=⟨_,List.getElem?_eq_getElem hjl⟩
    have hc':ts'[j]? =some c:=by
     have e:(ts'.drop j)[0]? =(ts.drop j)[0]?:=by rw [D'.out]
     rw [List.getElem?_drop,List.getElem?_drop] at e
     simpa [hc] using e
    obtain⟨c0,c1,c2,fz,oc⟩:=nO R'.out j c hc'
    have HC:=Aside0.mk hc
    have HL:=Aside0.mk hjl
    have OC:=Aside0.mk oc
    have HCB:=Aside0.mk hcell
    clear hc hc' hcell fz oc hjl
    cases hq:yj t c with
    | true=>
      have HQ:=Aside0.mk hq
      clear hq
      go_wp2_with (first | ((with_reducible refine FN (N:=7) rfl ?_);refine KY ?hg (N:=7) ?hd (cs:=#[.string (⟨#[]⟩:ByteArray), .int .i64 0, .int .i64 0]) (t:=44) ?hr ?_;(case hd=>rfl);(case hg=>rfl);(case hr=>first | (go_simp;done) | (go_simp;rfl));intro gb hgb w1 hbx hb1;have X1:=OH (base:=gb) (((0,[]), .string (⟨#[]⟩:ByteArray), .int .i64 0, .int .i64 0):jZ) (by intro u hu;simp [gY] at hu;rcases hu with rfl | rfl | rfl<;>rfl) hbx (Nat.le_refl _);have R1:=kP R'.out hb1;have G1:=grown_below G'.out hb1;have Z1:wr.heap.size≤gb:=Nat.le_of_eq hgb.symm;have X1:=Aside0.mk X1;have R1:=Aside0.mk R1;have G1:=Aside0.mk G1;have Z1:=Aside0.mk Z1;clear hgb hbx hb1) | ((with_reducible refine zn (t:=44) (p:=7) rfl ?_);refine BQ (o':=?oo) rfl rfl _ _ rfl 0 _ c ?uq ?hoff ?hx OC.out (by kernel_rfl) X1.out (by omega) ?_;(case uq=>rfl);(case hoff=>rfl);(case hx=>rfl);intro w2 hr2 hb2 hg2;have X2:=hr2;have R2:=LC R1.out hg2 (by have:=Z1.out;have:=GL.out;have:=G'.out.size;intro e;have e:some gb=some g:=e;injection e with e;omega);have G2:=World.grownBy.andThen G1.out hg2 (fun j hj=> .inl (by injection hj with hj;have:=Z1.out;have:=G'.out.size;omega));have HB2:=zF G2 HB.out (fun e=>HE.out _ rfl e.symm);obtain⟨b0,b1,b2,-,-⟩:=nO X2 0 c rfl;simp only [Nat.zero_mul,Nat.zero_add] at b0 b1 b2;have X2:=Aside0.mk X2;have R2:=Aside0.mk R2;have G2:=Aside0.mk G2;have HB2:=Aside0.mk HB2;clear hr2 hb2 hg2) | (go_at_call 204;refine(JK.calls B t c.2.1 c.2.2.1 c.2.2.2 _ (ZU.out c (List.mem_of_getElem? HC.out)) (OC.out _ (by simp [gY])) (OC.out _ (by simp [gY])) HB2.out).mono ?_;rintro e w3 ⟨rfl,hb3⟩;rw [show JJ t c.2.1=_ from HQ.out];have X3:=kP X2.out hb3;have R3:=kP R2.out hb3;have G3:=grown_below G2.out hb3;clear b0 b1 b2;obtain⟨b0,b1,b2,-,-⟩:=nO X3 0 c rfl;simp only [Nat.zero_mul,Nat.zero_add] at b0 b1 b2;have R3:=Aside0.mk R3;have G3:=Aside0.mk G3;clear hb3))
      go_roundg (n - (j+1))
      case measure=>omega
      case rel=>
       refine⟨i,j+1,ts',rfl,by go_num,by omega,by omega,by omega,L',⟨?_⟩,⟨?_⟩,R3,G3⟩
       ·rw [T'.out,List.take_add_one,HC.out,List.filter_append]
        simp [kp,HQ.out]
       ·have:=congrArg (List.drop 1) D'.out
        rwa [List.drop_drop,List.drop_drop] at this
    | false=>
      have HQ:=Aside0.mk hq
      clear hq
      go_wp2_with (first | ((with_reducible refine FN (N:=7) rfl ?_);refine KY ?hg (N:=7) ?hd (cs:=#[.string (⟨#[]⟩:ByteArray), .int .i64 0, .int .i64 0]) (t:=44) ?hr ?_;(case hd=>rfl);(case hg=>rfl);(case hr=>first | (go_simp;done) | (go_simp;rfl));intro gb hgb w1 hbx hb1;have X1:=OH (base:=gb) (((0,[]), .string (⟨#[]⟩:ByteArray), .int .i64 0, .int .i64 0):jZ) (by intro u hu;simp [gY] at hu;rcases hu with rfl | rfl | rfl<;>rfl) hbx (Nat.le_refl _);have R1:=kP R'.out hb1;have G1:=grown_below G'.out hb1;have Z1:wr.heap.size≤gb:=Nat.le_of_eq hgb.symm;have X1:=Aside0.mk X1;have R1:=Aside0.mk R1;have G1:=Aside0.mk G1;have Z1:=Aside0.mk Z1;clear hgb hbx hb1) | ((with_reducible refine zn (t:=44) (p:=7) rfl ?_);refine BQ (o':=?oo) rfl rfl _ _ rfl 0 _ c ?uq ?hoff ?hx OC.out (by kernel_rfl) X1.out (by omega) ?_;(case uq=>rfl);(case hoff=>rfl);(case hx=>rfl);intro w2 hr2 hb2 hg2;have X2:=hr2;have R2:=LC R1.out hg2 (by have:=Z1.out;have:=GL.out;have:=G'.out.size;intro e;have e:some gb=some g:=e;injection e with e;omega);have G2:=World.grownBy.andThen G1.out hg2 (fun j hj=> .inl (by injection hj with hj;have:=Z1.out;have:=G'.out.size;omega));have HB2:=zF G2 HB.out (fun e=>HE.out _ rfl e.symm);obtain⟨b0,b1,b2,-,-⟩:=nO X2 0 c rfl;simp only [Nat.zero_mul,Nat.zero_add] at b0 b1 b2;have X2:=Aside0.mk X2;have R2:=Aside0.mk R2;have G2:=Aside0.mk G2;have HB2:=Aside0.mk HB2;clear hr2 hb2 hg2) | (go_at_call 204;refine(JK.calls B t c.2.1 c.2.2.1 c.2.2.2 _ (ZU.out c (List.mem_of_getElem? HC.out)) (OC.out _ (by simp [gY])) (OC.out _ (by simp [gY])) HB2.out).mono ?_;rintro e w3 ⟨rfl,hb3⟩;rw [show JJ t c.2.1=_ from HQ.out];have X3:=kP X2.out hb3;have R3:=kP R2.out hb3;have G3:=grown_below G2.out hb3;clear b0 b1 b2;obtain⟨b0,b1,b2,-,-⟩:=nO X3 0 c rfl;simp only [Nat.zero_mul,Nat.zero_add] at b0 b1 b2;have R3:=Aside0.mk R3;have G3:=Aside0.mk G3;clear hb3) | ((with_reducible refine zn (t:=44) (p:=33) rfl ?_);refine BQ (o':=i*3) rfl rfl _ _ rfl i _ c ?uq ?hoff ?hx OC.out (by kernel_rfl) R3.out (by omega) ?_;(case uq=>first | rfl | (go_simp;done) | (go_simp;rfl) | (simp [Act.eval,Act.put];done));(case hoff=>rfl);(case hx=>rfl);intro w4 hr4 hb4 hg4;have R4:=Aside0.mk hr4;have G4:=Aside0.mk (World.grownBy.andThen G3.out hg4 (fun j hj=> .inr hj));clear hr4 hb4 hg4))
      go_roundg (n - (j+1))
      case measure=>omega
      case rel=>
       refine⟨i+1,j+1,ts'.set i c,by go_num,by go_num,by omega,by omega,by omega,⟨by rw [List.length_set];exact L'.out⟩,⟨?_⟩,⟨?_⟩,R4,G4⟩
       ·rw [List.take_succ_eq_append_getElem (by rw [List.length_set];have:=L'.out;have:=HL.out;omega),List.getElem_set_self,List.take_set_of_le (Nat.le_refl _),T'.out,List.take_add_one,HC.out,List.filter_append]
        simp [kp,HQ.out]
       ·rw [List.drop_set_of_lt (by omega)]
        have:=congrArg (List.drop 1) D'.out
        rwa [List.drop_drop,List.drop_drop] at this
   ·obtain rfl:j=n:=by omega
    have hltz:¬(j:Int)<(j:Int):=by omega
    obtain⟨cur,hh,hgb,hc1,hc2,hsz,htk,hn,hone⟩:=OI R'.out
    have hcl:∀ty,(Builtin.clear_ #[29] ty #[.slice (some ⟨g,i*3,none⟩) (j - i) (cap - i)]).run Tryz.prog wr= .ok (.tuple #[]) (wr.setCells g (i*3) (Builtin.zeroCells #[.string (⟨#[]⟩:ByteArray), .int .i64 0, .int .i64 0] (j - i)).toList):=fun ty=>
     qY wr 29 44 ty (.agg #[.string (⟨#[]⟩:ByteArray), .int .i64 0, .int .i64 0]) Tryz.underlying29 (fun _=>by kernel_rfl) (by decide) g (i*3) (j - i) _ (by decide) (by omega)
      (fun q hq=>by rw [cell_of_row wr g _ cur 44 (0,0) hh];simp;simp [Value.cells] at hq;omega) (fun q hq=>kK hh _)
    have hzl:(Builtin.zeroCells #[.string (⟨#[]⟩:ByteArray), .int .i64 0, .int .i64 0] (j - i)).toList.length=(j - i)*3:=by rw [Array.length_toList];exact WE _ _ _ _
    generalize (Builtin.zeroCells #[.string (⟨#[]⟩:ByteArray), .int .i64 0, .int .i64 0] (j - i)).toList=zs at hcl hzl
    have hfin:nN 44 (wr.setCells g (i*3) zs) base (.slice (some ⟨g,0,none⟩) i cap) (ts.filter (kp t)):=by
     obtain⟨cur',h3,h4,h5⟩:=nC zs (i*3) wr cur hh (by rw [hzl,hsz];omega)
     have hT:=T'.out
     rw [List.take_of_length_le (by have:=L'.out;omega:ts.length≤j)] at hT
     have hil:(ts.filter (kp t)).length=i:=by rw [←hT,List.length_take];omega
     have:=OJ (ts:=ts.filter (kp t)) (cap:=cap) h3 hgb (by omega) hc2 (by rw [h4,hsz]) (by
      rw [h5,hil,List.append_assoc,List.take_append_of_le_length (by rw [List.length_take,Array.length_toList];omega),List.take_take,Nat.min_self,←hT,←Hr,←htk,List.take_take,Nat.min_eq_left (by omega)]) (fun c hc=>hone c (by rw [←hT] at hc;exact List.mem_of_mem_take hc))
     rwa [hil] at this
    have hG:=World.grownBy.andThen G'.out (lC wr g (i*3) zs) (fun q hq=> .inr hq)
    have F1:=Aside0.mk hfin
    have F2:=Aside0.mk hG
    clear hfin hG hh hgb hc1 hc2 hsz htk hn hone hzl hcell
    go_wp2
    go_ret
    exact⟨i,rfl,F1.out,F2.out⟩
end Go.Proofs.YtcnfgfomholheaaGreatDoor.Q
end
section
namespace Go.Proofs.YtcnfgfomholheaaGreatDoor.Q
open Go.RowKit Go.Proofs.YtcnfgfomholheaaGreatDoor.X Go.Proofs.YtcnfgfomholheaaGreatDoorW.PrintWords Go.Proofs.YtcnfgfomholheaaGreatDoorW.PrintLast Go.Proofs.YtcnfgfomholheaaGreatDoorW.PrintMore
open Go.Proofs.YtcnfgfomholheaaGreatDoor.Z (V El ck Ow Fam row_part row_in ow_open CallWOb)
set_option linter.unusedVariables false
set_option linter.unusedSimpArgs false
set_option maxHeartbeats 4000000 in
set_option maxRecDepth 100000 in
theorem aaN.calls (ts:List vV) (g n cap i j base:Nat) (w:World) (hR:LD 9 w base (.slice (some ⟨g,0,none⟩) n cap) ts) (hij:i<j) (hj:j≤n):
  Calls Tryz.prog 173 #[.slice (some ⟨g,0,none⟩) n cap, .int .i64 i, .int .i64 j] w fun e w'=>e= .returned (.slice (some ⟨g,0,none⟩) (n - (j - i)) cap)∧LD 9 w' base (.slice (some ⟨g,0,none⟩) (n - (j - i)) cap) (ts.take i++ts.drop j)∧w.grownBy w' (some g):=by
 obtain⟨cur,hh,hgb,hc1,hc2,hsz,htk,hn,hone⟩:=YM hR
 have mixed:Tryz.prog.follows .mixedOrders=true:=by kernel_rfl
 obtain⟨i0,hi0,hz0,hzs,hzb⟩:=info_parts (P:=Tryz.prog) (e:=9) (z:= .string (⟨#[]⟩:ByteArray)) (size:=1) (bytes:=16) (by kernel_rfl)
 have hm:cap≤9223372036854775807:=by unfold maxLen at hc2;omega
 obtain⟨news,hnews⟩:∃news,news=(ts.drop j).flatMap ck1:=⟨_,rfl⟩
 have hlen:news.length=(n - j)*1:=by rw [hnews,sS,List.length_drop,←hn]
 have hall:ts.flatMap ck1=(ts.take j).flatMap ck1++news:=by rw [hnews,←List.flatMap_append,List.take_append_drop]
 have hjl:((ts.take j).flatMap ck1).length=j*1:=by rw [sS,List.length_take];congr 1;omega
 have hget:∀q u,news[q]? =some u→w.cell? ⟨g,j+q,none⟩=some u:=by
  intro q u hq
  have kZ:=(List.getElem?_eq_some_iff.1 hq).1
  have h1:(ts.flatMap ck1)[j*1+q]? =some u:=by
   rw [hall,List.getElem?_append_right (by rw [hjl];omega),hjl,Nat.add_sub_cancel_left]
   exact hq
  rw [←htk,List.getElem?_take] at h1
  split at h1
  ·rw [cell_of_row w g _ cur 9 (0,0) hh];simpa using h1
  ·cases h1
 obtain⟨A,hA,hsrc⟩:∃A:Addr,(if cap=j then some (⟨g,0,none⟩:Addr) else some ⟨g,j,none⟩)=some A∧Hid (∀t u,news[t]? =some u→w.drew.cell? (A.add t)=some u):=by
  by_cases h:cap=j
  ·refine⟨⟨g,0,none⟩,by simp [h],fun t u hu=>?_⟩
   have h0:news.length=0:=by
    have:n - j=0:=by omega
    rw [hlen,this,Nat.zero_mul]
   rw [List.length_eq_zero_iff.1 h0] at hu
   simp at hu
  ·refine⟨⟨g,j,none⟩,by simp [h],fun t u hu=>?_⟩
   rw [Addr.add_lit]
   exact hget t u hu
 have s1:Hid (news.length=(n - j)*1):=hlen
 have s2:Hid (∀u∈news,u.oneCell'=true):=by
  intro u hu
  rw [hnews] at hu
  obtain⟨x,hx,hu⟩:=List.mem_flatMap.1 hu
  exact hone x (List.mem_of_mem_drop hx) u hu
 have hfz:∀q,w.frozen? ⟨g,q,none⟩=false:=fun q=>kK hh q
 have s3:Hid (∀t,t<news.length→(w.drew.cell? ⟨g,0+i*1+t,none⟩).isSome=true∧w.drew.frozen? ⟨g,0+i*1+t,none⟩=false):=by
  intro t ht
  rw [hlen] at ht
  refine⟨?_,hfz _⟩
  show(w.cell? _).isSome=true
  rw [cell_of_row w g _ cur 9 (0,0) hh,Array.getElem?_eq_getElem (by omega)]
  rfl
 obtain⟨W1,hW1⟩:∃W1,W1=w.drew.setCells g (0+i*1) news:=⟨_,rfl⟩
 obtain⟨c1,a1,a2,a3,a4,a5⟩:=oP (W:=w.drew) (o:=0+i*1) (vs:=news) hh (by rw [hlen,hsz];omega)
 rw [←hW1] at a1
 have hcl:∀ty,(Builtin.clear_ #[22] ty #[.slice (some ⟨g,i+(n - j),none⟩) (n - (i+(n - j))) (cap - (i+(n - j)))]).run Tryz.prog W1= .ok (.tuple #[]) (W1.setCells g (i+(n - j)) (Builtin.zeroCells (Value.cells (.string (⟨#[]⟩:ByteArray))) (n - (i+(n - j)))).toList):=fun ty=>
  qY W1 22 9 ty (.string (⟨#[]⟩:ByteArray)) Tryz.underlying22 (fun _=>by kernel_rfl) (by decide) g (i+(n - j)) (n - (i+(n - j))) _ (by decide) (by omega)
   (fun q hq=>by rw [cell_of_row W1 g _ c1 9 (0,0) a1,Array.getElem?_eq_getElem (by simp [Value.cells] at hq;omega)];rfl) (fun q hq=>kK a1 _)
 have hzl:(Builtin.zeroCells (Value.cells (.string (⟨#[]⟩:ByteArray))) (n - (i+(n - j)))).toList.length=(n - (i+(n - j)))*1:=by rw [Array.length_toList];exact abR _ _
 generalize (Builtin.zeroCells (Value.cells (.string (⟨#[]⟩:ByteArray))) (n - (i+(n - j)))).toList=zs at hcl hzl
 have hic:i≤cap:=by omega
 have hjc:j≤cap:=by omega
 have aei:i≤j:=by omega
 have hne:¬((i:Int)=(j:Int)):=by omega
 have HF:Aside0 (LD 9 (W1.setCells g (i+(n - j)) zs) base (.slice (some ⟨g,0,none⟩) (n - (j - i)) cap) (ts.take i++ts.drop j)):=by
  obtain⟨c2,b1,b2,b3,b4,b5⟩:=oP (W:=W1) (o:=i+(n - j)) (vs:=zs) a1 (by rw [hzl,a2,hsz];omega)
  have hl:(ts.take i++ts.drop j).length=n - (j - i):=by rw [List.length_append,List.length_take,List.length_drop];omega
  have hti:((ts.take i).flatMap ck1).length=i*1:=by rw [sS,List.length_take];congr 1;omega
  have:=YN (e:=9) (base:=base) (cap:=cap) (ts:=ts.take i++ts.drop j) b1 hgb (by rw [hl];omega) hc2 (by rw [b2,a2,hsz]) (by
   rw [hl,List.flatMap_append,←hnews,show(n - (j - i))*1=i+(n - j) by omega,b3,show i+(n - j)=(0+i*1)+news.length by rw [hlen];omega,List.take_add,a3,a4,Nat.zero_add]
   congr 1
   rw [←Uw,←htk,List.take_take,Nat.min_eq_left (by omega)]) (fun c hc=>hone c (by
    rcases List.mem_append.1 hc with h | h
    ·exact List.mem_of_mem_take h
    ·exact List.mem_of_mem_drop h))
  rw [hl] at this
  exact⟨this⟩
 have HG:Aside0 (w.grownBy (W1.setCells g (i+(n - j)) zs) (some g)):=by
  have q1:w.grownBy W1 (some g):=by
   have:=lC w.drew g (0+i*1) news
   rw [←hW1] at this
   exact⟨this.os,this.tape,this.output,this.size,this.block⟩
  exact⟨World.grownBy.andThen q1 (lC _ g _ _) (fun q hq=> .inr hq)⟩
 have hW:Hid (W1=w.drew.setCells g (0+i*1) news):=hW1
 clear hW1 hh hgb hsz htk hn hone hnews hlen hall hjl hget a1 a2 a3 a4 a5 hzl hR hfz
 go_enter Tryz.func173,Tryz.ntmps173
 go_wp2_with fail
 go_region_law_o (refine step_append_room rfl (.tmp 22) (.tmp 25) 22 rfl 9 i0 1 Tryz.underlying22 hi0 hzs g 0 i cap (by simp [Act.eval,Act.put]) A (n - j) (cap - j) news (by simp [Act.eval,Act.put]) s1.out hsrc.out s2.out (by omega) s3.out ?_;rw [←hW.out])
 go_wp2
 go_ret
 exact⟨by rw [show n - (j - i)=i+(n - j) by omega];rfl,HF.out,HG.out⟩
set_option maxHeartbeats 4000000 in
set_option maxRecDepth 100000 in
theorem aaO.calls (ts:List jZ) (g n cap i j base:Nat) (w:World) (hR:nN 31 w base (.slice (some ⟨g,0,none⟩) n cap) ts) (hij:i<j) (hj:j≤n):
  Calls Tryz.prog 174 #[.slice (some ⟨g,0,none⟩) n cap, .int .i64 i, .int .i64 j] w fun e w'=>e= .returned (.slice (some ⟨g,0,none⟩) (n - (j - i)) cap)∧nN 31 w' base (.slice (some ⟨g,0,none⟩) (n - (j - i)) cap) (ts.take i++ts.drop j)∧w.grownBy w' (some g):=by
 obtain⟨cur,hh,hgb,hc1,hc2,hsz,htk,hn,hone⟩:=OI hR
 have mixed:Tryz.prog.follows .mixedOrders=true:=by kernel_rfl
 obtain⟨i0,hi0,hz0,hzs,hzb⟩:=info_parts (P:=Tryz.prog) (e:=31) (z:= .agg #[.slice none 0 0, .slice none 0 0, .slice none 0 0]) (size:=3) (bytes:=72) (by kernel_rfl)
 have hm:cap≤9223372036854775807:=by unfold maxLen at hc2;omega
 obtain⟨news,hnews⟩:∃news,news=(ts.drop j).flatMap gY:=⟨_,rfl⟩
 have hlen:news.length=(n - j)*3:=by rw [hnews,sQ,List.length_drop,←hn]
 have hall:ts.flatMap gY=(ts.take j).flatMap gY++news:=by rw [hnews,←List.flatMap_append,List.take_append_drop]
 have hjl:((ts.take j).flatMap gY).length=j*3:=by rw [sQ,List.length_take];congr 1;omega
 have hget:∀q u,news[q]? =some u→w.cell? ⟨g,j*3+q,none⟩=some u:=by
  intro q u hq
  have kZ:=(List.getElem?_eq_some_iff.1 hq).1
  have h1:(ts.flatMap gY)[j*3+q]? =some u:=by
   rw [hall,List.getElem?_append_right (by rw [hjl];omega),hjl,Nat.add_sub_cancel_left]
   exact hq
  rw [←htk,List.getElem?_take] at h1
  split at h1
  ·rw [cell_of_row w g _ cur 31 (0,0) hh];simpa using h1
  ·cases h1
 obtain⟨A,hA,hsrc⟩:∃A:Addr,(if cap=j then some (⟨g,0,none⟩:Addr) else some ⟨g,j*3,none⟩)=some A∧Hid (∀t u,news[t]? =some u→w.drew.cell? (A.add t)=some u):=by
  by_cases h:cap=j
  ·refine⟨⟨g,0,none⟩,by simp [h],fun t u hu=>?_⟩
   have h0:news.length=0:=by
    have:n - j=0:=by omega
    rw [hlen,this,Nat.zero_mul]
   rw [List.length_eq_zero_iff.1 h0] at hu
   simp at hu
  ·refine⟨⟨g,j*3,none⟩,by simp [h],fun t u hu=>?_⟩
   rw [Addr.add_lit]
   exact hget t u hu
 have s1:Hid (news.length=(n - j)*3):=hlen
 have s2:Hid (∀u∈news,u.oneCell'=true):=by
  intro u hu
  rw [hnews] at hu
  obtain⟨x,hx,hu⟩:=List.mem_flatMap.1 hu
  exact hone x (List.mem_of_mem_drop hx) u hu
 have hfz:∀q,w.frozen? ⟨g,q,none⟩=false:=fun q=>kK hh q
 have s3:Hid (∀t,t<news.length→(w.drew.cell? ⟨g,0+i*3+t,none⟩).isSome=true∧w.drew.frozen? ⟨g,0+i*3+t,none⟩=false):=by
  intro t ht
  rw [hlen] at ht
  refine⟨?_,hfz _⟩
  show(w.cell? _).isSome=true
  rw [cell_of_row w g _ cur 31 (0,0) hh,Array.getElem?_eq_getElem (by omega)]
  rfl
 obtain⟨W1,hW1⟩:∃W1,W1=w.drew.setCells g (0+i*3) news:=⟨_,rfl⟩
 obtain⟨c1,a1,a2,a3,a4,a5⟩:=oP (W:=w.drew) (o:=0+i*3) (vs:=news) hh (by rw [hlen,hsz];omega)
 rw [←hW1] at a1
 have hcl:∀ty,(Builtin.clear_ #[28] ty #[.slice (some ⟨g,(i+(n - j))*3,none⟩) (n - (i+(n - j))) (cap - (i+(n - j)))]).run Tryz.prog W1= .ok (.tuple #[]) (W1.setCells g ((i+(n - j))*3) (Builtin.zeroCells (Value.cells (.agg #[.slice none 0 0, .slice none 0 0, .slice none 0 0])) (n - (i+(n - j)))).toList):=fun ty=>
  qY W1 28 31 ty (.agg #[.slice none 0 0, .slice none 0 0, .slice none 0 0]) Tryz.underlying28 (fun _=>by kernel_rfl) (by decide) g ((i+(n - j))*3) (n - (i+(n - j))) _ (by decide) (by omega)
   (fun q hq=>by rw [cell_of_row W1 g _ c1 31 (0,0) a1,Array.getElem?_eq_getElem (by simp [Value.cells] at hq;omega)];rfl) (fun q hq=>kK a1 _)
 have hzl:(Builtin.zeroCells (Value.cells (.agg #[.slice none 0 0, .slice none 0 0, .slice none 0 0])) (n - (i+(n - j)))).toList.length=(n - (i+(n - j)))*3:=by rw [Array.length_toList];exact WE _ _ _ _
 generalize (Builtin.zeroCells (Value.cells (.agg #[.slice none 0 0, .slice none 0 0, .slice none 0 0])) (n - (i+(n - j)))).toList=zs at hcl hzl
 have hic:i≤cap:=by omega
 have hjc:j≤cap:=by omega
 have aei:i≤j:=by omega
 have hne:¬((i:Int)=(j:Int)):=by omega
 have HF:Aside0 (nN 31 (W1.setCells g ((i+(n - j))*3) zs) base (.slice (some ⟨g,0,none⟩) (n - (j - i)) cap) (ts.take i++ts.drop j)):=by
  obtain⟨c2,b1,b2,b3,b4,b5⟩:=oP (W:=W1) (o:=(i+(n - j))*3) (vs:=zs) a1 (by rw [hzl,a2,hsz];omega)
  have hl:(ts.take i++ts.drop j).length=n - (j - i):=by rw [List.length_append,List.length_take,List.length_drop];omega
  have hti:((ts.take i).flatMap gY).length=i*3:=by rw [sQ,List.length_take];congr 1;omega
  have:=OJ (e:=31) (base:=base) (cap:=cap) (ts:=ts.take i++ts.drop j) b1 hgb (by rw [hl];omega) hc2 (by rw [b2,a2,hsz]) (by
   rw [hl,List.flatMap_append,←hnews,show(n - (j - i))*3=(i+(n - j))*3 by congr 1;omega,b3,show(i+(n - j))*3=(0+i*3)+news.length by rw [hlen,Nat.add_mul];omega,List.take_add,a3,a4,Nat.zero_add]
   congr 1
   rw [←Hr,←htk,List.take_take,Nat.min_eq_left (by omega)]) (fun c hc=>hone c (by
    rcases List.mem_append.1 hc with h | h
    ·exact List.mem_of_mem_take h
    ·exact List.mem_of_mem_drop h))
  rw [hl] at this
  exact⟨this⟩
 have HG:Aside0 (w.grownBy (W1.setCells g ((i+(n - j))*3) zs) (some g)):=by
  have q1:w.grownBy W1 (some g):=by
   have:=lC w.drew g (0+i*3) news
   rw [←hW1] at this
   exact⟨this.os,this.tape,this.output,this.size,this.block⟩
  exact⟨World.grownBy.andThen q1 (lC _ g _ _) (fun q hq=> .inr hq)⟩
 have hW:Hid (W1=w.drew.setCells g (0+i*3) news):=hW1
 clear hW1 hh hgb hsz htk hn hone hnews hlen hall hjl hget a1 a2 a3 a4 a5 hzl hR hfz
 go_enter Tryz.func174,Tryz.ntmps174
 go_wp2_with fail
 go_region_law_o (refine step_append_room rfl (.tmp 22) (.tmp 25) 28 rfl 31 i0 3 Tryz.underlying28 hi0 hzs g 0 i cap (by simp [Act.eval,Act.put]) A (n - j) (cap - j) news (by simp [Act.eval,Act.put]) s1.out hsrc.out s2.out (by omega) s3.out ?_;rw [←hW.out])
 go_wp2
 go_ret
 exact⟨by rw [show n - (j - i)=i+(n - j) by omega];rfl,HF.out,HG.out⟩
end Go.Proofs.YtcnfgfomholheaaGreatDoor.Q
end
section
namespace Go.Proofs.YtcnfgfomholheaaGreatDoor.Q
open Go.RowKit Go.Proofs.YtcnfgfomholheaaGreatDoor.X Go.Proofs.YtcnfgfomholheaaGreatDoorW.PrintWords Go.Proofs.YtcnfgfomholheaaGreatDoorW.PrintLast Go.Proofs.YtcnfgfomholheaaGreatDoorW.PrintMore
open Go.Proofs.YtcnfgfomholheaaGreatDoor.Z (V El ck Ow Fam row_part row_in ow_open CallWOb)
set_option linter.unusedVariables false
set_option linter.unusedSimpArgs false
end Go.Proofs.YtcnfgfomholheaaGreatDoor.Q
end
section
namespace Go.Proofs.YtcnfgfomholheaaGreatDoor.Q
open Go.RowKit Go.Proofs.YtcnfgfomholheaaGreatDoor.X Go.Proofs.YtcnfgfomholheaaGreatDoorW.PrintWords Go.Proofs.YtcnfgfomholheaaGreatDoorW.PrintLast Go.Proofs.YtcnfgfomholheaaGreatDoorW.PrintMore
open Go.Proofs.YtcnfgfomholheaaGreatDoor.Z (V El ck Ow Fam row_part row_in ow_open CallWOb)
set_option linter.unusedVariables false
set_option linter.unusedSimpArgs false
end Go.Proofs.YtcnfgfomholheaaGreatDoor.Q
end
section
namespace Go.Proofs.YtcnfgfomholheaaGreatDoor.Q
open Go.RowKit Go.Proofs.YtcnfgfomholheaaGreatDoor.X Go.Proofs.YtcnfgfomholheaaGreatDoorW.PrintWords Go.Proofs.YtcnfgfomholheaaGreatDoorW.PrintLast Go.Proofs.YtcnfgfomholheaaGreatDoorW.PrintMore
open Go.Proofs.YtcnfgfomholheaaGreatDoor.Z (V El ck Ow Fam row_part row_in ow_open CallWOb)
set_option linter.unusedVariables false
set_option linter.unusedSimpArgs false
theorem Ub (l:List SS) (t:ByteArray):CallWOb T Tryz.prog 203 [.c (.gv eS l), .c (.fn 204 9 [.string t])] (.c (.ow eS (l.filter fun s=>!(s.f0.toList==t.toList)))):=by
 refine⟨⟨_,Tryz.func203,by kernel_rfl,by kernel_rfl⟩,fun w vs S Fw ev V _ _ hFw hap OM hargs=>?_⟩
 obtain⟨v,r,rfl,⟨hv,hO⟩,v2,r2,rfl,⟨B,rfl,hSB,hB⟩,rfl⟩:=hargs
 obtain⟨els,G,h0,h1,h2,h3,h4,h5⟩:=ow_open hO
 obtain⟨hR,hof⟩:=Sj (sz:=T.sz) rfl h2 h3
 obtain⟨A,n,cap,rfl⟩:∃A n cap,v= .slice A n cap:=by
  rcases hO.form with ⟨_,h⟩ | ⟨g,cap,cur,h,_⟩
  ·exact⟨_,_,_,h⟩
  ·exact⟨_,_,_,h⟩
 have hlen:∀t∈els,t.2.2.length=3:=fun t ht=>(h2.el t ht).2.1
 have abS:∀(j:Nat) (t:El) (s:SS),els[j]? =some t→l[j]? =some s→(lD t).2.1= .string s.f0:=fun j t s ht hs=>by
  have hx:t.2.1=T.enc eS s:=Z.abT (T:=T) (e:=eS) h0 ht hs
  obtain⟨u,h6,h7⟩:=(h2.el t (List.mem_of_getElem? ht)).2.2 0 (.sc (.string s.f0)) (by rw [hx];rfl)
  cases h7
  show t.2.2.getD 0 undef=_
  rw [List.getD_eq_getElem?_getD,h6];rfl
 have hstr:∀c∈els.map lD,∃s,c.2.1=Value.string s:=fun c hc=>by
  obtain⟨t,ht,rfl⟩:=List.mem_map.1 hc
  obtain⟨j,hj⟩:=List.getElem?_of_mem ht
  have hl:els.length=l.length:=Z.JL (T:=T) (e:=eS) h0
  have hjl:=(List.getElem?_eq_some_iff.1 hj).1
  exact⟨_,abS j t _ hj (List.getElem?_eq_getElem (by omega))⟩
 have hcell:w.cell? ⟨B,0,none⟩=some (.string t):=by rw [cell_of_row w B 0 _ _ _ hB];rfl
 have hne:∀ad,A=some ad→ad.block≠B:=fun ad ha e=>OM 0 B (h5 B (by rw [ha,←e];rfl)).1 hSB
 refine(Uy.calls B t (els.map lD) hstr A n cap 0 w hR hcell hne).mono ?_
 rintro e w' ⟨m,rfl,hR',hG⟩
 have hr':=Sl (sz:=T.sz) rfl hR'
 have hsub:(((els.map lD).filter (kp t)).map yg).Sublist els:=by
  have:=(List.filter_sublist (p:=kp t) (l:=els.map lD)).map yg
  rwa [hof] at this
 have LG:=row_part h0 h1 h2 h4 h5 hr' hsub hG (by cases A<;>rfl)
 have he:(((els.map lD).filter (kp t)).map yg).map (·.2.1)=(l.filter fun s=>!(s.f0.toList==t.toList)).map (T.enc eS):=by
  have e1:((els.map lD).filter (kp t)).map yg=els.filter (kp t ∘ lD):=by
   rw [List.filter_map,List.map_map]
   exact(List.map_congr_left (fun a ha=>Hu (hlen a (List.mem_filter.1 ha).1))).trans (List.map_id _)
  rw [e1]
  refine Z.Hy (f:=T.enc eS) (g:=fun t:El=>t.2.1) (p:=kp t ∘ lD) (q:=fun s:SS=>!(s.f0.toList==t.toList)) h0 (fun j t' s ht hs=>?_)
  show(!JJ t (lD t').2.1)=_
  rw [abS j t' s ht hs]
  rfl
 rw [he] at LG
 exact Z.JM LG (fun k hk=> .inr ⟨0,hk.1⟩) hG (fun g hg=>⟨0,(h5 g hg).1⟩) (by intro S;trivial)
theorem aef (l:List ByteArray) (i j:Nat) (hij:i<j) (hj:j≤l.length):CallWOb T Tryz.prog 173 [.c (.gv 9 l), .c (.c (.sc (.int .i64 (i:Int)))), .c (.c (.sc (.int .i64 (j:Int))))] (.c (.ow 9 (l.take i++l.drop j))):=by
 refine⟨⟨_,Tryz.func173,by kernel_rfl,by kernel_rfl⟩,fun w vs S Fw ev V _ _ hFw hap OM hargs=>?_⟩
 obtain⟨v,r,rfl,⟨hv,hO⟩,v2,r2,rfl,⟨rfl,_⟩,v3,r3,rfl,⟨rfl,_⟩,rfl⟩:=hargs
 obtain⟨els,G,h0,h1,h2,h3,h4,h5⟩:=ow_open hO
 obtain⟨hR,hof⟩:=aaL (sz:=T.sz) rfl h2 h3
 have hl:els.length=l.length:=Z.JL (T:=T) (e:=9) h0
 obtain⟨g,n,cap,rfl,hn⟩:∃g n cap,v= .slice (some ⟨g,0,none⟩) n cap∧n=l.length:=by
  obtain⟨A,cap,h,h'⟩:=Z.LH (T:=T) (e:=9) (l:=l) hO
  obtain⟨g,rfl⟩:=h' (Nat.lt_of_lt_of_le (Nat.lt_of_le_of_lt (Nat.zero_le _) hij) hj)
  exact⟨g,_,cap,h,rfl⟩
 refine(aaN.calls (els.map yh) g n cap i j 0 w hR hij (by omega)).mono ?_
 rintro e w' ⟨rfl,hR',hG⟩
 have hr':=aaM (sz:=T.sz) rfl hR'
 have hm:((els.map yh).take i++(els.map yh).drop j).map JI=els.take i++els.drop j:=by rw [List.map_append,List.map_take,List.map_drop,hof]
 rw [hm] at hr'
 have hsub:(els.take i++els.drop j).Sublist els:=by
  have:=(List.drop_sublist_drop_left els (Nat.le_of_lt hij)).append_left (els.take i)
  rwa [List.take_append_drop] at this
 have LG:=row_part h0 h1 h2 h4 h5 hr' hsub hG rfl
 have he:(els.take i++els.drop j).map (·.2.1)=(l.take i++l.drop j).map (T.enc 9):=by
  refine(List.map_append).trans (Eq.trans ?_ (List.map_append).symm)
  rw [List.map_take,List.map_drop,h0]
  exact congr (congrArg _ List.map_take.symm) List.map_drop.symm
 rw [he] at LG
 exact Z.JM LG (fun k hk=> .inr ⟨0,hk.1⟩) hG (fun g hg=>⟨0,(h5 g hg).1⟩) (by intro S;trivial)
theorem aeg (l:List SN) (i j:Nat) (hij:i<j) (hj:j≤l.length):CallWOb T Tryz.prog 174 [.c (.gv eN l), .c (.c (.sc (.int .i64 (i:Int)))), .c (.c (.sc (.int .i64 (j:Int))))] (.c (.ow eN (l.take i++l.drop j))):=by
 refine⟨⟨_,Tryz.func174,by kernel_rfl,by kernel_rfl⟩,fun w vs S Fw ev V _ _ hFw hap OM hargs=>?_⟩
 obtain⟨v,r,rfl,⟨hv,hO⟩,v2,r2,rfl,⟨rfl,_⟩,v3,r3,rfl,⟨rfl,_⟩,rfl⟩:=hargs
 obtain⟨els,G,h0,h1,h2,h3,h4,h5⟩:=ow_open hO
 obtain⟨hR,hof⟩:=Sj (sz:=T.sz) rfl h2 h3
 have hl:els.length=l.length:=Z.JL (T:=T) (e:=eN) h0
 obtain⟨g,n,cap,rfl,hn⟩:∃g n cap,v= .slice (some ⟨g,0,none⟩) n cap∧n=l.length:=by
  obtain⟨A,cap,h,h'⟩:=Z.LH (T:=T) (e:=eN) (l:=l) hO
  obtain⟨g,rfl⟩:=h' (Nat.lt_of_lt_of_le (Nat.lt_of_le_of_lt (Nat.zero_le _) hij) hj)
  exact⟨g,_,cap,h,rfl⟩
 refine(aaO.calls (els.map lD) g n cap i j 0 w hR hij (by omega)).mono ?_
 rintro e w' ⟨rfl,hR',hG⟩
 have hr':=Sl (sz:=T.sz) rfl hR'
 have hm:((els.map lD).take i++(els.map lD).drop j).map yg=els.take i++els.drop j:=by rw [List.map_append,List.map_take,List.map_drop,hof]
 rw [hm] at hr'
 have hsub:(els.take i++els.drop j).Sublist els:=by
  have:=(List.drop_sublist_drop_left els (Nat.le_of_lt hij)).append_left (els.take i)
  rwa [List.take_append_drop] at this
 have LG:=row_part h0 h1 h2 h4 h5 hr' hsub hG rfl
 have he:(els.take i++els.drop j).map (·.2.1)=(l.take i++l.drop j).map (T.enc eN):=by
  refine(List.map_append).trans (Eq.trans ?_ (List.map_append).symm)
  rw [List.map_take,List.map_drop,h0]
  exact congr (congrArg _ List.map_take.symm) List.map_drop.symm
 rw [he] at LG
 exact Z.JM LG (fun k hk=> .inr ⟨0,hk.1⟩) hG (fun g hg=>⟨0,(h5 g hg).1⟩) (by intro S;trivial)
end Go.Proofs.YtcnfgfomholheaaGreatDoor.Q
end
