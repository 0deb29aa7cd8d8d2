/- Several texts of this claim in one (a claim holds at most 60 files). -/
import Derived.Test.YtcnfgfomholheaaGreatDoorZa
import Derived.Great.BuildSlice
import Derived.Laws.PanicsMore
import Derived.Lib.AppendStr
import Derived.Lib.ConvBytes
section
namespace Go.Proofs.YtcnfgfomholheaaGreatDoor.Z
open Go.RowKit
set_option linter.unusedVariables false
set_option linter.unusedSimpArgs false
theorem yF {α:Type}:∀(vs:List α) (k off:Nat) (cs:Array α),off+k+vs.length≤cs.size→((vs.zipIdx k).foldl (fun cs (x:α × Nat)=>cs.setIfInBounds (off+x.2) x.1) cs).toList=splice cs.toList (off+k) vs
 | [],k,off,cs,h=>by simp [splice]
 | v::vs,k,off,cs,h=>by
   simp only [List.length_cons] at h
   rw [List.zipIdx_cons,List.foldl_cons,yF vs (k+1) off _ (by simp;omega)]
   apply List.ext_getElem?
   intro m
   have h1:(off+(k+1))+vs.length≤(cs.setIfInBounds (off+k) v).toList.length:=by simp;omega
   have h2:off+k+(v::vs).length≤cs.toList.length:=by simp;omega
   rw [gq h1,gq h2]
   simp only [Array.toList_setIfInBounds,List.getElem?_set,List.length_cons]
   by_cases e1:m<off+k
   ·rw [if_pos (by omega),if_neg (by omega),if_pos e1]
   ·by_cases e2:m=off+k
    ·subst e2
     rw [if_pos (by omega),if_pos rfl,if_pos (by simp;omega),if_neg (by omega),if_pos (by omega)]
     simp
    ·rw [if_neg (by omega),if_neg e1]
     by_cases e3:m<off+(k+1)+vs.length
     ·rw [if_pos e3,if_pos (by omega)]
      rw [show m - (off+k)=(m - (off+(k+1)))+1 by omega,List.getElem?_cons_succ]
     ·rw [if_neg e3,if_neg (by omega),if_neg (by omega)]
section
variable {T:dX} {P:Program} {W0:Fr} {σ σ' σ1:St T} {a:Act} {w w1:World} {env bD:Nat→Value} {F F1:Nat→Nat→Prop} {o:Oper} {bF bH:List Nat}
def IX (jh:List (Nat × Nat)) (cs:List (Cell T)):List (Nat × List (Cell T))→Option (List (Cell T))
 | []=>some cs
 | (i,vs)::r=>match nth jh i with
   | some (off,sz)=>match Nat.beq vs.length sz with
     | true=>match Nat.ble (off+vs.length) cs.length with
       | true=>IX jh (splice cs off vs) r
       | false=>none
     | false=>none
   | none=>none
def zk (σ:St T):List (Nat × Operand)→Option (List (Nat × List (Cell T)))
 | []=>some []
 | (i,x)::r=>match cellsS (dn σ x) with
   | some vs=>match zk σ r with
     | some l=>some ((i,vs)::l)
     | none=>none
   | none=>none
theorem O5 {jh:List (Nat × Nat)} {f:Operand→Value}:∀{ps:List (Nat × Operand)} {l:List (Nat × List (Cell T))} {cs cs':List (Cell T)} {arr:Array Value},aY σ env F w cs arr.toList→zk σ1 ps=some l→(∀p∈ps,∀vs,cellsS (dn σ1 p.2)=some vs→aY σ env F w vs (f p.2).cells.toList)→IX jh cs l=some cs'→
  ∃arr',Instr.fill (jh.toArray[·]?) arr (ps.map fun p=>(p.1,f p.2))=some arr'∧aY σ env F w cs' arr'.toList
 | [],l,cs,cs',arr,hc,hp,hv,hf=>by
   cases hp
   cases hf
   exact⟨arr,rfl,hc⟩
 | (i,x)::ps,l,cs,cs',arr,hc,hp,hv,hf=>by
   unfold zk at hp
   cases h1:cellsS (dn σ1 x) with
   | none=>rw [h1] at hp;cases hp
   | some vs=>
     rw [h1] at hp
     dsimp only at hp
     cases h2:zk σ1 ps with
     | none=>rw [h2] at hp;cases hp
     | some l'=>
       rw [h2] at hp
       cases hp
       unfold IX at hf
       cases h3:nth jh i with
       | none=>rw [h3] at hf;cases hf
       | some os=>
         obtain⟨off,sz⟩:=os
         rw [h3] at hf
         dsimp only at hf
         cases h4:Nat.beq vs.length sz<;>rw [h4] at hf<;>dsimp only at hf
         ·cases hf
         cases h5:Nat.ble (off+vs.length) cs.length<;>rw [h5] at hf<;>dsimp only at hf
         ·cases hf
         have h4:=Nat.eq_of_beq_eq_true h4
         have h5:=Nat.le_of_ble_eq_true h5
         have hcv:=hv (i,x) (by simp) vs h1
         have hl1:=jq hcv
         have hl2:=jq hc
         simp only [Array.length_toList] at hl1 hl2
         have hfold:=yF (f x).cells.toList 0 off arr (by simp;omega)
         rw [Nat.add_zero] at hfold
         have hsp:aY σ env F w (splice cs off vs) (splice arr.toList off (f x).cells.toList):=by
          unfold splice
          rw [show(f x).cells.toList.length=vs.length from by simp [hl1]]
          exact lF (lF (rH off hc) hcv) (rJ _ hc)
         have hz:((f x).cells.zipIdx.foldl (fun cs (x:Value × Nat)=>cs.setIfInBounds (off+x.2) x.1) arr).toList=splice arr.toList off (f x).cells.toList:=by
          rw [←hfold,←Array.foldl_toList,Array.toList_zipIdx]
         obtain⟨arr',g1,g2⟩:=O5 (ps:=ps) (arr:=(f x).cells.zipIdx.foldl (fun cs (x:Value × Nat)=>cs.setIfInBounds (off+x.2) x.1) arr) (by rw [hz];exact hsp) h2 (fun p hp=>hv p (List.mem_cons_of_mem _ hp)) hf
         refine⟨arr',?_,g2⟩
         have h6:jh.toArray[i]? =some (off,sz):=by simpa using yY h3
         simp only [List.map_cons,Instr.fill,h6]
         rw [if_neg (by simp;omega)]
         exact g1
def Et (σ:St T) (dst:Option Nat) (t:Nat) (parts:Array (Nat × Operand)):eX T:=
 match T.ti t with
 | some i=>match i.kind with
   | .str jh=>match pO i.zero with
     | true=>match zk σ parts.toList with
       | some l=>match IX jh (SA i.zero) l with
         | some cs=>match bQ σ dst with
           | true=> .done ⟨.ag cs,[],refsOf cs,0,[]⟩ none
           | false=> .stuck
         | none=> .stuck
       | none=> .stuck
     | false=> .stuck
   | _=> .stuck
 | none=> .stuck
theorem Ux {t:Nat} {parts:Array (Nat × Operand)} (ho:o.op= .build t parts) {v:Value} (h:(Instr.build t (parts.map fun(i,x)=>(i,a.eval x))).run P w= .ok v w):(execOp a.eval o).run P w= .ok (.value v) w:=by
 unfold execOp;rw [ho];simp only [Sem.run_bind,h];rfl
theorem Uf (hT:T.ok P) {t:Nat} {parts:Array (Nat × Operand)} {U:bI T} {ob:Option Prop} (ho:o.op= .build t parts) (h:Et σ o.dst t parts= .done U ob):eH P W0 o σ U:=by
 unfold Et at h
 cases hi:T.ti t with
 | none=>rw [hi] at h;cases h
 | some i=>
   rw [hi] at h
   dsimp only at h
   split at h
   ·rename_i jh hk
    cases ha:pO i.zero<;>rw [ha] at h<;>dsimp only at h
    ·cases h
    cases hp:zk σ parts.toList with
    | none=>rw [hp] at h;cases h
    | some l=>
      rw [hp] at h
      dsimp only at h
      cases hf:IX jh (SA i.zero) l with
      | none=>rw [hf] at h;cases h
      | some cs=>
        rw [hf] at h
        dsimp only at h
        cases hd:bQ σ o.dst<;>rw [hd] at h<;>cases h
        refine quiet_step (bn hd) (fun σ' a w env F hA hS=>?_)
        obtain⟨inf,h1,h2,h3,⟨z,h4,h4'⟩,h5,h6,h7,h8⟩:=hT t i hi
        rw [hk] at h8
        obtain⟨fs,h9,h10,ab5⟩:=h8
        obtain⟨arr',g1,g2⟩:=O5 (σ:=σ') (env:=env) (F:=F) (w:=w) (arr:=i.zero.toArray) (f:=a.eval) (by simpa using EH ha) hp (fun p hpm vs hvs=>lG (bG hS hA (by rw [ho];simp only [Op.operands];exact List.mem_map.2 ⟨p,by simpa using hpm,rfl⟩<;>simp)) hvs) hf
        refine⟨.agg arr',Ux ho (run_build w t _ arr' ?_),⟨arr',rfl,g2⟩⟩
        unfold Program.built
        simp only [h1,h9,h4,h10,h4',Array.toList_map]
        exact g1
   ·cases h
end
end Go.Proofs.YtcnfgfomholheaaGreatDoor.Z
end
section
namespace Go.Proofs.YtcnfgfomholheaaGreatDoor.Z
open Go.RowKit
set_option linter.unusedVariables false
set_option linter.unusedSimpArgs false
section
variable {P:Program} {w:World}
theorem uM (t ty e:TypeId) (i:TypeInfo) (z:Value) (size bytes:Nat) (ht:P.underlying t=some (.slice e)) (hi:P.info? e=some i) (hz:i.zero=some z)
  (hsize:i.size=size) (hby:i.bytes=bytes) (hzs:z.cells.size=size) (hsz:0<size)
  (v:Value) (n:Nat) (xs:List Value) (hown:w.ownsRow 0 e size v n xs)
  (a:Addr) (m c:Nat) (news:List Value) (hl:news.length=m*size) (hnews:∀j u,news[j]? =some u→w.cell? (a.add j)=some u) (h1:∀u∈news,u.oneCell'=true)
  (h63:n+m≤maxLen) (hbytes:(n+m)*bytes≤140737488355328):
  ∃v' w',(Builtin.append_ #[t,t] ty #[v, .slice (some a) m c]).run P w= .ok v' w'∧w'.ownsRow 0 e size v' (n+m) (xs++news)∧w.grownBy w' v.ownBlock∧
   (∀g,v'.ownBlock=some g→v.ownBlock=some g∨g=w.heap.size):=by
 obtain⟨v',w',hr,ho,hg,hn⟩:=run_append_own (P:=P) w 0 t ty e i z size bytes ht hi hz hsize hby hzs hsz v n xs hown a m c news hl hnews h1 h63 hbytes (Nat.zero_le _)
 refine⟨v',w',hr,ho,hg,?_⟩
 intro g hgb
 subst hsize
 subst hby
 have hsmall:n+m≤9223372036854775807:=by simp only [maxLen] at h63;omega
 rcases hown.2 with ⟨rfl,rfl⟩ | ⟨g0,cap,cur,rfl,hbg,hg0,hnc,hcm,hcs,htake⟩
 ·by_cases hm:m=0
  ·have:=hn.2 ⟨rfl,hm⟩
   rw [this] at hgb;cases hgb
  ·have hr2:=run_append_nil (P:=P) w t ty e i z ht hi hz a m c news hl hnews (by omega) (by omega) (by have hb:=hbytes;simp only [Nat.zero_add] at hb;omega)
   rw [hr2] at hr
   simp only [Result.ok.injEq] at hr
   rw [←hr.1] at hgb
   simp [Value.ownBlock] at hgb
   exact .inr hgb.symm
 ·by_cases hroom:n+m≤cap
  ·have hfit:n*i.size+news.length≤cur.size:=by rw [hl,hcs,←Nat.add_mul];exact Nat.mul_le_mul_right _ hroom
   have hr2:=run_append_room (P:=P) w t ty e i ht hi g0 n cap cur hg0 a m c news hl hnews h1 hroom hfit
   rw [hr2] at hr
   simp only [Result.ok.injEq] at hr
   rw [←hr.1] at hgb
   exact .inl hgb
  ·have holds:∀j u,xs[j]? =some u→w.cell? ((⟨g0,0,none⟩:Addr).add j)=some u:=hown.cells (g:=g0) rfl
   have hr2:=run_append_grow (P:=P) w t ty e i z ht hi hz ⟨g0,0,none⟩ n cap xs hown.1 holds a m c news hl hnews (by omega) (by omega) (growslice_fits (by omega) hbytes)
   rw [hr2] at hr
   simp only [Result.ok.injEq] at hr
   rw [←hr.1] at hgb
   simp [Value.ownBlock] at hgb
   exact .inr hgb.symm
end
section
variable {sz:Nat→Nat} {w w':World} {F:Nat→Prop}
theorem sO {e:Nat} {xs:List (List V)} {v:Value} (h:Ow sz w F (.sl e xs) v):∃flat:List Value,w.ownsRow 0 e (sz e) v xs.length flat∧
  ∃(f:Nat→Nat→Value) (G:Nat→Nat→Nat→Prop),(∀(j:Nat) (l:List V),xs[j]? =some l→l.length=sz e)∧(∀(j:Nat) (l:List V) (q:Nat) (x:V),xs[j]? =some l→l[q]? =some x→flat[j*sz e+q]? =some (f j q)∧Ow sz w (G j q) x (f j q))∧
   (∀j q k,G j q k→F k∧some k≠v.ownBlock)∧(∀j q j' q' k,G j q k→G j' q' k→j=j'∧q=q')∧(∀g,v.ownBlock=some g→F g):=by
 cases h with
 | nil F e=>exact⟨[],World.ownsRow_nil w 0 e (sz e),fun _ _=>undef,fun _ _ _=>False,fun j l h=>by simp at h,fun j l q x h=>by simp at h,fun _ _ _ h=>h.elim,fun _ _ _ _ _ h=>h.elim,fun g h=>by cases h⟩
 | sl F e xs g cap cur f G hg hF hn hm hz hs hcell hr hG hd=>
   have hle:xs.length*sz e≤cap*sz e:=Nat.mul_le_mul_right _ hn
   refine⟨cur.toList.take (xs.length*sz e),⟨by simp;omega, .inr ⟨g,cap,cur,rfl,Nat.zero_le _,hg,hn,hm,hz,rfl⟩⟩,f,G,hs,fun j l q x hj hq=>⟨?_,hr j l q x hj hq⟩,fun j q k hk=>⟨(hG j q k hk).1,fun e=>(hG j q k hk).2 (by simpa [Value.ownBlock] using e)⟩,hd,fun g' h=>by simp [Value.ownBlock] at h;exact h▸hF⟩
   have hjl:j<xs.length:=(List.getElem?_eq_some_iff.1 hj).1
   have kH:q<sz e:=by rw [←hs j l hj];exact(List.getElem?_eq_some_iff.1 hq).1
   have:(j+1)*sz e≤xs.length*sz e:=Nat.mul_le_mul_right _ hjl
   rw [Nat.succ_mul] at this
   rw [List.getElem?_take_of_lt (by omega)]
   simpa using hcell j l q x hj hq
theorem EG {e:Nat} {xs:List (List V)} {v:Value} {flat:List Value} (h:w.ownsRow 0 e (sz e) v xs.length flat) (f:Nat→Nat→Value) (G:Nat→Nat→Nat→Prop) (hs:∀(j:Nat) (l:List V),xs[j]? =some l→l.length=sz e)
  (hc:∀(j:Nat) (l:List V) (q:Nat) (x:V),xs[j]? =some l→l[q]? =some x→flat[j*sz e+q]? =some (f j q)∧Ow sz w (G j q) x (f j q)) (hG:∀j q k,G j q k→F k∧some k≠v.ownBlock) (hd:∀j q j' q' k,G j q k→G j' q' k→j=j'∧q=q') (hF:∀g,v.ownBlock=some g→F g):Ow sz w F (.sl e xs) v:=by
 rcases h.2 with ⟨rfl,h0⟩ | ⟨g,cap,cur,rfl,_,hg,hn,hm,hz,htake⟩
 ·have:xs=[]:=List.eq_nil_of_length_eq_zero h0
  subst this
  exact .nil F e
 ·refine .sl F e xs g cap cur f G hg (hF g (by simp [Value.ownBlock])) hn hm hz hs (fun j l q x hj hq=>?_) (fun j l q x hj hq=>(hc j l q x hj hq).2) (fun j q k hk=>⟨(hG j q k hk).1,fun e=>(hG j q k hk).2 (by simp [Value.ownBlock,e])⟩) hd
  have h1:=(hc j l q x hj hq).1
  have hjl:j<xs.length:=(List.getElem?_eq_some_iff.1 hj).1
  have kH:q<sz e:=by rw [←hs j l hj];exact(List.getElem?_eq_some_iff.1 hq).1
  have:(j+1)*sz e≤xs.length*sz e:=Nat.mul_le_mul_right _ hjl
  rw [Nat.succ_mul] at this
  rw [←htake,List.getElem?_take_of_lt (by omega)] at h1
  simpa using h1
theorem xY {e:Nat} {xs ys:List (List V)} {v v':Value} (h:Ow sz w F (.sl e xs) v) {news:List Value} {fy:Nat→Nat→Value} {H:Nat→Nat→Nat→Prop} (hsy:∀(j:Nat) (l:List V),ys[j]? =some l→l.length=sz e)
  (hy:∀(j:Nat) (l:List V) (q:Nat) (x:V),ys[j]? =some l→l[q]? =some x→news[j*sz e+q]? =some (fy j q)∧Ow sz w (H j q) x (fy j q)) (hH:∀j q k,H j q k→¬F k) (hHd:∀j q j' q' k,H j q k→H j' q' k→j=j'∧q=q')
  (flat:List Value) (Z5:w.ownsRow 0 e (sz e) v xs.length flat) (ho:w'.ownsRow 0 e (sz e) v' (xs.length+ys.length) (flat++news)) (hg:w.grownBy w' v.ownBlock) (hb:∀g,v'.ownBlock=some g→v.ownBlock=some g∨g=w.heap.size):
  Ow sz w' (fun k=>F k∨(∃j q,H j q k)∨w.heap.size≤k∧k<w'.heap.size) (.sl e (xs++ys)) v':=by
 obtain⟨EJ,h1,f,G,h2,h3,h4,h5,h6⟩:=sO h.bound
 have hfl:EJ=flat:=by
  rcases h1.2 with ⟨rfl,h0⟩ | ⟨g,cap,cur,rfl,_,hg1,_,_,_,ht⟩
  ·have e1:=h1.1
   have e2:=Z5.1
   rw [h0] at e1 e2
   have a1:EJ=[]:=List.eq_nil_of_length_eq_zero (by simpa using e1)
   have a2:flat=[]:=List.eq_nil_of_length_eq_zero (by simpa using e2)
   rw [a1,a2]
  ·rcases Z5.2 with ⟨hc,_⟩ | ⟨g',cap',cur',hv,_,hg2,_,_,_,ht'⟩
   ·cases hc
   ·simp only [Value.slice.injEq,Option.some.injEq,Addr.mk.injEq,and_true,true_and] at hv
    obtain⟨rfl,rfl⟩:=hv
    rw [hg1] at hg2
    cases hg2
    rw [←ht,←ht']
 subst hfl
 have hvF:∀g,v.ownBlock=some g→F g∧g<w.heap.size:=h6
 have keep:∀{G0:Nat→Prop} {x:V} {u:Value},(∀k,G0 k→some k≠v.ownBlock)→Ow sz w G0 x u→Ow sz w' G0 x u:=fun hk ho=>ho.frame (fun k hg0 hl=>hg.block k hl (hk k hg0))
 have hHv:∀j q k,H j q k→some k≠v.ownBlock:=fun j q k hk e=>hH j q k hk (hvF k e.symm).1
 have hl1:(xs++ys).length=xs.length+ys.length:=by simp
 refine EG (flat:=EJ++news) (by rw [hl1];exact ho) (fun j q=>if j<xs.length then f j q else fy (j - xs.length) q) (fun j q k=>k<w.heap.size∧if j<xs.length then G j q k else H (j - xs.length) q k) ?_ ?_ ?_ ?_ ?_
 ·intro j l hj
  by_cases hjl:j<xs.length
  ·rw [List.getElem?_append_left hjl] at hj;exact h2 j l hj
  ·rw [List.getElem?_append_right (by omega)] at hj;exact hsy _ l hj
 ·intro j l q x hj hq
  by_cases hjl:j<xs.length
  ·rw [List.getElem?_append_left hjl] at hj
   obtain⟨g1,g2⟩:=h3 j l q x hj hq
   have hlt2:j*sz e+q<EJ.length:=(List.getElem?_eq_some_iff.1 g1).1
   refine⟨by rw [List.getElem?_append_left hlt2,if_pos hjl];exact g1,?_⟩
   rw [if_pos hjl]
   refine(keep (fun k hk=>(h4 j q k hk.1).2) (g2.bound.mono (F':=fun k=>G j q k∧k<w.heap.size) (fun k hk=>hk))).mono (fun k hk=>⟨hk.2,by rw [if_pos hjl];exact hk.1⟩)
  ·rw [List.getElem?_append_right (by omega)] at hj
   obtain⟨g1,g2⟩:=hy (j - xs.length) l q x hj hq
   have hfl:EJ.length=xs.length*sz e:=h1.1
   have hmul:j*sz e=xs.length*sz e+(j - xs.length)*sz e:=by rw [←Nat.add_mul];congr 1;omega
   refine⟨?_,?_⟩
   ·rw [List.getElem?_append_right (by omega),if_neg hjl]
    rw [show j*sz e+q - EJ.length=(j - xs.length)*sz e+q by omega]
    exact g1
   ·rw [if_neg hjl]
    refine(keep (fun k hk=>hHv _ _ k hk.1) g2.bound).mono (fun k hk=>⟨hk.2,by rw [if_neg hjl];exact hk.1⟩)
 ·rintro j q k ⟨hk0,hk⟩
  have hne:some k≠v.ownBlock∧(F k∨∃j q,H j q k):=by
   by_cases hjl:j<xs.length
   ·rw [if_pos hjl] at hk;exact⟨(h4 j q k hk).2, .inl (h4 j q k hk).1.1⟩
   ·rw [if_neg hjl] at hk;exact⟨hHv _ _ k hk, .inr ⟨_,_,hk⟩⟩
  refine⟨hne.2.elim .inl (fun h=> .inr (.inl h)),fun e=>?_⟩
  rcases hb k e.symm with h | h
  ·exact hne.1 h.symm
  ·omega
 ·rintro j q j' q' k ⟨_,hk⟩ ⟨_,hk'⟩
  by_cases hjl:j<xs.length
  ·rw [if_pos hjl] at hk
   by_cases O6:j'<xs.length
   ·rw [if_pos O6] at hk';exact h5 j q j' q' k hk hk'
   ·rw [if_neg O6] at hk';exact(hH _ _ k hk' (h4 j q k hk).1.1).elim
  ·rw [if_neg hjl] at hk
   by_cases O6:j'<xs.length
   ·rw [if_pos O6] at hk';exact(hH _ _ k hk (h4 j' q' k hk').1.1).elim
   ·rw [if_neg O6] at hk'
    have:=hHd _ _ _ _ k hk hk'
    exact⟨by omega,this.2⟩
 ·intro g hgb
  rcases hb g hgb with h | h
  ·exact .inl (hvF g h).1
  ·exact .inr (.inr ⟨by omega,(ho.lt g hgb).2⟩)
end
end Go.Proofs.YtcnfgfomholheaaGreatDoor.Z
end
section
namespace Go.Proofs.YtcnfgfomholheaaGreatDoor.Z
open Go.RowKit
set_option linter.unusedVariables false
set_option linter.unusedSimpArgs false
section
variable {T:dX} {P:Program} {W0:Fr} {σ σ' σ1:St T} {a:Act} {w w1:World} {env bD:Nat→Value} {F F1:Nat→Nat→Prop} {o:Oper} {bF bH:List Nat}
inductive OwV (T:dX) where
 | mk (e:Nat) (l:List (T.Tb e)) (r:List Nat)
def yG (σ:St T) (e:Nat):Slot T→Option (OwV T)
 | .c (.hd r)=>match σ.res r with
   | .row _ e l=>some ⟨e,l,[r]⟩
   | _=>none
 | .c (.sc (.slice none 0 0))=>some ⟨e,[],[]⟩
 | _=>none
theorem EK {ts:List Nat} (hS:eU W0 σ' a w env F) (hA:Agree σ σ' ts bF bH) {s:Slot T} {u:Value} (hs:bT σ' env F w s u) {e e':Nat} {l:List (T.Tb e')} {rs:List Nat} (h:yG σ e s=some ⟨e',l,rs⟩) (hr:∀r∈rs,r∈bF):
  Ow T.sz w (fun k=>∃r∈rs,F r k) (.sl e' (l.map (T.enc e'))) u∧(∀r∈rs,∃b e l,σ'.res r= .row b e l)∧rs.length≤1:=by
 unfold yG at h
 split at h
 ·rename_i r
  cases hq:σ.res r with
  | row b e1 l1=>
    rw [hq] at h
    cases h
    have h1:=hS.res r
    have h2:σ'.res r= .row b e' l:=by rw [hA.res r (hr r (by simp))];exact hq
    rw [h2] at h1
    refine⟨?_,fun q hqm=>⟨b,e',l,by simp at hqm;rw [hqm];exact h2⟩,by simp⟩
    rw [hs.1]
    exact Ow.mono (show Ow T.sz w (F r) (.sl e' (l.map (T.enc e'))) (env r) from h1) (fun k hk=>⟨r,by simp,hk⟩)
  | no=>rw [hq] at h;cases h
  | bx t cs=>rw [hq] at h;cases h
  | sh bv e l=>rw [hq] at h;cases h
  | hl e0 d0 j0 cs0 l0=>rw [hq] at h;cases h
 ·cases h
  have:=hs.1
  subst this
  exact⟨.nil _ _,fun r hr=>by simp at hr,by simp⟩
 ·cases h
theorem IY {t ty e:Nat} {i:TypeInfo} (ht:P.underlying t=some (.slice e)) (hi:P.info? e=some i) {v:Value} {n size:Nat} {xs:List Value} (hown:w.ownsRow 0 e size v n xs):
  (Builtin.append_ #[t,t] ty #[v, .slice none 0 0]).run P w= .ok v w:=by
 rcases hown.2 with ⟨rfl,rfl⟩ | ⟨g,cap,cur,rfl,_,hg,hnc,_⟩
 ·simp [Builtin.append_,run_underlying ht,sizeOf,typeInfo,hi,Builtin.lenOf,Builtin.firstCells]
 ·simp [Builtin.append_,run_underlying ht,sizeOf,typeInfo,hi,Builtin.lenOf,Builtin.firstCells,hnc,storeCells]
def Ac (σ:St T) (nx:Nat) (dst:Option Nat) (t:Nat) (x y:Operand):eX T:=
 match T.ti t with
 | some ti=>match ti.kind with
   | .slice e=>match T.ti e with
     | some ei=>match T.el e with
       | true=>match yG σ e (dn σ x) with
         | some ⟨e1,l1,r1⟩=>match yG σ e (dn σ y) with
           | some ⟨e2,l2,r2⟩=>match Nat.decEq e1 e,Nat.decEq e2 e with
             | .isTrue h1, .isTrue h2=>match kM (r1++r2) with
               | true=>match bQ σ dst with
                 | true=>match σ.fresh nx with
                   | true=> .done ⟨.c (.hd nx),(nx, .row nx e ((h1▸l1)++(h2▸l2)))::ji (r1++r2),nx::(r1++r2),1,nx::(r1++r2)⟩ (some (l1.length+l2.length≤maxLen∧(l1.length+l2.length)*ei.bytes≤140737488355328))
                   | false=> .stuck
                 | false=> .stuck
               | false=> .stuck
             | _,_=> .stuck
           | none=> .stuck
         | none=> .stuck
       | false=> .stuck
     | none=> .stuck
   | _=> .stuck
 | none=> .stuck
theorem WX {l m:List Nat} (h:kM (l++m)=true):∀a∈l,a∉m:=by
 induction l with
 | nil=>intro a ha;cases ha
 | cons b l ih=>
   rw [List.cons_append] at h
   unfold kM at h
   cases hb:jH b (l++m)<;>rw [hb] at h<;>dsimp only at h
   ·intro a ha hm
    rcases List.mem_cons.1 ha with rfl | ha
    ·have:a∈l++m:=List.mem_append_right _ hm
     rw [ig.2 this] at hb;cases hb
    ·exact ih h a ha hm
   ·cases h
theorem WY {t ty e:Nat} {ti ei:TI} (hT:T.ok P) (hti:T.ti t=some ti) (hk:ti.kind= .slice e) (dY:T.ti e=some ei) (hel:T.el e=true) {Fx Fy:Nat→Prop} {l1 l2:List (T.Tb e)} {v u:Value} (hx:Ow T.sz w Fx (.sl e (l1.map (T.enc e))) v) (hy:Ow T.sz w Fy (.sl e (l2.map (T.enc e))) u)
  (hxy:∀k,Fx k→¬Fy k) (hm:l1.length+l2.length≤maxLen) (hb:(l1.length+l2.length)*ei.bytes≤140737488355328):
  ∃v' w',(Builtin.append_ #[t,t] ty #[v,u]).run P w= .ok v' w'∧Ow T.sz w' (fun k=>(Fx k∨Fy k)∨w.heap.size≤k∧k<w'.heap.size) (.sl e ((l1++l2).map (T.enc e))) v'∧w.grownBy w' v.ownBlock∧(∀g,v.ownBlock=some g→Fx g):=by
 obtain⟨inf,t1,t2,t3,t4,t5,t6,t7,t8⟩:=hT t ti hti
 rw [hk] at t8
 obtain⟨inf',g1,g2,g3,⟨z,g4,g4'⟩,g5,g6,g7,_⟩:=hT e ei dY
 have hsz:T.sz e=ei.size:=kV dY
 obtain⟨fx,hfx,_,_,_,_,_,_,hxb⟩:=sO hx
 obtain⟨fyl,Z7,fy,G,hs2,hc2,hG2,hd2,_⟩:=sO hy
 rcases hy.form with ⟨h0,hu⟩ | ⟨g,cap,cur,hu,hFg,hg,hnc,hcm,hcs⟩
 ·have hl2:l2=[]:=by simpa using h0
  subst hl2
  subst hu
  refine⟨v,w,IY t8.1 g1 hfx,?_,⟨rfl,rfl,rfl,Nat.le_refl _,fun _ _ _=>rfl⟩,hxb⟩
  rw [List.append_nil]
  exact hx.mono (fun k hk=> .inl (.inl hk))
 ·have hone:∀c∈fyl,c.oneCell'=true:=by
   intro c hc
   obtain⟨i,hi,rfl⟩:=List.mem_iff_getElem.1 hc
   have hlen:=Z7.1
   simp only [List.length_map] at hlen
   have hpos:0<T.sz e:=by
    rcases Nat.eq_zero_or_pos (T.sz e) with h | h
    ·rw [h] at hlen;omega
    ·exact h
   have hj:i / T.sz e<l2.length:=(Nat.div_lt_iff_lt_mul hpos).2 (by omega)
   have hq:i % T.sz e<T.sz e:=Nat.mod_lt _ hpos
   have hlj:=hs2 (i / T.sz e) (T.enc e l2[i / T.sz e]) (by simp [hj])
   obtain⟨c1,c2⟩:=hc2 (i / T.sz e) (T.enc e l2[i / T.sz e]) (i % T.sz e) ((T.enc e l2[i / T.sz e])[i % T.sz e]'(by rw [hlj];exact hq)) (by simp [hj]) (by simp)
   rw [show i / T.sz e*T.sz e+i % T.sz e=i by rw [Nat.mul_comm];exact Nat.div_add_mod i _] at c1
   rw [List.getElem?_eq_getElem hi] at c1
   rw [Option.some.inj c1]
   exact c2.one
  simp only [List.length_map] at hu hnc hfx Z7
  subst hu
  obtain⟨v',w',r1,r2,r3,r4⟩:=uM (P:=P) (w:=w) t ty e inf' z (T.sz e) ei.bytes t8.1 g1 g4 (by rw [g2,hsz]) g3 (by rw [g4',hsz];simpa using g5) (by rw [hsz];exact g6) v l1.length fx hfx ⟨g,0,none⟩ l2.length cap fyl Z7.1 (Z7.cells rfl) hone hm hb
  refine⟨v',w',r1,?_,r3,hxb⟩
  have:=xY (xs:=l1.map (T.enc e)) (ys:=l2.map (T.enc e)) (news:=fyl) (fy:=fy) (H:=G) hx hs2 hc2 (fun j q k hk hF=>hxy k hF (hG2 j q k hk).1) hd2 fx (by simpa using hfx) (by simpa using r2) r3 r4
  rw [←List.map_append] at this
  exact this.mono (fun k hk=>by
   rcases hk with h | ⟨j,q,h⟩ | h
   ·exact .inl (.inl h)
   ·exact .inl (.inr (hG2 j q k h).1)
   ·exact .inr h)
theorem QS (hT:T.ok P) {nx t:Nat} {x y:Operand} {t1 t2:Nat} {U:bI T} {ob:Option Prop} (ho:o.op= .call {callee:= .builtin .append,args:=#[x,y],argTypes:=#[t,t]}) (h:Ac σ nx o.dst t x y= .done U ob) (hob:pG ob):eH P W0 o σ U:=by
 unfold Ac at h
 cases hi:T.ti t with
 | none=>rw [hi] at h;cases h
 | some ti=>
   rw [hi] at h
   dsimp only at h
   split at h
   ·rename_i e hk
    cases dY:T.ti e with
    | none=>rw [dY] at h;cases h
    | some ei=>
      rw [dY] at h
      dsimp only at h
      cases hel:T.el e<;>rw [hel] at h<;>dsimp only at h
      ·cases h
      cases hx:yG σ e (dn σ x) with
      | none=>rw [hx] at h;cases h
      | some ox=>
        obtain⟨e1,l1,r1⟩:=ox
        cases hy:yG σ e (dn σ y) with
        | none=>rw [hx,hy] at h;cases h
        | some oy=>
          obtain⟨e2,l2,r2⟩:=oy
          rw [hx,hy] at h
          dsimp only at h
          split at h
          ·rename_i h1 h2 _ _
           subst h1
           subst h2
           cases hnd:kM (r1++r2)<;>rw [hnd] at h<;>dsimp only at h
           ·cases h
           cases hd:bQ σ o.dst<;>rw [hd] at h<;>dsimp only at h
           ·cases h
           cases hf:σ.fresh nx<;>rw [hf] at h<;>cases h
           intro σ' a w K Q hA ⟨env,F,hS⟩ hK
           have e1':=bG hS hA (x:=x) (by simp [ho,Op.operands,Call.operands])
           have e2':=bG hS hA (x:=y) (by simp [ho,Op.operands,Call.operands])
           obtain⟨ox,Gt,_⟩:=EK hS hA e1' hx (fun r hr=>by simp [hr])
           obtain⟨oy,Kv,_⟩:=EK hS hA e2' hy (fun r hr=>by simp [hr])
           obtain⟨hu,hno⟩:=hA.new (r:=nx) (by simp) hf
           have hob:l1.length+l2.length≤maxLen∧(l1.length+l2.length)*ei.bytes≤140737488355328:=hob
           have hrow:∀r∈r1++r2,∃b e l,σ'.res r= .row b e l:=fun r hr=>(List.mem_append.1 hr).elim (Gt r) (Kv r)
           have hnr:nx∉r1++r2:=fun hm=>by obtain⟨b,e,l,h⟩:=hrow nx hm;rw [h] at hno;cases hno
           obtain⟨v',w',run,how,hgr,hbl⟩:=WY (ty:=o.type) hT hi hk dY hel ox oy (fun k ⟨r,hr,hk⟩ ⟨q,hq,hk'⟩=>by
            have:=hS.apart r q k hk hk'
            exact WX hnd r hr (this▸hq)) hob.1 hob.2
           refine jC (jQ (v:=v') (w':=w') ho (by simp [builtin,Sem.run_bind,run])) (hK _ _ ?_)
           let U1:bI T:=⟨.c (.hd nx),(nx, .row nx e2 (l1++l2))::ji (r1++r2),nx::(r1++r2),1,nx::(r1++r2)⟩
           let F1:Nat→Nat→Prop:=fun s k=>(s=nx∧(((∃r∈r1,F r k)∨∃r∈r2,F r k)∨w.heap.size≤k∧k<w'.heap.size))∨(s≠nx∧s∉r1++r2∧F s k)
           have IZ:(σ'.upd o.dst U1).res nx= .row nx e2 (l1++l2):=by rw [St.dP];simp [U1,lk]
           have gu:∀s,s∈r1++r2→(σ'.upd o.dst U1).res s= .no:=fun s hs=>by
            rw [St.dP]
            show lk _ ((nx,_)::ji (r1++r2)) s=_
            unfold lk
            rw [fD (k:=nx) (t:=s) (fun e=>hnr (by rw [e];exact hs))]
            exact oK hs
           have rM:∀s,s≠nx→s∉r1++r2→(σ'.upd o.dst U1).res s=σ'.res s:=fun s h1 h2=>by
            rw [St.dP]
            show lk _ ((nx,_)::ji (r1++r2)) s=_
            unfold lk
            rw [fD (k:=nx) (t:=s) (fun e=>h1 e.symm)]
            exact qA h2
           have afw:∀k,¬F nx k:=fun k hk=>by have:=hS.res nx;rw [hno] at this;exact this k hk
           have hF1:∀s k,F1 s k→k<w.heap.size→∃s',F s' k:=by
            rintro s k (⟨_,(⟨r,_,h⟩ | ⟨r,_,h⟩) | h⟩ | ⟨_,_,h⟩) hlt
            ·exact⟨_,h⟩
            ·exact⟨_,h⟩
            ·omega
            ·exact⟨_,h⟩
           have hv:∀k,(∀r,¬F r k)∨(∃s,s≠nx∧s∉r1++r2∧F s k)→some k≠Value.ownBlock (a.eval x):=by
            intro k h e
            obtain⟨r,hr,hk⟩:=hbl k e.symm
            rcases h with h | ⟨s,h1,h2,h3⟩
            ·exact h r hk
            ·have:=hS.apart s r k h3 hk
             exact h2 (this▸List.mem_append_left _ hr)
           have calm:Calm σ' (σ'.upd o.dst U1) F F1 w w':=⟨St.iI _ _ _,hgr.size,fun k hk hst=>⟨fun s hs=>by obtain⟨s',h⟩:=hF1 s k hs hk;exact hst s' h,hgr.block k hk (hv k (.inl hst))⟩⟩
           have below:mV W0 w':=hS.below.step hgr.os hgr.tape hgr.output hgr.size (fun k hk hm=>hgr.block k hk (fun e=>by
             obtain⟨r,hr,hkk⟩:=hbl k e.symm
             exact hm (hS.own r k hkk).1))
           refine hS.upd (bD:=fun s=>if s=nx then v' else env s) (F1:=F1) (fun s=>s=nx∨s∈r1++r2) below calm ?_ ?_ ?_ ?_ ?_ (fun d hd'=>⟨by rw [hA.n];exact bn hd d hd',?_⟩)
           ·intro s hs
            have h1:s≠nx:=fun e=>hs (.inl e)
            have h2:s∉r1++r2:=fun e=>hs (.inr e)
            exact⟨if_neg h1,fun k=>⟨fun h=>by
             rcases h with ⟨h,_⟩ | ⟨_,_,h⟩
             ·exact(h1 h).elim
             ·exact h,fun h=> .inr ⟨h1,h2,h⟩⟩,rM s h1 h2,fun k hk=>hgr.block k (fQ hS hk) (hv k (.inr ⟨s,h1,h2,hk⟩))⟩
           ·intro s hs
            by_cases e:s=nx
            ·subst e
             rw [IZ]
             show Ow T.sz w' (F1 s) (.sl e2 ((l1++l2).map (T.enc e2))) (if s=s then v' else env s)
             rw [if_pos rfl]
             exact how.mono (fun k hk=> .inl ⟨rfl,hk⟩)
            ·have h2:=hs.resolve_left e
             rw [gu s h2]
             rintro k (⟨h,_⟩ | ⟨_,h,_⟩)
             ·exact e h
             ·exact h h2
           ·rintro s k hs (⟨_,(⟨r,_,h⟩ | ⟨r,_,h⟩) | h⟩ | ⟨_,_,h⟩)
            ·exact⟨(hS.own r k h).1,Nat.lt_of_lt_of_le (hS.own r k h).2 hgr.size⟩
            ·exact⟨(hS.own r k h).1,Nat.lt_of_lt_of_le (hS.own r k h).2 hgr.size⟩
            ·exact⟨hS.below.may h.1,h.2⟩
            ·exact⟨(hS.own s k h).1,Nat.lt_of_lt_of_le (hS.own s k h).2 hgr.size⟩
           ·intro s s' k hs h1 h2
            have hcon:∀q,q∉r1++r2→F q k→¬(((∃r∈r1,F r k)∨∃r∈r2,F r k)∨w.heap.size≤k∧k<w'.heap.size):=by
             rintro q hq1 hq ((⟨r,hr,h⟩ | ⟨r,hr,h⟩) | h)
             ·exact hq1 (hS.apart q r k hq h▸List.mem_append_left _ hr)
             ·exact hq1 (hS.apart q r k hq h▸List.mem_append_right _ hr)
             ·have:=fQ hS hq;omega
            rcases h1 with ⟨rfl,h1⟩ | ⟨h1a,h1b,h1⟩<;>rcases h2 with ⟨h2',h2⟩ | ⟨Z8,h2b,h2⟩
            ·exact h2'.symm
            ·exact(hcon s' h2b h2 h1).elim
            ·exact(hcon s h1b h1 h2).elim
            ·exact hS.apart s s' k h1 h2
           ·intro s hs
            by_cases e:s=nx
            ·subst e;exact .inl hu
            ·have h2:=hs.resolve_left e
             refine .inr ⟨if_neg e,⟨fun bv e' l' hl=>(by rw [gu s h2] at hl;cases hl),fun bv e' l' hl=>(by rw [gu s h2] at hl;cases hl),fun e' d' j' cs' l' hl=>(by rw [gu s h2] at hl;cases hl)⟩,fun b=> .inl ?_⟩
             rintro⟨e',l',hl⟩
             rw [gu s h2] at hl;cases hl
           ·exact⟨(if_pos rfl).symm,how.one⟩
          ·cases h
   ·cases h
end
end Go.Proofs.YtcnfgfomholheaaGreatDoor.Z
end
section
namespace Go.Proofs.YtcnfgfomholheaaGreatDoor.Z
open Go.RowKit
set_option linter.unusedVariables false
set_option linter.unusedSimpArgs false
theorem Nc {α:Type} {cs u v:List α} {n:Nat} (h:n+(u++v).length≤cs.length):splice (splice cs n u) (n+u.length) v=splice cs n (u++v):=by
 simp only [List.length_append] at h
 apply List.ext_getElem?
 intro m
 have h1:n+u.length≤cs.length:=by omega
 rw [gq (by rw [kC h1];omega),gq h1,gq (by simpa using h)]
 simp only [List.length_append]
 by_cases e1:m<n
 ·rw [if_pos (by omega),if_pos e1,if_pos e1]
 ·by_cases e2:m<n+u.length
  ·rw [if_pos e2,if_neg e1,if_pos e2,if_neg e1,if_pos (by omega),List.getElem?_append_left (by omega)]
  ·by_cases e3:m<n+u.length+v.length
   ·rw [if_neg e2,if_pos e3,if_neg e1,if_pos (by omega),List.getElem?_append_right (by omega)]
    congr 1;omega
   ·rw [if_neg e2,if_neg e3,if_neg e1,if_neg e2,if_neg e1,if_neg (by omega)]
theorem Gu {sz:Nat} {f:Operand→Value}:∀{ps:List (Nat × Operand)} {j:Nat} {arr:Array Value},(∀(i:Nat) p,ps[i]? =some p→p.1=j+i∧(f p.2).cells.size=sz)→j*sz+ps.length*sz≤arr.size→
  ∃arr',Instr.fill (fun i=>some (i*sz,sz)) arr (ps.map fun p=>(p.1,f p.2))=some arr'∧arr'.toList=splice arr.toList (j*sz) (ps.flatMap fun p=>(f p.2).cells.toList)
 | [],j,arr,_,h=>⟨arr,rfl,by simp [splice]⟩
 | (i,x)::ps,j,arr,hp,h=>by
   obtain⟨h1,h2⟩:=hp 0 (i,x) rfl
   simp only [Nat.add_zero] at h1 h2
   subst h1
   simp only [List.length_cons,Nat.succ_mul] at h
   have hfold:=yF (f x).cells.toList 0 (i*sz) arr (by simp;omega)
   rw [Nat.add_zero] at hfold
   have hz:((f x).cells.zipIdx.foldl (fun cs (x:Value × Nat)=>cs.setIfInBounds (i*sz+x.2) x.1) arr).toList=splice arr.toList (i*sz) (f x).cells.toList:=by
    rw [←hfold,←Array.foldl_toList,Array.toList_zipIdx]
   have hsz:((f x).cells.zipIdx.foldl (fun cs (x:Value × Nat)=>cs.setIfInBounds (i*sz+x.2) x.1) arr).size=arr.size:=by
    rw [←Array.length_toList,hz,kC (by simp;omega)];simp
   obtain⟨arr',g1,g2⟩:=Gu (ps:=ps) (j:=i+1) (arr:=(f x).cells.zipIdx.foldl (fun cs (x:Value × Nat)=>cs.setIfInBounds (i*sz+x.2) x.1) arr) (fun k p hk=>by
    obtain⟨h3,h4⟩:=hp (k+1) p (by simpa using hk)
    exact⟨by omega,h4⟩) (by rw [hsz,Nat.succ_mul];omega)
   have aeg:(ps.flatMap fun p=>(f p.2).cells.toList).length=ps.length*sz:=by
    have:∀(l:List (Nat × Operand)),(∀(k:Nat) p,l[k]? =some p→(f p.2).cells.size=sz)→(l.flatMap fun p=>(f p.2).cells.toList).length=l.length*sz:=by
     intro l
     induction l with
     | nil=>intro _;simp
     | cons p l ih=>
       intro hl
       have h5:=hl 0 p rfl
       have h6:=ih (fun k q hk=>hl (k+1) q (by simpa using hk))
       simp only [List.flatMap_cons,List.length_append,Array.length_toList,List.length_cons,Nat.succ_mul]
       omega
    exact this ps (fun k p hk=>(hp (k+1) p (by simpa using hk)).2)
   refine⟨arr',?_,?_⟩
   ·simp only [List.map_cons,Instr.fill]
    rw [if_neg (by simp;omega)]
    exact g1
   ·rw [g2,hz,List.flatMap_cons]
    have hl:(f x).cells.toList.length=sz:=by simpa using h2
    rw [show(i+1)*sz=i*sz+(f x).cells.toList.length by rw [Nat.succ_mul,hl]]
    exact Nc (by rw [List.length_append,hl,aeg];simp;omega)
section
variable {T:dX} {P:Program} {W0:Fr} {σ σ' σ1:St T} {a:Act} {w w1:World} {env bD:Nat→Value} {F F1:Nat→Nat→Prop} {o:Oper} {bF bH:List Nat}
def Kw (σ:St T) (e n:Nat):Nat→List (Nat × Operand)→Option (List (T.Tb e) × List (Option Nat))
 | _,[]=>some ([],[])
 | j,(i,x)::r=>match Nat.beq i j with
   | true=>match cellsS (dn σ x) with
     | some vs=>match Nat.beq vs.length n with
       | true=>match lY σ (T.cells e (T.df e)) vs with
         | some (ys,rs)=>match T.xO e ys with
           | some y=>match Kw σ e n (j+1) r with
             | some (l,rs')=>some (y::l,rs++rs')
             | none=>none
           | none=>none
         | none=>none
       | false=>none
     | none=>none
   | false=>none
theorem LZ (hS:eU W0 σ a w env F) {e n:Nat} {f:Operand→Value}:∀{ps:List (Nat × Operand)} {j:Nat} {l:List (T.Tb e)} {rs:List (Option Nat)},Kw σ1 e n j ps=some (l,rs)→(∀p∈ps,bT σ env F w (dn σ1 p.2) (f p.2))→(∀s∈dR rs,σ.res s=σ1.res s)→
  (∀(i:Nat) p,ps[i]? =some p→p.1=j+i∧(f p.2).cells.size=n)∧l.length=ps.length∧rs.length=ps.length*n∧(ps.flatMap fun p=>(f p.2).cells.toList).length=ps.length*n∧(∀(i:Nat) (y:T.Tb e),l[i]? =some y→(T.enc e y).length=n)∧
  (∀r∈dR rs,∃b e l,σ1.res r= .row b e l)∧
  (∀(i:Nat) (y:T.Tb e) (q:Nat) (x:V),l[i]? =some y→(T.enc e y)[q]? =some x→∃u,(ps.flatMap fun p=>(f p.2).cells.toList)[i*n+q]? =some u∧Ow T.sz w (fun k=>∃r,rs[i*n+q]? =some (some r)∧F r k) x u)
 | [],j,l,rs,h,_,_=>by
   cases h
   exact⟨fun i p h=>by simp at h,rfl,by simp,by simp,fun i y h=>by simp at h,fun r h=>by simp [dR] at h,fun i y q x h=>by simp at h⟩
 | (i,x)::ps,j,l,rs,h,hv,hσ=>by
   unfold Kw at h
   cases hb:Nat.beq i j<;>rw [hb] at h<;>dsimp only at h
   ·cases h
   have hij:=Nat.eq_of_beq_eq_true hb
   subst hij
   cases hc:cellsS (dn σ1 x) with
   | none=>rw [hc] at h;cases h
   | some vs=>
     rw [hc] at h
     dsimp only at h
     cases hn:Nat.beq vs.length n<;>rw [hn] at h<;>dsimp only at h
     ·cases h
     have hn:=Nat.eq_of_beq_eq_true hn
     cases hk:lY σ1 (T.cells e (T.df e)) vs with
     | none=>rw [hk] at h;cases h
     | some yr=>
       obtain⟨ys,Z9⟩:=yr
       rw [hk] at h
       dsimp only at h
       cases hy:T.xO e ys with
       | none=>rw [hy] at h;cases h
       | some y=>
         rw [hy] at h
         dsimp only at h
         cases hr:Kw σ1 e n (i+1) ps with
         | none=>rw [hr] at h;cases h
         | some lr=>
           obtain⟨l',rs'⟩:=lr
           rw [hr] at h
           cases h
           have hsm:∀s,s∈dR (Z9++rs')↔s∈dR Z9∨s∈dR rs':=fun s=>by simp [jR]
           obtain⟨a1,a2,a3,a4,a5,a6,a7⟩:=LZ hS hr (fun p hp=>hv p (List.mem_cons_of_mem _ hp)) (fun s hs=>hσ s ((hsm s).2 (.inr hs)))
           have hcv:=lG (hv (i,x) (by simp)) hc
           have hl1:=jq hcv
           simp only [Array.length_toList] at hl1
           have hkl:=Gv hk
           have hcy:=T.mk_eq e ys y hy
           have hlen0:(f x).cells.toList.length=n:=by simp;omega
           have ab6:Z9.length=n:=by omega
           refine⟨?_,by simp [a2],by simp [a3,ab6,Nat.succ_mul];omega,?_,?_,?_,?_⟩
           ·intro k p hp
            cases k with
            | zero=>simp at hp;subst hp;exact⟨rfl,by simp only;omega⟩
            | succ k=>obtain⟨b1,b2⟩:=a1 k p (by simpa using hp);exact⟨by omega,b2⟩
           ·simp only [List.flatMap_cons,List.length_append,List.length_cons,Nat.succ_mul];omega
           ·intro k z hz
            cases k with
            | zero=>simp at hz;subst hz;rw [T.gG,List.length_map,hcy];omega
            | succ k=>exact a5 k z (by simpa using hz)
           ·intro r hr
            rcases(hsm r).1 hr with h | h
            ·exact Gw hk r h
            ·exact a6 r h
           ·intro k z q c hz hq
            cases k with
            | zero=>
              simp at hz
              subst hz
              rw [T.gG,List.getElem?_map,hcy] at hq
              obtain⟨y0,hy0,rfl⟩:=Option.map_eq_some_iff.1 hq
              have kH:q<n:=by have:=(List.getElem?_eq_some_iff.1 hy0).1;omega
              have ab7:q<(f x).cells.toList.length:=by omega
              refine⟨(f x).cells.toList[q],?_,?_⟩
              ·simp only [List.flatMap_cons,Nat.zero_mul,Nat.zero_add]
               rw [List.getElem?_append_left ab7];simp
              ·have:=Gx hS hcv hk (fun s hs=>hσ s ((hsm s).2 (.inl hs))) hy0 (List.getElem?_eq_getElem ab7)
               refine this.mono (fun k hk=>?_)
               obtain⟨r,h1,h2⟩:=hk
               exact⟨r,by rw [Nat.zero_mul,Nat.zero_add,List.getElem?_append_left (by omega)];exact h1,h2⟩
            | succ k=>
              obtain⟨u,b1,b2⟩:=a7 k z q c (by simpa using hz) hq
              have hidx:(k+1)*n+q=n+(k*n+q):=by rw [Nat.succ_mul];omega
              refine⟨u,?_,b2.mono (fun k' hk'=>?_)⟩
              ·simp only [List.flatMap_cons]
               rw [hidx,List.getElem?_append_right (by omega),hlen0,Nat.add_sub_cancel_left]
               exact b1
              ·obtain⟨r,h1,h2⟩:=hk'
               exact⟨r,by rw [hidx,List.getElem?_append_right (by omega),ab6,Nat.add_sub_cancel_left];exact h1,h2⟩
end
end Go.Proofs.YtcnfgfomholheaaGreatDoor.Z
end
section
namespace Go.Proofs.YtcnfgfomholheaaGreatDoor.Z
open Go.RowKit
set_option linter.unusedVariables false
set_option linter.unusedSimpArgs false
section
variable {T:dX} {P:Program} {W0:Fr} {σ σ' σ1:St T} {a:Act} {w w':World} {env bD:Nat→Value} {F F1:Nat→Nat→Prop} {o:Oper} {bF bH:List Nat}
theorem eU.gather (hS:eU W0 σ' a w env F) {nx:Nat} (hu:jI σ' nx) (hno:σ'.res nx= .no) {ms:List Nat} (hrow:∀r∈ms,∃b e l,σ'.res r= .row b e l) {v':Value} {e:Nat} {l:List (T.Tb e)} (hos:w'.os=w.os) (htp:w'.tape=w.tape) (hout:w'.output=w.output) (hsize:w.heap.size≤w'.heap.size)
  (hblk:∀k,k<w.heap.size→(∀r∈ms,¬F r k)→w'.heap[k]? =w.heap[k]?) (how:Ow T.sz w' (fun k=>(∃r∈ms,F r k)∨w.heap.size≤k∧k<w'.heap.size) (.sl e (l.map (T.enc e))) v') {dst:Option Nat} {n:Nat} {bF bH:List Nat} (hd:∀d,dst=some d→d<σ'.n):
  jD W0 (σ'.upd dst ⟨.c (.hd nx),(nx, .row nx e l)::ji ms,bF,n,bH⟩) (a.put dst v') w':=by
 have hnr:nx∉ms:=fun hm=>by obtain⟨b,e,l,h⟩:=hrow nx hm;rw [h] at hno;cases hno
 let U1:bI T:=⟨.c (.hd nx),(nx, .row nx e l)::ji ms,bF,n,bH⟩
 let F1:Nat→Nat→Prop:=fun s k=>(s=nx∧((∃r∈ms,F r k)∨w.heap.size≤k∧k<w'.heap.size))∨(s≠nx∧s∉ms∧F s k)
 have IZ:(σ'.upd dst U1).res nx= .row nx e l:=by rw [St.dP];simp [U1,lk]
 have gu:∀s,s∈ms→(σ'.upd dst U1).res s= .no:=fun s hs=>by
  rw [St.dP]
  show lk _ ((nx,_)::ji ms) s=_
  unfold lk
  rw [fD (k:=nx) (t:=s) (fun e=>hnr (by rw [e];exact hs))]
  exact oK hs
 have rM:∀s,s≠nx→s∉ms→(σ'.upd dst U1).res s=σ'.res s:=fun s h1 h2=>by
  rw [St.dP]
  show lk _ ((nx,_)::ji ms) s=_
  unfold lk
  rw [fD (k:=nx) (t:=s) (fun e=>h1 e.symm)]
  exact qA h2
 have hF1:∀s k,F1 s k→k<w.heap.size→∃s',F s' k:=by
  rintro s k (⟨_,⟨r,_,h⟩ | h⟩ | ⟨_,_,h⟩) hlt
  ·exact⟨_,h⟩
  ·omega
  ·exact⟨_,h⟩
 have calm:Calm σ' (σ'.upd dst U1) F F1 w w':=⟨St.iI _ _ _,hsize,fun k hk hst=>⟨fun s hs=>by obtain⟨s',h⟩:=hF1 s k hs hk;exact hst s' h,hblk k hk (fun r _=>hst r)⟩⟩
 have below:mV W0 w':=hS.below.step hos htp hout hsize (fun k hk hm=>hblk k hk (fun r _ hkk=>hm (hS.own r k hkk).1))
 refine hS.upd (bD:=fun s=>if s=nx then v' else env s) (F1:=F1) (fun s=>s=nx∨s∈ms) below calm ?_ ?_ ?_ ?_ ?_ (fun d hd'=>⟨hd d hd',?_⟩)
 ·intro s hs
  have h1:s≠nx:=fun e=>hs (.inl e)
  have h2:s∉ms:=fun e=>hs (.inr e)
  exact⟨if_neg h1,fun k=>⟨fun h=>by
   rcases h with ⟨h,_⟩ | ⟨_,_,h⟩
   ·exact(h1 h).elim
   ·exact h,fun h=> .inr ⟨h1,h2,h⟩⟩,rM s h1 h2,fun k hk=>hblk k (fQ hS hk) (fun r hr hkr=>h2 (hS.apart s r k hk hkr▸hr))⟩
 ·intro s hs
  by_cases e':s=nx
  ·subst e'
   rw [IZ]
   show Ow T.sz w' (F1 s) (.sl e (l.map (T.enc e))) (if s=s then v' else env s)
   rw [if_pos rfl]
   exact how.mono (fun k hk=> .inl ⟨rfl,hk⟩)
  ·have h2:=hs.resolve_left e'
   rw [gu s h2]
   rintro k (⟨h,_⟩ | ⟨_,h,_⟩)
   ·exact e' h
   ·exact h h2
 ·rintro s k hs (⟨_,⟨r,_,h⟩ | h⟩ | ⟨_,_,h⟩)
  ·exact⟨(hS.own r k h).1,Nat.lt_of_lt_of_le (hS.own r k h).2 hsize⟩
  ·exact⟨hS.below.may h.1,h.2⟩
  ·exact⟨(hS.own s k h).1,Nat.lt_of_lt_of_le (hS.own s k h).2 hsize⟩
 ·intro s s' k hs h1 h2
  have hcon:∀q,q∉ms→F q k→¬((∃r∈ms,F r k)∨w.heap.size≤k∧k<w'.heap.size):=by
   rintro q hq1 hq (⟨r,hr,h⟩ | h)
   ·exact hq1 (hS.apart q r k hq h▸hr)
   ·have:=fQ hS hq;omega
  rcases h1 with ⟨rfl,h1⟩ | ⟨h1a,h1b,h1⟩<;>rcases h2 with ⟨h2',h2⟩ | ⟨Z8,h2b,h2⟩
  ·exact h2'.symm
  ·exact(hcon s' h2b h2 h1).elim
  ·exact(hcon s h1b h1 h2).elim
  ·exact hS.apart s s' k h1 h2
 ·intro s hs
  by_cases e':s=nx
  ·subst e';exact .inl hu
  ·have h2:=hs.resolve_left e'
   refine .inr ⟨if_neg e',⟨fun bv e' l' hl=>(by rw [gu s h2] at hl;cases hl),fun bv e' l' hl=>(by rw [gu s h2] at hl;cases hl),fun e' d' j' cs' l' hl=>(by rw [gu s h2] at hl;cases hl)⟩,fun b=> .inl ?_⟩
   rintro⟨e',l',hl⟩
   rw [gu s h2] at hl;cases hl
 ·exact⟨(if_pos rfl).symm,how.one⟩
def Ep (σ:St T) (nx:Nat) (dst:Option Nat) (t len:Nat) (parts:Array (Nat × Operand)):eX T:=
 match T.ti t with
 | some ti=>match ti.kind with
   | .slice e=>match T.ti e with
     | some ei=>match T.el e with
       | true=>match Nat.beq len parts.toList.length with
         | true=>match Nat.ble (len*ei.size) 16777216 with
           | true=>match Kw σ e ei.size 0 parts.toList with
             | some (l,rs)=>match kM (dR rs) with
               | true=>match bQ σ dst with
                 | true=>match σ.fresh nx with
                   | true=> .done ⟨.c (.hd nx),(nx, .row nx e l)::ji (dR rs),nx::dR rs,1,nx::dR rs⟩ none
                   | false=> .stuck
                 | false=> .stuck
               | false=> .stuck
             | none=> .stuck
           | false=> .stuck
         | false=> .stuck
       | false=> .stuck
     | none=> .stuck
   | _=> .stuck
 | none=> .stuck
theorem I4 {t len:Nat} {parts:Array (Nat × Operand)} (ho:o.op= .buildSlice t len parts) {v:Value} (h:(Instr.buildSlice t len (parts.map fun(i,x)=>(i,a.eval x))).run P w= .ok v w'):(execOp a.eval o).run P w= .ok (.value v) w':=by
 unfold execOp;rw [ho];simp only [Sem.run_bind,h];rfl
theorem I5 {α:Type} {cs vs:List α} (h:vs.length=cs.length):splice cs 0 vs=vs:=by simp [splice,h]
theorem Ug (hT:T.ok P) {nx t len:Nat} {parts:Array (Nat × Operand)} {U:bI T} {ob:Option Prop} (ho:o.op= .buildSlice t len parts) (h:Ep σ nx o.dst t len parts= .done U ob):eH P W0 o σ U:=by
 unfold Ep at h
 cases hi:T.ti t with
 | none=>rw [hi] at h;cases h
 | some ti=>
   rw [hi] at h
   dsimp only at h
   split at h
   ·rename_i e hk
    cases dY:T.ti e with
    | none=>rw [dY] at h;cases h
    | some ei=>
      rw [dY] at h
      dsimp only at h
      cases hel:T.el e<;>rw [hel] at h<;>dsimp only at h
      ·cases h
      cases hb:Nat.beq len parts.toList.length<;>rw [hb] at h<;>dsimp only at h
      ·cases h
      cases hbl:Nat.ble (len*ei.size) 16777216<;>rw [hbl] at h<;>dsimp only at h
      ·cases h
      cases he:Kw σ e ei.size 0 parts.toList with
      | none=>rw [he] at h;cases h
      | some lr=>
        obtain⟨l,rs⟩:=lr
        rw [he] at h
        dsimp only at h
        cases hnd:kM (dR rs)<;>rw [hnd] at h<;>dsimp only at h
        ·cases h
        cases hd:bQ σ o.dst<;>rw [hd] at h<;>dsimp only at h
        ·cases h
        cases hf:σ.fresh nx<;>rw [hf] at h<;>cases h
        have hb:=Nat.eq_of_beq_eq_true hb
        have hbl:=Nat.le_of_ble_eq_true hbl
        intro σ' a w K Q hA ⟨env,F,hS⟩ hK
        obtain⟨inf,h1,h2,h3,h4,h5,h6,h7,h8⟩:=hT t ti hi
        obtain⟨inf',g1,g2,g3,⟨z,g4,g4'⟩,g5,g6,g7,_⟩:=hT e ei dY
        rw [hk] at h8
        have hsz:T.sz e=ei.size:=kV dY
        obtain⟨a1,a2,a3,a4,a5,a6,a7⟩:=LZ (f:=a.eval) hS he (fun p hp=>bG hS hA (by rw [ho];simp only [Op.operands,Array.toList_map];exact List.mem_map.2 ⟨p,hp,rfl⟩)) (fun s hs=>hA.res s (by simp [hs]))
        obtain⟨hu,hno⟩:=hA.new (r:=nx) (by simp) hf
        have hrow:∀r∈dR rs,∃b e l,σ'.res r= .row b e l:=fun r hr=>by rw [hA.res r (by simp [hr])];exact a6 r hr
        let vals:=parts.toList.flatMap fun p=>(a.eval p.2).cells.toList
        have hrun:(Instr.buildSlice t len (parts.map fun(i,x)=>(i,a.eval x))).run P w= .ok (.slice (some ⟨w.heap.size,0,none⟩) len len) (w.alloc (.cells vals.toArray e)):=by
         have hzs:z.cells.size=ei.size:=by rw [g4'];simpa using g5
         obtain⟨arr',f1,f2⟩:=Gu (f:=a.eval) (sz:=ei.size) (ps:=parts.toList) (j:=0) (arr:=madeCells z.cells (len*ei.size)) a1 (by rw [size_madeCells,hb];omega)
         have harr:arr'=vals.toArray:=by
          apply Array.ext'
          rw [f2,Nat.zero_mul,I5 (by rw [a4];simp [size_madeCells,hb])]
         by_cases hp:len*ei.size=0
         ·have hl0:len=0:=by rcases Nat.mul_eq_zero.1 hp with h | h<;>omega
          have hnil:parts.toList=[]:=List.eq_nil_of_length_eq_zero (by omega)
          have hparts:parts=#[]:=by apply Array.ext';simpa using hnil
          have hv:vals=[]:=by show parts.toList.flatMap _=[];rw [hnil];rfl
          rw [hv]
          subst hl0
          simp [Instr.buildSlice,run_underlying h8.1,sizeOf,typeInfo,g1,hparts,Instr.fill,newRow,show Array.range 0=(#[]:Array Nat) from rfl]
         ·rw [←harr]
          exact run_buildSlice w t e len _ arr' inf' z h8.1 g1 g4 (by rw [g2];omega) (by rw [g2];exact hp) (by rw [g2,Array.toList_map];exact f1)
        refine jC (I4 ho hrun) (hK _ _ ?_)
        have hlen:l.length=len:=by omega
        have hblk:∀k,k<w.heap.size→(w.alloc (.cells vals.toArray e)).heap[k]? =w.heap[k]?:=fun k hk=>(Grew.alloc w (.cells vals.toArray e)).block k hk
        refine hS.gather (w':=w.alloc (.cells vals.toArray e)) hu hno hrow rfl rfl rfl (by rw [wS];omega) (fun k hk _=>hblk k hk) ?_ (fun d hd'=>by rw [hA.n];exact bn hd d hd')
        have hlm:(l.map (T.enc e)).length=len:=by rw [List.length_map,hlen]
        have hmax:len≤maxLen:=by
         have:len*1≤len*ei.size:=Nat.mul_le_mul_left _ g6
         simp only [maxLen];omega
        have hown:(w.alloc (.cells vals.toArray e)).ownsRow 0 e (T.sz e) (.slice (some ⟨w.heap.size,0,none⟩) len len) (l.map (T.enc e)).length vals:=by
         rw [hlm]
         refine⟨by rw [hsz];show(parts.toList.flatMap _).length=_;rw [a4,hb], .inr ⟨w.heap.size,len,vals.toArray,rfl,Nat.zero_le _,Aw w _,Nat.le_refl _,hmax,?_,?_⟩⟩
         ·rw [hsz];simp;show(parts.toList.flatMap _).length=_;rw [a4,hb]
         ·have:vals.length=len*T.sz e:=by rw [hsz];show(parts.toList.flatMap _).length=_;rw [a4,hb]
          rw [←this];simp
        refine EG hown (fun j q=>vals[j*T.sz e+q]?.getD undef) (fun j q k=>q<ei.size∧k<w.heap.size∧∃r,rs[j*ei.size+q]? =some (some r)∧F r k) ?_ ?_ ?_ ?_ ?_
        ·intro j l' hj
         rw [List.getElem?_map] at hj
         obtain⟨y,hy,rfl⟩:=Option.map_eq_some_iff.1 hj
         rw [a5 j y hy,hsz]
        ·intro j l' q x hj hq
         rw [List.getElem?_map] at hj
         obtain⟨y,hy,rfl⟩:=Option.map_eq_some_iff.1 hj
         have kH:q<ei.size:=by rw [←a5 j y hy];exact(List.getElem?_eq_some_iff.1 hq).1
         obtain⟨u,hu1,hu2⟩:=a7 j y q x hy hq
         have Ky:vals[j*ei.size+q]? =some u:=hu1
         rw [hsz]
         refine⟨by rw [Ky];rfl,?_⟩
         rw [Ky]
         exact(hu2.bound.frame (fun k hk hl=>hblk k hl)).mono (fun k hk=>⟨kH,hk.2,hk.1⟩)
        ·rintro j q k ⟨_,hlt,r,hr,hk⟩
         refine⟨.inl ⟨r,jR.2 (List.mem_of_getElem? hr),hk⟩,fun e'=>?_⟩
         simp [Value.ownBlock] at e'
         omega
        ·rintro j q j' q' k ⟨hq,_,r,hr,hk⟩ ⟨hq',_,r',hr',hk'⟩
         have:=hS.apart r r' k hk hk'
         subst this
         have hix:=Az hnd hr hr'
         have e1:j=j':=by
          have p1:(j*ei.size+q) / ei.size=j:=by rw [Nat.mul_comm,Nat.mul_add_div g6,Nat.div_eq_of_lt hq,Nat.add_zero]
          have p2:(j'*ei.size+q') / ei.size=j':=by rw [Nat.mul_comm,Nat.mul_add_div g6,Nat.div_eq_of_lt hq',Nat.add_zero]
          rw [←p1,←p2,hix]
         subst e1
         exact⟨rfl,by omega⟩
        ·intro g hg
         simp [Value.ownBlock] at hg
         subst hg
         exact .inr ⟨Nat.le_refl _,by rw [wS];omega⟩
   ·cases h
end
end Go.Proofs.YtcnfgfomholheaaGreatDoor.Z
end
section
namespace Go.Proofs.YtcnfgfomholheaaGreatDoor.Z
open Go.RowKit
set_option linter.unusedVariables false
set_option linter.unusedSimpArgs false
section
variable {T:dX} {P:Program} {W0:Fr} {σ σ' σ1:St T} {a:Act} {w w':World} {env bD:Nat→Value} {F F1:Nat→Nat→Prop} {o:Oper} {bF bH:List Nat}
def Gy (σ:St T) (d:Int):Option Operand→Option Int
 | none=>some d
 | some x=>match sv (dn σ x) with
   | some (.int _ n)=>some n
   | _=>none
def Eu (σ:St T) (dst:Option Nat) (t:Nat) (x:Operand) (lo hi mx:Option Operand):eX T:=
 match mx with
 | some _=> .stuck
 | none=>match T.ti t with
   | some ti=>match bQ σ dst with
     | true=>match ti.kind with
       | .text=>match sv (dn σ x) with
         | some (.string s)=>match Gy σ 0 lo with
           | some l=>match Gy σ (s.size:Int) hi with
             | some h=> .done ⟨.c (.sc (.string (s.extract l.toNat h.toNat))),[],[],0,[]⟩ (some (0≤l∧l≤h∧h≤(s.size:Int)))
             | none=> .stuck
           | none=> .stuck
         | _=> .stuck
       | .slice e=>match I7 σ (dn σ x) with
         | some ⟨p,e',xs⟩=>match Nat.beq e' e with
           | true=>match T.ti e with
             | some _=>match Gy σ 0 lo with
               | some l=>match Gy σ (xs.length:Int) hi with
                 | some h=> .done ⟨.c (.im p e' ((xs.drop l.toNat).take (h.toNat - l.toNat))),[],tZ p,0,[]⟩ (some (0≤l∧l≤h∧h≤(xs.length:Int)))
                 | none=> .stuck
               | none=> .stuck
             | none=> .stuck
           | false=> .stuck
         | none=> .stuck
       | _=> .stuck
     | false=> .stuck
   | none=> .stuck
theorem I8 {t:Nat} {x:Operand} {lo hi mx:Option Operand} (ho:o.op= .slice t x lo hi mx) {v:Value} (h:(Instr.sliceAt t (a.eval x) (lo.map a.eval) (hi.map a.eval) (mx.map a.eval)).run P w= .ok v w):(execOp a.eval o).run P w= .ok (.value v) w:=by
 unfold execOp;rw [ho];simp only [Sem.run_bind,h];rfl
theorem EL (hS:eU W0 σ' a w env F) {d:Int} {b:Option Operand} {n:Int} (h:Gy σ d b=some n) (hev:∀x,b=some x→bT σ' env F w (dn σ x) (a.eval x)):(b=none∧n=d)∨∃x k,b=some x∧a.eval x= .int k n:=by
 cases b with
 | none=>simp [Gy] at h;exact .inl ⟨rfl,h.symm⟩
 | some x=>
   unfold Gy at h
   dsimp only at h
   split at h
   ·rename_i k m hm
    cases h
    exact .inr ⟨x,k,rfl,iP (hev x rfl) hm⟩
   ·cases h
theorem ab8 {e l n:Nat} {P':Nat→Prop} {xs:List (List V)} {A:Option Addr} {c:Nat} (h:Rd T.sz w P' (.sl e xs) (.slice A xs.length c)) (hl:l≤n) (hn:n≤xs.length):Rd T.sz w P' (.sl e ((xs.drop l).take (n - l))) (.slice (if c=l then A else A.map (·.add (l*T.sz e))) (n - l) (c - l)):=by
 by_cases h0:n - l=0
 ·rw [h0,List.take_zero];exact .nil e _ _
 ·generalize hv:Value.slice A xs.length c=v at h
  generalize hx:V.sl e xs=x at h
  cases h with
  | sc _ _=>cases hx
  | nil e' A' c'=>cases hx;simp at hn;omega
  | sl e' xs' ad c' f hc hp hlt hs hcell hr=>
    cases hx
    simp only [Value.slice.injEq,true_and] at hv
    obtain⟨rfl,rfl⟩:=hv
    rw [if_neg (by omega)]
    have hlen:((xs.drop l).take (n - l)).length=n - l:=by simp;omega
    have hget:∀(j:Nat) (m:List V),((xs.drop l).take (n - l))[j]? =some m→xs[l+j]? =some m:=by
     intro j m hj
     rw [List.getElem?_take] at hj
     split at hj
     ·rwa [List.getElem?_drop] at hj
     ·cases hj
    have:=Rd.sl (sz:=T.sz) (w:=w) (P:=P') e ((xs.drop l).take (n - l)) (ad.add (l*T.sz e)) (c - l) (fun j q=>f (l+j) q) (by rw [hlen];omega) (by rw [Ku];exact hp) (by rw [Ku];exact hlt) (fun j m hj=>hs _ _ (hget j m hj))
     (fun j m q x hj hq=>by rw [add_add,show l*T.sz e+(j*T.sz e+q)=(l+j)*T.sz e+q by rw [Nat.add_mul];omega];exact hcell _ _ q x (hget j m hj) hq) (fun j m q x hj hq=>hr _ _ q x (hget j m hj) hq)
    rw [hlen] at this
    exact this
theorem I9 {isS:Bool} {len cap:Nat} {lo hi:Option Operand} {l h:Int} (hlo:(lo=none∧l=0)∨∃x k,lo=some x∧a.eval x= .int k l) (hhi:(hi=none∧h=(len:Int))∨∃x k,hi=some x∧a.eval x= .int k h) (h0:0≤l) (h1:l≤h) (h2:h≤(len:Int)) (hc:len≤cap):
  (Instr.sliceBounds isS len cap (lo.map a.eval) (hi.map a.eval) none).run P w= .ok (l.toNat,h.toNat,cap) w:=by
 obtain⟨l,rfl⟩:=Int.eq_ofNat_of_zero_le h0
 obtain⟨h,rfl⟩:=Int.eq_ofNat_of_zero_le (Int.le_trans h0 h1)
 have h3:h≤cap:=by omega
 have h4:l≤h:=by omega
 rcases hlo with ⟨rfl,e1⟩ | ⟨x,k,rfl,hx⟩<;>rcases hhi with ⟨rfl,e2⟩ | ⟨y,k',rfl,hy⟩
 ·have e1:l=0:=by omega
  have e2:h=len:=by omega
  subst e1;subst e2
  simp [Instr.sliceBounds]
 ·have e1:l=0:=by omega
  subst e1
  simp [Instr.sliceBounds,hy,Instr.sliceBound,asIntOf,h3]
 ·have e2:h=len:=by omega
  subst e2
  simp [Instr.sliceBounds,hx,Instr.sliceBound,asIntOf,h4]
 ·simp [Instr.sliceBounds,hx,hy,Instr.sliceBound,asIntOf,h3,h4]
theorem Uh (hT:T.ok P) {t:Nat} {x:Operand} {lo hi mx:Option Operand} {U:bI T} {ob:Option Prop} (ho:o.op= .slice t x lo hi mx) (h:Eu σ o.dst t x lo hi mx= .done U ob) (hob:pG ob):eH P W0 o σ U:=by
 have hm:o.op.operands=#[x]++lo.toArray++hi.toArray++mx.toArray:=by rw [ho];rfl
 unfold Eu at h
 split at h
 ·cases h
 ·cases hti:T.ti t with
  | none=>rw [hti] at h;cases h
  | some ti=>
    rw [hti] at h
    dsimp only at h
    cases hd:bQ σ o.dst<;>rw [hd] at h<;>dsimp only at h
    ·cases h
    obtain⟨inf,h1,h2,h3,h4,h5,h6,h7,h8⟩:=hT t ti hti
    split at h
    ·rename_i hk
     rw [hk] at h8
     split at h
     ·rename_i s hs
      split at h
      ·rename_i l hl
       split at h
       ·rename_i hh hhh
        cases h
        refine quiet_step (bn hd) (fun σ' a w env F hA hS=>⟨_,I8 ho ?_,⟨rfl,rfl⟩⟩)
        have e1:=iP (bG hS hA (x:=x) (by simp [ho,Op.operands])) hs
        have hob:0≤l∧l≤hh∧hh≤(s.size:Int):=hob
        have b1:=EL hS hl (fun y hy=>bG hS hA (by rw [hm,hy];simp))
        have b2:=EL hS hhh (fun y hy=>bG hS hA (by rw [hm,hy];simp))
        have hb:=I9 (P:=P) (w:=w) (isS:=false) (cap:=s.size) b1 b2 hob.1 hob.2.1 hob.2.2 (Nat.le_refl _)
        simp [Instr.sliceAt,Instr.slice,run_underlying h8.1,e1,Sem.run_bind,hb]
       ·cases h
      ·cases h
     ·cases h
    ·rename_i e hk
     rw [hk] at h8
     cases hr:I7 σ (dn σ x) with
     | none=>rw [hr] at h;cases h
     | some pel=>
       obtain⟨p,e',xs⟩:=pel
       rw [hr] at h
       dsimp only at h
       cases hb:Nat.beq e' e<;>rw [hb] at h<;>dsimp only at h
       ·cases h
       have hee:=Nat.eq_of_beq_eq_true hb
       subst hee
       cases dY:T.ti e' with
       | none=>rw [dY] at h;cases h
       | some ei=>
         rw [dY] at h
         dsimp only at h
         split at h
         ·rename_i l hl
          split at h
          ·rename_i hh hhh
           cases h
           refine quiet_step (bn hd) (fun σ' a w env F hA hS=>?_)
           have e1:=bG hS hA (x:=x) (by simp [ho,Op.operands])
           obtain⟨h9,h10⟩:=EM hS hA e1 hr (fun _ h=>h)
           have hob:0≤l∧l≤hh∧hh≤(xs.length:Int):=hob
           have b1:=EL hS hl (fun y hy=>bG hS hA (by rw [hm,hy];simp))
           have b2:=EL hS hhh (fun y hy=>bG hS hA (by rw [hm,hy];simp))
           obtain⟨A,c,hv,hc⟩:=h10.slice
           simp only [List.length_map] at hv hc
           obtain⟨inf',g1,g2,_⟩:=hT e' ei dY
           have hbr:=I9 (P:=P) (w:=w) (isS:=true) (cap:=c) b1 b2 hob.1 hob.2.1 hob.2.2 hc
           have hrd:=ab8 (l:=l.toNat) (n:=hh.toNat) (A:=A) (c:=c) (xs:=xs.map (T.enc e')) (by rw [hv] at h10;simpa using h10) (by omega) (by simp;omega)
           rw [←List.map_drop,←List.map_take] at hrd
           refine⟨_,I8 ho ?_,rfl,fun _=>hrd⟩
           simp [Instr.sliceAt,Instr.slice,run_underlying h8.1,hv,Sem.run_bind,hbr,sizeOf,typeInfo,g1,kV dY,g2]
          ·cases h
         ·cases h
    ·cases h
end
end Go.Proofs.YtcnfgfomholheaaGreatDoor.Z
end
section
namespace Go.Proofs.YtcnfgfomholheaaGreatDoor.Z
open Go.RowKit
set_option linter.unusedVariables false
set_option linter.unusedSimpArgs false
section
variable {T:dX} {P:Program} {W0:Fr} {σ σ' σ1:St T} {a:Act} {w w1:World} {env bD:Nat→Value} {F F1:Nat→Nat→Prop} {o:Oper} {bF bH:List Nat}
def Ny (σ:St T) (dst:Option Nat) (x y:Operand):eX T:=
 match sv (dn σ x) with
 | some (.string s)=>match sv (dn σ y) with
   | some (.string t)=>match bQ σ dst with
     | true=> .done ⟨.c (.sc (.string (s++t))),[],[],0,[]⟩ (some (s.size+t.size≤9223372036854775807))
     | false=> .stuck
   | _=> .stuck
 | _=> .stuck
theorem YI {t ty:TypeId} {x y:Operand} {U:bI T} {ob:Option Prop} (ho:o.op= .binOp .add t x y ty) (h:Ny σ o.dst x y= .done U ob) (hob:pG ob):eH P W0 o σ U:=by
 unfold Ny at h
 split at h
 ·rename_i s hx
  split at h
  ·rename_i s2 hy
   cases hd:bQ σ o.dst<;>rw [hd] at h<;>cases h
   refine quiet_step (bn hd) (fun σ' a w env F hA hS=>⟨.string (s++s2),?_,⟨rfl,rfl⟩⟩)
   have e1:=iP (bG hS hA (x:=x) (by simp [ho,Op.operands])) hx
   have e2:=iP (bG hS hA (x:=y) (by simp [ho,Op.operands])) hy
   have hob:s.size+s2.size≤9223372036854775807:=hob
   have hmax:IntKind.i64.max=9223372036854775807:=by decide
   have hle:¬((9223372036854775807:Int)<(s.size:Int)+(s2.size:Int)):=by omega
   unfold execOp
   rw [ho]
   simp [e1,e2,eqGuard,binOp,Op.stringOp,Sem.run_bind,Sem.run_pure,hmax,hle]
  ·cases h
 ·cases h
def ado {Tb:Nat→Type}:C0 Tb→Bool
 | .sc _=>true
 | _=>false
def vT (T:dX) (e:Nat):Prop:=∀y:T.Tb e,(T.cells e y).all ado=true
theorem ab9 {e:Nat} (hf:vT T e) {y:T.Tb e} {q:Nat} {x:V} (h:(T.enc e y)[q]? =some x):∃v,x= .sc v:=by
 rw [T.gG,List.getElem?_map] at h
 obtain⟨c,hc,rfl⟩:=Option.map_eq_some_iff.1 h
 have:=List.all_eq_true.1 (hf y) c (List.mem_of_getElem? hc)
 cases c with
 | sc v=>exact⟨v,rfl⟩
 | sl e l=>cases this
theorem wU {t ty e:Nat} {i:TypeInfo} (ht:P.underlying t=some (.slice e)) (hi:P.info? e=some i) {v:Value} {n size:Nat} {xs:List Value} (hown:w.ownsRow 0 e size v n xs) (A:Option Addr) (c:Nat):
  (Builtin.append_ #[t,t] ty #[v, .slice A 0 c]).run P w= .ok v w:=by
 rcases hown.2 with ⟨rfl,_⟩ | ⟨g,cap,cur,rfl,_,hg,hnc,_⟩
 ·cases A<;>simp [Builtin.append_,run_underlying ht,sizeOf,typeInfo,hi,Builtin.lenOf,Builtin.firstCells,loadCells,loadCellsFrom]
 ·cases A<;>simp [Builtin.append_,run_underlying ht,sizeOf,typeInfo,hi,Builtin.lenOf,Builtin.firstCells,hnc,storeCells,loadCells,loadCellsFrom]
theorem QV {t ty e:Nat} {ti ei:TI} (hT:T.ok P) (hti:T.ti t=some ti) (hk:ti.kind= .slice e) (dY:T.ti e=some ei) (hel:T.el e=true) (hfl:vT T e) {Fx Py:Nat→Prop} {l1 l2:List (T.Tb e)} {v u:Value} (hx:Ow T.sz w Fx (.sl e (l1.map (T.enc e))) v) (hy:Rd T.sz w Py (.sl e (l2.map (T.enc e))) u)
  (hm:l1.length+l2.length≤maxLen) (hb:(l1.length+l2.length)*ei.bytes≤140737488355328):
  ∃v' w',(Builtin.append_ #[t,t] ty #[v,u]).run P w= .ok v' w'∧Ow T.sz w' (fun k=>Fx k∨w.heap.size≤k∧k<w'.heap.size) (.sl e ((l1++l2).map (T.enc e))) v'∧w.grownBy w' v.ownBlock∧(∀g,v.ownBlock=some g→Fx g):=by
 obtain⟨inf,t1,t2,t3,t4,t5,t6,t7,t8⟩:=hT t ti hti
 rw [hk] at t8
 obtain⟨inf',g1,g2,g3,⟨z,g4,g4'⟩,g5,g6,g7,_⟩:=hT e ei dY
 have hsz:T.sz e=ei.size:=kV dY
 have hpos:0<T.sz e:=by rw [hsz];exact g6
 obtain⟨fx,hfx,_,_,_,_,_,_,hxb⟩:=sO hx
 simp only [List.length_map] at hfx
 generalize hys:l2.map (T.enc e)=ys at hy
 have hyl:ys.length=l2.length:=by rw [←hys];simp
 cases hy with
 | nil e A c=>
   have hl2:l2=[]:=by simpa using hys
   subst hl2
   refine⟨v,w,wU t8.1 g1 hfx A c,?_,⟨rfl,rfl,rfl,Nat.le_refl _,fun _ _ _=>rfl⟩,hxb⟩
   ·rw [List.append_nil]
    exact hx.mono (fun k hk=> .inl hk)
 | sl e ys ad c f hc hp hlt hss hcell hr=>
   have hjq:∀i,i<ys.length*T.sz e→i / T.sz e<ys.length∧i % T.sz e<T.sz e∧i / T.sz e*T.sz e+i % T.sz e=i:=fun i hi=>⟨(Nat.div_lt_iff_lt_mul hpos).2 hi,Nat.mod_lt _ hpos,by rw [Nat.mul_comm];exact Nat.div_add_mod i _⟩
   let news:List Value:=(List.range (ys.length*T.sz e)).map (fun i=>f (i / T.sz e) (i % T.sz e))
   have hnl:news.length=l2.length*T.sz e:=by simp [news,hyl]
   have WZ:∀i u,news[i]? =some u→i<ys.length*T.sz e∧u=f (i / T.sz e) (i % T.sz e):=fun i u hi=>by
    have h1:i<news.length:=(List.getElem?_eq_some_iff.1 hi).1
    have h2:i<ys.length*T.sz e:=by simpa [news] using h1
    refine⟨h2,?_⟩
    simp only [news,List.getElem?_map,List.getElem?_range h2,Option.map_some,Option.some.injEq] at hi
    exact hi.symm
   have hat:∀i,i<ys.length*T.sz e→∃l x,ys[i / T.sz e]? =some l∧l[i % T.sz e]? =some x:=fun i hi=>by
    obtain⟨a1,a2,a3⟩:=hjq i hi
    have h1:ys[i / T.sz e]? =some ys[i / T.sz e]:=List.getElem?_eq_getElem a1
    have h2:=hss _ _ h1
    exact⟨_,_,h1,List.getElem?_eq_getElem (by rw [h2];exact a2)⟩
   have hone:∀u∈news,u.oneCell'=true:=fun u hu=>by
    obtain⟨i,hi⟩:=List.getElem?_of_mem hu
    obtain⟨h1,rfl⟩:=WZ i u hi
    obtain⟨l,x,h2,h3⟩:=hat i h1
    exact(hr _ _ _ _ h2 h3).one
   have hread:∀j u,news[j]? =some u→w.cell? (ad.add j)=some u:=fun j u hj=>by
    obtain⟨h1,rfl⟩:=WZ j u hj
    obtain⟨l,x,h2,h3⟩:=hat j h1
    have:=hcell _ _ _ _ h2 h3
    rw [(hjq j h1).2.2] at this
    exact this
   obtain⟨v',w',r1,r2,r3,r4⟩:=uM (P:=P) (w:=w) t ty e inf' z (T.sz e) ei.bytes t8.1 g1 g4 (by rw [g2,hsz]) g3 (by rw [g4',hsz];simpa using g5) hpos v l1.length fx hfx ad l2.length c news hnl hread hone hm hb
   rw [hyl]
   refine⟨v',w',r1,?_,r3,hxb⟩
   have:=xY (xs:=l1.map (T.enc e)) (ys:=ys) (news:=news) (fy:=f) (H:=fun _ _ _=>False) hx hss (fun j l q x hj hq=>by
    have hjl:j<ys.length:=(List.getElem?_eq_some_iff.1 hj).1
    have kH:q<T.sz e:=by rw [←hss j l hj];exact(List.getElem?_eq_some_iff.1 hq).1
    have hlt2:j*T.sz e+q<ys.length*T.sz e:=by
     have:(j+1)*T.sz e≤ys.length*T.sz e:=Nat.mul_le_mul_right _ hjl
     rw [Nat.succ_mul] at this;omega
    refine⟨?_,?_⟩
    ·simp only [news,List.getElem?_map,List.getElem?_range hlt2,Option.map_some]
     rw [show(j*T.sz e+q) / T.sz e=j by rw [Nat.mul_comm,Nat.mul_add_div hpos,Nat.div_eq_of_lt kH,Nat.add_zero],show(j*T.sz e+q) % T.sz e=q by rw [Nat.mul_comm,Nat.mul_add_mod,Nat.mod_eq_of_lt kH]]
    ·obtain⟨y,hy,rfl⟩:∃y,l2[j]? =some y∧T.enc e y=l:=by
      rw [←hys,List.getElem?_map] at hj
      exact Option.map_eq_some_iff.1 hj
     obtain⟨v0,rfl⟩:=ab9 hfl hq
     have h5:=hr j _ q _ hj hq
     generalize f j q=fv at h5
     cases h5 with
     | sc _ h=>exact .sc _ _ h) (fun _ _ _ h=>h.elim) (fun _ _ _ _ _ h=>h.elim) fx (by simpa using hfx) (by rw [List.length_map,hyl];exact r2) r3 r4
   rw [←hys,←List.map_append] at this
   exact this.mono (fun k hk=>by
    rcases hk with h | ⟨j,q,h⟩ | h
    ·exact .inl h
    ·exact h.elim
    ·exact .inr h)
def aac (T:dX) (e:Nat) (n:Nat):T.Tb e:=match T.xO e [.sc (.int .u8 n)] with
 | some y=>y
 | none=>T.df e
def oL (T:dX) (e:Nat) (s:ByteArray):List (T.Tb e):=s.data.toList.map fun b=>aac T e b.toNat
def zl (T:dX) (e:Nat):Prop:=∀n:Nat,T.cells e (aac T e n)=[.sc (.int .u8 n)]
def U8 (P:Program) (e:Nat):Prop:=(P.info? e).map (fun i=>(i.zero,i.size,i.bytes))=some (some (.int .u8 0),1,1)
theorem Ja {e:Nat} {s:ByteArray}:(oL T e s).length=s.size:=by simp [oL]
theorem Jb {e:Nat} (hb:zl T e) {s:ByteArray}:(oL T e s).map (T.enc e)=s.data.toList.map fun b=>[V.sc (.int .u8 b.toNat)]:=by
 unfold oL
 rw [List.map_map]
 exact List.map_congr_left (fun b _=>by simp only [Function.comp];rw [T.gG,hb];rfl)
theorem QW {t u ty e:Nat} {ti ei ui:TI} (hT:T.ok P) (hti:T.ti t=some ti) (hk:ti.kind= .slice e) (W9:T.ti u=some ui) (hku:ui.kind= .text) (dY:T.ti e=some ei) (hs1:ei.size=1) (hbe:zl T e) (hu8:U8 P e) {Fx:Nat→Prop} {l1:List (T.Tb e)} {s:ByteArray} {v:Value} (hx:Ow T.sz w Fx (.sl e (l1.map (T.enc e))) v)
  (hm:l1.length+s.size≤maxLen) (hb:l1.length+s.size≤140737488355328):
  ∃v' w',(Builtin.append_ #[t,u] ty #[v, .string s]).run P w= .ok v' w'∧Ow T.sz w' (fun k=>Fx k∨w.heap.size≤k∧k<w'.heap.size) (.sl e ((l1++oL T e s).map (T.enc e))) v'∧w.grownBy w' v.ownBlock∧(∀g,v.ownBlock=some g→Fx g):=by
 obtain⟨inf,t1,t2,t3,t4,t5,t6,t7,t8⟩:=hT t ti hti
 rw [hk] at t8
 obtain⟨afx,_,_,_,_,_,_,_,u8⟩:=hT u ui W9
 rw [hku] at u8
 obtain⟨i,hi,hi2⟩:=Option.map_eq_some_iff.1 hu8
 simp only [Prod.mk.injEq] at hi2
 obtain⟨hz,hsize,hby⟩:=hi2
 have hsz:T.sz e=1:=by rw [kV dY,hs1]
 obtain⟨fx,hfx,_,_,_,_,_,_,hxb⟩:=sO hx
 simp only [List.length_map] at hfx
 rw [hsz] at hfx
 obtain⟨v',w',r1,r2,r3,r5⟩:=Lib.run_append_own_string (P:=P) w 0 t u ty e i t8.1 u8.1 hi hz hsize hby v l1.length fx hfx s hm hb (Nat.zero_le _)
 have r4:∀g,v'.ownBlock=some g→v.ownBlock=some g∨g=w.heap.size:=by
  intro g hgb
  rcases hfx.2 with ⟨rfl,hn0⟩ | ⟨g0,cap,cur,rfl,hbg,hg0,hnc,hcm,hcs,htake⟩
  ·by_cases hs0:s.size=0
   ·rw [r5.2 ⟨rfl,hs0⟩] at hgb;cases hgb
   ·have hr2:=run_append_nil_string (P:=P) w t u ty e i (.int .u8 0) t8.1 u8.1 hi hz s (by omega) (by simp only [maxLen] at hm;omega) (by rw [hby];omega)
    rw [hr2] at r1
    simp only [Result.ok.injEq] at r1
    rw [←r1.1] at hgb
    simp [Value.ownBlock] at hgb
    exact .inr hgb.symm
  ·by_cases hroom:l1.length+s.size≤cap
   ·have hr2:=Lib.run_append_room_string (P:=P) w t u ty e i t8.1 u8.1 hi hsize g0 l1.length cap cur hg0 s hroom (by have:cur.size=cap:=(by simpa using hcs);omega)
    rw [hr2] at r1
    simp only [Result.ok.injEq] at r1
    rw [←r1.1] at hgb
    exact .inl hgb
   ·have holds:∀j u,fx[j]? =some u→w.cell? ((⟨g0,0,none⟩:Addr).add j)=some u:=hfx.cells (g:=g0) rfl
    have hr2:=Lib.run_append_grow_string (P:=P) w t u ty e i (.int .u8 0) t8.1 u8.1 hi hz ⟨g0,0,none⟩ l1.length cap fx (by rw [hsize];simpa using hfx.1) holds s (by omega) (by simp only [maxLen] at hm;omega) (by rw [hby];exact growslice_fits (by omega) (by omega))
    rw [hr2] at r1
    simp only [Result.ok.injEq] at r1
    rw [←r1.1] at hgb
    simp [Value.ownBlock] at hgb
    exact .inr hgb.symm
 refine⟨v',w',r1,?_,r3,hxb⟩
 have hys:=Jb (s:=s) hbe
 have:=xY (xs:=l1.map (T.enc e)) (ys:=(oL T e s).map (T.enc e)) (news:=Lib.strCells s) (fy:=fun j _=> .int .u8 (s.data.toList.getD j 0).toNat) (H:=fun _ _ _=>False) hx (fun j l hj=>by
   rw [hys,List.getElem?_map] at hj
   obtain⟨b,_,rfl⟩:=Option.map_eq_some_iff.1 hj
   rw [hsz];rfl) (fun j l q x hj hq=>by
   rw [hys,List.getElem?_map] at hj
   obtain⟨b,hb,rfl⟩:=Option.map_eq_some_iff.1 hj
   have hq0:q=0:=by have:=(List.getElem?_eq_some_iff.1 hq).1;simp at this;exact this
   subst hq0
   simp only [List.getElem?_cons_zero,Option.some.injEq] at hq
   subst hq
   refine⟨?_,?_⟩
   ·rw [hsz,Nat.mul_one,Nat.add_zero,Lib.strCells,List.getElem?_map,hb]
    simp [List.getD_eq_getElem?_getD,hb]
   ·simp only [List.getD_eq_getElem?_getD,hb,Option.getD_some]
    exact .sc _ _ rfl) (fun _ _ _ h=>h.elim) (fun _ _ _ _ _ h=>h.elim) fx (by rw [List.length_map,hsz];exact hfx) (by rw [List.length_map,List.length_map,Ja,hsz];exact r2) r3 r4
 rw [←List.map_append] at this
 exact this.mono (fun k hk=>by
  rcases hk with h | ⟨j,q,h⟩ | h
  ·exact .inl h
  ·exact h.elim
  ·exact .inr h)
def qM (σ:St T) (nx:Nat) (dst:Option Nat) (t:Nat) (x y:Operand):eX T:=
 match T.ti t with
 | some ti=>match ti.kind with
   | .slice e=>match T.ti e with
     | some ei=>match T.el e with
       | true=>match yG σ e (dn σ x) with
         | some ⟨e1,l1,r1⟩=>match I7 σ (dn σ y) with
           | some ⟨p,e2,l2⟩=>match Nat.decEq e1 e,Nat.decEq e2 e with
             | .isTrue h1, .isTrue h2=>match bQ σ dst with
               | true=>match σ.fresh nx with
                 | true=> .done ⟨.c (.hd nx),(nx, .row nx e ((h1▸l1)++(h2▸l2)))::ji r1,nx::(r1++tZ p),1,nx::r1⟩ (some (vT T e∧l1.length+l2.length≤maxLen∧(l1.length+l2.length)*ei.bytes≤140737488355328))
                 | false=> .stuck
               | false=> .stuck
             | _,_=> .stuck
           | none=> .stuck
         | none=> .stuck
       | false=> .stuck
     | none=> .stuck
   | _=> .stuck
 | none=> .stuck
theorem CX (hT:T.ok P) {nx t:Nat} {x y:Operand} {U:bI T} {ob:Option Prop} (ho:o.op= .call {callee:= .builtin .append,args:=#[x,y],argTypes:=#[t,t]}) (h:qM σ nx o.dst t x y= .done U ob) (hob:pG ob):eH P W0 o σ U:=by
 unfold qM at h
 cases hi:T.ti t with
 | none=>rw [hi] at h;cases h
 | some ti=>
   rw [hi] at h
   dsimp only at h
   split at h
   ·rename_i e hk
    cases dY:T.ti e with
    | none=>rw [dY] at h;cases h
    | some ei=>
      rw [dY] at h
      dsimp only at h
      cases hel:T.el e<;>rw [hel] at h<;>dsimp only at h
      ·cases h
      cases hx:yG σ e (dn σ x) with
      | none=>rw [hx] at h;cases h
      | some ox=>
        obtain⟨e1,l1,r1⟩:=ox
        rw [hx] at h
        dsimp only at h
        cases hy:I7 σ (dn σ y) with
        | none=>rw [hy] at h;cases h
        | some oy=>
          obtain⟨p,e2,l2⟩:=oy
          rw [hy] at h
          dsimp only at h
          split at h
          ·rename_i h1 h2 _ _
           subst h1
           subst h2
           cases hd:bQ σ o.dst<;>rw [hd] at h<;>dsimp only at h
           ·cases h
           cases hf:σ.fresh nx<;>rw [hf] at h<;>cases h
           intro σ' a w K Q hA ⟨env,F,hS⟩ hK
           have e1':=bG hS hA (x:=x) (by simp [ho,Op.operands,Call.operands])
           have e2':=bG hS hA (x:=y) (by simp [ho,Op.operands,Call.operands])
           obtain⟨ox,Gt,_⟩:=EK hS hA e1' hx (fun r hr=>by simp [hr])
           obtain⟨_,oy⟩:=EM hS hA e2' hy (fun r hr=>by simp [hr])
           obtain⟨hu,hno⟩:=hA.new (r:=nx) (by simp) hf
           obtain⟨hfl,hm,hb⟩:=(show vT T e2∧l1.length+l2.length≤maxLen∧(l1.length+l2.length)*ei.bytes≤140737488355328 from hob)
           obtain⟨v',w',run,how,hgr,hbl⟩:=QV (ty:=o.type) hT hi hk dY hel hfl ox oy hm hb
           refine jC (jQ (v:=v') (w':=w') ho (by simp [builtin,Sem.run_bind,run])) (hK _ _ ?_)
           exact hS.gather hu hno Gt hgr.os hgr.tape hgr.output hgr.size (fun k hk hnk=>hgr.block k hk (fun e=>by obtain⟨r,hr,hkk⟩:=hbl k e.symm;exact hnk r hr hkk)) how (fun d hd'=>by rw [hA.n];exact bn hd d hd')
          ·cases h
   ·cases h
def xP (P:Program) (σ:St T) (nx:Nat) (dst:Option Nat) (t u:Nat) (x y:Operand):eX T:=
 match T.ti t with
 | some ti=>match ti.kind with
   | .slice e=>match T.ti e with
     | some ei=>match T.ti u with
       | some ui=>match ui.kind with
         | .text=>match Nat.beq ei.size 1 with
           | true=>match yG σ e (dn σ x) with
             | some ⟨e1,l1,r1⟩=>match sv (dn σ y) with
               | some (.string s)=>match Nat.decEq e1 e with
                 | .isTrue h1=>match bQ σ dst with
                   | true=>match σ.fresh nx with
                     | true=> .done ⟨.c (.hd nx),(nx, .row nx e ((h1▸l1)++oL T e s))::ji r1,nx::r1,1,nx::r1⟩ (some ((zl T e∧U8 P e)∧l1.length+s.size≤maxLen∧l1.length+s.size≤140737488355328))
                     | false=> .stuck
                   | false=> .stuck
                 | .isFalse _=> .stuck
               | _=> .stuck
             | none=> .stuck
           | false=> .stuck
         | _=> .stuck
       | none=> .stuck
     | none=> .stuck
   | _=> .stuck
 | none=> .stuck
theorem OL (hT:T.ok P) {nx t u:Nat} {x y:Operand} {U:bI T} {ob:Option Prop} (ho:o.op= .call {callee:= .builtin .append,args:=#[x,y],argTypes:=#[t,u]}) (h:xP P σ nx o.dst t u x y= .done U ob) (hob:pG ob):eH P W0 o σ U:=by
 unfold xP at h
 cases hi:T.ti t with
 | none=>rw [hi] at h;cases h
 | some ti=>
   rw [hi] at h
   dsimp only at h
   split at h
   ·rename_i e hk
    cases dY:T.ti e with
    | none=>rw [dY] at h;cases h
    | some ei=>
      rw [dY] at h
      dsimp only at h
      cases W9:T.ti u with
      | none=>rw [W9] at h;cases h
      | some ui=>
        rw [W9] at h
        dsimp only at h
        split at h
        ·rename_i hku
         cases hs1:Nat.beq ei.size 1<;>rw [hs1] at h<;>dsimp only at h
         ·cases h
         cases hx:yG σ e (dn σ x) with
         | none=>rw [hx] at h;cases h
         | some ox=>
           obtain⟨e1,l1,r1⟩:=ox
           rw [hx] at h
           dsimp only at h
           split at h
           ·rename_i s hy
            split at h
            ·rename_i h1 _
             subst h1
             cases hd:bQ σ o.dst<;>rw [hd] at h<;>dsimp only at h
             ·cases h
             cases hf:σ.fresh nx<;>rw [hf] at h<;>cases h
             intro σ' a w K Q hA ⟨env,F,hS⟩ hK
             have e1':=bG hS hA (x:=x) (by simp [ho,Op.operands,Call.operands])
             have e2':=iP (bG hS hA (x:=y) (by simp [ho,Op.operands,Call.operands])) hy
             obtain⟨ox,Gt,_⟩:=EK hS hA e1' hx (fun r hr=>by simp [hr])
             obtain⟨hu,hno⟩:=hA.new (r:=nx) (by simp) hf
             obtain⟨⟨hbe,hu8⟩,hm,hb⟩:=(show(zl T e1∧U8 P e1)∧l1.length+s.size≤maxLen∧l1.length+s.size≤140737488355328 from hob)
             obtain⟨v',w',run,how,hgr,hbl⟩:=QW (ty:=o.type) hT hi hk W9 hku dY (Nat.eq_of_beq_eq_true hs1) hbe hu8 ox hm hb
             refine jC (jQ (v:=v') (w':=w') ho (by simp [builtin,Sem.run_bind,e2',run])) (hK _ _ ?_)
             exact hS.gather hu hno Gt hgr.os hgr.tape hgr.output hgr.size (fun k hk hnk=>hgr.block k hk (fun e=>by obtain⟨r,hr,hkk⟩:=hbl k e.symm;exact hnk r hr hkk)) how (fun d hd'=>by rw [hA.n];exact bn hd d hd')
            ·cases h
           ·cases h
        ·cases h
   ·cases h
theorem eU.told (h:eU W0 σ a w env F) (g:Grew w w1) {dst:Option Nat} {s:Slot T} {v:Value} (hs:∀{σ1:St T},σ1.A=σ.A→bT σ1 env F w1 s v) (hd:∀d,dst=some d→d<σ.n):jD W0 (σ.upd dst ⟨s,[],bF,0,bH⟩) (a.put dst v) w1:=by
 have hr:∀r,(σ.upd dst ⟨s,[],bF,0,bH⟩).res r=σ.res r:=fun r=>St.nO (fun p hp=>by cases hp)
 exact h.upd (F1:=F) (bD:=env) (fun _=>False) (rO h.below g) ⟨St.iI _ _ _,g.size,fun k hk hst=>⟨hst,g.block k hk⟩⟩ (fun r _=>⟨rfl,fun _=>Iff.rfl,hr r,fun k hk=>g.block k (fQ h hk)⟩) (fun _ h=>h.elim) (fun _ _ h=>h.elim) (fun _ _ _ h=>h.elim) (fun _ h=>h.elim) (fun d e=>⟨hd d e,hs (St.iI _ _ _)⟩)
def Eo (σ:St T) (dst:Option Nat) (ts td:Nat) (x:Operand):eX T:=match T.ti ts with
 | some si=>match si.kind with
   | .text=>match T.ti td with
     | some di=>match di.kind with
       | .slice e=>match T.ti e with
         | some ei=>match ei.kind with
           | .num .u8=>match sv (dn σ x) with
             | some (.string s)=>match bQ σ dst with
               | true=> .done ⟨.c (.im none e (oL T e s)),[],[],0,[]⟩ (some (zl T e∧s.size≤140737488355328))
               | false=> .stuck
             | _=> .stuck
           | _=> .stuck
         | none=> .stuck
       | _=> .stuck
     | none=> .stuck
   | _=> .stuck
 | none=> .stuck
theorem Ue (hT:T.ok P) {ts td:Nat} {x:Operand} {U:bI T} {ob:Option Prop} (ho:o.op= .convert ts td x) (h:Eo σ o.dst ts td x= .done U ob) (hob:pG ob):eH P W0 o σ U:=by
 unfold Eo at h
 cases hsi:T.ti ts with
 | none=>rw [hsi] at h;cases h
 | some si=>
   rw [hsi] at h
   dsimp only at h
   split at h
   ·rename_i hks
    cases hdi:T.ti td with
    | none=>rw [hdi] at h;cases h
    | some di=>
      rw [hdi] at h
      dsimp only at h
      split at h
      ·rename_i e hkd
       cases dY:T.ti e with
       | none=>rw [dY] at h;cases h
       | some ei=>
         rw [dY] at h
         dsimp only at h
         split at h
         ·rename_i hke
          split at h
          ·rename_i s hx
           cases hd:bQ σ o.dst<;>rw [hd] at h<;>cases h
           obtain⟨sinf,s1,s2,s3,s4,s5,s6,s7,s8⟩:=hT ts si hsi
           obtain⟨aeh,d1,d2,d3,d4,d5,d6,d7,d8⟩:=hT td di hdi
           obtain⟨aei,q1,q2,q3,q4,q5,q6,q7,q8⟩:=hT e ei dY
           rw [hks] at s8
           rw [hkd] at d8
           rw [hke] at q8
           intro σ' a w K Q hA ⟨env,F,hS⟩ hK
           have e1:=iP (bG hS hA (x:=x) (by simp [ho,Op.operands])) hx
           obtain⟨hbe,hlen⟩:=(show zl T e∧s.size≤140737488355328 from hob)
           have hrun:=Lib.run_convert_string_bytes (P:=P) w ts td e s s8.1 d8.1 q8.1
           refine jC (v:= .slice (some ⟨w.heap.size,0,none⟩) s.size (grownCap w s.size 0 e)) (w':=Lib.bytesWorld w e s) (by unfold execOp;rw [ho];simp only [Sem.run_bind,e1,hrun];rfl) (hK _ _ ?_)
           have hg:Grew w (Lib.bytesWorld w e s):=⟨rfl,rfl,rfl,by rw [Lib.bytesWorld_size];omega,fun k hk=>Lib.bytesWorld_at_old w e s k hk⟩
           suffices key:∀σ1:St T,σ1.A=σ'.A→iK σ1 env F (Lib.bytesWorld w e s) (.im none e (oL T e s)) (.slice (some ⟨w.heap.size,0,none⟩) s.size (grownCap w s.size 0 e)) from
            hS.told hg (s:= .c (.im none e (oL T e s))) (fun {σ1} hA1=>key σ1 hA1) (fun d hd'=>by rw [hA.n];exact bn hd d hd')
           intro σ1 hA1
           refine⟨rfl,fun _=>?_⟩
           have hys:=Jb (s:=s) hbe
           have hsz:T.sz e=1:=by rw [kV dY,q8.2]
           have hl:((oL T e s).map (T.enc e)).length=s.size:=by rw [List.length_map,Ja]
           rw [←hl]
           refine Rd.sl e _ ⟨w.heap.size,0,none⟩ _ (fun j _=> .int .u8 (s.data.toList.getD j 0).toNat) (by rw [hl];exact grownCap_ge w s.size 0 e) (.inl ⟨by rw [hA1];exact hS.acc _ (hS.below.may (Nat.le_refl _)),fun r hr=>absurd (fQ hS hr) (Nat.lt_irrefl _)⟩) (by rw [Lib.bytesWorld_size];exact Nat.lt_succ_self _) ?_ ?_ ?_
           ·intro j l hj
            rw [hys,List.getElem?_map] at hj
            obtain⟨b,_,rfl⟩:=Option.map_eq_some_iff.1 hj
            rw [hsz];rfl
           ·intro j l q x hj hq
            have hjl:j<s.size:=by rw [←hl];exact(List.getElem?_eq_some_iff.1 hj).1
            rw [hys,List.getElem?_map] at hj
            obtain⟨b,_,rfl⟩:=Option.map_eq_some_iff.1 hj
            have hq0:q=0:=by have:=(List.getElem?_eq_some_iff.1 hq).1;simp at this;exact this
            subst hq0
            rw [hsz,Nat.mul_one,Nat.add_zero,add_lit,Nat.zero_add]
            exact Lib.bytesWorld_cell w e s j hjl
           ·intro j l q x hj hq
            rw [hys,List.getElem?_map] at hj
            obtain⟨b,hb,rfl⟩:=Option.map_eq_some_iff.1 hj
            have hq0:q=0:=by have:=(List.getElem?_eq_some_iff.1 hq).1;simp at this;exact this
            subst hq0
            simp only [List.getElem?_cons_zero,Option.some.injEq] at hq
            subst hq
            simp only [List.getD_eq_getElem?_getD,hb,Option.getD_some]
            exact .sc _ rfl
          ·cases h
         ·cases h
      ·cases h
   ·cases h
end
end Go.Proofs.YtcnfgfomholheaaGreatDoor.Z
end
section
namespace Go.Proofs.YtcnfgfomholheaaGreatDoor.Z
open Go.RowKit
set_option linter.unusedVariables false
set_option linter.unusedSimpArgs false
section
variable {T:dX} {P:Program} {W0:Fr} {σ σ' σ1:St T} {a:Act} {w w1:World} {env bD:Nat→Value} {F F1:Nat→Nat→Prop} {o:Oper} {bF bH:List Nat}
def rkC (σ:St T):C0 T.Tb→Cell T→Option (C0 T.Tb × Option Nat)
 | .sl e _, .sc (.slice none 0 0)=>some (.sl e [],none)
 | _, .sc v=>some (.sc v,none)
 | _, .im none e l=>some (.sl e l,none)
 | _, .hd r=>match σ.res r with
   | .row _ e l=>some (.sl e l,some r)
   | _=>none
 | _,_=>none
def AA (σ:St T):List (C0 T.Tb)→List (Cell T)→Option (List (C0 T.Tb) × List Nat)
 | c::cs,x::xs=>match rkC σ c x with
   | some (y,r)=>match AA σ cs xs with
     | some (ys,rs)=>match r with
       | some r=>some (y::ys,r::rs)
       | none=>some (y::ys,rs)
     | none=>none
   | none=>none
 | [],[]=>some ([],[])
 | _,_=>none
def pY (A:Nat→Prop) (F:Nat→Nat→Prop) (ms:List Nat) (k:Nat):Prop:=(A k∧∀r,¬F r k)∨∃r∈ms,F r k
theorem xZ {A:Nat→Prop} {l m:List Nat} {k:Nat}:(pY A F l k→pY A F (l++m) k)∧(pY A F m k→pY A F (l++m) k):=
 ⟨fun h=>h.imp id (fun⟨r,hr,hk⟩=>⟨r,List.mem_append_left _ hr,hk⟩),fun h=>h.imp id (fun⟨r,hr,hk⟩=>⟨r,List.mem_append_right _ hr,hk⟩)⟩
theorem acd (hS:eU W0 σ a w env F) {c y:C0 T.Tb} {x:Cell T} {r:Option Nat} {u:Value} (hσ:∀s,r=some s→σ.res s=σ1.res s) (hx:iK σ env F w x u) (h:rkC σ1 c x=some (y,r)):Rd T.sz w (pY σ.A F r.toList) (y.yZ T.enc) u∧∀s,r=some s→∃b e l,σ1.res s= .row b e l:=by
 unfold rkC at h
 split at h
 ·cases h
  have:=hx.1
  subst this
  exact⟨.nil _ none 0,fun s h=>by cases h⟩
 ·cases h
  obtain⟨h1,h2⟩:=hx
  subst h1
  exact⟨.sc _ h2,fun s h=>by cases h⟩
 ·cases h
  exact⟨(hx.2 trivial).mono (fun k hk=>hk.elim .inl (fun⟨q,hq,_⟩=>by cases hq)),fun s h=>by cases h⟩
 ·rename_i q
  cases hr:σ1.res q with
  | row b e l=>
    rw [hr] at h
    cases h
    have h1:=hS.res q
    rw [hσ q rfl,hr] at h1
    rw [hx.1]
    exact⟨(Ow.rd (show Ow T.sz w (F q) (.sl e (l.map (T.enc e))) (env q) from h1)).mono (fun k hk=> .inr ⟨q,by simp,hk⟩),fun s h=>by cases h;exact⟨b,e,l,hr⟩⟩
  | no=>rw [hr] at h;cases h
  | bx t cs=>rw [hr] at h;cases h
  | sh bv e l=>rw [hr] at h;cases h
  | hl e0 d0 j0 cs0 l0=>rw [hr] at h;cases h
 ·cases h
theorem EN (hS:eU W0 σ a w env F):∀{cs:List (C0 T.Tb)} {xs:List (Cell T)} {us:List Value} {ys:List (C0 T.Tb)} {rs:List Nat},aY σ env F w xs us→AA σ1 cs xs=some (ys,rs)→(∀s∈rs,σ.res s=σ1.res s)→ys.length=us.length∧(∀s∈rs,∃b e l,σ1.res s= .row b e l)∧∀{q:Nat} {y:C0 T.Tb} {u:Value},ys[q]? =some y→us[q]? =some u→Rd T.sz w (pY σ.A F rs) (y.yZ T.enc) u
 | [],[],us,ys,rs,hx,h,hσ=>by cases h;cases hx;exact⟨rfl,fun s h=>(by cases h),fun h=>by simp at h⟩
 | [],x::xs,us,ys,rs,hx,h,hσ=>by cases h
 | c::cs,[],us,ys,rs,hx,h,hσ=>by cases h
 | c::cs,x::xs,us,ys,rs,⟨u1,us',e,h3,h4⟩,h,hσ=>by
   subst e
   unfold AA at h
   cases h1:rkC σ1 c x with
   | none=>rw [h1] at h;cases h
   | some yr=>
     obtain⟨y1,r1⟩:=yr
     rw [h1] at h
     dsimp only at h
     cases h2:AA σ1 cs xs with
     | none=>rw [h2] at h;cases h
     | some ysr=>
       obtain⟨ys',rs'⟩:=ysr
       rw [h2] at h
       have key:ys=y1::ys'∧rs=r1.toList++rs':=by cases r1<;>cases h<;>exact⟨rfl,rfl⟩
       obtain⟨rfl,rfl⟩:=key
       obtain⟨a1,a2⟩:=acd hS (fun s hs=>hσ s (by simp [hs])) h3 h1
       obtain⟨b1,b2,b3⟩:=EN hS h4 h2 (fun s hs=>hσ s (List.mem_append_right _ hs))
       refine⟨by simp [b1],fun s hs=>?_,fun {q y u} hy hu=>?_⟩
       ·rcases List.mem_append.1 hs with hs | hs
        ·exact a2 s (by simpa using hs)
        ·exact b2 s hs
       ·cases q with
        | zero=>simp at hy hu;subst hy hu;exact a1.mono (fun k=>xZ.1)
        | succ q=>exact(b3 (by simpa using hy) (by simpa using hu)).mono (fun k=>xZ.2)
def Kz (σ:St T) (e n:Nat):Nat→List (Nat × Operand)→Option (List (T.Tb e) × List Nat)
 | _,[]=>some ([],[])
 | j,(i,x)::r=>match Nat.beq i j with
   | true=>match cellsS (dn σ x) with
     | some vs=>match Nat.beq vs.length n with
       | true=>match AA σ (T.cells e (T.df e)) vs with
         | some (ys,rs)=>match T.xO e ys with
           | some y=>match Kz σ e n (j+1) r with
             | some (l,rs')=>some (y::l,rs++rs')
             | none=>none
           | none=>none
         | none=>none
       | false=>none
     | none=>none
   | false=>none
theorem L6 (hS:eU W0 σ a w env F) {e n:Nat} {f:Operand→Value}:∀{ps:List (Nat × Operand)} {j:Nat} {l:List (T.Tb e)} {rs:List Nat},Kz σ1 e n j ps=some (l,rs)→(∀p∈ps,bT σ env F w (dn σ1 p.2) (f p.2))→(∀s∈rs,σ.res s=σ1.res s)→
  (∀(i:Nat) p,ps[i]? =some p→p.1=j+i∧(f p.2).cells.size=n)∧l.length=ps.length∧(ps.flatMap fun p=>(f p.2).cells.toList).length=ps.length*n∧(∀(i:Nat) (y:T.Tb e),l[i]? =some y→(T.enc e y).length=n)∧
  (∀r∈rs,∃b e l,σ1.res r= .row b e l)∧
  (∀(i:Nat) (y:T.Tb e) (q:Nat) (x:V),l[i]? =some y→(T.enc e y)[q]? =some x→∃u,(ps.flatMap fun p=>(f p.2).cells.toList)[i*n+q]? =some u∧Rd T.sz w (pY σ.A F rs) x u)
 | [],j,l,rs,h,_,_=>by
   cases h
   exact⟨fun i p h=>by simp at h,rfl,by simp,fun i y h=>by simp at h,fun r h=>(by cases h),fun i y q x h=>by simp at h⟩
 | (i,x)::ps,j,l,rs,h,hv,hσ=>by
   unfold Kz at h
   cases hb:Nat.beq i j<;>rw [hb] at h<;>dsimp only at h
   ·cases h
   have hij:=Nat.eq_of_beq_eq_true hb
   subst hij
   cases hc:cellsS (dn σ1 x) with
   | none=>rw [hc] at h;cases h
   | some vs=>
     rw [hc] at h
     dsimp only at h
     cases hn:Nat.beq vs.length n<;>rw [hn] at h<;>dsimp only at h
     ·cases h
     have hn:=Nat.eq_of_beq_eq_true hn
     cases hk:AA σ1 (T.cells e (T.df e)) vs with
     | none=>rw [hk] at h;cases h
     | some yr=>
       obtain⟨ys,Z9⟩:=yr
       rw [hk] at h
       dsimp only at h
       cases hy:T.xO e ys with
       | none=>rw [hy] at h;cases h
       | some y=>
         rw [hy] at h
         dsimp only at h
         cases hr:Kz σ1 e n (i+1) ps with
         | none=>rw [hr] at h;cases h
         | some lr=>
           obtain⟨l',rs'⟩:=lr
           rw [hr] at h
           cases h
           obtain⟨a1,a2,a4,a5,a6,a7⟩:=L6 hS hr (fun p hp=>hv p (List.mem_cons_of_mem _ hp)) (fun s hs=>hσ s (List.mem_append_right _ hs))
           have hcv:=lG (hv (i,x) (by simp)) hc
           have hl1:=jq hcv
           simp only [Array.length_toList] at hl1
           obtain⟨b1,b2,b3⟩:=EN hS hcv hk (fun s hs=>hσ s (List.mem_append_left _ hs))
           simp only [Array.length_toList] at b1
           have hcy:=T.mk_eq e ys y hy
           have hlen0:(f x).cells.toList.length=n:=by simp;omega
           refine⟨?_,by simp [a2],?_,?_,?_,?_⟩
           ·intro k p hp
            cases k with
            | zero=>simp at hp;subst hp;exact⟨rfl,by simp only;omega⟩
            | succ k=>obtain⟨c1,c2⟩:=a1 k p (by simpa using hp);exact⟨by omega,c2⟩
           ·simp only [List.flatMap_cons,List.length_append,List.length_cons,Nat.succ_mul]
            omega
           ·intro k z hz
            cases k with
            | zero=>simp at hz;subst hz;rw [T.gG,List.length_map,hcy];omega
            | succ k=>exact a5 k z (by simpa using hz)
           ·intro r hr'
            rcases List.mem_append.1 hr' with h | h
            ·exact b2 r h
            ·exact a6 r h
           ·intro k z q v hz hq
            cases k with
            | zero=>
              simp at hz
              subst hz
              rw [T.gG,List.getElem?_map,hcy] at hq
              obtain⟨c,hc',rfl⟩:=Option.map_eq_some_iff.1 hq
              have kH:q<ys.length:=(List.getElem?_eq_some_iff.1 hc').1
              obtain⟨u,hu⟩:∃u,(f x).cells.toList[q]? =some u:=⟨_,List.getElem?_eq_getElem (by rw [hlen0];omega)⟩
              refine⟨u,?_,(b3 hc' hu).mono (fun k=>xZ.1)⟩
              rw [List.flatMap_cons,Nat.zero_mul,Nat.zero_add,List.getElem?_append_left (by rw [hlen0];omega)]
              exact hu
            | succ k=>
              obtain⟨u,hu1,hu2⟩:=a7 k z q v (by simpa using hz) hq
              refine⟨u,?_,hu2.mono (fun k=>xZ.2)⟩
              rw [List.flatMap_cons,List.getElem?_append_right (by rw [hlen0,Nat.succ_mul];omega),hlen0,show(k+1)*n+q - n=k*n+q by rw [Nat.succ_mul];omega]
              exact hu1
def Ah (σ:St T) (dst:Option Nat) (t len:Nat) (parts:Array (Nat × Operand)):eX T:=match T.ti t with
 | some ti=>match ti.kind with
   | .slice e=>match T.ti e with
     | some ei=>match Nat.beq len parts.toList.length with
       | true=>match Nat.ble (len*ei.size) 16777216 with
         | true=>match Kz σ e ei.size 0 parts.toList with
           | some (l,ms)=>match bQ σ dst with
             | true=> .done ⟨.c (.im none e l),ji ms,ms,0,ms⟩ none
             | false=> .stuck
           | none=> .stuck
         | false=> .stuck
       | false=> .stuck
     | none=> .stuck
   | _=> .stuck
 | none=> .stuck
theorem QO (hT:T.ok P) {t len:Nat} {parts:Array (Nat × Operand)} {U:bI T} {ob:Option Prop} (ho:o.op= .buildSlice t len parts) (h:Ah σ o.dst t len parts= .done U ob):eH P W0 o σ U:=by
 unfold Ah at h
 cases hi:T.ti t with
 | none=>rw [hi] at h;cases h
 | some ti=>
   rw [hi] at h
   dsimp only at h
   split at h
   ·rename_i e hk
    cases dY:T.ti e with
    | none=>rw [dY] at h;cases h
    | some ei=>
      rw [dY] at h
      dsimp only at h
      cases hb:Nat.beq len parts.toList.length<;>rw [hb] at h<;>dsimp only at h
      ·cases h
      cases hbl:Nat.ble (len*ei.size) 16777216<;>rw [hbl] at h<;>dsimp only at h
      ·cases h
      cases he:Kz σ e ei.size 0 parts.toList with
      | none=>rw [he] at h;cases h
      | some lr=>
        obtain⟨l,ms⟩:=lr
        rw [he] at h
        dsimp only at h
        cases hd:bQ σ o.dst<;>rw [hd] at h<;>cases h
        have hb:=Nat.eq_of_beq_eq_true hb
        have hbl:=Nat.le_of_ble_eq_true hbl
        intro σ' a w K Q hA ⟨env,F,hS⟩ hK
        obtain⟨inf,h1,h2,h3,h4,h5,h6,h7,h8⟩:=hT t ti hi
        obtain⟨inf',g1,g2,g3,⟨z,g4,g4'⟩,g5,g6,g7,_⟩:=hT e ei dY
        rw [hk] at h8
        have hsz:T.sz e=ei.size:=kV dY
        obtain⟨a1,a2,a4,a5,a6,a7⟩:=L6 (f:=a.eval) hS he (fun p hp=>bG hS hA (by rw [ho];simp only [Op.operands,Array.toList_map];exact List.mem_map.2 ⟨p,hp,rfl⟩)) (fun s hs=>hA.res s hs)
        have hrow:∀r∈ms,∃b e l,σ'.res r= .row b e l:=fun r hr=>by rw [hA.res r hr];exact a6 r hr
        let vals:=parts.toList.flatMap fun p=>(a.eval p.2).cells.toList
        have hrun:(Instr.buildSlice t len (parts.map fun(i,x)=>(i,a.eval x))).run P w= .ok (.slice (some ⟨w.heap.size,0,none⟩) len len) (w.alloc (.cells vals.toArray e)):=by
         have hzs:z.cells.size=ei.size:=by rw [g4'];simpa using g5
         obtain⟨arr',f1,f2⟩:=Gu (f:=a.eval) (sz:=ei.size) (ps:=parts.toList) (j:=0) (arr:=madeCells z.cells (len*ei.size)) a1 (by rw [size_madeCells,hb];omega)
         have harr:arr'=vals.toArray:=by
          apply Array.ext'
          rw [f2,Nat.zero_mul,I5 (by rw [a4];simp [size_madeCells,hb])]
         by_cases hp:len*ei.size=0
         ·have hl0:len=0:=by rcases Nat.mul_eq_zero.1 hp with h | h<;>omega
          have hnil:parts.toList=[]:=List.eq_nil_of_length_eq_zero (by omega)
          have hparts:parts=#[]:=by apply Array.ext';simpa using hnil
          have hv:vals=[]:=by show parts.toList.flatMap _=[];rw [hnil];rfl
          rw [hv]
          subst hl0
          simp [Instr.buildSlice,run_underlying h8.1,sizeOf,typeInfo,g1,hparts,Instr.fill,newRow,show Array.range 0=(#[]:Array Nat) from rfl]
         ·rw [←harr]
          exact run_buildSlice w t e len _ arr' inf' z h8.1 g1 g4 (by rw [g2];omega) (by rw [g2];exact hp) (by rw [g2,Array.toList_map];exact f1)
        refine jC (I4 ho hrun) (hK _ _ ?_)
        have hlen:l.length=len:=by omega
        have hg:=Grew.alloc w (.cells vals.toArray e)
        let U1:bI T:=⟨.c (.im none e l),ji ms,ms,0,ms⟩
        let F1:Nat→Nat→Prop:=fun s k=>s∉ms∧F s k
        have gu:∀s,s∈ms→(σ'.upd o.dst U1).res s= .no:=fun s hs=>by rw [St.dP];exact oK hs
        have rM:∀s,s∉ms→(σ'.upd o.dst U1).res s=σ'.res s:=fun s hs=>by rw [St.dP];exact qA hs
        have calm:Calm σ' (σ'.upd o.dst U1) F F1 w (w.alloc (.cells vals.toArray e)):=⟨St.iI _ _ _,hg.size,fun k hk hst=>⟨fun s hs=>hst s hs.2,hg.block k hk⟩⟩
        have hPk:∀k,pY σ'.A F ms k→jo (σ'.upd o.dst U1).A F1 none k:=fun k hk=>by
         rcases hk with ⟨h1,h2⟩ | ⟨r,hr,hk⟩
         ·exact .inl ⟨by rw [St.iI];exact h1,fun s hs=>h2 s hs.2⟩
         ·exact .inl ⟨by rw [St.iI];exact hS.acc k (hS.own r k hk).1,fun s hs=>hs.1 (hS.apart s r k hs.2 hk▸hr)⟩
        refine hS.upd (bD:=env) (F1:=F1) (fun s=>s∈ms) (rO hS.below hg) calm (fun s hs=>⟨rfl,fun k=>⟨fun h=>h.2,fun h=>⟨hs,h⟩⟩,rM s hs,fun k hk=>hg.block k (fQ hS hk)⟩) (fun s hs=>by rw [gu s hs];exact fun k hk=>hk.1 hs) (fun s k hs hk=>(hk.1 hs).elim) (fun s s' k hs hk _=>(hk.1 hs).elim) (fun s hs=> .inr ⟨rfl,⟨fun bv e l hl=>(by rw [gu s hs] at hl;cases hl),fun bv e l hl=>(by rw [gu s hs] at hl;cases hl),fun e' d' j' cs' l' hl=>(by rw [gu s hs] at hl;cases hl)⟩,fun b=> .inl (by rintro⟨e',l',hl⟩;rw [gu s hs] at hl;cases hl)⟩) (fun d hd'=>⟨by rw [hA.n];exact bn hd d hd',?_⟩)
        have hlm:(l.map (T.enc e)).length=len:=by rw [List.length_map,hlen]
        show iK (σ'.upd o.dst U1) env F1 (w.alloc (.cells vals.toArray e)) (.im none e l) (.slice (some ⟨w.heap.size,0,none⟩) len len)
        refine⟨rfl,fun _=>?_⟩
        have hrd:Rd T.sz (w.alloc (.cells vals.toArray e)) (jo (σ'.upd o.dst U1).A F1 none) (.sl e (l.map (T.enc e))) (.slice (some ⟨w.heap.size,0,none⟩) (l.map (T.enc e)).length len):=by
         refine Rd.sl e _ ⟨w.heap.size,0,none⟩ len (fun j q=>vals[j*T.sz e+q]?.getD undef) (by rw [hlm];exact Nat.le_refl _) (.inl ⟨by rw [St.iI];exact hS.acc _ (hS.below.may (Nat.le_refl _)),fun s hs=>absurd (fQ hS hs.2) (Nat.lt_irrefl _)⟩) (by rw [wS];exact Nat.lt_succ_self _) ?_ ?_ ?_
         ·intro j l' hj
          rw [List.getElem?_map] at hj
          obtain⟨y,hy,rfl⟩:=Option.map_eq_some_iff.1 hj
          rw [a5 j y hy,hsz]
         ·intro j l' q x hj hq
          rw [List.getElem?_map] at hj
          obtain⟨y,hy,rfl⟩:=Option.map_eq_some_iff.1 hj
          obtain⟨u,hu1,hu2⟩:=a7 j y q x hy hq
          have Ky:vals[j*ei.size+q]? =some u:=hu1
          rw [oD (Aw w _),hsz,List.getElem?_toArray,Ky]
          rfl
         ·intro j l' q x hj hq
          rw [List.getElem?_map] at hj
          obtain⟨y,hy,rfl⟩:=Option.map_eq_some_iff.1 hj
          obtain⟨u,hu1,hu2⟩:=a7 j y q x hy hq
          have Ky:vals[j*ei.size+q]? =some u:=hu1
          rw [hsz,Ky]
          exact((hu2.bound.frame hg.size (fun k hk hl=>hg.block k hl)).mono (fun k hk=>hPk k hk.1))
        rw [hlm] at hrd
        exact hrd
   ·cases h
end
end Go.Proofs.YtcnfgfomholheaaGreatDoor.Z
end
section
namespace Go.Proofs.YtcnfgfomholheaaGreatDoor.Z
open Go.RowKit
set_option linter.unusedVariables false
set_option linter.unusedSimpArgs false
section
variable {T:dX} {P:Program} {W0:Fr} {σ σ' σ1:St T} {a:Act} {w w1 w':World} {env bD:Nat→Value} {F F1:Nat→Nat→Prop} {o:Oper} {bF bH:List Nat}
def Aa (σ:St T):Slot T→Bool
 | .c (.hd r)=>match σ.res r with
   | .sh _ _ _=>true
   | .hl _ _ _ _ _=>true
   | _=>false
 | .pe r _ _=>match σ.res r with
   | .sh _ _ _=>true
   | .hl _ _ _ _ _=>true
   | _=>false
 | _=>false
def Ij (σ:St T) (dst:Option Nat) (t:Nat) (x:Operand):eX T:=
 match T.ti t with
 | some i=>match i.kind with
   | .slice _=>match dn σ x with
     | .c (.hd r)=>match σ.res r with
       | .sh bv e l=>match bQ σ dst with
         | true=> .done ⟨.c (.sc (.int .i64 l.length)),[],[r],0,[]⟩ none
         | false=> .stuck
       | .hl e d j cs l=>match bQ σ dst with
         | true=> .done ⟨.c (.sc (.int .i64 l.length)),[],[r],0,[]⟩ none
         | false=> .stuck
       | _=> .stuck
     | _=> .stuck
   | _=> .stuck
 | none=> .stuck
theorem ace {R G:Nat→Prop} {e:Nat} {xs:List (List V)} {v:Value} (h:Sh T.sz R w G e xs v):∃A c,v= .slice A xs.length c:=by
 rcases h.form with ⟨h1,h2⟩ | ⟨g,cap,cur,h1,_⟩
 ·subst h1;exact⟨_,_,h2⟩
 ·exact⟨_,_,h1⟩
theorem kN {e d i:Nat} {raw:List (List Value)} {l:List (T.Tb e)}:(kY T e d i raw l).length=l.length:=by unfold kY;simp
theorem qP {e d i q:Nat} {raw:List (List Value)} {l:List (T.Tb e)} (h:q<l.length):(kY T e d i raw l)[q]? =some (if q<d∨q=i then (raw.getD q []).map V.sc else T.enc e (l.getD q (T.df e))):=by
 unfold kY;rw [List.getElem?_map,List.getElem?_range h];rfl
theorem WE (hT:T.ok P) {t:Nat} {x:Operand} {U:bI T} {ob:Option Prop} (ho:o.op= .call {callee:= .builtin .len,args:=#[x],argTypes:=#[t]}) (h:Ij σ o.dst t x= .done U ob):eH P W0 o σ U:=by
 unfold Ij at h
 cases hi:T.ti t with
 | none=>rw [hi] at h;cases h
 | some i=>
   rw [hi] at h
   dsimp only at h
   split at h
   ·rename_i e' hk
    split at h
    ·rename_i r hx
     split at h
     ·rename_i bv e l hr
      cases hd:bQ σ o.dst<;>rw [hd] at h<;>cases h
      refine quiet_step (bn hd) (fun σ' a w env F hA hS=>⟨.int .i64 l.length,?_,⟨rfl,rfl⟩⟩)
      have e1:=bG hS hA (x:=x) (by simp [ho,Op.operands,Call.operands])
      obtain⟨inf,h1,h2,h3,h4,h5,h6,h7,h8⟩:=hT t i hi
      rw [hk] at h8
      have h9:=hS.res r
      rw [hA.res r (by simp),hr] at h9
      obtain⟨A,c,h10⟩:=ace h9
      rw [hx] at e1
      refine jQ ho ?_
      simp only [List.map_toArray,List.map_cons,List.map_nil,builtin,Sem.run_bind,Sem.run_pure]
      rw [e1.1,h10,vw h8.1]
      simp
     ·rename_i e d j cs l hr
      cases hd:bQ σ o.dst<;>rw [hd] at h<;>cases h
      refine quiet_step (bn hd) (fun σ' a w env F hA hS=>⟨.int .i64 l.length,?_,⟨rfl,rfl⟩⟩)
      have e1:=bG hS hA (x:=x) (by simp [ho,Op.operands,Call.operands])
      obtain⟨inf,h1,h2,h3,h4,h5,h6,h7,h8⟩:=hT t i hi
      rw [hk] at h8
      have h9:=hS.res r
      rw [hA.res r (by simp),hr] at h9
      obtain⟨raw,_,h11,_⟩:=h9
      obtain⟨A,c,h10⟩:∃A c,env r= .slice A l.length c:=by
       rcases h11.form with ⟨h,h'⟩ | ⟨g,c,_,h,_⟩
       ·have h2:=congrArg List.length h
        rw [kN] at h2
        exact⟨none,0,by rw [h',h2];rfl⟩
       ·exact⟨_,c,by rw [kN] at h;exact h⟩
      rw [hx] at e1
      refine jQ ho ?_
      simp only [List.map_toArray,List.map_cons,List.map_nil,builtin,Sem.run_bind,Sem.run_pure]
      rw [e1.1,h10,vw h8.1]
      simp
     ·cases h
    ·cases h
   ·cases h
def rE (σ:St T) (dst:Option Nat) (t:Nat) (x i:Operand):eX T:=
 match T.ti t with
 | some ti=>match ti.kind with
   | .slice e'=>match T.ti e' with
     | some _=>match bQ σ dst with
       | true=>match sv (dn σ i) with
         | some (.int _ n)=>match dn σ x with
           | .c (.hd r)=>match σ.res r with
             | .sh bv e l=>match Nat.beq e e' with
               | true=> .done ⟨.pe r n.toNat 0,[],[r],0,[]⟩ (some (0≤n∧n<(l.length:Int)))
               | false=> .stuck
             | .hl e d j cs l=>match Nat.beq e e' with
               | true=> .done ⟨.pe r n.toNat 0,[],[r],0,[]⟩ (some (0≤n∧n<(l.length:Int)))
               | false=> .stuck
             | _=> .stuck
           | _=> .stuck
         | _=> .stuck
       | false=> .stuck
     | none=> .stuck
   | _=> .stuck
 | none=> .stuck
theorem Iu (hT:T.ok P) {t:Nat} {x i:Operand} {U:bI T} {ob:Option Prop} (ho:o.op= .indexAddr t x i) (h:rE σ o.dst t x i= .done U ob) (hob:pG ob):eH P W0 o σ U:=by
 unfold rE at h
 cases hi:T.ti t with
 | none=>rw [hi] at h;cases h
 | some ti=>
   rw [hi] at h
   dsimp only at h
   split at h
   ·rename_i e' hk
    cases he:T.ti e' with
    | none=>rw [he] at h;cases h
    | some ei=>
      rw [he] at h
      dsimp only at h
      cases hd:bQ σ o.dst<;>rw [hd] at h<;>dsimp only at h
      ·cases h
      obtain⟨inf,h1,h2,h3,h4,h5,h6,h7,h8⟩:=hT t ti hi
      obtain⟨inf',g1,g2,_⟩:=hT e' ei he
      rw [hk] at h8
      split at h
      ·rename_i k n hn
       split at h
       ·rename_i r hx
        split at h
        ·rename_i bv e l hr
         cases hb:Nat.beq e e'<;>rw [hb] at h<;>cases h
         have hee:=Nat.eq_of_beq_eq_true hb
         subst hee
         refine quiet_step (bn hd) (fun σ' a w env F hA hS=>?_)
         have e1:=bG hS hA (x:=x) (by simp [ho,Op.operands])
         have e2:=iP (bG hS hA (x:=i) (by simp [ho,Op.operands])) hn
         rw [hx] at e1
         have hr':σ'.res r= .sh bv e l:=by rw [hA.res r (by simp)];exact hr
         have h10:=hS.res r
         rw [hr'] at h10
         have hob:0≤n∧n<(l.length:Int):=hob
         have hlt:n.toNat<l.length:=by omega
         have h13:∃g c,env r= .slice (some ⟨g,0,none⟩) l.length c:=by
          rcases Sh.form h10 with ⟨h,_⟩ | ⟨g,c,_,h,_⟩
          ·have h':=congrArg List.length h
           simp at h';subst h';simp at hlt
          ·exact⟨g,c,by simpa using h⟩
         obtain⟨g,c,BG⟩:=h13
         refine⟨.pointer (some ((⟨g,0,none⟩:Addr).add (n.toNat*inf'.size))),vC ho ?_,?_⟩
         ·rw [e1.1,BG,e2]
          exact rP h8.1 g1 hob.1 (by simpa using hob.2) w
         ·refine⟨fun kF e' l' jS=>?_,fun kF e' l' jS=>?_,fun e' d' j' cs' l' jS=>by rw [hr'] at jS;cases jS⟩
          ·rw [hr'] at jS
           cases jS
          ·rw [hr'] at jS
           cases jS
           exact⟨hlt,g,c,BG,by rw [kV he,←g2];rfl⟩
        ·rename_i e d j cs l hr
         cases hb:Nat.beq e e'<;>rw [hb] at h<;>cases h
         have hee:=Nat.eq_of_beq_eq_true hb
         subst hee
         refine quiet_step (bn hd) (fun σ' a w env F hA hS=>?_)
         have e1:=bG hS hA (x:=x) (by simp [ho,Op.operands])
         have e2:=iP (bG hS hA (x:=i) (by simp [ho,Op.operands])) hn
         rw [hx] at e1
         have hr':σ'.res r= .hl e d j cs l:=by rw [hA.res r (by simp)];exact hr
         have h10:=hS.res r
         rw [hr'] at h10
         obtain⟨raw,_,h11,_⟩:=h10
         have hob:0≤n∧n<(l.length:Int):=hob
         have hlt:n.toNat<l.length:=by omega
         have h13:∃g c,env r= .slice (some ⟨g,0,none⟩) l.length c:=by
          rcases h11.form with ⟨h,_⟩ | ⟨g,c,_,h,_⟩
          ·have h':=congrArg List.length h
           rw [kN] at h'
           rw [h'] at hlt
           exact absurd hlt (Nat.not_lt_zero _)
          ·exact⟨g,c,by rw [kN] at h;exact h⟩
         obtain⟨g,c,BG⟩:=h13
         refine⟨.pointer (some ((⟨g,0,none⟩:Addr).add (n.toNat*inf'.size))),vC ho ?_,?_⟩
         ·rw [e1.1,BG,e2]
          exact rP h8.1 g1 hob.1 (by simpa using hob.2) w
         ·refine⟨fun kF e' l' jS=>(by rw [hr'] at jS;cases jS),fun kF e' l' jS=>(by rw [hr'] at jS;cases jS),fun e' d' j' cs' l' jS=>?_⟩
          rw [hr'] at jS
          cases jS
          exact⟨hlt,g,c,BG,by rw [kV he,←g2];rfl⟩
        ·cases h
       ·cases h
      ·cases h
   ·cases h
theorem YT {sz:Nat→Nat} {G:Nat→Prop} {e:Nat} {xs:List (List V)} {g n c:Nat} {i:Nat} {vs:List Value} (h:Ow sz w G (.sl e xs) (.slice (some ⟨g,0,none⟩) n c)) (hi:xs[i]? =some (vs.map V.sc)):∀q v,vs[q]? =some v→w.cell? (((⟨g,0,none⟩:Addr).add (i*sz e)).add q)=some v:=by
 cases h with
 | sl F e xs g cap cur f G' hg hF hn hmx hz hs hcell hr hG' hd=>
   intro q v hq
   have k5:(vs.map V.sc)[q]? =some (.sc v):=by rw [List.getElem?_map,hq];rfl
   have k7:f i q=v:=by
    have k6:=hr i _ q _ hi k5
    generalize f i q=fv at k6⊢
    cases k6;rfl
   rw [add_add,oD hg,hcell i _ q _ hi k5,k7]
theorem YU {G:Nat→Prop} {e:Nat} {l:List (T.Tb e)} {g n c:Nat} {i:Nat} (h:Sh T.sz (jo σ.A F none) w G e (l.map (T.enc e)) (.slice (some ⟨g,0,none⟩) n c)) (hi:i<l.length):
  ∃vs,aY σ env F w ((T.cells e (bV T e l i)).map (toCell none)) vs∧∀j v,vs[j]? =some v→w.cell? (((⟨g,0,none⟩:Addr).add (i*T.sz e)).add j)=some v:=by
 obtain⟨raw,h1,h2,h3⟩:=h
 generalize hm:raw.map (fun l=>l.map V.sc)=m at h1
 have hj:(l.map (T.enc e))[i]? =some (T.enc e (bV T e l i)):=by simp [bV,hi,List.getD_eq_getElem?_getD]
 have hir:i<raw.length:=by rw [h2];simpa using hi
 have hk:m[i]? =some (raw[i].map V.sc):=by rw [←hm,List.getElem?_map,List.getElem?_eq_getElem hir];rfl
 obtain⟨k3,k4⟩:=h3 i raw[i] _ (List.getElem?_eq_getElem hir) hj
 cases h1 with
 | sl F e m g cap cur f G' hg hF hn hmx hz hs hcell hr hG' hd=>
   refine(fun(⟨vs,h3,h4⟩:∃vs,aY σ env F w ((T.cells e (bV T e l i)).map (toCell none)) vs∧∀j v,vs[j]? =some v→w.cell? ((⟨g,0,none⟩:Addr).add (i*T.sz e+j))=some v)=>⟨vs,h3,fun j v hj=>by rw [add_add];exact h4 j v hj⟩) (AB (σ:=σ) (env:=env) (cs:=T.cells e (bV T e l i)) (p:=none) (F:=F) (w:=w) (b:=⟨g,0,none⟩) (m:=i*T.sz e) (fun q c hq=>?_))
   have hq2:(T.enc e (bV T e l i))[q]? =some (C0.yZ T.enc c):=by rw [T.gG,List.getElem?_map,hq];rfl
   have hq':q<raw[i].length:=by rw [k3];exact(List.getElem?_eq_some_iff.1 hq2).1
   have k5:(raw[i].map V.sc)[q]? =some (.sc raw[i][q]):=by rw [List.getElem?_map,List.getElem?_eq_getElem hq'];rfl
   have k7:f i q=raw[i][q]:=by
    have k6:=hr i _ q _ hk k5
    generalize f i q=fv at k6⊢
    generalize raw[i][q]=rv at k6⊢
    cases k6;rfl
   exact⟨raw[i][q],by rw [oD hg,hcell i _ q _ hk k5,k7],k4 q _ _ (List.getElem?_eq_getElem hq') hq2⟩
def Em (σ:St T) (dst:Option Nat) (t:Nat) (x:Operand):eX T:=
 match T.ti t with
 | some i=>match bQ σ dst with
   | true=>match dn σ x with
     | .pe r j n=>match σ.res r with
       | .sh bv e l=>match jK i ((T.cells e (bV T e l j)).map (toCell none)) n with
         | some s=> .done ⟨s,[],r::s.refs,0,[]⟩ none
         | none=> .stuck
       | .hl e d k cs l=>match jK i cs n with
         | some s=> .done ⟨s,[],r::s.refs,0,[]⟩ (some (j=k))
         | none=> .stuck
       | _=> .stuck
     | _=> .stuck
   | false=> .stuck
 | none=> .stuck
theorem Uc (hT:T.ok P) {t:Nat} {x:Operand} {U:bI T} {ob:Option Prop} (ho:o.op= .load t x) (h:Em σ o.dst t x= .done U ob) (hob:pG ob):eH P W0 o σ U:=by
 unfold Em at h
 cases hi:T.ti t with
 | none=>rw [hi] at h;cases h
 | some i=>
   rw [hi] at h
   dsimp only at h
   cases hd:bQ σ o.dst<;>rw [hd] at h<;>dsimp only at h
   ·cases h
   have hty:=hT t i hi
   split at h
   ·rename_i r j n hx
    split at h
    ·rename_i bv e l hr
     cases hs:jK i ((T.cells e (bV T e l j)).map (toCell none)) n with
     | none=>rw [hs] at h;cases h
     | some s=>
       rw [hs] at h
       cases h
       refine quiet_step (bn hd) (fun σ' a w env F hA hS=>?_)
       have e1:=bG hS hA (x:=x) (by simp [ho,Op.operands])
       rw [hx] at e1
       have hr':σ'.res r= .sh bv e l:=by rw [hA.res r (by simp)];exact hr
       obtain⟨hj,g,c,h1,h2⟩:=e1.2.1 bv e l hr'
       have h3:=hS.res r
       rw [hr'] at h3
       have h3':Sh T.sz (jo σ'.A F none) w (F r) e (l.map (T.enc e)) (env r):=h3
       rw [h1] at h3'
       obtain⟨vs,h4,h5⟩:=YU (σ:=σ') (env:=env) h3' hj
       obtain⟨v,h9,h10⟩:=zf hty h4 h5 hs
       rw [add_add] at h9
       exact⟨v,uz ho (by rw [h2];exact h9),h10⟩
    ·rename_i e d k cs l hr
     cases hs:jK i cs n with
     | none=>rw [hs] at h;cases h
     | some s=>
       rw [hs] at h
       cases h
       have hjk:j=k:=hob
       subst hjk
       refine quiet_step (bn hd) (fun σ' a w env F hA hS=>?_)
       have e1:=bG hS hA (x:=x) (by simp [ho,Op.operands])
       rw [hx] at e1
       have hr':σ'.res r= .hl e d j cs l:=by rw [hA.res r (by simp)];exact hr
       obtain⟨hj,g,c,h1,h2⟩:=e1.2.2 e d j cs l hr'
       have h3:=hS.res r
       rw [hr'] at h3
       obtain⟨raw,h4,h5,h6⟩:=h3
       rw [h1] at h5
       have h7:=YT h5 (i:=j) (vs:=raw.getD j []) (by rw [qP hj,if_pos (.inr rfl)])
       obtain⟨v,h9,h10⟩:=zf hty h6 h7 hs
       rw [add_add] at h9
       exact⟨v,uz ho (by rw [h2];exact h9),h10⟩
    ·cases h
   ·cases h
def Ae (σ:St T) (nx:Nat) (dst:Option Nat) (t:Nat) (x v:Operand):eX T:=
 match dst with
 | none=>match T.ti t with
   | some ti=>match dn σ x with
     | .pe r i n=>match σ.res r with
       | .sh bv e l=>match T.ti e with
         | some ei=>match T.el e with
           | true=>match cellsS (dn σ v) with
             | some vs=>match AA σ (((T.cells e (bV T e l i)).drop n).take vs.length) vs with
               | some (ys,ms)=>match kM (r::ms) with
                 | true=>match Nat.beq vs.length ti.size with
                   | true=>match Nat.ble (n+vs.length) ei.size with
                     | true=>match T.xO e (splice (T.cells e (bV T e l i)) n ys) with
                       | some y=>match σ.fresh nx with
                         | true=> .done ⟨.ud,(r, .sh nx e (l.set i y))::ji ms,r::nx::ms,1,r::nx::ms⟩ none
                         | false=> .stuck
                       | none=> .stuck
                     | false=> .stuck
                   | false=> .stuck
                 | false=> .stuck
               | none=> .stuck
             | none=> .stuck
           | false=> .stuck
         | none=> .stuck
       | _=> .stuck
     | _=> .stuck
   | none=> .stuck
 | some _=> .stuck
theorem YV {sz:Nat→Nat} {R R' G:Nat→Prop} {e:Nat} {xs:List (List V)} {v:Value} (h:Sh sz R w G e xs v) {i n:Nat} {old new:List V} {us:List Value} (hi:xs[i]? =some old) (hl:new.length=old.length) (hn:n+us.length≤sz e)
  (hold:∀q x,new[q]? =some x→(q<n∨n+us.length≤q)→old[q]? =some x) (hnew:∀q x u,new[n+q]? =some x→us[q]? =some u→Rd sz w R' x u) (Xa:∀k,R k→¬G k) (aej:∀k,R' k→¬G k):
  ∃g cap cur,v= .slice (some ⟨g,0,none⟩) xs.length cap∧G g∧w.heap[g]? =some (.cells cur e (0,0))∧i*sz e+n+us.length≤cur.size∧
   Sh sz (fun k=>R k∨R' k) (w.setRow g (splice cur.toList (i*sz e+n) us).toArray) G e (xs.set i new) v:=by
 obtain⟨raw,h1,h2,h3⟩:=h
 have hil:i<xs.length:=(List.getElem?_eq_some_iff.1 hi).1
 have hir:i<raw.length:=by omega
 obtain⟨k3,k4⟩:=h3 i raw[i] old (List.getElem?_eq_getElem hir) hi
 have hol:old.length=sz e:=by
  rw [←k3]
  have:((raw.map (fun l=>l.map V.sc))[i]?)=some (raw[i].map V.sc):=by rw [List.getElem?_map,List.getElem?_eq_getElem hir];rfl
  have hs':∀(j:Nat) (l:List V),(raw.map (fun l=>l.map V.sc))[j]? =some l→l.length=sz e:=by
   generalize raw.map (fun l=>l.map V.sc)=m at h1⊢
   cases h1 with
   | nil F e=>intro j l h;simp at h
   | sl F e m g cap cur f G' hg hF hn hmx hz hs hcell hr hG' hd=>exact hs
  rw [←hs' i _ this];simp
 have hfit:n+us.length≤raw[i].length:=by omega
 obtain⟨g,cap,cur,g1,g2,g3,g4,g5⟩:=Gz h1 (i:=i) (o:=n) (old:=raw[i].map V.sc) (new:=(splice raw[i] n us).map V.sc) (us:=us) (by rw [List.getElem?_map,List.getElem?_eq_getElem hir];rfl) (by rw [List.length_map,kC hfit,k3,hol]) hn
  (fun q x hq hqo=>by
   rw [List.getElem?_map,gq hfit] at hq
   rw [List.getElem?_map]
   rcases hqo with h | h
   ·rw [if_pos h] at hq;exact hq
   ·rw [if_neg (by omega),if_neg (by omega)] at hq;exact hq)
  (fun _ _=>False)
  (fun q x u hq zn=>by
   have kH:=(List.getElem?_eq_some_iff.1 zn).1
   rw [List.getElem?_map,gq hfit,if_neg (by omega),if_pos (by omega),show n+q - n=q by omega,zn] at hq
   simp only [Option.map_some,Option.some.injEq] at hq
   subst hq
   have hone:u.oneCell'=true:=by
    have hnl:n+q<new.length:=by omega
    exact(hnew q new[n+q] u (List.getElem?_eq_getElem hnl) zn).one
   exact .sc _ _ hone) (fun _ _ h=>h.elim) (fun _ _ _ h=>h.elim)
 rw [List.length_map,h2] at g1
 have hlx:(xs.set i new).length=xs.length:=by simp
 have hfr:∀k,k≠g→(w.setRow g (splice cur.toList (i*sz e+n) us).toArray).heap[k]? =w.heap[k]?:=fun k hk=>setRow_other w g k _ hk
 have hrd:∀{Q:Nat→Prop} {x:V} {u:Value},(∀k,Q k→¬G k)→Rd sz w Q x u→Rd sz (w.setRow g (splice cur.toList (i*sz e+n) us).toArray) Q x u:=fun hQ hr=>hr.frame (by rw [setRow_size];exact Nat.le_refl _) (fun k hk _=>hfr k (fun e=>hQ k hk (e▸g2)))
 refine⟨g,cap,cur,g1,g2,g3,g4,raw.set i (splice raw[i] n us),?_,by simp [h2],fun j r x hj hx=>?_⟩
 ·rw [List.map_set]
  exact g5.mono (fun k hk=>hk.elim id (fun⟨_,h⟩=>h.elim))
 ·rw [List.getElem?_set] at hj hx
  by_cases e1:i=j
  ·subst e1
   simp [hir,hil] at hj hx
   subst hj hx
   refine⟨by rw [kC hfit,k3,hl],fun q u y hq hy=>?_⟩
   rw [gq hfit] at hq
   by_cases q1:q<n
   ·rw [if_pos q1] at hq
    exact(hrd Xa (k4 q u y hq (hold q y hy (.inl q1)))).mono (fun k hk=> .inl hk)
   ·rw [if_neg q1] at hq
    by_cases q2:q<n+us.length
    ·rw [if_pos q2] at hq
     exact(hrd aej (hnew (q - n) y u (by rw [show n+(q - n)=q by omega];exact hy) hq)).mono (fun k hk=> .inr hk)
    ·rw [if_neg q2] at hq
     exact(hrd Xa (k4 q u y hq (hold q y hy (.inr (by omega))))).mono (fun k hk=> .inl hk)
  ·rw [if_neg e1] at hj hx
   obtain⟨m3,m4⟩:=h3 j r x hj hx
   exact⟨m3,fun q u y hq hy=>(hrd Xa (m4 q u y hq hy)).mono (fun k hk=> .inl hk)⟩
theorem aaV {cs:List (C0 T.Tb)} {xs:List (Cell T)} {us:List Value} {ys:List (C0 T.Tb)} {rs:List Nat} (hS:eU W0 σ a w env F) (hx:aY σ env F w xs us) (h:AA σ1 cs xs=some (ys,rs)) (hσ:∀s∈rs,σ.res s=σ1.res s):∀u∈us,u.oneCell'=true:=by
 obtain⟨h1,_,h3⟩:=EN hS hx h hσ
 intro u hu
 obtain⟨q,hq⟩:=List.getElem?_of_mem hu
 have kH:q<ys.length:=by rw [h1];exact(List.getElem?_eq_some_iff.1 hq).1
 exact(h3 (List.getElem?_eq_getElem kH) hq).one
theorem QM (hT:T.ok P) {nx t:Nat} {x v:Operand} {U:bI T} {ob:Option Prop} (ho:o.op= .store t x v) (h:Ae σ nx o.dst t x v= .done U ob):eH P W0 o σ U:=by
 unfold Ae at h
 split at h
 ·rename_i hdn
  cases hi:T.ti t with
  | none=>rw [hi] at h;cases h
  | some ti=>
    rw [hi] at h
    dsimp only at h
    split at h
    ·rename_i r i n hx
     split at h
     ·rename_i bv e l hr
      cases dY:T.ti e with
      | none=>rw [dY] at h;cases h
      | some ei=>
        rw [dY] at h
        dsimp only at h
        cases hel:T.el e<;>rw [hel] at h<;>dsimp only at h
        ·cases h
        cases hc:cellsS (dn σ v) with
        | none=>rw [hc] at h;cases h
        | some vs=>
          rw [hc] at h
          dsimp only at h
          cases hk:AA σ (((T.cells e (bV T e l i)).drop n).take vs.length) vs with
          | none=>rw [hk] at h;cases h
          | some yr=>
            obtain⟨ys,ms⟩:=yr
            rw [hk] at h
            dsimp only at h
            cases hnd:kM (r::ms)<;>rw [hnd] at h<;>dsimp only at h
            ·cases h
            cases hb:Nat.beq vs.length ti.size<;>rw [hb] at h<;>dsimp only at h
            ·cases h
            cases hbl:Nat.ble (n+vs.length) ei.size<;>rw [hbl] at h<;>dsimp only at h
            ·cases h
            cases hy:T.xO e (splice (T.cells e (bV T e l i)) n ys) with
            | none=>rw [hy] at h;cases h
            | some y=>
              rw [hy] at h
              dsimp only at h
              cases hf:σ.fresh nx<;>rw [hf] at h<;>cases h
              intro σ' a w K Q hA ⟨env,F,hS⟩ hK
              have e1:=bG hS hA (x:=x) (by simp [ho,Op.operands])
              have e2:=bG hS hA (x:=v) (by simp [ho,Op.operands])
              rw [hx] at e1
              have hr':σ'.res r= .sh bv e l:=by rw [hA.res r (by simp)];exact hr
              obtain⟨hil,g,cap,he,hp⟩:=e1.2.1 bv e l hr'
              obtain⟨hu,hno⟩:=hA.new (r:=nx) (by simp) hf
              have hrr:r∉ms:=fun hm=>by unfold kM at hnd;rw [ig.2 hm] at hnd;cases hnd
              have hcv:=lG e2 hc
              have hl1:=jq hcv
              simp only [Array.length_toList] at hl1
              have hb':=Nat.eq_of_beq_eq_true hb
              have O7:=Nat.le_of_ble_eq_true hbl
              have acf:∀s∈ms,σ'.res s=σ.res s:=fun s hs=>hA.res s (by simp [hs])
              obtain⟨k1,k2,k3⟩:=EN hS hcv hk acf
              simp only [Array.length_toList] at k1
              have GH:T.sz e=ei.size:=kV dY
              have hget:bV T e l i=l[i]:=by simp [bV,hil]
              have ND:(T.cells e (bV T e l i)).length=ei.size:=T.len e _ ei hel dY
              have hmk:=T.mk_eq e _ y hy
              have hfit:n+ys.length≤(T.cells e (bV T e l i)).length:=by rw [ND];omega
              have h3:=hS.res r
              rw [hr'] at h3
              have h3':Sh T.sz (jo σ'.A F none) w (F r) e (l.map (T.enc e)) (env r):=h3
              have hyl:ys.length=(a.eval v).cells.toList.length:=by simpa using k1
              have hst:=YV (R':=pY σ'.A F ms) (us:=(a.eval v).cells.toList) (old:=T.enc e l[i]) (new:=T.enc e y) (i:=i) (n:=n) h3' (by simp [hil]) (by rw [T.gG,List.length_map,hmk,kC hfit,T.gG,List.length_map,hget]) (by rw [GH];simp only [Array.length_toList];omega)
               (by
                intro q x' hq hqo
                rw [T.gG,List.getElem?_map,hmk,gq hfit] at hq
                rw [T.gG,List.getElem?_map,←hget]
                rcases hqo with h | h
                ·rw [if_pos h] at hq;exact hq
                ·rw [if_neg (by omega),if_neg (by omega)] at hq;exact hq)
               (by
                intro q x' u hq zn
                rw [T.gG,List.getElem?_map,hmk,gq hfit] at hq
                have kH:q<(a.eval v).cells.toList.length:=(List.getElem?_eq_some_iff.1 zn).1
                rw [if_neg (by omega),if_pos (by omega),show n+q - n=q by omega] at hq
                obtain⟨y0,hy0,rfl⟩:=Option.map_eq_some_iff.1 hq
                exact k3 hy0 zn)
               (fun k hk hF=>hk.elim (fun h=>h.2 r hF) (fun⟨q,hq,_⟩=>by cases hq))
               (fun k hk hF=>hk.elim (fun h=>h.2 r hF) (fun⟨s,hs,hk2⟩=>hrr (hS.apart s r k hk2 hF▸hs)))
              obtain⟨g',cap',cur,he',hFg,hg,Jc,how⟩:=hst
              rw [he] at he'
              simp only [Value.slice.injEq,Option.some.injEq,Addr.mk.injEq,and_true,true_and] at he'
              obtain⟨rfl,-,-⟩:=he'
              have hrun:=uf (hT t ti hi) (v:=a.eval v) (n:=i*T.sz e+n) hg (by omega) (by simpa using Jc) (aaV hS hcv hk acf)
              refine vF (vG ho (by rw [hp,add_lit,Nat.zero_add];exact hrun)) (hK _ _ ?_)
              have hgW:=hS.own r g hFg
              let U1:bI T:=⟨.ud,(r, .sh nx e (l.set i y))::ji ms,r::nx::ms,1,r::nx::ms⟩
              let w1:World:=w.setRow g (splice cur.toList (i*T.sz e+n) (a.eval v).cells.toList).toArray
              let F1:Nat→Nat→Prop:=fun s k=>s∉ms∧F s k
              have iZ:(σ'.upd o.dst U1).res r= .sh nx e (l.set i y):=by rw [St.dP];simp [U1,lk]
              have gu:∀s,s∈ms→(σ'.upd o.dst U1).res s= .no:=fun s hs=>by
               rw [St.dP]
               show lk _ ((r,_)::ji ms) s=_
               unfold lk
               rw [fD (k:=r) (t:=s) (fun e=>hrr (by rw [e];exact hs))]
               exact oK hs
              have rM:∀s,s≠r→s∉ms→(σ'.upd o.dst U1).res s=σ'.res s:=fun s h1 h2=>by
               rw [St.dP]
               show lk _ ((r,_)::ji ms) s=_
               unfold lk
               rw [fD (k:=r) (t:=s) (fun e=>h1 e.symm)]
               exact qA h2
              have hne:∀k,k≠g→w1.heap[k]? =w.heap[k]?:=fun k hk=>setRow_other w g k _ hk
              have calm:Calm σ' (σ'.upd o.dst U1) F F1 w w1:=⟨St.iI _ _ _,by rw [setRow_size];exact Nat.le_refl _,fun k hk hst=>⟨fun s hs=>hst s hs.2,hne k (fun e=>hst r (e▸hFg))⟩⟩
              refine hS.upd (bD:=env) (F1:=F1) (fun s=>s=r∨s∈ms) (below_setRow hS.below hgW.1 _) calm ?_ ?_ ?_ ?_ ?_ (fun d hd=>by rw [hdn] at hd;cases hd)
              ·intro s hs
               have h1:s≠r:=fun e=>hs (.inl e)
               have h2:s∉ms:=fun e=>hs (.inr e)
               exact⟨rfl,fun k=>⟨fun h=>h.2,fun h=>⟨h2,h⟩⟩,rM s h1 h2,fun k hk=>hne k (fun e=>h1 (hS.apart s r k hk (e▸hFg)))⟩
              ·intro s hs
               by_cases e1:s=r
               ·subst e1
                rw [iZ]
                show Sh T.sz (jo (σ'.upd o.dst U1).A F1 none) w1 (F1 s) e ((l.set i y).map (T.enc e)) (env s)
                rw [List.map_set]
                refine how.mono (fun k hk=>⟨hrr,hk⟩) (fun k hk=>?_)
                rcases hk with (⟨h1,h2⟩ | ⟨q,hq,_⟩) | (⟨h1,h2⟩ | ⟨q,hq,h2⟩)
                ·exact .inl ⟨by rw [St.iI];exact h1,fun s' hs'=>h2 s' hs'.2⟩
                ·cases hq
                ·exact .inl ⟨by rw [St.iI];exact h1,fun s' hs'=>h2 s' hs'.2⟩
                ·exact .inl ⟨by rw [St.iI];exact hS.acc k (hS.own q k h2).1,fun s' hs'=>hs'.1 (hS.apart s' q k hs'.2 h2▸hq)⟩
               ·have h2:=hs.resolve_left e1
                rw [gu s h2]
                exact fun k hk=>hk.1 h2
              ·intro s k hs hk
               have:=hS.own s k hk.2
               exact⟨this.1,by rw [setRow_size];exact this.2⟩
              ·exact fun s s' k hs h1 h2=>hS.apart s s' k h1.2 h2.2
              ·intro s hs
               refine .inr ⟨rfl,⟨fun kF e' l' hl=>?_,fun kF e' l' hl=>?_,fun e' d' j' cs' l' hl=>?_⟩,fun b=>?_⟩
               ·by_cases e1:s=r
                ·subst e1;rw [iZ] at hl;cases hl
                ·rw [gu s (hs.resolve_left e1)] at hl;cases hl
               ·by_cases e1:s=r
                ·subst e1
                 rw [iZ] at hl
                 cases hl
                 exact⟨bv,l,hr',by simp⟩
                ·rw [gu s (hs.resolve_left e1)] at hl;cases hl
               ·by_cases e1:s=r
                ·subst e1;rw [iZ] at hl;cases hl
                ·rw [gu s (hs.resolve_left e1)] at hl;cases hl
               ·refine .inl ?_
                rintro⟨e',l',hl⟩
                by_cases e1:s=r
                ·subst e1;rw [iZ] at hl;cases hl
                ·rw [gu s (hs.resolve_left e1)] at hl;cases hl
     ·cases h
    ·cases h
 ·cases h
def adb (σ:St T) (r:Nat):Bool:=match σ.res r with
 | .hl _ _ _ _ _=>true
 | _=>false
def Ad (σ:St T) (dst:Option Nat) (t:Nat) (x v:Operand):eX T:=
 match dst with
 | none=>match T.ti t with
   | some ti=>match dn σ x with
     | .pe r i n=>match σ.res r with
       | .hl e d k cs l=>match T.ti e with
         | some ei=>match cellsS (dn σ v) with
           | some vs=>match KA vs with
             | true=>match Nat.beq vs.length ti.size with
               | true=>match Nat.ble (n+vs.length) ei.size with
                 | true=> .done ⟨.ud,[(r, .hl e d k (splice cs n vs) l)],r::refsOf (splice cs n vs),0,[r]⟩ (some (i=k))
                 | false=> .stuck
               | false=> .stuck
             | false=> .stuck
           | none=> .stuck
         | none=> .stuck
       | _=> .stuck
     | _=> .stuck
   | none=> .stuck
 | some _=> .stuck
theorem QL (hT:T.ok P) {t:Nat} {x v:Operand} {U:bI T} {ob:Option Prop} (ho:o.op= .store t x v) (h:Ad σ o.dst t x v= .done U ob) (hob:pG ob):eH P W0 o σ U:=by
 unfold Ad at h
 split at h
 ·rename_i hdn
  cases hi:T.ti t with
  | none=>rw [hi] at h;cases h
  | some ti=>
    rw [hi] at h
    dsimp only at h
    split at h
    ·rename_i r i n hx
     split at h
     ·rename_i e d k cs l hr
      cases dY:T.ti e with
      | none=>rw [dY] at h;cases h
      | some ei=>
        rw [dY] at h
        dsimp only at h
        cases hc:cellsS (dn σ v) with
        | none=>rw [hc] at h;cases h
        | some vs=>
          rw [hc] at h
          dsimp only at h
          cases hs:KA vs<;>rw [hs] at h<;>dsimp only at h
          ·cases h
          cases hb:Nat.beq vs.length ti.size<;>rw [hb] at h<;>dsimp only at h
          ·cases h
          cases hbl:Nat.ble (n+vs.length) ei.size<;>rw [hbl] at h<;>cases h
          have hik:i=k:=hob
          subst hik
          intro σ' a w K Q hA ⟨env,F,hS⟩ hK
          have e1:=bG hS hA (x:=x) (by simp [ho,Op.operands])
          have e2:=bG hS hA (x:=v) (by simp [ho,Op.operands])
          rw [hx] at e1
          have hr':σ'.res r= .hl e d i cs l:=by rw [hA.res r (by simp)];exact hr
          obtain⟨hil,g,cap,he,hp⟩:=e1.2.2 e d i cs l hr'
          have hcv:=lG e2 hc
          have hl1:=jq hcv
          simp only [Array.length_toList] at hl1
          have hb':=Nat.eq_of_beq_eq_true hb
          have O7:=Nat.le_of_ble_eq_true hbl
          have GH:T.sz e=ei.size:=kV dY
          have hpos:0<T.sz e:=by
           obtain⟨_,_,_,_,_,_,h6,_⟩:=hT e ei dY
           rw [GH];exact h6
          have h3:=hS.res r
          rw [hr'] at h3
          obtain⟨raw,h4,h5,h6⟩:=h3
          replace h4:=h4 hil
          have hir:i<raw.length:=by
           rcases Nat.lt_or_ge i raw.length with h | h
           ·exact h
           ·rw [List.getD_eq_getElem?_getD,List.getElem?_eq_none h] at h4
            simp at h4;omega
          have hus:(a.eval v).cells.toList.length=vs.length:=by simp [hl1]
          have hfit:n+(a.eval v).cells.toList.length≤(raw.getD i []).length:=by rw [h4,hus,GH];exact O7
          have hone:=GI (vs:=[]) hs hcv
          have hst:=Gz h5 (i:=i) (o:=n) (old:=(raw.getD i []).map V.sc) (new:=(splice (raw.getD i []) n (a.eval v).cells.toList).map V.sc) (us:=(a.eval v).cells.toList) (by rw [qP hil,if_pos (.inr rfl)]) (by rw [List.length_map,kC hfit,h4]) (by rw [←h4];exact hfit)
           (fun q y hq hqo=>by
            rw [List.getElem?_map,gq hfit] at hq
            rw [List.getElem?_map]
            rcases hqo with h | h
            ·rw [if_pos h] at hq;exact hq
            ·rw [if_neg (by omega),if_neg (by omega)] at hq;exact hq)
           (fun _ _=>False)
           (fun q y u hq zn=>by
            have kH:=(List.getElem?_eq_some_iff.1 zn).1
            rw [List.getElem?_map,gq hfit,if_neg (by omega),if_pos (by omega),show n+q - n=q by omega,zn] at hq
            simp only [Option.map_some,Option.some.injEq] at hq
            subst hq
            exact .sc _ _ (hone u (List.mem_of_getElem? zn))) (fun _ _ h=>h.elim) (fun _ _ _ h=>h.elim)
          obtain⟨g',cap',cur,he',hFg,hg,Jc,how⟩:=hst
          rw [he] at he'
          simp only [Value.slice.injEq,Option.some.injEq,Addr.mk.injEq,and_true,true_and] at he'
          obtain⟨rfl,-,-⟩:=he'
          have hrun:=uf (hT t ti hi) (v:=a.eval v) (n:=i*T.sz e+n) hg (by omega) (by simpa using Jc) hone
          refine vF (vG ho (by rw [hp,add_lit,Nat.zero_add];exact hrun)) (hK _ _ ?_)
          have hgW:=hS.own r g hFg
          let U1:bI T:=⟨.ud,[(r, .hl e d i (splice cs n vs) l)],r::refsOf (splice cs n vs),0,[r]⟩
          let w1:World:=w.setRow g (splice cur.toList (i*T.sz e+n) (a.eval v).cells.toList).toArray
          have hoth:∀q k,q≠r→F q k→k≠g:=fun q k hq hk e=>hq (hS.apart q r k hk (e▸hFg))
          have hres:∀q,q≠r→(σ'.upd o.dst U1).res q=σ'.res q:=fun q hq=>St.nO (fun p hp=>by simp [U1] at hp;subst hp;exact fun e=>hq e.symm)
          have iZ:(σ'.upd o.dst U1).res r= .hl e d i (splice cs n vs) l:=by rw [St.dP];simp [U1,lk]
          have calm:Calm σ' (σ'.upd o.dst U1) F F w w1:=⟨St.iI _ _ _,by rw [setRow_size];exact Nat.le_refl _,fun k hk hst=>⟨hst,setRow_other w g k _ (fun e=>hst r (e▸hFg))⟩⟩
          have same:∀q,q≠r→Same σ' (σ'.upd o.dst U1) env env F F w w1 q:=fun q hq=>⟨rfl,fun _=>Iff.rfl,hres q hq,fun k hk=>setRow_other w g k _ (hoth q k hq hk)⟩
          have hold:∀q:Nat × Nat,Holds σ' (σ'.upd o.dst U1) F F w w1 q:=by
           intro q
           by_cases e:q.1=r
           ·rintro⟨e',l,hl⟩
            rw [e,iZ] at hl
            cases hl
           ·exact(same q.1 e).holds
          refine hS.upd (bD:=env) (F1:=F) (fun q=>q=r) (below_setRow hS.below hgW.1 _) calm same ?_ ?_ ?_ ?_ (fun d hd=>by rw [hdn] at hd;cases hd)
          ·rintro q rfl
           rw [iZ]
           have hgi:(raw.set i (splice (raw.getD i []) n (a.eval v).cells.toList)).getD i []=splice (raw.getD i []) n (a.eval v).cells.toList:=by
            rw [List.getD_eq_getElem?_getD,List.getElem?_set];simp [hir]
           refine⟨raw.set i (splice (raw.getD i []) n (a.eval v).cells.toList),fun _=>by rw [hgi,kC hfit,h4],?_,?_⟩
           ·refine Ow.mono (F:=fun k=>F q k∨∃_:Nat,False) ?_ (fun k hk=>hk.elim id (fun⟨_,h⟩=>h.elim))
            rw [show kY T e d i (raw.set i (splice (raw.getD i []) n (a.eval v).cells.toList)) l=(kY T e d i raw l).set i ((splice (raw.getD i []) n (a.eval v).cells.toList).map V.sc) from ?_]
            ·exact how
            ·refine List.ext_getElem? (fun q'=>?_)
             rw [List.getElem?_set]
             by_cases hq':q'<l.length
             ·rw [qP hq',qP hq',kN]
              by_cases e3:i=q'
              ·subst e3;rw [if_pos (.inr rfl),hgi];simp [hil]
              ·rw [if_neg e3,show(raw.set i (splice (raw.getD i []) n (a.eval v).cells.toList)).getD q' []=raw.getD q' [] by rw [List.getD_eq_getElem?_getD,List.getElem?_set,if_neg e3,List.getD_eq_getElem?_getD]]
             ·rw [List.getElem?_eq_none (by rw [kN];omega),List.getElem?_eq_none (l:=kY T e d i raw l) (by rw [kN];omega),if_neg (by omega)]
           ·rw [hgi]
            have hsp:aY σ' env F w (splice cs n vs) (splice (raw.getD i []) n (a.eval v).cells.toList):=by
             unfold splice
             rw [hus]
             exact lF (lF (rH n h6) hcv) (rJ _ h6)
            exact kD calm hsp (fun _ _=>rfl) (fun q _=>hold q)
          ·rintro q k rfl hk
           have:=hS.own q k hk
           exact⟨this.1,by rw [setRow_size];exact this.2⟩
          ·rintro q s k rfl hk hk2
           exact hS.apart q s k hk hk2
          ·rintro q rfl
           exact .inr ⟨rfl,⟨fun bv e l hl=>(by rw [iZ] at hl;cases hl),fun bv e l hl=>(by rw [iZ] at hl;cases hl),fun e' d' j' cs' l' hl=>(by rw [iZ] at hl;cases hl;exact⟨_,_,_,_,hr',rfl⟩)⟩,fun b=> .inl (hold (q,b))⟩
     ·cases h
    ·cases h
 ·cases h
def Xb (σ:St T) (e:Nat):Slot T→Option (OwV T)
 | .c (.hd r)=>match σ.res r with
   | .row _ e l=>some ⟨e,l,[r]⟩
   | .sh _ e l=>some ⟨e,l,[r]⟩
   | _=>none
 | .c (.sc (.slice none 0 0))=>some ⟨e,[],[]⟩
 | _=>none
def shY (σ:St T) (e:Nat):Slot T→Option (OwV T)
 | .c (.im none e l)=>some ⟨e,l,[]⟩
 | s=>Xb σ e s
def Kv (x:dB T):Prop:=(∃b e l,x= .row b e l)∨∃b e l,x= .sh b e l
theorem Xc {ts:List Nat} (hS:eU W0 σ' a w env F) (hA:Agree σ σ' ts bF bH) {s:Slot T} {u:Value} (hs:bT σ' env F w s u) {e e':Nat} {l:List (T.Tb e')} {rs:List Nat} (h:Xb σ e s=some ⟨e',l,rs⟩) (hr:∀r∈rs,r∈bF):
  (∃R G:Nat→Prop,Sh T.sz R w G e' (l.map (T.enc e')) u∧(∀k,G k→∃r∈rs,F r k)∧(∀k,R k→¬G k∧((σ'.A k∧∀r,¬F r k)∨∃r∈rs,F r k)))∧(∀r∈rs,Kv (σ'.res r))∧rs.length≤1:=by
 unfold Xb at h
 split at h
 ·rename_i r
  cases hq:σ.res r with
  | row b e1 l1=>
    rw [hq] at h
    cases h
    have h1:=hS.res r
    have h2:σ'.res r= .row b e' l:=by rw [hA.res r (hr r (by simp))];exact hq
    rw [h2] at h1
    refine⟨⟨fun k=>F r k∧(env r).ownBlock≠some k,fun k=>F r k∧(env r).ownBlock=some k,?_,fun k hk=>⟨r,by simp,hk.1⟩,fun k hk=>⟨fun hg=>hk.2 hg.2, .inr ⟨r,by simp,hk.1⟩⟩⟩,fun q hqm=> .inl ⟨b,e',l,by simp at hqm;rw [hqm];exact h2⟩,by simp⟩
    rw [hs.1]
    exact Ow.abX h1 (fun k hk _ hn=>⟨hk,hn⟩)
  | sh b e1 l1=>
    rw [hq] at h
    cases h
    have h1:=hS.res r
    have h2:σ'.res r= .sh b e' l:=by rw [hA.res r (hr r (by simp))];exact hq
    rw [h2] at h1
    refine⟨⟨jo σ'.A F none,F r,by rw [hs.1];exact h1,fun k hk=>⟨r,by simp,hk⟩,fun k hk=>?_⟩,fun q hqm=> .inr ⟨b,e',l,by simp at hqm;rw [hqm];exact h2⟩,by simp⟩
    rcases hk with h | ⟨q,hq,_⟩
    ·exact⟨h.2 r, .inl h⟩
    ·cases hq
  | no=>rw [hq] at h;cases h
  | bx t cs=>rw [hq] at h;cases h
  | hl e0 d0 j0 cs0 l0=>rw [hq] at h;cases h
 ·cases h
  have:=hs.1
  subst this
  exact⟨⟨fun _=>False,fun _=>False,⟨[], .nil _ _,rfl,fun j r x h=>by simp at h⟩,fun k hk=>hk.elim,fun k hk=>hk.elim⟩,fun r hr=>(by cases hr),by simp⟩
 ·cases h
theorem acg {ts:List Nat} (hS:eU W0 σ' a w env F) (hA:Agree σ σ' ts bF bH) {s:Slot T} {u:Value} (hs:bT σ' env F w s u) {e e':Nat} {l:List (T.Tb e')} {rs:List Nat} (h:shY σ e s=some ⟨e',l,rs⟩) (hr:∀r∈rs,r∈bF):
  Rd T.sz w (pY σ'.A F rs) (.sl e' (l.map (T.enc e'))) u∧(∀r∈rs,Kv (σ'.res r)):=by
 unfold shY at h
 split at h
 ·cases h
  exact⟨(hs.2 trivial).mono (fun k hk=>hk.elim .inl (fun⟨q,hq,_⟩=>by cases hq)),fun r hr=>(by cases hr)⟩
 ·obtain⟨⟨R,G,h1,h2,h3⟩,h4,_⟩:=Xc hS hA hs h hr
  exact⟨h1.rd (fun k hk=> .inr (h2 k hk)) (fun k hk=>(h3 k hk).2),h4⟩
theorem Xd {t ty e:Nat} {ti ei:TI} (hT:T.ok P) (hti:T.ti t=some ti) (hk:ti.kind= .slice e) (dY:T.ti e=some ei) {R G Py:Nat→Prop} {l1 l2:List (T.Tb e)} {v u:Value} (hx:Sh T.sz R w G e (l1.map (T.enc e)) v) (hy:Rd T.sz w Py (.sl e (l2.map (T.enc e))) u)
  (Xa:∀k,R k→¬G k) (hPG:∀k,Py k→¬G k) (hm:l1.length+l2.length≤maxLen) (hb:(l1.length+l2.length)*ei.bytes≤140737488355328):
  ∃v' w',(Builtin.append_ #[t,t] ty #[v,u]).run P w= .ok v' w'∧Sh T.sz (fun k=>R k∨Py k) w' (fun k=>G k∨w.heap.size≤k∧k<w'.heap.size) e ((l1++l2).map (T.enc e)) v'∧w.grownBy w' v.ownBlock∧(∀g,v.ownBlock=some g→G g):=by
 obtain⟨inf,t1,t2,t3,t4,t5,t6,t7,t8⟩:=hT t ti hti
 rw [hk] at t8
 obtain⟨inf',g1,g2,g3,⟨z,g4,g4'⟩,g5,g6,g7,_⟩:=hT e ei dY
 have hsz:T.sz e=ei.size:=kV dY
 have hpos:0<T.sz e:=by rw [hsz];exact g6
 obtain⟨raw,hraw,hrl,hre⟩:=hx
 obtain⟨fx,hfx,_,_,_,_,_,_,hxb⟩:=sO hraw
 simp only [List.length_map] at hfx hrl
 rw [hrl] at hfx
 generalize hys:l2.map (T.enc e)=ys at hy
 have hyl:ys.length=l2.length:=by rw [←hys];simp
 have hrd:∀{w':World} {Q:Nat→Prop} {x:V} {c:Value},(∀k,Q k→¬G k)→w.grownBy w' v.ownBlock→Rd T.sz w Q x c→Rd T.sz w' Q x c:=fun hQ hg hr=>hr.frame hg.size (fun k hk hl=>hg.block k hl (fun e=>hQ k hk (hxb k e.symm)))
 cases hy with
 | nil e A c=>
   have hl2:l2=[]:=by simpa using hys
   subst hl2
   refine⟨v,w,wU t8.1 g1 hfx A c,?_,⟨rfl,rfl,rfl,Nat.le_refl _,fun _ _ _=>rfl⟩,hxb⟩
   rw [List.append_nil]
   exact⟨raw,hraw.mono (fun k hk=> .inl hk),by simpa using hrl,fun j r x hj hx=>⟨(hre j r x hj hx).1,fun q u y hq hy=>((hre j r x hj hx).2 q u y hq hy).mono (fun k hk=> .inl hk)⟩⟩
 | sl e ys ad c f hc hp hlt hss hcell hr=>
   have hjq:∀i,i<ys.length*T.sz e→i / T.sz e<ys.length∧i % T.sz e<T.sz e∧i / T.sz e*T.sz e+i % T.sz e=i:=fun i hi=>⟨(Nat.div_lt_iff_lt_mul hpos).2 hi,Nat.mod_lt _ hpos,by rw [Nat.mul_comm];exact Nat.div_add_mod i _⟩
   let news:List Value:=(List.range (ys.length*T.sz e)).map (fun i=>f (i / T.sz e) (i % T.sz e))
   have hnl:news.length=l2.length*T.sz e:=by simp [news,hyl]
   have WZ:∀i u,news[i]? =some u→i<ys.length*T.sz e∧u=f (i / T.sz e) (i % T.sz e):=fun i u hi=>by
    have h1:i<news.length:=(List.getElem?_eq_some_iff.1 hi).1
    have h2:i<ys.length*T.sz e:=by simpa [news] using h1
    refine⟨h2,?_⟩
    simp only [news,List.getElem?_map,List.getElem?_range h2,Option.map_some,Option.some.injEq] at hi
    exact hi.symm
   have hat:∀i,i<ys.length*T.sz e→∃l x,ys[i / T.sz e]? =some l∧l[i % T.sz e]? =some x:=fun i hi=>by
    obtain⟨a1,a2,a3⟩:=hjq i hi
    have h1:ys[i / T.sz e]? =some ys[i / T.sz e]:=List.getElem?_eq_getElem a1
    have h2:=hss _ _ h1
    exact⟨_,_,h1,List.getElem?_eq_getElem (by rw [h2];exact a2)⟩
   have hone:∀u∈news,u.oneCell'=true:=fun u hu=>by
    obtain⟨i,hi⟩:=List.getElem?_of_mem hu
    obtain⟨h1,rfl⟩:=WZ i u hi
    obtain⟨l,x,h2,h3⟩:=hat i h1
    exact(hr _ _ _ _ h2 h3).one
   have hread:∀j u,news[j]? =some u→w.cell? (ad.add j)=some u:=fun j u hj=>by
    obtain⟨h1,rfl⟩:=WZ j u hj
    obtain⟨l,x,h2,h3⟩:=hat j h1
    have:=hcell _ _ _ _ h2 h3
    rw [(hjq j h1).2.2] at this
    exact this
   obtain⟨v',w',r1,r2,r3,r4⟩:=uM (P:=P) (w:=w) t ty e inf' z (T.sz e) ei.bytes t8.1 g1 g4 (by rw [g2,hsz]) g3 (by rw [g4',hsz];simpa using g5) hpos v l1.length fx hfx ad l2.length c news hnl hread hone hm hb
   rw [hyl]
   refine⟨v',w',r1,?_,r3,hxb⟩
   let rows:List (List Value):=(List.range ys.length).map (fun j=>(List.range (T.sz e)).map (f j))
   have hrows:∀j r,rows[j]? =some r→j<ys.length∧r=(List.range (T.sz e)).map (f j):=fun j r hj=>by
    have h1:j<rows.length:=(List.getElem?_eq_some_iff.1 hj).1
    have h2:j<ys.length:=by simpa [rows] using h1
    simp only [rows,List.getElem?_map,List.getElem?_range h2,Option.map_some,Option.some.injEq] at hj
    exact⟨h2,hj.symm⟩
   have hrl2:rows.length=ys.length:=by simp [rows]
   have Xe:∀j q u,j<ys.length→((List.range (T.sz e)).map (f j))[q]? =some u→q<T.sz e∧u=f j q:=fun j q u hj hq=>by
    have h1:q<T.sz e:=by have:=(List.getElem?_eq_some_iff.1 hq).1;simpa using this
    rw [List.getElem?_map,List.getElem?_range h1] at hq
    simp only [Option.map_some,Option.some.injEq] at hq
    exact⟨h1,hq.symm⟩
   have ach:∀j q x,ys[j]? =some x→∀y,x[q]? =some y→Rd T.sz w Py y (f j q):=fun j q x hj y hy=>hr j x q y hj hy
   have hap:=xY (xs:=raw.map (fun l=>l.map V.sc)) (ys:=rows.map (fun l=>l.map V.sc)) (news:=news) (fy:=f) (H:=fun _ _ _=>False) hraw (fun j l hj=>by
     rw [List.getElem?_map] at hj
     obtain⟨r,hr0,rfl⟩:=Option.map_eq_some_iff.1 hj
     rw [(hrows j r hr0).2];simp) (fun j l q x hj hq=>by
     rw [List.getElem?_map] at hj
     obtain⟨r,hr0,rfl⟩:=Option.map_eq_some_iff.1 hj
     obtain⟨hjl,rfl⟩:=hrows j r hr0
     rw [List.getElem?_map] at hq
     obtain⟨u0,hu0,rfl⟩:=Option.map_eq_some_iff.1 hq
     obtain⟨kH,rfl⟩:=Xe j q u0 hjl hu0
     have hlt2:j*T.sz e+q<ys.length*T.sz e:=by
      have:(j+1)*T.sz e≤ys.length*T.sz e:=Nat.mul_le_mul_right _ hjl
      rw [Nat.succ_mul] at this;omega
     refine⟨?_,?_⟩
     ·simp only [news,List.getElem?_map,List.getElem?_range hlt2,Option.map_some]
      rw [show(j*T.sz e+q) / T.sz e=j by rw [Nat.mul_comm,Nat.mul_add_div hpos,Nat.div_eq_of_lt kH,Nat.add_zero],show(j*T.sz e+q) % T.sz e=q by rw [Nat.mul_comm,Nat.mul_add_mod,Nat.mod_eq_of_lt kH]]
     ·have hlj:=hss j ys[j] (List.getElem?_eq_getElem hjl)
      exact .sc _ _ (ach j q ys[j] (List.getElem?_eq_getElem hjl) (ys[j][q]'(by rw [hlj];exact kH)) (List.getElem?_eq_getElem (by rw [hlj];exact kH))).one) (fun _ _ _ h=>h.elim) (fun _ _ _ _ _ h=>h.elim) fx (by rw [List.length_map,hrl];exact hfx) (by rw [List.length_map,List.length_map,hrl,hrl2,hyl];exact r2) r3 r4
   rw [←List.map_append] at hap
   refine⟨raw++rows,hap.mono (fun k hk=>?_),by rw [List.length_append,hrl,hrl2,hyl,List.length_map,List.length_append],fun j r x hj hx=>?_⟩
   ·rcases hk with h | ⟨j,q,h⟩ | h
    ·exact .inl h
    ·exact h.elim
    ·exact .inr h
   ·rw [List.map_append,hys] at hx
    by_cases hjl:j<raw.length
    ·rw [List.getElem?_append_left hjl] at hj
     rw [List.getElem?_append_left (by rw [List.length_map];omega)] at hx
     obtain⟨m1,m2⟩:=hre j r x hj hx
     exact⟨m1,fun q u y hq hy=>(hrd Xa r3 (m2 q u y hq hy)).mono (fun k hk=> .inl hk)⟩
    ·rw [List.getElem?_append_right (by omega)] at hj
     rw [List.getElem?_append_right (by rw [List.length_map];omega),List.length_map,←hrl] at hx
     obtain⟨aek,rfl⟩:=hrows _ r hj
     have hlj:=hss _ _ hx
     refine⟨by simpa using hlj.symm,fun q u y hq hy=>?_⟩
     obtain⟨kH,rfl⟩:=Xe _ q u aek hq
     exact(hrd hPG r3 (ach _ q x hx y hy)).mono (fun k hk=> .inr hk)
theorem eU.YW (hS:eU W0 σ' a w env F) {nx:Nat} (hu:jI σ' nx) (hno:σ'.res nx= .no) {ms:List Nat} (hrow:∀r∈ms,Kv (σ'.res r)) {v':Value} {e:Nat} {l:List (T.Tb e)} (hos:w'.os=w.os) (htp:w'.tape=w.tape) (hout:w'.output=w.output) (hsize:w.heap.size≤w'.heap.size)
  (hblk:∀k,k<w.heap.size→(∀r∈ms,¬F r k)→w'.heap[k]? =w.heap[k]?) {G:Nat→Prop} (hG:∀k,G k→(∃r∈ms,F r k)∨w.heap.size≤k∧k<w'.heap.size) {R:Nat→Prop} (how:Sh T.sz R w' G e (l.map (T.enc e)) v') (hR:∀k,R k→¬G k∧pY σ'.A F ms k) (hRs:∀k,R k→k<w.heap.size)
  {dst:Option Nat} {n:Nat} {bF bH:List Nat} (hd:∀d,dst=some d→d<σ'.n):
  jD W0 (σ'.upd dst ⟨.c (.hd nx),(nx, .sh nx e l)::ji ms,bF,n,bH⟩) (a.put dst v') w':=by
 have hnr:nx∉ms:=fun hm=>by rcases hrow nx hm with ⟨b,e,l,h⟩ | ⟨b,e,l,h⟩<;>rw [h] at hno<;>cases hno
 let U1:bI T:=⟨.c (.hd nx),(nx, .sh nx e l)::ji ms,bF,n,bH⟩
 let F1:Nat→Nat→Prop:=fun s k=>(s=nx∧G k)∨(s≠nx∧s∉ms∧F s k)
 have IZ:(σ'.upd dst U1).res nx= .sh nx e l:=by rw [St.dP];simp [U1,lk]
 have gu:∀s,s∈ms→(σ'.upd dst U1).res s= .no:=fun s hs=>by
  rw [St.dP]
  show lk _ ((nx,_)::ji ms) s=_
  unfold lk
  rw [fD (k:=nx) (t:=s) (fun e=>hnr (by rw [e];exact hs))]
  exact oK hs
 have rM:∀s,s≠nx→s∉ms→(σ'.upd dst U1).res s=σ'.res s:=fun s h1 h2=>by
  rw [St.dP]
  show lk _ ((nx,_)::ji ms) s=_
  unfold lk
  rw [fD (k:=nx) (t:=s) (fun e=>h1 e.symm)]
  exact qA h2
 have hF1:∀s k,F1 s k→k<w.heap.size→∃s',F s' k:=by
  rintro s k (⟨_,h⟩ | ⟨_,_,h⟩) hlt
  ·rcases hG k h with ⟨r,_,h⟩ | h
   ·exact⟨_,h⟩
   ·omega
  ·exact⟨_,h⟩
 have calm:Calm σ' (σ'.upd dst U1) F F1 w w':=⟨St.iI _ _ _,hsize,fun k hk hst=>⟨fun s hs=>by obtain⟨s',h⟩:=hF1 s k hs hk;exact hst s' h,hblk k hk (fun r _=>hst r)⟩⟩
 have below:mV W0 w':=hS.below.step hos htp hout hsize (fun k hk hm=>hblk k hk (fun r _ hkk=>hm (hS.own r k hkk).1))
 refine hS.upd (bD:=fun s=>if s=nx then v' else env s) (F1:=F1) (fun s=>s=nx∨s∈ms) below calm ?_ ?_ ?_ ?_ ?_ (fun d hd'=>⟨hd d hd',?_⟩)
 ·intro s hs
  have h1:s≠nx:=fun e=>hs (.inl e)
  have h2:s∉ms:=fun e=>hs (.inr e)
  exact⟨if_neg h1,fun k=>⟨fun h=>by
   rcases h with ⟨h,_⟩ | ⟨_,_,h⟩
   ·exact(h1 h).elim
   ·exact h,fun h=> .inr ⟨h1,h2,h⟩⟩,rM s h1 h2,fun k hk=>hblk k (fQ hS hk) (fun r hr hkr=>h2 (hS.apart s r k hk hkr▸hr))⟩
 ·intro s hs
  by_cases e':s=nx
  ·subst e'
   rw [IZ]
   show Sh T.sz (jo (σ'.upd dst U1).A F1 none) w' (F1 s) e (l.map (T.enc e)) (if s=s then v' else env s)
   rw [if_pos rfl]
   refine how.mono (fun k hk=> .inl ⟨rfl,hk⟩) (fun k hk=>?_)
   obtain⟨h1,h2⟩:=hR k hk
   rcases h2 with ⟨h2,h3⟩ | ⟨r,hr,h2⟩
   ·exact .inl ⟨by rw [St.iI];exact h2,fun q hq=>by
     rcases hq with ⟨_,h⟩ | ⟨_,_,h⟩
     ·exact h1 h
     ·exact h3 q h⟩
   ·exact .inl ⟨by rw [St.iI];exact hS.acc k (hS.own r k h2).1,fun q hq=>by
     rcases hq with ⟨_,h⟩ | ⟨_,h4,h⟩
     ·exact h1 h
     ·exact h4 (hS.apart q r k h h2▸hr)⟩
  ·have h2:=hs.resolve_left e'
   rw [gu s h2]
   rintro k (⟨h,_⟩ | ⟨_,h,_⟩)
   ·exact e' h
   ·exact h h2
 ·rintro s k hs (⟨_,h⟩ | ⟨_,_,h⟩)
  ·rcases hG k h with ⟨r,_,h⟩ | h
   ·exact⟨(hS.own r k h).1,Nat.lt_of_lt_of_le (hS.own r k h).2 hsize⟩
   ·exact⟨hS.below.may h.1,h.2⟩
  ·exact⟨(hS.own s k h).1,Nat.lt_of_lt_of_le (hS.own s k h).2 hsize⟩
 ·intro s s' k hs h1 h2
  have hcon:∀q,q∉ms→F q k→¬G k:=by
   intro q hq1 hq hg
   rcases hG k hg with ⟨r,hr,h⟩ | h
   ·exact hq1 (hS.apart q r k hq h▸hr)
   ·have:=fQ hS hq;omega
  rcases h1 with ⟨rfl,h1⟩ | ⟨h1a,h1b,h1⟩<;>rcases h2 with ⟨h2',h2⟩ | ⟨Z8,h2b,h2⟩
  ·exact h2'.symm
  ·exact(hcon s' h2b h2 h1).elim
  ·exact(hcon s h1b h1 h2).elim
  ·exact hS.apart s s' k h1 h2
 ·intro s hs
  by_cases e':s=nx
  ·subst e';exact .inl hu
  ·have h2:=hs.resolve_left e'
   refine .inr ⟨if_neg e',⟨fun bv e' l' hl=>(by rw [gu s h2] at hl;cases hl),fun bv e' l' hl=>(by rw [gu s h2] at hl;cases hl),fun e' d' j' cs' l' hl=>(by rw [gu s h2] at hl;cases hl)⟩,fun b=> .inl ?_⟩
   rintro⟨e',l',hl⟩
   rw [gu s h2] at hl;cases hl
 ·exact⟨(if_pos rfl).symm,how.one⟩
def mF (σ:St T) (nx:Nat) (dst:Option Nat) (t:Nat) (x y:Operand):eX T:=
 match T.ti t with
 | some ti=>match ti.kind with
   | .slice e=>match T.ti e with
     | some ei=>match Xb σ e (dn σ x) with
       | some ⟨e1,l1,r1⟩=>match shY σ e (dn σ y) with
         | some ⟨e2,l2,r2⟩=>match Nat.decEq e1 e,Nat.decEq e2 e with
           | .isTrue h1, .isTrue h2=>match kM (r1++r2) with
             | true=>match bQ σ dst with
               | true=>match σ.fresh nx with
                 | true=> .done ⟨.c (.hd nx),(nx, .sh nx e ((h1▸l1)++(h2▸l2)))::ji (r1++r2),nx::(r1++r2),1,nx::(r1++r2)⟩ (some (l1.length+l2.length≤maxLen∧(l1.length+l2.length)*ei.bytes≤140737488355328))
                 | false=> .stuck
               | false=> .stuck
             | false=> .stuck
           | _,_=> .stuck
         | none=> .stuck
       | none=> .stuck
     | none=> .stuck
   | _=> .stuck
 | none=> .stuck
theorem wQ (hT:T.ok P) {nx t:Nat} {x y:Operand} {U:bI T} {ob:Option Prop} (ho:o.op= .call {callee:= .builtin .append,args:=#[x,y],argTypes:=#[t,t]}) (h:mF σ nx o.dst t x y= .done U ob) (hob:pG ob):eH P W0 o σ U:=by
 unfold mF at h
 cases hi:T.ti t with
 | none=>rw [hi] at h;cases h
 | some ti=>
   rw [hi] at h
   dsimp only at h
   split at h
   ·rename_i e hk
    cases dY:T.ti e with
    | none=>rw [dY] at h;cases h
    | some ei=>
      rw [dY] at h
      dsimp only at h
      cases hx:Xb σ e (dn σ x) with
      | none=>rw [hx] at h;cases h
      | some ox=>
        obtain⟨e1,l1,r1⟩:=ox
        rw [hx] at h
        dsimp only at h
        cases hy:shY σ e (dn σ y) with
        | none=>rw [hy] at h;cases h
        | some oy=>
          obtain⟨e2,l2,r2⟩:=oy
          rw [hy] at h
          dsimp only at h
          split at h
          ·rename_i h1 h2 _ _
           subst h1
           subst h2
           cases hnd:kM (r1++r2)<;>rw [hnd] at h<;>dsimp only at h
           ·cases h
           cases hd:bQ σ o.dst<;>rw [hd] at h<;>dsimp only at h
           ·cases h
           cases hf:σ.fresh nx<;>rw [hf] at h<;>cases h
           intro σ' a w K Q hA ⟨env,F,hS⟩ hK
           have e1':=bG hS hA (x:=x) (by simp [ho,Op.operands,Call.operands])
           have e2':=bG hS hA (x:=y) (by simp [ho,Op.operands,Call.operands])
           obtain⟨⟨R,G,ox,hG,hR⟩,Gt,_⟩:=Xc hS hA e1' hx (fun r hr=>by simp [hr])
           obtain⟨oy,adp⟩:=acg hS hA e2' hy (fun r hr=>by simp [hr])
           obtain⟨hu,hno⟩:=hA.new (r:=nx) (by simp) hf
           have hob:l1.length+l2.length≤maxLen∧(l1.length+l2.length)*ei.bytes≤140737488355328:=hob
           have hrow:∀r∈r1++r2,Kv (σ'.res r):=fun r hr=>(List.mem_append.1 hr).elim (Gt r) (adp r)
           have hyG:∀k,pY σ'.A F r2 k→¬G k:=fun k hk hg=>by
            obtain⟨r,hr,hk1⟩:=hG k hg
            rcases hk with hk | ⟨q,hq,hk2⟩
            ·exact hk.2 r hk1
            ·have:=hS.apart r q k hk1 hk2
             exact WX hnd r hr (this▸hq)
           have ox':Sh T.sz (fun k=>R k∧k<w.heap.size) w G e2 (l1.map (T.enc e2)) (a.eval x):=by
            obtain⟨raw,g1,g2,g3⟩:=ox
            exact⟨raw,g1,g2,fun j r x hj hx=>⟨(g3 j r x hj hx).1,fun q u y hq hy=>((g3 j r x hj hx).2 q u y hq hy).bound⟩⟩
           obtain⟨v',w',run,how,hgr,hbl⟩:=Xd (ty:=o.type) hT hi hk dY ox' oy.bound (fun k hk=>(hR k hk.1).1) (fun k hk=>hyG k hk.1) hob.1 hob.2
           refine jC (jQ (v:=v') (w':=w') ho (by simp [builtin,Sem.run_bind,run])) (hK _ _ ?_)
           refine hS.YW hu hno hrow hgr.os hgr.tape hgr.output hgr.size (fun k hk hnk=>hgr.block k hk (fun e=>by obtain⟨r,hr,hkk⟩:=hG k (hbl k e.symm);exact hnk r (List.mem_append_left _ hr) hkk)) (fun k hk=>hk.elim (fun h=> .inl (by obtain⟨r,hr,hk⟩:=hG k h;exact⟨r,List.mem_append_left _ hr,hk⟩)) .inr) how (fun k hk=>?_) (fun k hk=>hk.elim (fun h=>h.2) (fun h=>h.2)) (fun d hd'=>by rw [hA.n];exact bn hd d hd')
           rcases hk with ⟨hk,hlt⟩ | ⟨hk,hlt⟩
           ·exact⟨fun h=>h.elim (hR k hk).1 (fun h=>by omega),(hR k hk).2.elim .inl (fun⟨r,hr,h⟩=> .inr ⟨r,List.mem_append_left _ hr,h⟩)⟩
           ·exact⟨fun h=>h.elim (hyG k hk) (fun h=>by omega),hk.elim .inl (fun⟨r,hr,h⟩=> .inr ⟨r,List.mem_append_right _ hr,h⟩)⟩
          ·cases h
   ·cases h
end
end Go.Proofs.YtcnfgfomholheaaGreatDoor.Z
end
