/- Topics and filters, in plain lists: a text cut at its strokes, levels that fit levels, what is hidden, what is loose; a filter that covers. No program in sight. -/
import Derived.Test.YtcnfgfomholheaaGreatDoorK
import Derived.Test.YtcnfgfomholheaaGreatDoorC1
import Derived.Test.YtcnfgfomholheaaGreatDoorK
import Derived.Test.YtcnfgfomholheaaGreatDoorPx0
import Derived.Test.YtcnfgfomholheaaGreatDoorPx5
import Derived.Test.YtcnfgfomholheaaGreatDoorPx6
import Derived.Test.YtcnfgfomholheaaGreatDoorPx7
import Derived.Test.YtcnfgfomholheaaGreatDoorT1
import Derived.Test.YtcnfgfomholheaaGreatDoorT2
import Derived.Test.YtcnfgfomholheaaGreatDoorT3
import Derived.Test.YtcnfgfomholheaaGreatDoorX6
import Derived.Test.YtcnfgfomholheaaGreatDoorC1
import Derived.Test.YtcnfgfomholheaaGreatDoorK
import Derived.Test.YtcnfgfomholheaaGreatDoorT1
import Derived.Test.YtcnfgfomholheaaGreatDoorT2
import Derived.Test.YtcnfgfomholheaaGreatDoorT3
import Derived.Test.YtcnfgfomholheaaGreatDoorX6
import Derived.Lib.Split
import Derived.Lib.SplitLaws
import Derived.Lib.CountLaws
import Derived.Lib.Join
import Derived.Lib.IndexAny
import Derived.WideShapes
namespace Go.Proofs.YtcnfgfomholheaaGreatDoor.Pure
open Go.RowKit Go.Proofs.YtcnfgfomholheaaGreatDoor.X Go.Proofs.YtcnfgfomholheaaGreatDoor.P Go.Proofs.YtcnfgfomholheaaGreatDoorW.PrintWords Go.Proofs.YtcnfgfomholheaaGreatDoorW.PrintLast Go.Proofs.YtcnfgfomholheaaGreatDoor.K
set_option linter.unusedVariables false
set_option linter.unusedSimpArgs false
def mg (l:List UInt8):Bool:=l.head? ==some 36
def pU (l:List UInt8):Bool:=l.head? ==some 43 || l.head? ==some 35
theorem VD {s:ByteArray} (h:0<s.size) (c:UInt8) (n:Int) (hc:n=(c.toNat:Int)):(bt s 0==n)=((dl s).head? ==some c):=by
 subst hc
 by_cases q:bt s 0=(c.toNat:Int)
 ·rw [beq_iff_eq.2 q,beq_iff_eq.2 ((vZ h c).1 q)]
 ·rw [beq_eq_false_iff_ne.2 q,beq_eq_false_iff_ne.2 (fun e=>q ((vZ h c).2 e))]
theorem KP (s:ByteArray):iG.f s=some (mg (dl s)):=by
 unfold iG.f mg
 by_cases h:0<s.size
 ·rw [if_pos (by omega),if_pos (by omega),VD h 36 36 rfl]
 ·rw [if_neg (by omega),xI h];rfl
theorem afa (s:ByteArray) (h:0<s.size):(s.extract 0 1).data.toList=[(dl s)[0]'(by rw [jv];exact h)]:=by
 rw [lM,List.drop_zero]
 have h':0<(dl s).length:=by rw [jv];exact h
 have key:∀(l:List UInt8) (hl:0<l.length),l.take 1=[l[0]]:=by
  intro l hl
  cases l with
  | nil=>simp at hl
  | cons a r=>rfl
 exact key _ h'
theorem KQ (s:ByteArray):iF.f s=some (mg (dl s)):=by
 unfold iF.f strings_HasPrefix.f stringslite_HasPrefix.f
 have e1:((⟨#[36]⟩:ByteArray).size:Int)=1:=rfl
 have e2:(⟨#[36]⟩:ByteArray).toList=[36]:=by rw [Lib.toList_data]
 by_cases h:0<s.size
 ·rw [if_pos (by rw [e1];omega),if_pos (by rw [e1];omega),if_pos (by rw [e1];omega),e1,e2]
  simp only [Option.bind_some]
  have h1:((1:Int)).toNat=1:=rfl
  have h':0<(dl s).length:=by rw [jv];exact h
  rw [h1,Lib.toList_data,afa s h]
  unfold mg
  rw [List.head?_eq_getElem?,List.getElem?_eq_getElem h']
  congr 1
  by_cases q:(dl s)[0]=36
  ·rw [q];rfl
  ·rw [beq_eq_false_iff_ne.2 (by simpa using q),beq_eq_false_iff_ne.2 (by simpa using q)]
 ·rw [if_neg (by rw [e1];omega),xI h];rfl
theorem Qi (s:ByteArray):iD.f s=some (pU (dl s)):=by
 unfold iD.f pU
 by_cases h:0<s.size
 ·have h':¬s.toList=([]:List UInt8):=by
   rw [rU,List.isEmpty_iff]
   intro e
   have:=jv s
   rw [e] at this
   simp at this
   omega
  rw [if_neg h',if_pos (by omega)]
  by_cases q:bt s 0=43
  ·rw [if_pos q,beq_iff_eq.2 ((vZ h 43).1 q)];rfl
  ·rw [if_neg q,beq_eq_false_iff_ne.2 (fun e=>q ((vZ h 43).2 e)),VD h 35 35 rfl,Bool.false_or]
 ·rw [if_pos (by rw [rU,xI h];rfl),xI h];rfl
theorem Qj (s:ByteArray) (h:0<s.size):eY.f s=some (pU (dl s)):=by
 unfold eY.f pU
 rw [if_pos (by omega)]
 by_cases q:bt s 0=43
 ·rw [if_pos q,beq_iff_eq.2 ((vZ h 43).1 q)];rfl
 ·rw [if_neg q,beq_eq_false_iff_ne.2 (fun e=>q ((vZ h 43).2 e)),VD h 35 35 rfl,Bool.false_or]
abbrev nY (f g:List (List UInt8)):Bool:=lU [43] [35] f g
theorem JK (f g:List ByteArray) (hf:f.length≤1073741825):∀(d i:Nat),i+d=f.length→i≤g.length→Ev (fun k=>dQ.l0 k f g (i:Int)) (nY ((f.map dl).drop i) ((g.map dl).drop i))
 | 0,i,hd,hi=>by
   refine Ev.step (fun k=>by rw [dQ.l0]) (cu (by omega) (dJ ?_))
   rw [drop_end f i (by omega)]
   by_cases e:i=g.length
   ·rw [drop_end g i (by omega)]
    show _=true
    exact beq_iff_eq.2 (by omega)
   ·rw [pq g i (by omega)]
    show _=false
    exact beq_eq_false_iff_ne.2 (by omega)
 | d+1,i,hd,hi=>by
   have hlt:i<f.length:=by omega
   refine Ev.step (fun k=>by rw [dQ.l0]) (bg (by omega) (bg (by omega) ?_))
   rw [qJ hlt,BN (i:=i) (n:=f.length) hlt (by omega),pq f i hlt]
   simp only [Lib.toList_data]
   by_cases q:dl f[i]=[35]
   ·refine bg q (dJ ?_)
    rw [q]
    exact(Bo _ _ _ _).symm
   ·refine cu q ?_
    by_cases hg:i<g.length
    ·have ih:=JK f g hf d (i+1) (by omega) (by omega)
     refine cu (by omega) ?_
     rw [qJ hg,pq g i hg]
     unfold nY
     rw [o9 q]
     by_cases p:dl f[i]=[43]
     ·refine bg p (bg (by omega) ?_)
      by_cases h:dl g[i]=[35]
      ·refine bg h (dJ ?_)
       rw [decide_eq_true (Or.inl ⟨p,h⟩)];rfl
      ·refine cu h (lN ih ?_)
       rw [decide_eq_false (fun z=>z.elim (fun z=>h z.2) (fun z=>z.1 p))];rfl
     ·refine cu p (bg (by omega) ?_)
      by_cases h:dl f[i]=dl g[i]
      ·refine bg h (lN ih ?_)
       rw [decide_eq_false (fun z=>z.elim (fun z=>p z.1) (fun z=>z.2 h))];rfl
      ·refine cu h (dJ ?_)
       rw [decide_eq_true (Or.inr ⟨p,h⟩)];rfl
    ·refine bg (by omega) (dJ ?_)
     rw [drop_end g i (by omega)]
     unfold nY
     rw [lU,if_neg q]
theorem JL (f g:List ByteArray) (hf:f.length≤1073741825):∀(d i:Nat),i+d=f.length→i≤g.length→Ev (fun k=>dw.l0 k f g f (f.length:Int) (i:Int)) (nY ((f.map dl).drop i) ((g.map dl).drop i))
 | 0,i,hd,hi=>by
   refine Ev.step (fun k=>by rw [dw.l0]) (cu (by omega) (dJ ?_))
   rw [drop_end f i (by omega)]
   by_cases e:i=g.length
   ·rw [drop_end g i (by omega)]
    show _=true
    exact beq_iff_eq.2 (by omega)
   ·rw [pq g i (by omega)]
    show _=false
    exact beq_eq_false_iff_ne.2 (by omega)
 | d+1,i,hd,hi=>by
   have hlt:i<f.length:=by omega
   refine Ev.step (fun k=>by rw [dw.l0]) (bg (by omega) (bg (by omega) (bg (by omega) ?_)))
   rw [qJ hlt,pq f i hlt]
   simp only [Lib.toList_data]
   by_cases q:dl f[i]=[35]
   ·refine bg q (dJ ?_)
    rw [q]
    exact(Bo _ _ _ _).symm
   ·refine cu q ?_
    by_cases hg:i<g.length
    ·have ih:=JL f g hf d (i+1) (by omega) (by omega)
     refine cu (by omega) ?_
     rw [qJ hg,pq g i hg]
     unfold nY
     rw [o9 q]
     by_cases p:dl f[i]=[43]
     ·refine bg p (bg (by omega) (Ev.step (fun k=>by rw [dw.j1]) ?_))
      simp only [Lib.toList_data]
      rw [BN (i:=i) (n:=f.length) hlt (by omega)]
      by_cases h:dl g[i]=[35]
      ·refine bg (beq_iff_eq.2 h) (dJ ?_)
       rw [decide_eq_true (Or.inl ⟨p,h⟩)];rfl
      ·refine cu (by simpa using h) (bg p (lN ih ?_))
       rw [decide_eq_false (fun z=>z.elim (fun z=>h z.2) (fun z=>z.1 p))];rfl
     ·refine cu p (Ev.step (fun k=>by rw [dw.j1]) (cu (by simp) (cu (by rw [Lib.toList_data];exact p) (bg (by omega) (bg (by omega) ?_)))))
      simp only [Lib.toList_data]
      rw [qJ hg,BN (i:=i) (n:=f.length) hlt (by omega)]
      by_cases h:dl f[i]=dl g[i]
      ·refine bg h (lN ih ?_)
       rw [decide_eq_false (fun z=>z.elim (fun z=>p z.1) (fun z=>z.2 h))];rfl
      ·refine cu h (dJ ?_)
       rw [decide_eq_true (Or.inr ⟨p,h⟩)];rfl
    ·refine bg (by omega) (dJ ?_)
     rw [drop_end g i (by omega)]
     unfold nY
     rw [lU,if_neg q]
theorem Rh (s t:ByteArray) (hs:s.size≤1073741824):Ev (fun k=>dQ.f k (pieces s stroke) (pieces t stroke)) (nY (gU (dl s)) (gU (dl t))):=by
 unfold dQ.f
 have hl:=qg s
 refine lN (JK _ _ (by omega) (pieces s stroke).length 0 (by omega) (by omega)) ?_
 rw [List.drop_zero,List.drop_zero,lI,lI]
theorem Ri (s t:ByteArray) (hs:s.size≤1073741824):Ev (fun k=>dw.f k (pieces s stroke) (pieces t stroke)) (nY (gU (dl s)) (gU (dl t))):=by
 unfold dw.f
 have hl:=qg s
 refine lN (JL _ _ (by omega) (pieces s stroke).length 0 (by omega) (by omega)) ?_
 rw [List.drop_zero,List.drop_zero,lI,lI]
theorem U9 {s:ByteArray} (h:fF s=true):0<s.size:=by
 unfold fF at h
 simp only [Bool.and_eq_true,Bool.not_eq_true'] at h
 rcases Nat.eq_zero_or_pos s.size with e | e
 ·have:=xI (s:=s) (by omega)
  rw [this] at h
  exact absurd h.1.2 (by decide)
 ·exact e
end Go.Proofs.YtcnfgfomholheaaGreatDoor.Pure
