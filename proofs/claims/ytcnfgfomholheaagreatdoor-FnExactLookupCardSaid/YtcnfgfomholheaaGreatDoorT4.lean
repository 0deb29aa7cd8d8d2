/- Topics and filters, in plain lists: a text cut at its strokes, levels that fit levels, what is hidden, what is loose; a filter that covers. No program in sight. -/
import Derived.Test.YtcnfgfomholheaaGreatDoorK
import Derived.Test.YtcnfgfomholheaaGreatDoorC1
import Derived.Test.YtcnfgfomholheaaGreatDoorK
import Derived.Test.YtcnfgfomholheaaGreatDoorPx0
import Derived.Test.YtcnfgfomholheaaGreatDoorPx5
import Derived.Test.YtcnfgfomholheaaGreatDoorPx6
import Derived.Test.YtcnfgfomholheaaGreatDoorPx7
import Derived.Test.YtcnfgfomholheaaGreatDoorT1
import Derived.Test.YtcnfgfomholheaaGreatDoorT2
import Derived.Test.YtcnfgfomholheaaGreatDoorT3
import Derived.Test.YtcnfgfomholheaaGreatDoorX6
import Derived.Test.YtcnfgfomholheaaGreatDoorC1
import Derived.Test.YtcnfgfomholheaaGreatDoorK
import Derived.Test.YtcnfgfomholheaaGreatDoorT1
import Derived.Test.YtcnfgfomholheaaGreatDoorT2
import Derived.Test.YtcnfgfomholheaaGreatDoorT3
import Derived.Test.YtcnfgfomholheaaGreatDoorX6
import Derived.Lib.Split
import Derived.Lib.SplitLaws
import Derived.Lib.CountLaws
import Derived.Lib.Join
import Derived.Lib.IndexAny
import Derived.WideShapes
namespace Go.Proofs.YtcnfgfomholheaaGreatDoor.Pure
open Go.RowKit Go.Proofs.YtcnfgfomholheaaGreatDoor.X Go.Proofs.YtcnfgfomholheaaGreatDoor.P Go.Proofs.YtcnfgfomholheaaGreatDoorW.PrintWords Go.Proofs.YtcnfgfomholheaaGreatDoorW.PrintLast Go.Proofs.YtcnfgfomholheaaGreatDoor.K
set_option linter.unusedVariables false
set_option linter.unusedSimpArgs false
def lJ (l:List UInt8):Bool:=l.head? ==some 36
def oW (l:List UInt8):Bool:=l.head? ==some 43 || l.head? ==some 35
theorem VA {s:ByteArray} (h:0<s.size) (c:UInt8) (n:Int) (hc:n=(c.toNat:Int)):(bt s 0==n)=((dl s).head? ==some c):=by
 subst hc
 by_cases q:bt s 0=(c.toNat:Int)
 ·rw [beq_iff_eq.2 q,beq_iff_eq.2 ((uS h c).1 q)]
 ·rw [beq_eq_false_iff_ne.2 q,beq_eq_false_iff_ne.2 (fun e=>q ((uS h c).2 e))]
theorem J6 (s:ByteArray):gV.f s=some (lJ (dl s)):=by
 unfold gV.f lJ
 by_cases h:0<s.size
 ·rw [if_pos (by omega),if_pos (by omega),VA h 36 36 rfl]
 ·rw [if_neg (by omega),wz h];rfl
theorem aeS (s:ByteArray) (h:0<s.size):(s.extract 0 1).data.toList=[(dl s)[0]'(by rw [jc];exact h)]:=by
 rw [kT,List.drop_zero]
 have h':0<(dl s).length:=by rw [jc];exact h
 have key:∀(l:List UInt8) (hl:0<l.length),l.take 1=[l[0]]:=by
  intro l hl
  cases l with
  | nil=>simp at hl
  | cons a r=>rfl
 exact key _ h'
theorem J8 (s:ByteArray):gU.f s=some (lJ (dl s)):=by
 unfold gU.f strings_HasPrefix.f stringslite_HasPrefix.f
 have e1:((⟨#[36]⟩:ByteArray).size:Int)=1:=rfl
 have e2:(⟨#[36]⟩:ByteArray).toList=[36]:=by rw [Lib.toList_data]
 by_cases h:0<s.size
 ·rw [if_pos (by rw [e1];omega),if_pos (by rw [e1];omega),if_pos (by rw [e1];omega),e1,e2]
  simp only [Option.bind_some]
  have h1:((1:Int)).toNat=1:=rfl
  have h':0<(dl s).length:=by rw [jc];exact h
  rw [h1,Lib.toList_data,aeS s h]
  unfold lJ
  rw [List.head?_eq_getElem?,List.getElem?_eq_getElem h']
  congr 1
  by_cases q:(dl s)[0]=36
  ·rw [q];rfl
  ·rw [beq_eq_false_iff_ne.2 (by simpa using q),beq_eq_false_iff_ne.2 (by simpa using q)]
 ·rw [if_neg (by rw [e1];omega),wz h];rfl
theorem PZ (s:ByteArray):gI.f s=some (oW (dl s)):=by
 unfold gI.f oW
 by_cases h:0<s.size
 ·have h':¬s.toList=([]:List UInt8):=by
   rw [qE,List.isEmpty_iff]
   intro e
   have:=jc s
   rw [e] at this
   simp at this
   omega
  rw [if_neg h',if_pos (by omega)]
  by_cases q:bt s 0=43
  ·rw [if_pos q,beq_iff_eq.2 ((uS h 43).1 q)];rfl
  ·rw [if_neg q,beq_eq_false_iff_ne.2 (fun e=>q ((uS h 43).2 e)),VA h 35 35 rfl,Bool.false_or]
 ·rw [if_pos (by rw [qE,wz h];rfl),wz h];rfl
theorem P5 (s:ByteArray) (h:0<s.size):eG.f s=some (oW (dl s)):=by
 unfold eG.f oW
 rw [if_pos (by omega)]
 by_cases q:bt s 0=43
 ·rw [if_pos q,beq_iff_eq.2 ((uS h 43).1 q)];rfl
 ·rw [if_neg q,beq_eq_false_iff_ne.2 (fun e=>q ((uS h 43).2 e)),VA h 35 35 rfl,Bool.false_or]
abbrev nN (f g:List (List UInt8)):Bool:=lg [43] [35] f g
theorem Jh (f g:List ByteArray) (hf:f.length≤1073741825):∀(d i:Nat),i+d=f.length→i≤g.length→Ev (fun k=>dM.l0 k f g (i:Int)) (nN ((f.map dl).drop i) ((g.map dl).drop i))
 | 0,i,hd,hi=>by
   refine Ev.step (fun k=>by rw [dM.l0]) (bV (by omega) (dH ?_))
   rw [drop_end f i (by omega)]
   by_cases e:i=g.length
   ·rw [drop_end g i (by omega)]
    show _=true
    exact beq_iff_eq.2 (by omega)
   ·rw [oK g i (by omega)]
    show _=false
    exact beq_eq_false_iff_ne.2 (by omega)
 | d+1,i,hd,hi=>by
   have hlt:i<f.length:=by omega
   refine Ev.step (fun k=>by rw [dM.l0]) (aZ (by omega) (aZ (by omega) ?_))
   rw [qh hlt,Aq (i:=i) (n:=f.length) hlt (by omega),oK f i hlt]
   simp only [Lib.toList_data]
   by_cases q:dl f[i]=[35]
   ·refine aZ q (dH ?_)
    rw [q]
    exact(zV _ _ _ _).symm
   ·refine bV q ?_
    by_cases hg:i<g.length
    ·have ih:=Jh f g hf d (i+1) (by omega) (by omega)
     refine bV (by omega) ?_
     rw [qh hg,oK g i hg]
     unfold nN
     rw [oJ q]
     by_cases p:dl f[i]=[43]
     ·refine aZ p (aZ (by omega) ?_)
      by_cases h:dl g[i]=[35]
      ·refine aZ h (dH ?_)
       rw [decide_eq_true (Or.inl ⟨p,h⟩)];rfl
      ·refine bV h (kX ih ?_)
       rw [decide_eq_false (fun z=>z.elim (fun z=>h z.2) (fun z=>z.1 p))];rfl
     ·refine bV p (aZ (by omega) ?_)
      by_cases h:dl f[i]=dl g[i]
      ·refine aZ h (kX ih ?_)
       rw [decide_eq_false (fun z=>z.elim (fun z=>p z.1) (fun z=>z.2 h))];rfl
      ·refine bV h (dH ?_)
       rw [decide_eq_true (Or.inr ⟨p,h⟩)];rfl
    ·refine aZ (by omega) (dH ?_)
     rw [drop_end g i (by omega)]
     unfold nN
     rw [lg,if_neg q]
theorem Ji (f g:List ByteArray) (hf:f.length≤1073741825):∀(d i:Nat),i+d=f.length→i≤g.length→Ev (fun k=>dh.l0 k f g f (f.length:Int) (i:Int)) (nN ((f.map dl).drop i) ((g.map dl).drop i))
 | 0,i,hd,hi=>by
   refine Ev.step (fun k=>by rw [dh.l0]) (bV (by omega) (dH ?_))
   rw [drop_end f i (by omega)]
   by_cases e:i=g.length
   ·rw [drop_end g i (by omega)]
    show _=true
    exact beq_iff_eq.2 (by omega)
   ·rw [oK g i (by omega)]
    show _=false
    exact beq_eq_false_iff_ne.2 (by omega)
 | d+1,i,hd,hi=>by
   have hlt:i<f.length:=by omega
   refine Ev.step (fun k=>by rw [dh.l0]) (aZ (by omega) (aZ (by omega) (aZ (by omega) ?_)))
   rw [qh hlt,oK f i hlt]
   simp only [Lib.toList_data]
   by_cases q:dl f[i]=[35]
   ·refine aZ q (dH ?_)
    rw [q]
    exact(zV _ _ _ _).symm
   ·refine bV q ?_
    by_cases hg:i<g.length
    ·have ih:=Ji f g hf d (i+1) (by omega) (by omega)
     refine bV (by omega) ?_
     rw [qh hg,oK g i hg]
     unfold nN
     rw [oJ q]
     by_cases p:dl f[i]=[43]
     ·refine aZ p (aZ (by omega) (Ev.step (fun k=>by rw [dh.j1]) ?_))
      simp only [Lib.toList_data]
      rw [Aq (i:=i) (n:=f.length) hlt (by omega)]
      by_cases h:dl g[i]=[35]
      ·refine aZ (beq_iff_eq.2 h) (dH ?_)
       rw [decide_eq_true (Or.inl ⟨p,h⟩)];rfl
      ·refine bV (by simpa using h) (aZ p (kX ih ?_))
       rw [decide_eq_false (fun z=>z.elim (fun z=>h z.2) (fun z=>z.1 p))];rfl
     ·refine bV p (Ev.step (fun k=>by rw [dh.j1]) (bV (by simp) (bV (by rw [Lib.toList_data];exact p) (aZ (by omega) (aZ (by omega) ?_)))))
      simp only [Lib.toList_data]
      rw [qh hg,Aq (i:=i) (n:=f.length) hlt (by omega)]
      by_cases h:dl f[i]=dl g[i]
      ·refine aZ h (kX ih ?_)
       rw [decide_eq_false (fun z=>z.elim (fun z=>p z.1) (fun z=>z.2 h))];rfl
      ·refine bV h (dH ?_)
       rw [decide_eq_true (Or.inr ⟨p,h⟩)];rfl
    ·refine aZ (by omega) (dH ?_)
     rw [drop_end g i (by omega)]
     unfold nN
     rw [lg,if_neg q]
theorem QV (s t:ByteArray) (hs:s.size≤1073741824):Ev (fun k=>dM.f k (pieces s stroke) (pieces t stroke)) (nN (fQ (dl s)) (fQ (dl t))):=by
 unfold dM.f
 have hl:=mZ s
 refine kX (Jh _ _ (by omega) (pieces s stroke).length 0 (by omega) (by omega)) ?_
 rw [List.drop_zero,List.drop_zero,kP,kP]
theorem QW (s t:ByteArray) (hs:s.size≤1073741824):Ev (fun k=>dh.f k (pieces s stroke) (pieces t stroke)) (nN (fQ (dl s)) (fQ (dl t))):=by
 unfold dh.f
 have hl:=mZ s
 refine kX (Ji _ _ (by omega) (pieces s stroke).length 0 (by omega) (by omega)) ?_
 rw [List.drop_zero,List.drop_zero,kP,kP]
theorem U6 {s:ByteArray} (h:eu s=true):0<s.size:=by
 unfold eu at h
 simp only [Bool.and_eq_true,Bool.not_eq_true'] at h
 rcases Nat.eq_zero_or_pos s.size with e | e
 ·have:=wz (s:=s) (by omega)
  rw [this] at h
  exact absurd h.1.2 (by decide)
 ·exact e
end Go.Proofs.YtcnfgfomholheaaGreatDoor.Pure
