/- Topics and filters, in plain lists: a text cut at its strokes, levels that fit levels, what is hidden, what is loose; a filter that covers. No program in sight. -/
import Derived.Test.YtcnfgfomholheaaGreatDoorK
import Derived.Test.YtcnfgfomholheaaGreatDoorB3
import Derived.Test.YtcnfgfomholheaaGreatDoorC1
import Derived.Test.YtcnfgfomholheaaGreatDoorK
import Derived.Test.YtcnfgfomholheaaGreatDoorPx0
import Derived.Test.YtcnfgfomholheaaGreatDoorPx2
import Derived.Test.YtcnfgfomholheaaGreatDoorPx5
import Derived.Test.YtcnfgfomholheaaGreatDoorT1
import Derived.Test.YtcnfgfomholheaaGreatDoorT2
import Derived.Test.YtcnfgfomholheaaGreatDoorX5
import Derived.Test.YtcnfgfomholheaaGreatDoorX6
import Derived.Test.YtcnfgfomholheaaGreatDoorB3
import Derived.Test.YtcnfgfomholheaaGreatDoorC1
import Derived.Test.YtcnfgfomholheaaGreatDoorK
import Derived.Test.YtcnfgfomholheaaGreatDoorT1
import Derived.Test.YtcnfgfomholheaaGreatDoorT2
import Derived.Test.YtcnfgfomholheaaGreatDoorX5
import Derived.Test.YtcnfgfomholheaaGreatDoorX6
import Derived.Lib.Split
import Derived.Lib.SplitLaws
import Derived.Lib.CountLaws
import Derived.Lib.Join
import Derived.Lib.IndexAny
import Derived.WideShapes
namespace Go.Proofs.YtcnfgfomholheaaGreatDoor.Pure
open Go.RowKit Go.Proofs.YtcnfgfomholheaaGreatDoor.X Go.Proofs.YtcnfgfomholheaaGreatDoor.P Go.Proofs.YtcnfgfomholheaaGreatDoorW.PrintWords Go.Proofs.YtcnfgfomholheaaGreatDoorW.PrintLast Go.Proofs.YtcnfgfomholheaaGreatDoor.K
set_option linter.unusedVariables false
set_option linter.unusedSimpArgs false
def jD (x:List UInt8) (last:Bool):Bool:=!sQ x || x==[43] || (x==[35] && last)
def allL:List (List UInt8)→Bool
 | []=>true
 | x::r=>jD x r.isEmpty && allL r
def bW (s:ByteArray):Bool:=allL (jy (dl s)) && fO s && !(dl s).isEmpty && decide ((jy (dl s)).length≤6)
theorem Tm:∀(l:List (List UInt8)) (x:List UInt8),x∈l→x.length≤Lib.lens l
 | a::r,x,hx=>by
   have e:Lib.lens (a::r)=a.length+Lib.lens r:=by simp [Lib.lens]
   rcases List.mem_cons.1 hx with rfl | h
   ·omega
   ·have:=Tm r x h
    omega
theorem AV (s:ByteArray) (i:Nat) (h:i<(pieces s stroke).length):(pieces s stroke)[i].size≤s.size:=by
 have e:dl (pieces s stroke)[i]∈jy (dl s):=by
  rw [←lH]
  exact List.mem_map_of_mem (List.getElem_mem h)
 have hj:=AQ (dl s)
 rw [←mV,←mV s]
 have key:∀(l:List (List UInt8)) (x:List UInt8),x∈l→x.length≤(Lib.join l [47]).length:=by
  intro l x hx
  cases l with
  | nil=>cases hx
  | cons a r=>
    rw [Lib.join_length]
    have:=Tm (a::r) x hx
    omega
 have:=key _ _ e
 rwa [hj] at this
theorem Ns (l:List ByteArray) (i:Nat) (h:i<l.length):(l.map dl).drop i=dl l[i]::(l.map dl).drop (i+1):=by
 rw [List.drop_eq_getElem_cons (by simpa using h)]
 simp
theorem drop_end (l:List ByteArray) (i:Nat) (h:l.length≤i):(l.map dl).drop i=[]:=List.drop_of_length_le (by simpa using h)
theorem OQ (l:List ByteArray) (i:Nat) (h:i<l.length):((l.map dl).drop (i+1)).isEmpty=decide (i+1=l.length):=by
 by_cases e:i+1=l.length
 ·rw [drop_end l (i+1) (by omega),decide_eq_true e];rfl
 ·rw [Ns l (i+1) (by omega),decide_eq_false e];rfl
theorem Ky (x:ByteArray) (last:Bool) (hs:x.size≤1073741824):kE.f x last=some (jD (dl x) last):=by
 unfold kE.f jD
 rw [Aj x hs]
 simp only [Option.bind_some,Lib.toList_data]
 by_cases q:sQ (dl x)=true
 ·rw [if_pos q,q]
  by_cases a:dl x=[43]
  ·rw [if_pos a,a];rfl
  ·rw [if_neg a]
   have a':(dl x==[43])=false:=beq_eq_false_iff_ne.2 a
   rw [a']
   by_cases b:dl x=[35]
   ·rw [if_pos b,b]
    cases last<;>rfl
   ·rw [if_neg b]
    have b':(dl x==[35])=false:=beq_eq_false_iff_ne.2 b
    rw [b'];rfl
 ·rw [if_neg q,Bool.eq_false_iff.2 q];rfl
theorem Fa (s:ByteArray) (P:List ByteArray) (hs:s.size≤1073741824) (hP:P.length≤1073741825) (hsz:∀(i:Nat) (h:i<P.length),P[i].size≤1073741824):∀(d i:Nat),i+d=P.length→
  Ev (fun k=>dJ.l0 k s P P (P.length:Int) (i:Int)) (allL ((P.map dl).drop i) && fO s && !(dl s).isEmpty && decide ((P.length:Int)≤6))
 | 0,i,hd=>by
   refine Ev.step (fun k=>by rw [dJ.l0]) (dP (by omega) ?_)
   rw [drop_end P i (by omega),vM s (by omega),allL,Bool.true_and]
   refine VD rfl (pX (fun h=>?_) (fun h=>?_))
   ·rw [h,Bool.true_and]
    refine pX (fun e=>?_) (fun e=>?_)
    ·rw [(wE s).1 e];exact Ev.now _
    ·rw [Bool.eq_false_iff.2 (fun z=>e ((wE s).2 z))];exact Ev.now _
   ·rw [Bool.eq_false_iff.2 h];exact Ev.now _
 | d+1,i,hd=>by
   have hi:i<P.length:=by omega
   refine Ev.step (fun k=>by rw [dJ.l0]) (cO (by omega) (cO (by omega) (cO (by omega) ?_)))
   rw [Tf hi,PO (i:=i) (n:=P.length) hi (by omega),sS (x:=(P.length:Int) - 1) (by omega) (by omega),Ky _ _ (hsz i hi),Ns P i hi,allL,OQ P i hi]
   have e:(((i:Int)==(P.length:Int) - 1))=decide (i+1=P.length):=by
    by_cases z:i+1=P.length
    ·rw [decide_eq_true z];exact beq_iff_eq.2 (by omega)
    ·rw [decide_eq_false z];exact beq_eq_false_iff_ne.2 (by omega)
   rw [e]
   refine VD rfl (pX (fun h=>?_) (fun h=>?_))
   ·rw [h,Bool.true_and]
    exact Fa s P hs hP hsz d (i+1) (by omega)
   ·rw [Bool.eq_false_iff.2 h];exact Ev.now _
theorem Kv (s:ByteArray) (hs:s.size≤1073741824):Ev (fun k=>dJ.f k s) (bW s):=by
 unfold dJ.f
 have hl:=qp s
 refine VD (vO s hs) (uI (Fa s (pieces s stroke) hs (by omega) (fun i h=>by have:=AV s i h;omega) (pieces s stroke).length 0 (by omega)) ?_)
 unfold bW
 rw [six,List.drop_zero,lH]
theorem Fb (s:ByteArray) (P:List ByteArray) (hP:P.length≤1073741825) (hsz:∀(i:Nat) (h:i<P.length),P[i].size≤1073741824):∀(d i:Nat),i+d=P.length→
  Ev (fun k=>aU.l0 k s P (i:Int)) (allL ((P.map dl).drop i) && fO s && !(dl s).isEmpty && decide ((P.length:Int)≤6))
 | 0,i,hd=>by
   refine Ev.step (fun k=>by rw [aU.l0]) (dP (by omega) ?_)
   rw [drop_end P i (by omega),allL,Bool.true_and]
   refine Ev.bind (vN s) (pX (fun h=>?_) (fun h=>?_))
   ·rw [h,Bool.true_and]
    refine pX (fun e=>?_) (fun e=>?_)
    ·rw [(wE s).1 e];exact Ev.now _
    ·rw [Bool.eq_false_iff.2 (fun z=>e ((wE s).2 z))];exact Ev.now _
   ·rw [Bool.eq_false_iff.2 h];exact Ev.now _
 | d+1,i,hd=>by
   have hi:i<P.length:=by omega
   have ih:=Fb s P hP hsz d (i+1) (by omega)
   refine Ev.step (fun k=>by rw [aU.l0]) (cO (by omega) (cO (by omega) ?_))
   rw [Tf hi,PO (i:=i) (n:=P.length) hi (by omega),sS (x:=(P.length:Int) - 1) (by omega) (by omega),Ns P i hi,allL,OQ P i hi]
   simp only [Lib.toList_data]
   refine Ev.bind (Ti _ (hsz i hi)) ?_
   unfold jD sQ
   by_cases a:(dl P[i]).contains 43=true
   ·refine cO a ?_
    by_cases b:dl P[i]=[43]
    ·refine cO b (Ev.bind (IU _ (hsz i hi)) ?_)
     rw [b]
     exact dP (by decide) ih
    ·refine dP b (gy ?_)
     have b':(dl P[i]==[43])=false:=beq_eq_false_iff_ne.2 b
     have c':(dl P[i]==[35])=false:=beq_eq_false_iff_ne.2 (fun c=>by rw [c] at a;exact absurd a (by decide))
     rw [a,b',c'];rfl
   ·refine dP a (Ev.bind (IU _ (hsz i hi)) ?_)
    rw [Bool.eq_false_iff.2 a]
    by_cases c:(dl P[i]).contains 35=true
    ·have b':(dl P[i]==[43])=false:=beq_eq_false_iff_ne.2 (fun b=>by rw [b] at a;exact absurd rfl a)
     refine cO c (pX (fun e=>?_) (fun e=>?_))
     ·have e':(dl P[i]==[35])=true:=beq_iff_eq.2 e
      rw [c,b',e']
      by_cases z:i+1=P.length
      ·refine dP (by omega) (uI ih ?_)
       rw [decide_eq_true z]
       rfl
      ·refine cO (by omega) (gy ?_)
       rw [decide_eq_false z]
       rfl
     ·have e':(dl P[i]==[35])=false:=beq_eq_false_iff_ne.2 e
      rw [c,b',e']
      exact Ev.now _
    ·rw [Bool.eq_false_iff.2 c]
     exact dP (by simp) ih
theorem Kw (s:ByteArray) (hs:s.size≤1073741824):Ev (fun k=>aU.f k s) (bW s):=by
 unfold aU.f
 have hl:=qp s
 refine Ev.bind (vP s hs) (uI (Fb s (pieces s stroke) (by omega) (fun i h=>by have:=AV s i h;omega) (pieces s stroke).length 0 (by omega)) ?_)
 unfold bW
 rw [six,List.drop_zero,lH]
end Go.Proofs.YtcnfgfomholheaaGreatDoor.Pure
