/- Topics and filters, in plain lists: a text cut at its strokes, levels that fit levels, what is hidden, what is loose; a filter that covers. No program in sight. -/
import Derived.Test.YtcnfgfomholheaaGreatDoorK
import Derived.Test.YtcnfgfomholheaaGreatDoorB3
import Derived.Test.YtcnfgfomholheaaGreatDoorC1
import Derived.Test.YtcnfgfomholheaaGreatDoorK
import Derived.Test.YtcnfgfomholheaaGreatDoorPx0
import Derived.Test.YtcnfgfomholheaaGreatDoorPx2
import Derived.Test.YtcnfgfomholheaaGreatDoorPx5
import Derived.Test.YtcnfgfomholheaaGreatDoorT1
import Derived.Test.YtcnfgfomholheaaGreatDoorT2
import Derived.Test.YtcnfgfomholheaaGreatDoorX5
import Derived.Test.YtcnfgfomholheaaGreatDoorX6
import Derived.Test.YtcnfgfomholheaaGreatDoorB3
import Derived.Test.YtcnfgfomholheaaGreatDoorC1
import Derived.Test.YtcnfgfomholheaaGreatDoorK
import Derived.Test.YtcnfgfomholheaaGreatDoorT1
import Derived.Test.YtcnfgfomholheaaGreatDoorT2
import Derived.Test.YtcnfgfomholheaaGreatDoorX5
import Derived.Test.YtcnfgfomholheaaGreatDoorX6
import Derived.Lib.Split
import Derived.Lib.SplitLaws
import Derived.Lib.CountLaws
import Derived.Lib.Join
import Derived.Lib.IndexAny
import Derived.WideShapes
namespace Go.Proofs.YtcnfgfomholheaaGreatDoor.Pure
open Go.RowKit Go.Proofs.YtcnfgfomholheaaGreatDoor.X Go.Proofs.YtcnfgfomholheaaGreatDoor.P Go.Proofs.YtcnfgfomholheaaGreatDoorW.PrintWords Go.Proofs.YtcnfgfomholheaaGreatDoorW.PrintLast Go.Proofs.YtcnfgfomholheaaGreatDoor.K
set_option linter.unusedVariables false
set_option linter.unusedSimpArgs false
def jY (x:List UInt8) (last:Bool):Bool:=!rY x || x==[43] || (x==[35] && last)
def allL:List (List UInt8)→Bool
 | []=>true
 | x::r=>jY x r.isEmpty && allL r
def fF (s:ByteArray):Bool:=allL (gU (dl s)) && fP s && !(dl s).isEmpty && decide ((gU (dl s)).length≤6)
theorem Qz:∀(l:List (List UInt8)) (x:List UInt8),x∈l→x.length≤Lib.lens l
 | a::r,x,hx=>by
   have e:Lib.lens (a::r)=a.length+Lib.lens r:=by simp [Lib.lens]
   rcases List.mem_cons.1 hx with rfl | h
   ·omega
   ·have:=Qz r x h
    omega
theorem JJ (s:ByteArray) (i:Nat) (h:i<(pieces s stroke).length):(pieces s stroke)[i].size≤s.size:=by
 have e:dl (pieces s stroke)[i]∈gU (dl s):=by
  rw [←lI]
  exact List.mem_map_of_mem (List.getElem_mem h)
 have hj:=GX (dl s)
 rw [←jv,←jv s]
 have key:∀(l:List (List UInt8)) (x:List UInt8),x∈l→x.length≤(Lib.join l [47]).length:=by
  intro l x hx
  cases l with
  | nil=>cases hx
  | cons a r=>
    rw [Lib.join_length]
    have:=Qz (a::r) x hx
    omega
 have:=key _ _ e
 rwa [hj] at this
theorem pq (l:List ByteArray) (i:Nat) (h:i<l.length):(l.map dl).drop i=dl l[i]::(l.map dl).drop (i+1):=by
 rw [List.drop_eq_getElem_cons (by simpa using h)]
 simp
theorem drop_end (l:List ByteArray) (i:Nat) (h:l.length≤i):(l.map dl).drop i=[]:=List.drop_of_length_le (by simpa using h)
theorem MX (l:List ByteArray) (i:Nat) (h:i<l.length):((l.map dl).drop (i+1)).isEmpty=decide (i+1=l.length):=by
 by_cases e:i+1=l.length
 ·rw [drop_end l (i+1) (by omega),decide_eq_true e];rfl
 ·rw [pq l (i+1) (by omega),decide_eq_false e];rfl
theorem Js (x:ByteArray) (last:Bool) (hs:x.size≤1073741824):jT.f x last=some (jY (dl x) last):=by
 unfold jT.f jY
 rw [zJ x hs]
 simp only [Option.bind_some,Lib.toList_data]
 by_cases q:rY (dl x)=true
 ·rw [if_pos q,q]
  by_cases a:dl x=[43]
  ·rw [if_pos a,a];rfl
  ·rw [if_neg a]
   have a':(dl x==[43])=false:=beq_eq_false_iff_ne.2 a
   rw [a']
   by_cases b:dl x=[35]
   ·rw [if_pos b,b]
    cases last<;>rfl
   ·rw [if_neg b]
    have b':(dl x==[35])=false:=beq_eq_false_iff_ne.2 b
    rw [b'];rfl
 ·rw [if_neg q,Bool.eq_false_iff.2 q];rfl
theorem Ed (s:ByteArray) (P:List ByteArray) (hs:s.size≤1073741824) (hP:P.length≤1073741825) (hsz:∀(i:Nat) (h:i<P.length),P[i].size≤1073741824):∀(d i:Nat),i+d=P.length→
  Ev (fun k=>bY.l0 k s P P (P.length:Int) (i:Int)) (allL ((P.map dl).drop i) && fP s && !(dl s).isEmpty && decide ((P.length:Int)≤6))
 | 0,i,hd=>by
   refine Ev.step (fun k=>by rw [bY.l0]) (cu (by omega) ?_)
   rw [drop_end P i (by omega),uN s (by omega),allL,Bool.true_and]
   refine wo rfl (jX (fun h=>?_) (fun h=>?_))
   ·rw [h,Bool.true_and]
    refine jX (fun e=>?_) (fun e=>?_)
    ·rw [(rU s).1 e];exact Ev.now _
    ·rw [Bool.eq_false_iff.2 (fun z=>e ((rU s).2 z))];exact Ev.now _
   ·rw [Bool.eq_false_iff.2 h];exact Ev.now _
 | d+1,i,hd=>by
   have hi:i<P.length:=by omega
   refine Ev.step (fun k=>by rw [bY.l0]) (bg (by omega) (bg (by omega) (bg (by omega) ?_)))
   rw [qJ hi,BN (i:=i) (n:=P.length) hi (by omega),rZ (x:=(P.length:Int) - 1) (by omega) (by omega),Js _ _ (hsz i hi),pq P i hi,allL,MX P i hi]
   have e:(((i:Int)==(P.length:Int) - 1))=decide (i+1=P.length):=by
    by_cases z:i+1=P.length
    ·rw [decide_eq_true z];exact beq_iff_eq.2 (by omega)
    ·rw [decide_eq_false z];exact beq_eq_false_iff_ne.2 (by omega)
   rw [e]
   refine wo rfl (jX (fun h=>?_) (fun h=>?_))
   ·rw [h,Bool.true_and]
    exact Ed s P hs hP hsz d (i+1) (by omega)
   ·rw [Bool.eq_false_iff.2 h];exact Ev.now _
theorem yj (s:ByteArray) (hs:s.size≤1073741824):Ev (fun k=>bY.f k s) (fF s):=by
 unfold bY.f
 have hl:=qg s
 refine wo (nI s hs) (lN (Ed s (pieces s stroke) hs (by omega) (fun i h=>by have:=JJ s i h;omega) (pieces s stroke).length 0 (by omega)) ?_)
 unfold fF
 rw [six,List.drop_zero,lI]
theorem Ee (s:ByteArray) (P:List ByteArray) (hP:P.length≤1073741825) (hsz:∀(i:Nat) (h:i<P.length),P[i].size≤1073741824):∀(d i:Nat),i+d=P.length→
  Ev (fun k=>aU.l0 k s P (i:Int)) (allL ((P.map dl).drop i) && fP s && !(dl s).isEmpty && decide ((P.length:Int)≤6))
 | 0,i,hd=>by
   refine Ev.step (fun k=>by rw [aU.l0]) (cu (by omega) ?_)
   rw [drop_end P i (by omega),allL,Bool.true_and]
   refine Ev.bind (uO s) (jX (fun h=>?_) (fun h=>?_))
   ·rw [h,Bool.true_and]
    refine jX (fun e=>?_) (fun e=>?_)
    ·rw [(rU s).1 e];exact Ev.now _
    ·rw [Bool.eq_false_iff.2 (fun z=>e ((rU s).2 z))];exact Ev.now _
   ·rw [Bool.eq_false_iff.2 h];exact Ev.now _
 | d+1,i,hd=>by
   have hi:i<P.length:=by omega
   have ih:=Ee s P hP hsz d (i+1) (by omega)
   refine Ev.step (fun k=>by rw [aU.l0]) (bg (by omega) (bg (by omega) ?_))
   rw [qJ hi,BN (i:=i) (n:=P.length) hi (by omega),rZ (x:=(P.length:Int) - 1) (by omega) (by omega),pq P i hi,allL,MX P i hi]
   simp only [Lib.toList_data]
   refine Ev.bind (Qx _ (hsz i hi)) ?_
   unfold jY rY
   by_cases a:(dl P[i]).contains 43=true
   ·refine bg a ?_
    by_cases b:dl P[i]=[43]
    ·refine bg b (Ev.bind (Hy _ (hsz i hi)) ?_)
     rw [b]
     exact cu (by decide) ih
    ·refine cu b (dJ ?_)
     have b':(dl P[i]==[43])=false:=beq_eq_false_iff_ne.2 b
     have c':(dl P[i]==[35])=false:=beq_eq_false_iff_ne.2 (fun c=>by rw [c] at a;exact absurd a (by decide))
     rw [a,b',c'];rfl
   ·refine cu a (Ev.bind (Hy _ (hsz i hi)) ?_)
    rw [Bool.eq_false_iff.2 a]
    by_cases c:(dl P[i]).contains 35=true
    ·have b':(dl P[i]==[43])=false:=beq_eq_false_iff_ne.2 (fun b=>by rw [b] at a;exact absurd rfl a)
     refine bg c (jX (fun e=>?_) (fun e=>?_))
     ·have e':(dl P[i]==[35])=true:=beq_iff_eq.2 e
      rw [c,b',e']
      by_cases z:i+1=P.length
      ·refine cu (by omega) (lN ih ?_)
       rw [decide_eq_true z]
       rfl
      ·refine bg (by omega) (dJ ?_)
       rw [decide_eq_false z]
       rfl
     ·have e':(dl P[i]==[35])=false:=beq_eq_false_iff_ne.2 e
      rw [c,b',e']
      exact Ev.now _
    ·rw [Bool.eq_false_iff.2 c]
     exact cu (by simp) ih
theorem yt (s:ByteArray) (hs:s.size≤1073741824):Ev (fun k=>aU.f k s) (fF s):=by
 unfold aU.f
 have hl:=qg s
 refine Ev.bind (qc s hs) (lN (Ee s (pieces s stroke) (by omega) (fun i h=>by have:=JJ s i h;omega) (pieces s stroke).length 0 (by omega)) ?_)
 unfold fF
 rw [six,List.drop_zero,lI]
end Go.Proofs.YtcnfgfomholheaaGreatDoor.Pure
