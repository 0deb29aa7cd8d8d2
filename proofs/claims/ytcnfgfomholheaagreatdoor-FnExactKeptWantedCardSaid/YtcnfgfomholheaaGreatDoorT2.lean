/- Topics and filters, in plain lists: a text cut at its strokes, levels that fit levels, what is hidden, what is loose; a filter that covers. No program in sight. -/
import Derived.Test.YtcnfgfomholheaaGreatDoorK
import Derived.Test.YtcnfgfomholheaaGreatDoorB3
import Derived.Test.YtcnfgfomholheaaGreatDoorC1
import Derived.Test.YtcnfgfomholheaaGreatDoorK
import Derived.Test.YtcnfgfomholheaaGreatDoorPx0
import Derived.Test.YtcnfgfomholheaaGreatDoorPx2
import Derived.Test.YtcnfgfomholheaaGreatDoorPx3
import Derived.Test.YtcnfgfomholheaaGreatDoorPx5
import Derived.Test.YtcnfgfomholheaaGreatDoorT1
import Derived.Test.YtcnfgfomholheaaGreatDoorX12
import Derived.Test.YtcnfgfomholheaaGreatDoorX5
import Derived.Test.YtcnfgfomholheaaGreatDoorX6
import Derived.Test.YtcnfgfomholheaaGreatDoorB3
import Derived.Test.YtcnfgfomholheaaGreatDoorC1
import Derived.Test.YtcnfgfomholheaaGreatDoorK
import Derived.Test.YtcnfgfomholheaaGreatDoorT1
import Derived.Test.YtcnfgfomholheaaGreatDoorX12
import Derived.Test.YtcnfgfomholheaaGreatDoorX5
import Derived.Test.YtcnfgfomholheaaGreatDoorX6
import Derived.Lib.Split
import Derived.Lib.SplitLaws
import Derived.Lib.CountLaws
import Derived.Lib.Join
import Derived.Lib.IndexAny
import Derived.WideShapes
namespace Go.Proofs.YtcnfgfomholheaaGreatDoor.Pure
open Go.RowKit Go.Proofs.YtcnfgfomholheaaGreatDoor.X Go.Proofs.YtcnfgfomholheaaGreatDoor.P Go.Proofs.YtcnfgfomholheaaGreatDoorW.PrintWords Go.Proofs.YtcnfgfomholheaaGreatDoorW.PrintLast Go.Proofs.YtcnfgfomholheaaGreatDoor.K
set_option linter.unusedVariables false
set_option linter.unusedSimpArgs false
theorem qJ {l:List ByteArray} {i:Nat} (h:i<l.length):aT ByteArray.empty l (i:Int)=l[i]:=Ym h
abbrev dl (x:ByteArray):List UInt8:=x.data.toList
theorem jv (x:ByteArray):(dl x).length=x.size:=by rw [Array.length_toList];rfl
theorem Yi {s:ByteArray} {i:Nat} (h:i<s.size):bt s (i:Int)=(((dl s)[i]'(by rw [jv];exact h)).toNat:Int):=by
 have:=pV s i h
 rw [←this]
 rfl
theorem vZ {s:ByteArray} (h:0<s.size) (c:UInt8):bt s 0=(c.toNat:Int)↔(dl s).head? =some c:=by
 have e:bt s 0=(((dl s)[0]'(by rw [jv];exact h)).toNat:Int):=Yi (i:=0) h
 rw [e,List.head?_eq_getElem?,List.getElem?_eq_getElem (by rw [jv];exact h)]
 simp only [Option.some.injEq]
 constructor
 ·intro q;exact UInt8.toNat_inj.1 (by omega)
 ·intro q;rw [q]
theorem xI {s:ByteArray} (h:¬0<s.size):dl s=[]:=List.length_eq_zero_iff.1 (by rw [jv];omega)
def rY (l:List UInt8):Bool:=l.contains 43 || l.contains 35
theorem xJ:∀l:List UInt8,Lib.containsAny l [43,35]=rY l
 | []=>rfl
 | b::l=>by
   have ih:=xJ l
   unfold Lib.containsAny at ih⊢
   have hge:=Lib.indexAny_ge [43,35] l
   rw [Lib.indexAny]
   unfold rY at ih⊢
   have c1:(b::l).contains 43=((43:UInt8)==b || l.contains 43):=List.contains_cons
   have c2:(b::l).contains 35=((35:UInt8)==b || l.contains 35):=List.contains_cons
   rw [c1,c2]
   clear c1 c2
   by_cases q:([43,35]:List UInt8).contains b=true
   ·rw [if_pos q]
    simp only [List.contains_cons,List.contains_nil,Bool.or_false,Bool.or_eq_true,beq_iff_eq] at q
    rcases q with rfl | rfl
    ·rfl
    ·simp
   ·rw [if_neg q]
    simp only [List.contains_cons,List.contains_nil,Bool.or_false,Bool.or_eq_true,beq_iff_eq,not_or] at q
    have q1:((43:UInt8)==b)=false:=beq_eq_false_iff_ne.2 (fun e=>q.1 e.symm)
    have q2:((35:UInt8)==b)=false:=beq_eq_false_iff_ne.2 (fun e=>q.2 e.symm)
    rw [q1,q2,Bool.false_or,Bool.false_or,←ih]
    by_cases m:Lib.indexAny l [43,35]= -1
    ·rw [m];rfl
    ·rw [if_neg (by simpa using m)]
     rw [decide_eq_true (by omega),decide_eq_true (by omega)]
theorem zJ (s:ByteArray) (hs:s.size≤1073741824):strings_ContainsAny.f s ⟨#[43,35]⟩=some (rY (dl s)):=by
 unfold strings_ContainsAny.f
 rw [if_pos ⟨by omega,rfl⟩]
 congr 1
 exact xJ (dl s)
theorem NJ (s:ByteArray) (c:UInt8) (hs:s.size≤1073741824):∀(d i:Nat),i+d=s.size→Ev (fun k=>aN.l0 k s (c.toNat:Int) (i:Int)) (((dl s).drop i).contains c)
 | 0,i,hd=>by
   refine Ev.step (fun k=>by rw [aN.l0]) (cu (by omega) (dJ ?_))
   rw [List.drop_of_length_le (by rw [jv];omega)]
   rfl
 | d+1,i,hd=>by
   have hi:i<s.size:=by omega
   have hi':i<(dl s).length:=by rw [jv];exact hi
   refine Ev.step (fun k=>by rw [aN.l0]) (bg (by omega) (bg (by omega) ?_))
   rw [Yi hi,BN (i:=i) (n:=s.size) hi (by omega),List.drop_eq_getElem_cons hi',List.contains_cons]
   by_cases q:(((dl s)[i]'hi').toNat:Int)=(c.toNat:Int)
   ·refine bg q (dJ ?_)
    have:(dl s)[i]'hi'=c:=UInt8.toNat_inj.1 (by omega)
    simp [this]
   ·refine cu q (lN (NJ s c hs d (i+1) (by omega)) ?_)
    have:(c==(dl s)[i]'hi')=false:=beq_eq_false_iff_ne.2 (fun e=>q (by rw [←e]))
    rw [this,Bool.false_or]
theorem Qx (s:ByteArray) (hs:s.size≤1073741824):Ev (fun k=>aN.f k s 43) ((dl s).contains 43):=by
 unfold aN.f
 exact NJ s 43 hs s.size 0 (by omega)
theorem Hy (s:ByteArray) (hs:s.size≤1073741824):Ev (fun k=>aN.f k s 35) ((dl s).contains 35):=by
 unfold aN.f
 exact NJ s 35 hs s.size 0 (by omega)
theorem lI (s:ByteArray):(pieces s stroke).map dl=gU (dl s):=by
 unfold pieces
 rw [Lib.splitB_data]
 exact MV (dl s)
theorem pieces_len (s:ByteArray):(gU (dl s)).length=(pieces s stroke).length:=by rw [←lI,List.length_map]
def nG (s:ByteArray):Bool:=fP s && !(dl s).isEmpty && !rY (dl s) && decide ((gU (dl s)).length≤6)
theorem rU (s:ByteArray):(s.toList=([]:List UInt8))↔(dl s).isEmpty=true:=by
 rw [Lib.toList_data,List.isEmpty_iff]
theorem six (s:ByteArray):decide (((pieces s stroke).length:Int)≤6)=decide ((gU (dl s)).length≤6):=by
 rw [pieces_len]
 exact decide_eq_decide.2 (by omega)
theorem zD (s:ByteArray) (hs:s.size≤1073741824):Ev (fun k=>iC.f k s) (nG s):=by
 unfold iC.f nG
 refine Ev.bind (uO s) (jX (fun h=>?_) (fun h=>?_))
 ·rw [h,Bool.true_and]
  refine jX (fun e=>?_) (fun e=>?_)
  ·rw [(rU s).1 e]
   exact Ev.now _
  ·have e':(dl s).isEmpty=false:=Bool.eq_false_iff.2 (fun z=>e ((rU s).2 z))
   rw [e']
   refine Ev.bind (Qx s hs) (jX (fun q=>?_) (fun q=>?_))
   ·refine dJ ?_
    unfold rY;rw [q];rfl
   ·refine Ev.bind (Hy s hs) (jX (fun r=>?_) (fun r=>?_))
    ·refine dJ ?_
     unfold rY;rw [r,Bool.or_true];rfl
    ·refine Ev.bind (qc s hs) (dJ ?_)
     unfold rY
     rw [Bool.eq_false_iff.2 q,Bool.eq_false_iff.2 r,six];rfl
 ·rw [Bool.eq_false_iff.2 h]
  exact Ev.now _
theorem zC (s:ByteArray) (hs:s.size≤1073741824):iy.f s=some (nG s):=by
 unfold iy.f nG
 rw [uN s (by omega),zJ s hs,nI s hs]
 simp only [Option.bind_some]
 by_cases h:fP s=true
 ·rw [if_pos h,h,Bool.true_and]
  by_cases e:(dl s).isEmpty=true
  ·rw [if_pos ((rU s).2 e),e];rfl
  ·rw [if_neg (fun z=>e ((rU s).1 z)),Bool.eq_false_iff.2 e]
   by_cases q:rY (dl s)=true
   ·rw [if_pos q,q];rfl
   ·rw [if_neg q,Bool.eq_false_iff.2 q,six];rfl
 ·rw [if_neg h,Bool.eq_false_iff.2 h];rfl
end Go.Proofs.YtcnfgfomholheaaGreatDoor.Pure
