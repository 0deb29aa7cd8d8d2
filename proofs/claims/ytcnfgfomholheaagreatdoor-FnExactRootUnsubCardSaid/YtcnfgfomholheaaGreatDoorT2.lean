/- Topics and filters, in plain lists: a text cut at its strokes, levels that fit levels, what is hidden, what is loose; a filter that covers. No program in sight. -/
import Derived.Test.YtcnfgfomholheaaGreatDoorK
import Derived.Test.YtcnfgfomholheaaGreatDoorB3
import Derived.Test.YtcnfgfomholheaaGreatDoorC1
import Derived.Test.YtcnfgfomholheaaGreatDoorK
import Derived.Test.YtcnfgfomholheaaGreatDoorPx0
import Derived.Test.YtcnfgfomholheaaGreatDoorPx2
import Derived.Test.YtcnfgfomholheaaGreatDoorPx3
import Derived.Test.YtcnfgfomholheaaGreatDoorPx5
import Derived.Test.YtcnfgfomholheaaGreatDoorT1
import Derived.Test.YtcnfgfomholheaaGreatDoorX12
import Derived.Test.YtcnfgfomholheaaGreatDoorX5
import Derived.Test.YtcnfgfomholheaaGreatDoorX6
import Derived.Test.YtcnfgfomholheaaGreatDoorB3
import Derived.Test.YtcnfgfomholheaaGreatDoorC1
import Derived.Test.YtcnfgfomholheaaGreatDoorK
import Derived.Test.YtcnfgfomholheaaGreatDoorT1
import Derived.Test.YtcnfgfomholheaaGreatDoorX12
import Derived.Test.YtcnfgfomholheaaGreatDoorX5
import Derived.Test.YtcnfgfomholheaaGreatDoorX6
import Derived.Lib.Split
import Derived.Lib.SplitLaws
import Derived.Lib.CountLaws
import Derived.Lib.Join
import Derived.Lib.IndexAny
import Derived.WideShapes
namespace Go.Proofs.YtcnfgfomholheaaGreatDoor.Pure
open Go.RowKit Go.Proofs.YtcnfgfomholheaaGreatDoor.X Go.Proofs.YtcnfgfomholheaaGreatDoor.P Go.Proofs.YtcnfgfomholheaaGreatDoorW.PrintWords Go.Proofs.YtcnfgfomholheaaGreatDoorW.PrintLast Go.Proofs.YtcnfgfomholheaaGreatDoor.K
set_option linter.unusedVariables false
set_option linter.unusedSimpArgs false
theorem QB {l:List ByteArray} {i:Nat} (h:i<l.length):bT ByteArray.empty l (i:Int)=l[i]:=Yq h
abbrev dl (x:ByteArray):List UInt8:=x.data.toList
theorem lJ (x:ByteArray):(dl x).length=x.size:=by rw [Array.length_toList];rfl
theorem ada {s:ByteArray} {i:Nat} (h:i<s.size):bt s (i:Int)=(((dl s)[i]'(by rw [lJ];exact h)).toNat:Int):=by
 have:=G5 s i h
 rw [←this]
 rfl
def qL (l:List UInt8):Bool:=l.contains 43 || l.contains 35
theorem xq:∀l:List UInt8,Lib.containsAny l [43,35]=qL l
 | []=>rfl
 | b::l=>by
   have ih:=xq l
   unfold Lib.containsAny at ih⊢
   have hge:=Lib.indexAny_ge [43,35] l
   rw [Lib.indexAny]
   unfold qL at ih⊢
   have c1:(b::l).contains 43=((43:UInt8)==b || l.contains 43):=List.contains_cons
   have c2:(b::l).contains 35=((35:UInt8)==b || l.contains 35):=List.contains_cons
   rw [c1,c2]
   clear c1 c2
   by_cases q:([43,35]:List UInt8).contains b=true
   ·rw [if_pos q]
    simp only [List.contains_cons,List.contains_nil,Bool.or_false,Bool.or_eq_true,beq_iff_eq] at q
    rcases q with rfl | rfl
    ·rfl
    ·simp
   ·rw [if_neg q]
    simp only [List.contains_cons,List.contains_nil,Bool.or_false,Bool.or_eq_true,beq_iff_eq,not_or] at q
    have q1:((43:UInt8)==b)=false:=beq_eq_false_iff_ne.2 (fun e=>q.1 e.symm)
    have q2:((35:UInt8)==b)=false:=beq_eq_false_iff_ne.2 (fun e=>q.2 e.symm)
    rw [q1,q2,Bool.false_or,Bool.false_or,←ih]
    by_cases m:Lib.indexAny l [43,35]= -1
    ·rw [m];rfl
    ·rw [if_neg (by simpa using m)]
     rw [decide_eq_true (by omega),decide_eq_true (by omega)]
theorem zl (s:ByteArray) (hs:s.size≤1073741824):strings_ContainsAny.f s ⟨#[43,35]⟩=some (qL (dl s)):=by
 unfold strings_ContainsAny.f
 rw [if_pos ⟨by omega,rfl⟩]
 congr 1
 exact xq (dl s)
theorem NK (s:ByteArray) (c:UInt8) (hs:s.size≤1073741824):∀(d i:Nat),i+d=s.size→Ev (fun k=>aI.l0 k s (c.toNat:Int) (i:Int)) (((dl s).drop i).contains c)
 | 0,i,hd=>by
   refine Ev.step (fun k=>by rw [aI.l0]) (dO (by omega) (fO ?_))
   rw [List.drop_of_length_le (by rw [lJ];omega)]
   rfl
 | d+1,i,hd=>by
   have hi:i<s.size:=by omega
   have hi':i<(dl s).length:=by rw [lJ];exact hi
   refine Ev.step (fun k=>by rw [aI.l0]) (bQ (by omega) (bQ (by omega) ?_))
   rw [ada hi,NU (i:=i) (n:=s.size) hi (by omega),List.drop_eq_getElem_cons hi',List.contains_cons]
   by_cases q:(((dl s)[i]'hi').toNat:Int)=(c.toNat:Int)
   ·refine bQ q (fO ?_)
    have:(dl s)[i]'hi'=c:=UInt8.toNat_inj.1 (by omega)
    simp [this]
   ·refine dO q (rQ (NK s c hs d (i+1) (by omega)) ?_)
    have:(c==(dl s)[i]'hi')=false:=beq_eq_false_iff_ne.2 (fun e=>q (by rw [←e]))
    rw [this,Bool.false_or]
theorem QC (s:ByteArray) (hs:s.size≤1073741824):Ev (fun k=>aI.f k s 43) ((dl s).contains 43):=by
 unfold aI.f
 exact NK s 43 hs s.size 0 (by omega)
theorem GZ (s:ByteArray) (hs:s.size≤1073741824):Ev (fun k=>aI.f k s 35) ((dl s).contains 35):=by
 unfold aI.f
 exact NK s 35 hs s.size 0 (by omega)
theorem uU (s:ByteArray):(pieces s stroke).map dl=iZ (dl s):=by
 unfold pieces
 rw [Lib.splitB_data]
 exact MQ (dl s)
theorem pieces_len (s:ByteArray):(iZ (dl s)).length=(pieces s stroke).length:=by rw [←uU,List.length_map]
def nK (s:ByteArray):Bool:=fG s && !(dl s).isEmpty && !qL (dl s) && decide ((iZ (dl s)).length≤6)
theorem uP (s:ByteArray):(s.toList=([]:List UInt8))↔(dl s).isEmpty=true:=by
 rw [Lib.toList_data,List.isEmpty_iff]
theorem six (s:ByteArray):decide (((pieces s stroke).length:Int)≤6)=decide ((iZ (dl s)).length≤6):=by
 rw [pieces_len]
 exact decide_eq_decide.2 (by omega)
theorem KD (s:ByteArray) (hs:s.size≤1073741824):Ev (fun k=>nY.f k s) (nK s):=by
 unfold nY.f nK
 refine Ev.bind (uf s) (oH (fun h=>?_) (fun h=>?_))
 ·rw [h,Bool.true_and]
  refine oH (fun e=>?_) (fun e=>?_)
  ·rw [(uP s).1 e]
   exact Ev.now _
  ·have e':(dl s).isEmpty=false:=Bool.eq_false_iff.2 (fun z=>e ((uP s).2 z))
   rw [e']
   refine Ev.bind (QC s hs) (oH (fun q=>?_) (fun q=>?_))
   ·refine fO ?_
    unfold qL;rw [q];rfl
   ·refine Ev.bind (GZ s hs) (oH (fun r=>?_) (fun r=>?_))
    ·refine fO ?_
     unfold qL;rw [r,Bool.or_true];rfl
    ·refine Ev.bind (uh s hs) (fO ?_)
     unfold qL
     rw [Bool.eq_false_iff.2 q,Bool.eq_false_iff.2 r,six];rfl
 ·rw [Bool.eq_false_iff.2 h]
  exact Ev.now _
theorem KC (s:ByteArray) (hs:s.size≤1073741824):nX.f s=some (nK s):=by
 unfold nX.f nK
 rw [tZ s (by omega),zl s hs,ug s hs]
 simp only [Option.bind_some]
 by_cases h:fG s=true
 ·rw [if_pos h,h,Bool.true_and]
  by_cases e:(dl s).isEmpty=true
  ·rw [if_pos ((uP s).2 e),e];rfl
  ·rw [if_neg (fun z=>e ((uP s).1 z)),Bool.eq_false_iff.2 e]
   by_cases q:qL (dl s)=true
   ·rw [if_pos q,q];rfl
   ·rw [if_neg q,Bool.eq_false_iff.2 q,six];rfl
 ·rw [if_neg h,Bool.eq_false_iff.2 h];rfl
end Go.Proofs.YtcnfgfomholheaaGreatDoor.Pure
