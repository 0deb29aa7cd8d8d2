/- Topics and filters, in plain lists: a text cut at its strokes, levels that fit levels, what is hidden, what is loose; a filter that covers. No program in sight. -/
import Derived.Test.YtcnfgfomholheaaGreatDoorK
import Derived.Test.YtcnfgfomholheaaGreatDoorB3
import Derived.Test.YtcnfgfomholheaaGreatDoorC1
import Derived.Test.YtcnfgfomholheaaGreatDoorK
import Derived.Test.YtcnfgfomholheaaGreatDoorPx0
import Derived.Test.YtcnfgfomholheaaGreatDoorPx2
import Derived.Test.YtcnfgfomholheaaGreatDoorPx3
import Derived.Test.YtcnfgfomholheaaGreatDoorPx5
import Derived.Test.YtcnfgfomholheaaGreatDoorT1
import Derived.Test.YtcnfgfomholheaaGreatDoorX12
import Derived.Test.YtcnfgfomholheaaGreatDoorX5
import Derived.Test.YtcnfgfomholheaaGreatDoorX6
import Derived.Test.YtcnfgfomholheaaGreatDoorB3
import Derived.Test.YtcnfgfomholheaaGreatDoorC1
import Derived.Test.YtcnfgfomholheaaGreatDoorK
import Derived.Test.YtcnfgfomholheaaGreatDoorT1
import Derived.Test.YtcnfgfomholheaaGreatDoorX12
import Derived.Test.YtcnfgfomholheaaGreatDoorX5
import Derived.Test.YtcnfgfomholheaaGreatDoorX6
import Derived.Lib.Split
import Derived.Lib.SplitLaws
import Derived.Lib.CountLaws
import Derived.Lib.Join
import Derived.Lib.IndexAny
import Derived.WideShapes
namespace Go.Proofs.YtcnfgfomholheaaGreatDoor.Pure
open Go.RowKit Go.Proofs.YtcnfgfomholheaaGreatDoor.X Go.Proofs.YtcnfgfomholheaaGreatDoor.P Go.Proofs.YtcnfgfomholheaaGreatDoorW.PrintWords Go.Proofs.YtcnfgfomholheaaGreatDoorW.PrintLast Go.Proofs.YtcnfgfomholheaaGreatDoor.K
set_option linter.unusedVariables false
set_option linter.unusedSimpArgs false
theorem Tf {l:List ByteArray} {i:Nat} (h:i<l.length):cZ ByteArray.empty l (i:Int)=l[i]:=aac h
abbrev dl (x:ByteArray):List UInt8:=x.data.toList
theorem mV (x:ByteArray):(dl x).length=x.size:=by rw [Array.length_toList];rfl
theorem X0 {x y:ByteArray}:x=y↔dl x=dl y:=⟨fun h=>by rw [h],fun h=>Go.WideShapes.bytes_inj h⟩
theorem aeU {s:ByteArray} {i:Nat} (h:i<s.size):bt s (i:Int)=(((dl s)[i]'(by rw [mV];exact h)).toNat:Int):=by
 have:=IV s i h
 rw [←this]
 rfl
def sQ (l:List UInt8):Bool:=l.contains 43 || l.contains 35
theorem yC:∀l:List UInt8,Lib.containsAny l [43,35]=sQ l
 | []=>rfl
 | b::l=>by
   have ih:=yC l
   unfold Lib.containsAny at ih⊢
   have hge:=Lib.indexAny_ge [43,35] l
   rw [Lib.indexAny]
   unfold sQ at ih⊢
   have c1:(b::l).contains 43=((43:UInt8)==b || l.contains 43):=List.contains_cons
   have c2:(b::l).contains 35=((35:UInt8)==b || l.contains 35):=List.contains_cons
   rw [c1,c2]
   clear c1 c2
   by_cases q:([43,35]:List UInt8).contains b=true
   ·rw [if_pos q]
    simp only [List.contains_cons,List.contains_nil,Bool.or_false,Bool.or_eq_true,beq_iff_eq] at q
    rcases q with rfl | rfl
    ·rfl
    ·simp
   ·rw [if_neg q]
    simp only [List.contains_cons,List.contains_nil,Bool.or_false,Bool.or_eq_true,beq_iff_eq,not_or] at q
    have q1:((43:UInt8)==b)=false:=beq_eq_false_iff_ne.2 (fun e=>q.1 e.symm)
    have q2:((35:UInt8)==b)=false:=beq_eq_false_iff_ne.2 (fun e=>q.2 e.symm)
    rw [q1,q2,Bool.false_or,Bool.false_or,←ih]
    by_cases m:Lib.indexAny l [43,35]= -1
    ·rw [m];rfl
    ·rw [if_neg (by simpa using m)]
     rw [decide_eq_true (by omega),decide_eq_true (by omega)]
theorem Aj (s:ByteArray) (hs:s.size≤1073741824):strings_ContainsAny.f s ⟨#[43,35]⟩=some (sQ (dl s)):=by
 unfold strings_ContainsAny.f
 rw [if_pos ⟨by omega,rfl⟩]
 congr 1
 exact yC (dl s)
theorem PD (s:ByteArray) (c:UInt8) (hs:s.size≤1073741824):∀(d i:Nat),i+d=s.size→Ev (fun k=>aI.l0 k s (c.toNat:Int) (i:Int)) (((dl s).drop i).contains c)
 | 0,i,hd=>by
   refine Ev.step (fun k=>by rw [aI.l0]) (dP (by omega) (gy ?_))
   rw [List.drop_of_length_le (by rw [mV];omega)]
   rfl
 | d+1,i,hd=>by
   have hi:i<s.size:=by omega
   have hi':i<(dl s).length:=by rw [mV];exact hi
   refine Ev.step (fun k=>by rw [aI.l0]) (cO (by omega) (cO (by omega) ?_))
   rw [aeU hi,PO (i:=i) (n:=s.size) hi (by omega),List.drop_eq_getElem_cons hi',List.contains_cons]
   by_cases q:(((dl s)[i]'hi').toNat:Int)=(c.toNat:Int)
   ·refine cO q (gy ?_)
    have:(dl s)[i]'hi'=c:=UInt8.toNat_inj.1 (by omega)
    simp [this]
   ·refine dP q (uI (PD s c hs d (i+1) (by omega)) ?_)
    have:(c==(dl s)[i]'hi')=false:=beq_eq_false_iff_ne.2 (fun e=>q (by rw [←e]))
    rw [this,Bool.false_or]
theorem Ti (s:ByteArray) (hs:s.size≤1073741824):Ev (fun k=>aI.f k s 43) ((dl s).contains 43):=by
 unfold aI.f
 exact PD s 43 hs s.size 0 (by omega)
theorem IU (s:ByteArray) (hs:s.size≤1073741824):Ev (fun k=>aI.f k s 35) ((dl s).contains 35):=by
 unfold aI.f
 exact PD s 35 hs s.size 0 (by omega)
theorem lH (s:ByteArray):(pieces s stroke).map dl=jy (dl s):=by
 unfold pieces
 rw [Lib.splitB_data]
 exact OM (dl s)
theorem pieces_len (s:ByteArray):(jy (dl s)).length=(pieces s stroke).length:=by rw [←lH,List.length_map]
def oP (s:ByteArray):Bool:=fO s && !(dl s).isEmpty && !sQ (dl s) && decide ((jy (dl s)).length≤6)
theorem wE (s:ByteArray):(s.toList=([]:List UInt8))↔(dl s).isEmpty=true:=by
 rw [Lib.toList_data,List.isEmpty_iff]
theorem six (s:ByteArray):decide (((pieces s stroke).length:Int)≤6)=decide ((jy (dl s)).length≤6):=by
 rw [pieces_len]
 exact decide_eq_decide.2 (by omega)
theorem MP (s:ByteArray) (hs:s.size≤1073741824):Ev (fun k=>pF.f k s) (oP s):=by
 unfold pF.f oP
 refine Ev.bind (vN s) (pX (fun h=>?_) (fun h=>?_))
 ·rw [h,Bool.true_and]
  refine pX (fun e=>?_) (fun e=>?_)
  ·rw [(wE s).1 e]
   exact Ev.now _
  ·have e':(dl s).isEmpty=false:=Bool.eq_false_iff.2 (fun z=>e ((wE s).2 z))
   rw [e']
   refine Ev.bind (Ti s hs) (pX (fun q=>?_) (fun q=>?_))
   ·refine gy ?_
    unfold sQ;rw [q];rfl
   ·refine Ev.bind (IU s hs) (pX (fun r=>?_) (fun r=>?_))
    ·refine gy ?_
     unfold sQ;rw [r,Bool.or_true];rfl
    ·refine Ev.bind (vP s hs) (gy ?_)
     unfold sQ
     rw [Bool.eq_false_iff.2 q,Bool.eq_false_iff.2 r,six];rfl
 ·rw [Bool.eq_false_iff.2 h]
  exact Ev.now _
theorem MO (s:ByteArray) (hs:s.size≤1073741824):pz.f s=some (oP s):=by
 unfold pz.f oP
 rw [vM s (by omega),Aj s hs,vO s hs]
 simp only [Option.bind_some]
 by_cases h:fO s=true
 ·rw [if_pos h,h,Bool.true_and]
  by_cases e:(dl s).isEmpty=true
  ·rw [if_pos ((wE s).2 e),e];rfl
  ·rw [if_neg (fun z=>e ((wE s).1 z)),Bool.eq_false_iff.2 e]
   by_cases q:sQ (dl s)=true
   ·rw [if_pos q,q];rfl
   ·rw [if_neg q,Bool.eq_false_iff.2 q,six];rfl
 ·rw [if_neg h,Bool.eq_false_iff.2 h];rfl
end Go.Proofs.YtcnfgfomholheaaGreatDoor.Pure
