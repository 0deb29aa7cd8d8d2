/- Topics and filters, in plain lists: a text cut at its strokes, levels that fit levels, what is hidden, what is loose; a filter that covers. No program in sight. -/
import Derived.Test.YtcnfgfomholheaaGreatDoorK
import Derived.Test.YtcnfgfomholheaaGreatDoorB3
import Derived.Test.YtcnfgfomholheaaGreatDoorC1
import Derived.Test.YtcnfgfomholheaaGreatDoorK
import Derived.Test.YtcnfgfomholheaaGreatDoorPx0
import Derived.Test.YtcnfgfomholheaaGreatDoorPx2
import Derived.Test.YtcnfgfomholheaaGreatDoorPx3
import Derived.Test.YtcnfgfomholheaaGreatDoorPx5
import Derived.Test.YtcnfgfomholheaaGreatDoorT1
import Derived.Test.YtcnfgfomholheaaGreatDoorX12
import Derived.Test.YtcnfgfomholheaaGreatDoorX5
import Derived.Test.YtcnfgfomholheaaGreatDoorX6
import Derived.Test.YtcnfgfomholheaaGreatDoorB3
import Derived.Test.YtcnfgfomholheaaGreatDoorC1
import Derived.Test.YtcnfgfomholheaaGreatDoorK
import Derived.Test.YtcnfgfomholheaaGreatDoorT1
import Derived.Test.YtcnfgfomholheaaGreatDoorX12
import Derived.Test.YtcnfgfomholheaaGreatDoorX5
import Derived.Test.YtcnfgfomholheaaGreatDoorX6
import Derived.Lib.Split
import Derived.Lib.SplitLaws
import Derived.Lib.CountLaws
import Derived.Lib.Join
import Derived.Lib.IndexAny
import Derived.WideShapes
namespace Go.Proofs.YtcnfgfomholheaaGreatDoor.Pure
open Go.RowKit Go.Proofs.YtcnfgfomholheaaGreatDoor.X Go.Proofs.YtcnfgfomholheaaGreatDoor.P Go.Proofs.YtcnfgfomholheaaGreatDoorW.PrintWords Go.Proofs.YtcnfgfomholheaaGreatDoorW.PrintLast Go.Proofs.YtcnfgfomholheaaGreatDoor.K
set_option linter.unusedVariables false
set_option linter.unusedSimpArgs false
theorem O1 {l:List ByteArray} {i:Nat} (h:i<l.length):bP ByteArray.empty l (i:Int)=l[i]:=Xu h
abbrev dl (x:ByteArray):List UInt8:=x.data.toList
theorem kW (x:ByteArray):(dl x).length=x.size:=by rw [Array.length_toList];rfl
theorem ab1 {s:ByteArray} {i:Nat} (h:i<s.size):bt s (i:Int)=(((dl s)[i]'(by rw [kW];exact h)).toNat:Int):=by
 have:=Fv s i h
 rw [←this]
 rfl
def DJ (l:List UInt8):Bool:=l.contains 43 || l.contains 35
theorem uS:∀l:List UInt8,Lib.containsAny l [43,35]=DJ l
 | []=>rfl
 | b::l=>by
   have ih:=uS l
   unfold Lib.containsAny at ih⊢
   have hge:=Lib.indexAny_ge [43,35] l
   rw [Lib.indexAny]
   unfold DJ at ih⊢
   have c1:(b::l).contains 43=((43:UInt8)==b || l.contains 43):=List.contains_cons
   have c2:(b::l).contains 35=((35:UInt8)==b || l.contains 35):=List.contains_cons
   rw [c1,c2]
   clear c1 c2
   by_cases q:([43,35]:List UInt8).contains b=true
   ·rw [if_pos q]
    simp only [List.contains_cons,List.contains_nil,Bool.or_false,Bool.or_eq_true,beq_iff_eq] at q
    rcases q with rfl | rfl
    ·rfl
    ·simp
   ·rw [if_neg q]
    simp only [List.contains_cons,List.contains_nil,Bool.or_false,Bool.or_eq_true,beq_iff_eq,not_or] at q
    have q1:((43:UInt8)==b)=false:=beq_eq_false_iff_ne.2 (fun e=>q.1 e.symm)
    have q2:((35:UInt8)==b)=false:=beq_eq_false_iff_ne.2 (fun e=>q.2 e.symm)
    rw [q1,q2,Bool.false_or,Bool.false_or,←ih]
    by_cases m:Lib.indexAny l [43,35]= -1
    ·rw [m];rfl
    ·rw [if_neg (by simpa using m)]
     rw [decide_eq_true (by omega),decide_eq_true (by omega)]
theorem Jp (s:ByteArray) (hs:s.size≤1073741824):strings_ContainsAny.f s ⟨#[43,35]⟩=some (DJ (dl s)):=by
 unfold strings_ContainsAny.f
 rw [if_pos ⟨by omega,rfl⟩]
 congr 1
 exact uS (dl s)
theorem LG (s:ByteArray) (c:UInt8) (hs:s.size≤1073741824):∀(d i:Nat),i+d=s.size→Ev (fun k=>aV.l0 k s (c.toNat:Int) (i:Int)) (((dl s).drop i).contains c)
 | 0,i,hd=>by
   refine Ev.step (fun k=>by rw [aV.l0]) (dI (by omega) (fZ ?_))
   rw [List.drop_of_length_le (by rw [kW];omega)]
   rfl
 | d+1,i,hd=>by
   have hi:i<s.size:=by omega
   have hi':i<(dl s).length:=by rw [kW];exact hi
   refine Ev.step (fun k=>by rw [aV.l0]) (bM (by omega) (bM (by omega) ?_))
   rw [ab1 hi,MF (i:=i) (n:=s.size) hi (by omega),List.drop_eq_getElem_cons hi',List.contains_cons]
   by_cases q:(((dl s)[i]'hi').toNat:Int)=(c.toNat:Int)
   ·refine bM q (fZ ?_)
    have:(dl s)[i]'hi'=c:=UInt8.toNat_inj.1 (by omega)
    simp [this]
   ·refine dI q (qP (LG s c hs d (i+1) (by omega)) ?_)
    have:(c==(dl s)[i]'hi')=false:=beq_eq_false_iff_ne.2 (fun e=>q (by rw [←e]))
    rw [this,Bool.false_or]
theorem YC (s:ByteArray) (hs:s.size≤1073741824):Ev (fun k=>aV.f k s 43) ((dl s).contains 43):=by
 unfold aV.f
 exact LG s 43 hs s.size 0 (by omega)
theorem O4 (s:ByteArray) (hs:s.size≤1073741824):Ev (fun k=>aV.f k s 35) ((dl s).contains 35):=by
 unfold aV.f
 exact LG s 35 hs s.size 0 (by omega)
theorem sK (s:ByteArray):(pieces s stroke).map dl=iR (dl s):=by
 unfold pieces
 rw [Lib.splitB_data]
 exact KD (dl s)
theorem pieces_len (s:ByteArray):(iR (dl s)).length=(pieces s stroke).length:=by rw [←sK,List.length_map]
theorem FT (s:ByteArray):(s.toList=([]:List UInt8))↔(dl s).isEmpty=true:=by
 rw [Lib.toList_data,List.isEmpty_iff]
theorem six (s:ByteArray):decide (((pieces s stroke).length:Int)≤6)=decide ((iR (dl s)).length≤6):=by
 rw [pieces_len]
 exact decide_eq_decide.2 (by omega)
end Go.Proofs.YtcnfgfomholheaaGreatDoor.Pure
