/- The signs of bytes: what spec.RuneAt and impl.RuneAt, spec.CountRunes, TextOk of the program and of the reference come to, all in the words of the model's own decoder. No program in sight. -/
import Derived.Test.YtcnfgfomholheaaGreatDoorK
import Derived.Test.YtcnfgfomholheaaGreatDoorB1
import Derived.Test.YtcnfgfomholheaaGreatDoorK
import Derived.Test.YtcnfgfomholheaaGreatDoorPx0
import Derived.Test.YtcnfgfomholheaaGreatDoorPx4
import Derived.Test.YtcnfgfomholheaaGreatDoorPx5
import Derived.Test.YtcnfgfomholheaaGreatDoorX5
import Derived.Test.YtcnfgfomholheaaGreatDoorX7
import Derived.Lib.DecodeN
import Derived.Lib.TrimUEq
import Derived.Lib.ValidLaws
import Derived.Lib.RuneCount
import Derived.Lib.FieldsU
import Derived.Laws.BytesArg
namespace Go.Proofs.YtcnfgfomholheaaGreatDoor.Pure
open Go.RowKit Go.Proofs.YtcnfgfomholheaaGreatDoor.X Go.Proofs.YtcnfgfomholheaaGreatDoor.P Go.Proofs.YtcnfgfomholheaaGreatDoorW.PrintWords Go.Proofs.YtcnfgfomholheaaGreatDoorW.PrintLast Go.Proofs.YtcnfgfomholheaaGreatDoor.K
set_option linter.unusedVariables false
set_option linter.unusedSimpArgs false
theorem O6 (s:ByteArray):Bytes (bytesOf s):=by
 intro x hx
 unfold bytesOf at hx
 obtain⟨b,_,rfl⟩:=List.mem_map.1 hx
 have:=b.toNat_lt
 omega
theorem wI (s:ByteArray) (j:Nat):((bytesOf s).getD j 0).toNat=(s.data.toList.getD j 0).toNat:=by
 unfold bytesOf
 simp only [List.getD_eq_getElem?_getD,List.getElem?_map]
 cases s.data.toList[j]?<;>simp
theorem G8 (s:ByteArray) (pos:Nat):dec (bytesOf s) pos=Utf8.decode s pos:=by
 rw [Lib.decode_N]
 unfold dec
 rw [wI,wI,wI,wI]
 have:(bytesOf s).length=s.data.toList.length:=by unfold bytesOf;rw [List.length_map]
 rw [this]
def pJ (s:ByteArray) (pos:Nat):Bool:=Lib.validD (s.data.toList.drop pos)
theorem Tj (s:ByteArray):s.data.toList.length=s.size:=by rw [Array.length_toList];rfl
theorem Dk (s:ByteArray) (pos:Nat) (h:¬pos<s.size):pJ s pos=true:=by
 unfold pJ
 rw [List.drop_of_length_le (by rw [Tj];omega)]
 rfl
theorem Nq (s:ByteArray) (pos:Nat) (h:pos<s.size):pJ s pos=if (Utf8.decode s pos).1=65533∧(Utf8.decode s pos).2=1 then false else pJ s (pos+(Utf8.decode s pos).2):=by
 unfold pJ
 have hne:s.data.toList.drop pos≠[]:=by
  intro e
  have:=congrArg List.length e
  rw [List.length_drop,Tj] at this
  simp at this
  omega
 rw [Lib.validD_step _ hne,Lib.decodeL_drop,List.drop_drop]
theorem VB (s:ByteArray) (hs:s.size≤1048576):∀(b pos n:Nat),s.size≤pos+b→pos≤s.size+4→n≤pos→
  Ev (fun k=>aV.l0 k (bytesOf s) (n:Int) (pos:Int)) (cond (lK s b pos && pJ s pos) ((n+Lib.runeCountFrom s b pos:Nat):Int) (-1))
 | 0,pos,n,hb,hp,hn=>by
   have hpos:¬pos<s.size:=by omega
   rw [Dk s pos hpos]
   refine uI (Ev.step (fun k=>?_) (Ev.now (n:Int))) (by simp [lK,Lib.runeCountFrom])
   simp only [aV.l0]
   rw [bytesOf_length,if_neg (by omega)]
 | b+1,pos,n,hb,hp,hn=>by
   by_cases hpos:pos<s.size
   ·have hl:=bytesOf_length s
    have hr:=O7 (bytesOf s) (pos:Int) (O6 s) (by omega)
    refine Ev.step (f:=fun k=>(ay.f k (bytesOf s) (pos:Int)).bind fun t=>(if t.2.2=true then (if t.1=0 then some (-1) else aV.l0 k (bytesOf s) (wrap64 ((n:Int)+1)) t.2.1) else some (-1))) (fun k=>?_) (Ev.bind hr ?_)
    ·simp only [aV.l0]
     rw [if_pos (by omega)]
    ·unfold Nr
     rw [if_pos (by omega),Int.toNat_natCast,G8,Nq s pos hpos]
     simp only [lK,Lib.runeCountFrom]
     rw [if_pos hpos,if_pos hpos]
     have hw:=Z7 (bytesOf s) pos (by omega)
     have hg:=adf (bytesOf s) pos
     rw [G8] at hw hg
     by_cases e:(Utf8.decode s pos).1=65533∧(Utf8.decode s pos).2=1
     ·rw [if_pos e,if_pos e]
      refine dP (by simp) (gy ?_)
      simp
     ·rw [if_neg e,if_neg e]
      refine cO rfl ?_
      by_cases z:(Utf8.decode s pos).1=0
      ·refine cO (by simp only;omega) (gy ?_)
       rw [if_pos z]
       simp
      ·refine dP (by simp only;omega) ?_
       rw [if_neg z]
       have e1:wrap64 ((n:Int)+1)=((n+1:Nat):Int):=PO (show n<n+1 by omega) (by omega)
       have e2:(pos:Int)+((Utf8.decode s pos).2:Int)=((pos+(Utf8.decode s pos).2:Nat):Int):=by omega
       rw [e1,e2]
       refine uI (VB s hs b (pos+(Utf8.decode s pos).2) (n+1) (by omega) (by omega) (by omega)) ?_
       have e3:n+1+Lib.runeCountFrom s b (pos+(Utf8.decode s pos).2)=n+(1+Lib.runeCountFrom s b (pos+(Utf8.decode s pos).2)):=by omega
       rw [e3]
   ·rw [Dk s pos hpos]
    refine uI (Ev.step (fun k=>?_) (Ev.now (n:Int))) (by simp [lK,Lib.runeCountFrom,hpos])
    simp only [aV.l0]
    rw [bytesOf_length,if_neg (by omega)]
def countP (s:ByteArray):Int:=if fO s=true then (Lib.runeCount s:Int) else -1
theorem Gs (s:ByteArray):Ev (fun k=>aV.f k s) (countP s):=by
 unfold aV.f countP fO
 by_cases h:(s.size:Int)>60
 ·refine cO h (gy ?_)
  rw [decide_eq_false (by omega)]
  simp
 ·refine dP h (uI (VB s (by omega) s.size 0 0 (by omega) (by omega) (by omega)) ?_)
  rw [decide_eq_true (by omega)]
  unfold pJ Lib.runeCount
  simp only [List.drop_zero,Bool.and_true,Nat.zero_add]
  cases (lK s s.size 0 && Lib.validD s.data.toList)<;>rfl
theorem vM (s:ByteArray) (hs:s.size≤140737488351232):fA.f s=some (fO s):=by
 unfold fA.f
 rw [if_pos (by omega)]
theorem vN (s:ByteArray):Ev (fun k=>fD.f k s) (fO s):=by
 unfold fD.f
 refine Ev.bind (Gs s) (gy ?_)
 unfold countP
 by_cases h:fO s=true
 ·rw [if_pos h,h]
  exact decide_eq_true (by omega)
 ·rw [if_neg h]
  have h':fO s=false:=by simpa using h
  rw [h']
  rfl
end Go.Proofs.YtcnfgfomholheaaGreatDoor.Pure
