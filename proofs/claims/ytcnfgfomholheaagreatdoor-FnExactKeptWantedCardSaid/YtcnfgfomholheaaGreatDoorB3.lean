/- The signs of bytes: what spec.RuneAt and impl.RuneAt, spec.CountRunes, TextOk of the program and of the reference come to, all in the words of the model's own decoder. No program in sight. -/
import Derived.Test.YtcnfgfomholheaaGreatDoorK
import Derived.Test.YtcnfgfomholheaaGreatDoorB1
import Derived.Test.YtcnfgfomholheaaGreatDoorK
import Derived.Test.YtcnfgfomholheaaGreatDoorPx0
import Derived.Test.YtcnfgfomholheaaGreatDoorPx4
import Derived.Test.YtcnfgfomholheaaGreatDoorPx5
import Derived.Test.YtcnfgfomholheaaGreatDoorX5
import Derived.Test.YtcnfgfomholheaaGreatDoorX7
import Derived.Lib.DecodeN
import Derived.Lib.TrimUEq
import Derived.Lib.ValidLaws
import Derived.Lib.RuneCount
import Derived.Lib.FieldsU
import Derived.Laws.BytesArg
namespace Go.Proofs.YtcnfgfomholheaaGreatDoor.Pure
open Go.RowKit Go.Proofs.YtcnfgfomholheaaGreatDoor.X Go.Proofs.YtcnfgfomholheaaGreatDoor.P Go.Proofs.YtcnfgfomholheaaGreatDoorW.PrintWords Go.Proofs.YtcnfgfomholheaaGreatDoorW.PrintLast Go.Proofs.YtcnfgfomholheaaGreatDoor.K
set_option linter.unusedVariables false
set_option linter.unusedSimpArgs false
theorem Np (s:ByteArray):Bytes (bytesOf s):=by
 intro x hx
 unfold bytesOf at hx
 obtain⟨b,_,rfl⟩:=List.mem_map.1 hx
 have:=b.toNat_lt
 omega
theorem vN (s:ByteArray) (j:Nat):((bytesOf s).getD j 0).toNat=(s.data.toList.getD j 0).toNat:=by
 unfold bytesOf
 simp only [List.getD_eq_getElem?_getD,List.getElem?_map]
 cases s.data.toList[j]?<;>simp
theorem FI (s:ByteArray) (pos:Nat):dec (bytesOf s) pos=Utf8.decode s pos:=by
 rw [Lib.decode_N]
 unfold dec
 rw [vN,vN,vN,vN]
 have:(bytesOf s).length=s.data.toList.length:=by unfold bytesOf;rw [List.length_map]
 rw [this]
def oP (s:ByteArray) (pos:Nat):Bool:=Lib.validD (s.data.toList.drop pos)
theorem Qy (s:ByteArray):s.data.toList.length=s.size:=by rw [Array.length_toList];rfl
theorem BM (s:ByteArray) (pos:Nat) (h:¬pos<s.size):oP s pos=true:=by
 unfold oP
 rw [List.drop_of_length_le (by rw [Qy];omega)]
 rfl
theorem Lm (s:ByteArray) (pos:Nat) (h:pos<s.size):oP s pos=if (Utf8.decode s pos).1=65533∧(Utf8.decode s pos).2=1 then false else oP s (pos+(Utf8.decode s pos).2):=by
 unfold oP
 have hne:s.data.toList.drop pos≠[]:=by
  intro e
  have:=congrArg List.length e
  rw [List.length_drop,Qy] at this
  simp at this
  omega
 rw [Lib.validD_step _ hne,Lib.decodeL_drop,List.drop_drop]
theorem Tt (s:ByteArray) (hs:s.size≤1048576):∀(b pos n:Nat),s.size≤pos+b→pos≤s.size+4→n≤pos→
  Ev (fun k=>aZ.l0 k (bytesOf s) (n:Int) (pos:Int)) (cond (lH s b pos && oP s pos) ((n+Lib.runeCountFrom s b pos:Nat):Int) (-1))
 | 0,pos,n,hb,hp,hn=>by
   have hpos:¬pos<s.size:=by omega
   rw [BM s pos hpos]
   refine lN (Ev.step (fun k=>?_) (Ev.now (n:Int))) (by simp [lH,Lib.runeCountFrom])
   simp only [aZ.l0]
   rw [bytesOf_length,if_neg (by omega)]
 | b+1,pos,n,hb,hp,hn=>by
   by_cases hpos:pos<s.size
   ·have hl:=bytesOf_length s
    have hr:=Nq (bytesOf s) (pos:Int) (Np s) (by omega)
    refine Ev.step (f:=fun k=>(au.f k (bytesOf s) (pos:Int)).bind fun t=>(if t.2.2=true then (if t.1=0 then some (-1) else aZ.l0 k (bytesOf s) (wrap64 ((n:Int)+1)) t.2.1) else some (-1))) (fun k=>?_) (Ev.bind hr ?_)
    ·simp only [aZ.l0]
     rw [if_pos (by omega)]
    ·unfold Lp
     rw [if_pos (by omega),Int.toNat_natCast,FI,Lm s pos hpos]
     simp only [lH,Lib.runeCountFrom]
     rw [if_pos hpos,if_pos hpos]
     have hw:=Yj (bytesOf s) pos (by omega)
     have hg:=abl (bytesOf s) pos
     rw [FI] at hw hg
     by_cases e:(Utf8.decode s pos).1=65533∧(Utf8.decode s pos).2=1
     ·rw [if_pos e,if_pos e]
      refine cu (by simp) (dJ ?_)
      simp
     ·rw [if_neg e,if_neg e]
      refine bg rfl ?_
      by_cases z:(Utf8.decode s pos).1=0
      ·refine bg (by simp only;omega) (dJ ?_)
       rw [if_pos z]
       simp
      ·refine cu (by simp only;omega) ?_
       rw [if_neg z]
       have e1:wrap64 ((n:Int)+1)=((n+1:Nat):Int):=BN (show n<n+1 by omega) (by omega)
       have e2:(pos:Int)+((Utf8.decode s pos).2:Int)=((pos+(Utf8.decode s pos).2:Nat):Int):=by omega
       rw [e1,e2]
       refine lN (Tt s hs b (pos+(Utf8.decode s pos).2) (n+1) (by omega) (by omega) (by omega)) ?_
       have e3:n+1+Lib.runeCountFrom s b (pos+(Utf8.decode s pos).2)=n+(1+Lib.runeCountFrom s b (pos+(Utf8.decode s pos).2)):=by omega
       rw [e3]
   ·rw [BM s pos hpos]
    refine lN (Ev.step (fun k=>?_) (Ev.now (n:Int))) (by simp [lH,Lib.runeCountFrom,hpos])
    simp only [aZ.l0]
    rw [bytesOf_length,if_neg (by omega)]
def countP (s:ByteArray):Int:=if fP s=true then (Lib.runeCount s:Int) else -1
theorem EZ (s:ByteArray):Ev (fun k=>aZ.f k s) (countP s):=by
 unfold aZ.f countP fP
 by_cases h:(s.size:Int)>60
 ·refine bg h (dJ ?_)
  rw [decide_eq_false (by omega)]
  simp
 ·refine cu h (lN (Tt s (by omega) s.size 0 0 (by omega) (by omega) (by omega)) ?_)
  rw [decide_eq_true (by omega)]
  unfold oP Lib.runeCount
  simp only [List.drop_zero,Bool.and_true,Nat.zero_add]
  cases (lH s s.size 0 && Lib.validD s.data.toList)<;>rfl
theorem uN (s:ByteArray) (hs:s.size≤140737488351232):fG.f s=some (fP s):=by
 unfold fG.f
 rw [if_pos (by omega)]
theorem uO (s:ByteArray):Ev (fun k=>fH.f k s) (fP s):=by
 unfold fH.f
 refine Ev.bind (EZ s) (dJ ?_)
 unfold countP
 by_cases h:fP s=true
 ·rw [if_pos h,h]
  exact decide_eq_true (by omega)
 ·rw [if_neg h]
  have h':fP s=false:=by simpa using h
  rw [h']
  rfl
end Go.Proofs.YtcnfgfomholheaaGreatDoor.Pure
