/- The levels of a text: spec.Levels and strings.Split come to the same pieces; the marks of a list of texts are laid and found again. No program in sight. -/
import Derived.Test.YtcnfgfomholheaaGreatDoorK
import Derived.Test.YtcnfgfomholheaaGreatDoorK
import Derived.Test.YtcnfgfomholheaaGreatDoorPx0
import Derived.Test.YtcnfgfomholheaaGreatDoorPx1
import Derived.Test.YtcnfgfomholheaaGreatDoorPx2
import Derived.Test.YtcnfgfomholheaaGreatDoorX6
import Derived.Lib.Split
import Derived.Lib.SplitLaws
import Derived.Lib.CountLaws
import Derived.Lib.IndexBytes
import Derived.WideShapes
namespace Go.Proofs.YtcnfgfomholheaaGreatDoor.Pure
open Go.RowKit Go.Proofs.YtcnfgfomholheaaGreatDoor.X Go.Proofs.YtcnfgfomholheaaGreatDoor.P Go.Proofs.YtcnfgfomholheaaGreatDoorW.PrintWords Go.Proofs.YtcnfgfomholheaaGreatDoorW.PrintLast Go.Proofs.YtcnfgfomholheaaGreatDoor.K
set_option linter.unusedVariables false
set_option linter.unusedSimpArgs false
def stroke:ByteArray:=⟨#[47]⟩
theorem lM (s:ByteArray) (a b:Nat):(s.extract a b).data.toList=(s.data.toList.take b).drop a:=by
 rw [Lib.extract_data]
 rw [List.drop_take]
theorem vK (s:ByteArray):s.data.toList.length=s.size:=by rw [Array.length_toList];rfl
theorem D6 (s:ByteArray) (a:Nat) (h:a≤s.size):(s.extract a s.size).size=s.size - a:=by
 rw [←vK,lM,List.length_drop,List.length_take,vK];omega
theorem X6 (s:ByteArray) (a d:Nat) (h:a+d≤s.size):(s.extract a s.size).extract d (s.extract a s.size).size=s.extract (a+d) s.size:=by
 refine Go.WideShapes.bytes_inj ?_
 have e:s.data.toList.take s.size=s.data.toList:=List.take_of_length_le (by rw [vK];omega)
 rw [lM,lM,lM,D6 s a (by omega),e,List.take_of_length_le (by rw [List.length_drop,vK];omega),List.drop_drop]
theorem X7 (s:ByteArray) (a i:Nat) (h1:a≤i) (h:i≤s.size):(s.extract a s.size).extract 0 (i - a)=s.extract a i:=by
 refine Go.WideShapes.bytes_inj ?_
 rw [lM,lM,lM,←vK,List.take_length,List.drop_zero,List.drop_take]
theorem X8 (s:ByteArray) (a i:Nat) (h1:a≤i) (h:i<s.size):Lib.occAt (s.extract a s.size).data.toList stroke.data.toList (i - a)=decide (bt s (i:Int)=47):=by
 rw [lM,←vK,List.take_length]
 unfold Lib.occAt
 rw [List.drop_drop,show a+(i - a)=i from by omega]
 have hi:i<s.data.toList.length:=by rw [vK];exact h
 rw [List.drop_eq_getElem_cons hi]
 have hb:bt s (i:Int)=((s.data.toList[i]).toNat:Int):=by
  unfold bt
  rw [dif_pos (by simpa using h)]
  rfl
 rw [hb]
 show List.isPrefixOf [47] _=_
 rw [List.isPrefixOf_cons_cons]
 simp only [List.isPrefixOf_nil_left,Bool.and_true]
 have e:(((s.data.toList[i]).toNat:Int)=47)↔(47:UInt8)=s.data.toList[i]:=by
  constructor
  ·intro q
   refine UInt8.toNat_inj.1 ?_
   show 47=_
   omega
  ·intro q
   rw [←q]
   rfl
 by_cases q:(47:UInt8)=s.data.toList[i]
 ·rw [decide_eq_true (e.2 q)]
  exact beq_iff_eq.2 q
 ·rw [decide_eq_false (fun z=>q (e.1 z))]
  exact beq_eq_false_iff_ne.2 q
def AZ (s:ByteArray) (a:Nat):List ByteArray:=pieces (s.extract a s.size) stroke
theorem X9 (s:ByteArray) (a:Nat) (h:a≤s.size) (hno:Lib.NoOccB (s.extract a s.size) stroke (s.size - a)):AZ s a=[s.extract a s.size]:=by
 unfold AZ pieces
 exact Lib.splitB_miss _ _ _ _ (Lib.past _ _ (s.size - a) hno (by decide) (by rw [D6 s a h];show s.size - a<s.size - a+1;omega))
theorem Ya (s:ByteArray) (a i:Nat) (h1:a≤i) (h:i<s.size) (hno:Lib.NoOccB (s.extract a s.size) stroke (i - a)) (hb:bt s (i:Int)=47):AZ s a=s.extract a i::AZ s (i+1):=by
 have hx:Lib.indexB (s.extract a s.size) stroke=((i - a:Nat):Int):=by
  refine Lib.index_hit hno ?_ ?_
  ·rw [vK,D6 s a (by omega)];omega
  ·rw [X8 s a i h1 h];exact decide_eq_true hb
 have hr:(s.extract a s.size).extract (i - a+stroke.size) (s.extract a s.size).size=s.extract (i+1) s.size:=by
  rw [X6 s a (i - a+stroke.size) (by show a+(i - a+1)≤_;omega)]
  congr 1
  show a+(i - a+1)=i+1
  omega
 unfold AZ pieces
 rw [Lib.countB_hit _ _ (i - a) (by decide) hx,Nat.add_comm 1,Lib.splitB_hit _ _ _ _ (i - a) hx,hr,Nat.add_zero,X7 s a i h1 (by omega)]
theorem GZ (s:ByteArray) (hs:s.size≤1073741824):∀(b i a:Nat) (acc:List ByteArray),i+b=s.size→a≤i→acc.length≤i→Lib.NoOccB (s.extract a s.size) stroke (i - a)→
  Ev (fun k=>bC.l0 k s acc (a:Int) (i:Int)) (acc++AZ s a)
 | 0,i,a,acc,hb,ha,hl,hno=>by
   have hi:i=s.size:=by omega
   subst hi
   refine Ev.step (fun k=>by rw [bC.l0]) ?_
   refine bg (by omega) (bg rfl (bg (by omega) (bg (by omega) (bg (by omega) ?_))))
   refine Ev.step (fun k=>by rw [bC.l0]) ?_
   rw [rZ (by omega) (by omega)]
   refine cu (by omega) (dJ ?_)
   rw [X9 s a ha hno]
   rfl
 | b+1,i,a,acc,hb,ha,hl,hno=>by
   refine Ev.step (fun k=>by rw [bC.l0]) ?_
   refine bg (by omega) (cu (by omega) (bg (by omega) (bg (by omega) ?_)))
   rw [BN (i:=i) (n:=s.size) (by omega) (by omega)]
   by_cases q:bt s (i:Int)=47
   ·refine bg q (bg (by omega) (bg (by omega) (bg (by omega) ?_)))
    rw [Ya s a i ha (by omega) hno q]
    refine lN (GZ s hs b (i+1) (i+1) _ (by omega) (Nat.le_refl _) (by simp only [List.length_append,List.length_cons,List.length_nil];omega) (by rw [Nat.sub_self];exact Lib.NoOcc.zero _ _)) ?_
    rw [List.append_assoc]
    rfl
   ·refine cu q (GZ s hs b (i+1) a acc (by omega) (by omega) (by omega) ?_)
    have e:i+1 - a=(i - a)+1:=by omega
    rw [e]
    refine Lib.NoOcc.succ hno ?_
    rw [X8 s a i ha (by omega)]
    exact decide_eq_false q
theorem qc (s:ByteArray) (hs:s.size≤1073741824):Ev (fun k=>bC.f k s) (pieces s stroke):=by
 unfold bC.f
 refine lN (GZ s hs s.size 0 0 [] (by omega) (Nat.le_refl _) (by simp) (Lib.NoOcc.zero _ _)) ?_
 unfold AZ
 rw [List.nil_append]
 congr 1
 refine Go.WideShapes.bytes_inj ?_
 rw [lM,←vK,List.take_length,List.drop_zero]
theorem nI (s:ByteArray) (hs:s.size≤1073741824):dG.f s=some (pieces s stroke):=by
 unfold dG.f strings_Split.f
 rw [if_pos ⟨by omega,rfl⟩]
 rfl
theorem qg (s:ByteArray):(pieces s stroke).length≤s.size+1:=by
 have h:=Lib.splitB_length_le stroke 0 (Lib.countB s stroke) s
 have h2:=Lib.countB_le stroke (by decide) s.size s (Nat.le_refl _)
 unfold pieces
 omega
end Go.Proofs.YtcnfgfomholheaaGreatDoor.Pure
