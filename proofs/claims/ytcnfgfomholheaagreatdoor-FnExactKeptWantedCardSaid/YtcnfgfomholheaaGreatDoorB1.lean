/- The signs of bytes: what spec.RuneAt and impl.RuneAt, spec.CountRunes, TextOk of the program and of the reference come to, all in the words of the model's own decoder. No program in sight. -/
import Derived.Test.YtcnfgfomholheaaGreatDoorK
import Derived.Test.YtcnfgfomholheaaGreatDoorA4
import Derived.Test.YtcnfgfomholheaaGreatDoorK
import Derived.Test.YtcnfgfomholheaaGreatDoorPx0
import Derived.Test.YtcnfgfomholheaaGreatDoorPx4
import Derived.Lib.DecodeN
import Derived.Lib.TrimUEq
import Derived.Lib.ValidLaws
import Derived.Lib.RuneCount
import Derived.Lib.FieldsU
import Derived.Laws.BytesArg
namespace Go.Proofs.YtcnfgfomholheaaGreatDoor.Pure
open Go.RowKit Go.Proofs.YtcnfgfomholheaaGreatDoor.X Go.Proofs.YtcnfgfomholheaaGreatDoor.P Go.Proofs.YtcnfgfomholheaaGreatDoorW.PrintWords Go.Proofs.YtcnfgfomholheaaGreatDoorW.PrintLast Go.Proofs.YtcnfgfomholheaaGreatDoor.K
set_option linter.unusedVariables false
set_option linter.unusedSimpArgs false
theorem Yk {x:Int} (h0:0≤x) (h1:x<9223372036854775808):Go.bits .and .i64 x 31=x % 32:=
 bits_mask .i64 63 (by decide) BO 5 (by decide) x h0 h1
theorem Yl {x:Int} (h0:0≤x) (h1:x<9223372036854775808):Go.bits .and .i64 x 15=x % 16:=
 bits_mask .i64 63 (by decide) BO 4 (by decide) x h0 h1
theorem ZI {x:Int} (h0:0≤x) (h1:x<9223372036854775808):Go.bits .and .i64 x 7=x % 8:=
 bits_mask .i64 63 (by decide) BO 3 (by decide) x h0 h1
def dec (l:List Int) (a:Nat):Nat × Nat:=Lib.decodeN (l.length - a) (l.getD a 0).toNat (l.getD (a+1) 0).toNat (l.getD (a+2) 0).toNat (l.getD (a+3) 0).toNat
def Lp (l:List Int) (a:Int):Int × Int × Bool:=
 if 0≤a∧a<l.length then (if (dec l a.toNat).1=65533∧(dec l a.toNat).2=1 then (0,0,false) else (((dec l a.toNat).1:Int),a+((dec l a.toNat).2:Int),true)) else (0,0,false)
theorem Bq (l:List Int) (a x8 x9 v i:Int) (r:Int × Int × Bool) (h:x8<i) (ha: -1≤a) (ha1:a≤35184372088832) (h8:0≤x8) (h81:x8≤3)
  (hr:r=if v<x9∨1114111<v∨(55296≤v∧v≤57343) then (0,0,false) else (v,a+1+x8,true)):Ev (fun k=>au.l0 k l a x8 x9 v i) r:=by
 refine Ev.step (fun k=>by rw [au.l0]) ?_
 refine cu (by omega) ?_
 by_cases h1:v<x9
 ·rw [if_pos (.inl h1)] at hr
  exact bg h1 (dJ hr.symm)
 refine cu h1 ?_
 by_cases h2:v>1114111
 ·rw [if_pos (.inr (.inl h2))] at hr
  exact bg h2 (dJ hr.symm)
 refine cu h2 (wo (abm v 55296 57343) ?_)
 by_cases h3:55296≤v∧v≤57343
 ·rw [if_pos (.inr (.inr h3))] at hr
  exact bg (by simpa using h3) (dJ hr.symm)
 ·rw [if_neg (by omega)] at hr
  refine cu (by simpa using h3) (dJ ?_)
  rw [hr,rZ (x:=a+1) (by omega) (by omega),rZ (by omega) (by omega)]
theorem nP (l:List Int) (a x8 x9 v i:Int) (r:Int × Int × Bool) (hb:Bytes l) (h:i≤x8) (ha:0≤a) (h0:1≤i) (h8:x8≤3) (hlt:a+i<l.length) (hl:l.length≤35184372088832) (hv:0≤v) (hv1:v≤1073741824)
  (hbad:rd l (a+i) / 64≠2→r=(0,0,false)) (hok:rd l (a+i) / 64=2→Ev (fun k=>au.l0 k l a x8 x9 (v*64+rd l (a+i) % 64) (i+1)) r):Ev (fun k=>au.l0 k l a x8 x9 v i) r:=by
 have hy:=NU hb (a+i)
 refine Ev.step (fun k=>by rw [au.l0]) ?_
 rw [rZ (x:=a+i) (by omega) (by omega),rZ (x:=rd l (a+i)) (by omega) (by omega)]
 refine bg h (bg (by omega) (bg hlt ?_))
 by_cases h1:rd l (a+i)<128
 ·exact bg h1 (dJ (hbad (by omega)).symm)
 refine cu h1 ?_
 by_cases h2:rd l (a+i)>191
 ·exact bg h2 (dJ (hbad (by omega)).symm)
 refine cu h2 ?_
 rw [rZ (x:=v*64) (by omega) (by omega),rZ (x:=v*64+rd l (a+i)) (by omega) (by omega),rZ (x:=v*64+rd l (a+i) - 128) (by omega) (by omega),rZ (x:=i+1) (by omega) (by omega)]
 have e:v*64+rd l (a+i) - 128=v*64+rd l (a+i) % 64:=by omega
 rw [e]
 exact hok (by omega)
theorem JI {l:List Int} (hb:Bytes l) (a:Int) (ha:0≤a) (j:Nat):rd l (a+(j:Int))=((l.getD (a.toNat+j) 0).toNat:Int)∧(l.getD (a.toNat+j) 0).toNat≤255:=by
 have h:=NU hb (a+(j:Int))
 have e:(a+(j:Int)).toNat=a.toNat+j:=by omega
 unfold rd at h⊢
 rw [e] at h⊢
 omega
set_option maxHeartbeats 1000000 in
theorem Nq (l:List Int) (a:Int) (hb:Bytes l) (hl:l.length≤35184372088832):Ev (fun k=>au.f k l a) (Lp l a):=by
 unfold au.f Lp
 by_cases h0:a<0
 ·rw [if_neg (by omega)]
  refine bg h0 (Ev.step (fun k=>by rw [au.j0]) (bg rfl (Ev.now _)))
 refine cu h0 (Ev.step (fun k=>by rw [au.j0]) ?_)
 by_cases h1:a≥(l.length:Int)
 ·rw [if_neg (by omega)]
  exact bg (by simpa using h1) (Ev.now _)
 rw [if_pos (by omega)]
 have d0:=JI hb a (by omega) 0
 have d1:=JI hb a (by omega) 1
 have d2:=JI hb a (by omega) 2
 have d3:=JI hb a (by omega) 3
 unfold dec
 simp only [Nat.add_zero,Int.natCast_zero,Int.add_zero] at d0
 generalize hg0:(l.getD a.toNat 0).toNat=b0 at d0⊢
 generalize hg1:(l.getD (a.toNat+1) 0).toNat=b1 at d1⊢
 generalize hg2:(l.getD (a.toNat+2) 0).toNat=b2 at d2⊢
 generalize hg3:(l.getD (a.toNat+3) 0).toNat=b3 at d3⊢
 clear hg0 hg1 hg2 hg3
 generalize hn:l.length - a.toNat=n
 have e0:wrap64 (rd l a)=rd l a:=rZ (by omega) (by omega)
 rw [e0,d0.1]
 refine cu (by simp;omega) (bg (by omega) (bg (by omega) ?_))
 by_cases c0:b0<128
 ·refine bg (by omega) (dJ ?_)
  rw [rZ (x:=a+1) (by omega) (by omega)]
  unfold Lib.decodeN
  rw [if_pos c0]
  rw [if_neg (by simp only;omega)]
  rfl
 refine cu (by omega) ?_
 obtain⟨R,hR⟩:∃R:Int × Int × Bool,R=if (Lib.decodeN n b0 b1 b2 b3).1=65533∧(Lib.decodeN n b0 b1 b2 b3).2=1 then (0,0,false) else (((Lib.decodeN n b0 b1 b2 b3).1:Int),a+((Lib.decodeN n b0 b1 b2 b3).2:Int),true):=⟨_,rfl⟩
 rw [←hR]
 have bad:Lib.decodeN n b0 b1 b2 b3=(65533,1)→R=(0,0,false):=fun h=>by rw [hR,h];rfl
 have good:∀c k,k≠1→Lib.decodeN n b0 b1 b2 b3=(c,k)→R=((c:Int),a+(k:Int),true):=fun c k hk h=>by
  rw [hR,h,if_neg (fun q=>hk q.2)]
 clear hR
 have hc0:b0≤255:=by omega
 have nA:∀h:b0<192∨248≤b0,Lib.decodeN n b0 b1 b2 b3=(65533,1):=fun h=>by
  unfold Lib.decodeN
  rw [if_neg (by omega),if_neg (by omega),if_neg (by omega),if_neg (by omega)]
 by_cases c1:b0<192
 ·refine cu (by omega) (Ev.step (fun k=>by rw [au.j1]) (cu (by simp) (cu (by omega) ?_)))
  exact Ev.step (fun k=>by rw [au.j2]) (cu (by simp) (cu (by omega) (dJ (bad (nA (.inl c1))).symm)))
 refine bg (by omega) (Ev.step (fun k=>by rw [au.j1]) ?_)
 have el:wrap64 ((l.length:Int) - 1)=(l.length:Int) - 1:=rZ (by omega) (by omega)
 by_cases c2:b0<224
 ·refine bg (by simp;omega) (Ev.step (fun k=>by rw [au.j3]) ?_)
  rw [el,rZ (x:=(l.length:Int) - 1 - 1) (by omega) (by omega),Yk (by omega) (by omega)]
  by_cases n1:1<n
  ·refine cu (by omega) (nP l a 1 128 _ 1 R hb (by omega) (by omega) (by omega) (by omega) (by omega) hl (by omega) (by omega) (fun h=>bad ?_) (fun h=>?_))
   ·have:=d1.1
    simp only [Int.natCast_one] at this
    unfold Lib.decodeN
    rw [if_neg (by omega),if_neg (by omega),if_neg (by omega),if_neg (by omega)]
   ·have h1:=d1.1
    simp only [Int.natCast_one] at h1
    rw [h1]
    rw [h1] at h
    refine Bq l a 1 128 _ _ R (by omega) (by omega) (by omega) (by omega) (by omega) ?_
    by_cases q:b0 % 32*64+b1 % 64≥128
    ·rw [if_neg (by omega),good (b0 % 32*64+b1 % 64) 2 (by omega) (by unfold Lib.decodeN;rw [if_neg (by omega),if_pos (by omega),if_pos q])]
     simp only [Prod.mk.injEq,and_true]
     omega
    ·rw [if_pos (by omega),bad (by unfold Lib.decodeN;rw [if_neg (by omega),if_pos (by omega),if_neg q])]
  ·refine bg (by omega) (dJ (bad ?_).symm)
   unfold Lib.decodeN
   rw [if_neg (by omega),if_neg (by omega),if_neg (by omega),if_neg (by omega)]
 refine cu (by simp;omega) (bg (by omega) (Ev.step (fun k=>by rw [au.j2]) ?_))
 by_cases c3:b0<240
 ·refine bg (by simp;omega) (Ev.step (fun k=>by rw [au.j3]) ?_)
  rw [el,rZ (x:=(l.length:Int) - 1 - 2) (by omega) (by omega),Yl (by omega) (by omega)]
  by_cases n2:2<n
  ·refine cu (by omega) (nP l a 2 2048 _ 1 R hb (by omega) (by omega) (by omega) (by omega) (by omega) hl (by omega) (by omega) (fun h=>bad ?_) (fun h=>?_))
   ·have:=d1.1
    simp only [Int.natCast_one] at this
    unfold Lib.decodeN
    rw [if_neg (by omega),if_neg (by omega),if_neg (by omega),if_neg (by omega)]
   ·have h1:=d1.1
    simp only [Int.natCast_one] at h1
    rw [h1]
    rw [h1] at h
    have h2:=d2.1
    have e2:((2:Nat):Int)=1+1:=rfl
    rw [e2] at h2
    refine nP l a 2 2048 _ (1+1) R hb (by omega) (by omega) (by omega) (by omega) (by omega) hl (by omega) (by omega) (fun g=>bad ?_) (fun g=>?_)
    ·unfold Lib.decodeN
     rw [if_neg (by omega),if_neg (by omega),if_neg (by omega),if_neg (by omega)]
    ·rw [h2]
     rw [h2] at g
     refine Bq l a 2 2048 _ _ R (by omega) (by omega) (by omega) (by omega) (by omega) ?_
     have ec:((b0:Int) % 16*64+(b1:Int) % 64)*64+(b2:Int) % 64=((b0 % 16*4096+b1 % 64*64+b2 % 64:Nat):Int):=by omega
     rw [ec]
     generalize hc:b0 % 16*4096+b1 % 64*64+b2 % 64=c
     by_cases q:c≥2048∧(c<55296∨(57344≤c∧c≤1114111))
     ·rw [if_neg (by omega),good c 3 (by omega) (by unfold Lib.decodeN;rw [if_neg (by omega),if_neg (by omega),if_pos (by omega),hc,if_pos q])]
      simp only [Prod.mk.injEq,and_true,true_and]
      omega
     ·rw [if_pos (by omega),bad (by unfold Lib.decodeN;rw [if_neg (by omega),if_neg (by omega),if_pos (by omega),hc,if_neg q])]
  ·refine bg (by omega) (dJ (bad ?_).symm)
   unfold Lib.decodeN
   rw [if_neg (by omega),if_neg (by omega),if_neg (by omega),if_neg (by omega)]
 refine cu (by simp;omega) (bg (by omega) ?_)
 by_cases c4:b0<248
 ·refine bg (by omega) (Ev.step (fun k=>by rw [au.j3]) ?_)
  rw [el,rZ (x:=(l.length:Int) - 1 - 3) (by omega) (by omega),ZI (by omega) (by omega)]
  by_cases n3:3<n
  ·refine cu (by omega) (nP l a 3 65536 _ 1 R hb (by omega) (by omega) (by omega) (by omega) (by omega) hl (by omega) (by omega) (fun h=>bad ?_) (fun h=>?_))
   ·have:=d1.1
    simp only [Int.natCast_one] at this
    unfold Lib.decodeN
    rw [if_neg (by omega),if_neg (by omega),if_neg (by omega),if_neg (by omega)]
   ·have h1:=d1.1
    simp only [Int.natCast_one] at h1
    rw [h1]
    rw [h1] at h
    have h2:=d2.1
    have e2:((2:Nat):Int)=1+1:=rfl
    rw [e2] at h2
    refine nP l a 3 65536 _ (1+1) R hb (by omega) (by omega) (by omega) (by omega) (by omega) hl (by omega) (by omega) (fun g=>bad ?_) (fun g=>?_)
    ·unfold Lib.decodeN
     rw [if_neg (by omega),if_neg (by omega),if_neg (by omega),if_neg (by omega)]
    ·rw [h2]
     rw [h2] at g
     have h3:=d3.1
     have e3:((3:Nat):Int)=1+1+1:=rfl
     rw [e3] at h3
     refine nP l a 3 65536 _ (1+1+1) R hb (by omega) (by omega) (by omega) (by omega) (by omega) hl (by omega) (by omega) (fun f=>bad ?_) (fun f=>?_)
     ·unfold Lib.decodeN
      rw [if_neg (by omega),if_neg (by omega),if_neg (by omega),if_neg (by omega)]
     ·rw [h3]
      rw [h3] at f
      refine Bq l a 3 65536 _ _ R (by omega) (by omega) (by omega) (by omega) (by omega) ?_
      have ec:(((b0:Int) % 8*64+(b1:Int) % 64)*64+(b2:Int) % 64)*64+(b3:Int) % 64=((b0 % 8*262144+b1 % 64*4096+b2 % 64*64+b3 % 64:Nat):Int):=by omega
      rw [ec]
      generalize hc:b0 % 8*262144+b1 % 64*4096+b2 % 64*64+b3 % 64=c
      by_cases q:c≥65536∧(c<55296∨(57344≤c∧c≤1114111))
      ·rw [if_neg (by omega),good c 4 (by omega) (by unfold Lib.decodeN;rw [if_neg (by omega),if_neg (by omega),if_neg (by omega),if_pos (by omega),hc,if_pos q])]
       simp only [Prod.mk.injEq,and_true,true_and]
       omega
      ·rw [if_pos (by omega),bad (by unfold Lib.decodeN;rw [if_neg (by omega),if_neg (by omega),if_neg (by omega),if_pos (by omega),hc,if_neg q])]
  ·refine bg (by omega) (dJ (bad ?_).symm)
   unfold Lib.decodeN
   rw [if_neg (by omega),if_neg (by omega),if_neg (by omega),if_neg (by omega)]
 ·exact cu (by omega) (dJ (bad (nA (.inr (by omega)))).symm)
theorem abl (l:List Int) (a:Nat):1≤(dec l a).2:=Lib.decodeN_ge1 _ _ _ _ _
theorem Yj (l:List Int) (a:Nat) (h:a<l.length):(dec l a).2≤l.length - a:=Lib.decodeN_le_n' _ _ _ _ _ (by omega)
end Go.Proofs.YtcnfgfomholheaaGreatDoor.Pure
