import Derived.Test.YtcnfgfomholheaaGreatDoorPx0
import Derived.Test.YtcnfgfomholheaaGreatDoorPx3
namespace Go.Proofs.YtcnfgfomholheaaGreatDoor.P
open Go.RowKit Go.Proofs.YtcnfgfomholheaaGreatDoor.X Go.Proofs.YtcnfgfomholheaaGreatDoorW.PrintWords Go.Proofs.YtcnfgfomholheaaGreatDoorW.PrintLast Go.Proofs.YtcnfgfomholheaaGreatDoorW.PrintMore
attribute [local go_sem] mG mJ oQ oU kZ lg mM mO
set_option linter.unusedVariables false
set_option linter.unusedSimpArgs false
mutual
def au.j0:Nat→List Int→Int→Bool→Option (Int × Int × Bool)
 | 0,_,_,_=>none
 | k+1,x0,x1,x20=>if x20=true then (some (0,0,false)) else (if 0≤x1 then (if x1<(x0.length:Int) then (if (wrap64 (rd x0 x1))<128 then (some (wrap64 (rd x0 x1),wrap64 (x1+1),true)) else (if (wrap64 (rd x0 x1))≥192 then (au.j1 k x0 x1 (wrap64 (rd x0 x1)) (decide ((wrap64 (rd x0 x1))<224))) else (au.j1 k x0 x1 (wrap64 (rd x0 x1)) false))) else (none)) else (none))
def au.j3:Nat→List Int→Int→Int→Int→Int→Option (Int × Int × Bool)
 | 0,_,_,_,_,_=>none
 | k+1,x0,x1,x8,x9,x10=>if x1>(wrap64 ((wrap64 ((x0.length:Int) - 1)) - x8)) then (some (0,0,false)) else (au.l0 k x0 x1 x8 x9 x10 1)
def au.l0:Nat→List Int→Int→Int→Int→Int→Int→Option (Int × Int × Bool)
 | 0,_,_,_,_,_,_=>none
 | k+1,x0,x1,x8,x9,x10,x11=>if x11≤x8 then (if 0≤(wrap64 (x1+x11)) then (if (wrap64 (x1+x11))<(x0.length:Int) then (if (wrap64 (rd x0 (wrap64 (x1+x11))))<128 then (some (0,0,false)) else (if (wrap64 (rd x0 (wrap64 (x1+x11))))>191 then (some (0,0,false)) else (au.l0 k x0 x1 x8 x9 (wrap64 ((wrap64 ((wrap64 (x10*64))+(wrap64 (rd x0 (wrap64 (x1+x11)))))) - 128)) (wrap64 (x11+1))))) else (none)) else (none)) else (if x10<x9 then (some (0,0,false)) else (if x10>1114111 then (some (0,0,false)) else ((oO.f x10 55296 57343).bind fun t127=>(if t127=true then (some (0,0,false)) else (some (x10,wrap64 ((wrap64 (x1+1))+x8),true))))))
def au.j1:Nat→List Int→Int→Int→Bool→Option (Int × Int × Bool)
 | 0,_,_,_,_=>none
 | k+1,x0,x1,x7,x31=>if x31=true then (au.j3 k x0 x1 1 128 (Go.bits .and .i64 x7 31)) else (if x7≥224 then (au.j2 k x0 x1 x7 (decide (x7<240))) else (au.j2 k x0 x1 x7 false))
def au.j2:Nat→List Int→Int→Int→Bool→Option (Int × Int × Bool)
 | 0,_,_,_,_=>none
 | k+1,x0,x1,x7,x40=>if x40=true then (au.j3 k x0 x1 2 2048 (Go.bits .and .i64 x7 15)) else (if x7≥240 then (if x7<248 then (au.j3 k x0 x1 3 65536 (Go.bits .and .i64 x7 7)) else (some (0,0,false))) else (some (0,0,false)))
end
def au.f (k:Nat) (l0:List Int) (a1:Int):Option (Int × Int × Bool):=if a1<0 then (au.j0 k l0 a1 true) else (au.j0 k l0 a1 (decide (a1≥(l0.length:Int))))
theorem au.Ec:∀k,(∀y0 y1 y2,dD (au.j0 k y0 y1 y2) (au.j0 (k+1) y0 y1 y2))∧(∀y0 y1 y2 y3 y4,dD (au.j3 k y0 y1 y2 y3 y4) (au.j3 (k+1) y0 y1 y2 y3 y4))∧(∀y0 y1 y2 y3 y4 y5,dD (au.l0 k y0 y1 y2 y3 y4 y5) (au.l0 (k+1) y0 y1 y2 y3 y4 y5))∧(∀y0 y1 y2 y3,dD (au.j1 k y0 y1 y2 y3) (au.j1 (k+1) y0 y1 y2 y3))∧(∀y0 y1 y2 y3,dD (au.j2 k y0 y1 y2 y3) (au.j2 (k+1) y0 y1 y2 y3))
 | 0=>⟨fun _ _ _ r h=>by simp [au.j0] at h,fun _ _ _ _ _ r h=>by simp [au.j3] at h,fun _ _ _ _ _ _ r h=>by simp [au.l0] at h,fun _ _ _ _ r h=>by simp [au.j1] at h,fun _ _ _ _ r h=>by simp [au.j2] at h⟩
 | k+1=>by
   obtain⟨xA,ih1,ih2,ih3,ih4⟩:=au.Ec k
   refine⟨?_,?_,?_,?_,?_⟩
   ·intro y0 y1 y2
    unfold au.j0
    repeat' first
    | (with_reducible exact xA _ _ _)
    | (with_reducible exact ih1 _ _ _ _ _)
    | (with_reducible exact ih2 _ _ _ _ _ _)
    | (with_reducible exact ih3 _ _ _ _)
    | (with_reducible exact ih4 _ _ _ _)
    | (with_reducible exact dD.refl _)
    | (with_reducible exact dD.none _)
    | (with_reducible refine dD.ite ?_ ?_)
    | (with_reducible refine dD.bind ?_ (fun _=>?_))
    | exact xA _ _ _
    | exact ih1 _ _ _ _ _
    | exact ih2 _ _ _ _ _ _
    | exact ih3 _ _ _ _
    | exact ih4 _ _ _ _
    | exact dD.none _
    | refine dD.ite ?_ ?_
    | refine dD.bind ?_ (fun _=>?_)
   ·intro y0 y1 y2 y3 y4
    unfold au.j3
    repeat' first
    | (with_reducible exact xA _ _ _)
    | (with_reducible exact ih1 _ _ _ _ _)
    | (with_reducible exact ih2 _ _ _ _ _ _)
    | (with_reducible exact ih3 _ _ _ _)
    | (with_reducible exact ih4 _ _ _ _)
    | (with_reducible exact dD.refl _)
    | (with_reducible exact dD.none _)
    | (with_reducible refine dD.ite ?_ ?_)
    | (with_reducible refine dD.bind ?_ (fun _=>?_))
    | exact xA _ _ _
    | exact ih1 _ _ _ _ _
    | exact ih2 _ _ _ _ _ _
    | exact ih3 _ _ _ _
    | exact ih4 _ _ _ _
    | exact dD.none _
    | refine dD.ite ?_ ?_
    | refine dD.bind ?_ (fun _=>?_)
   ·intro y0 y1 y2 y3 y4 y5
    unfold au.l0
    repeat' first
    | (with_reducible exact xA _ _ _)
    | (with_reducible exact ih1 _ _ _ _ _)
    | (with_reducible exact ih2 _ _ _ _ _ _)
    | (with_reducible exact ih3 _ _ _ _)
    | (with_reducible exact ih4 _ _ _ _)
    | (with_reducible exact dD.refl _)
    | (with_reducible exact dD.none _)
    | (with_reducible refine dD.ite ?_ ?_)
    | (with_reducible refine dD.bind ?_ (fun _=>?_))
    | exact xA _ _ _
    | exact ih1 _ _ _ _ _
    | exact ih2 _ _ _ _ _ _
    | exact ih3 _ _ _ _
    | exact ih4 _ _ _ _
    | exact dD.none _
    | refine dD.ite ?_ ?_
    | refine dD.bind ?_ (fun _=>?_)
   ·intro y0 y1 y2 y3
    unfold au.j1
    repeat' first
    | (with_reducible exact xA _ _ _)
    | (with_reducible exact ih1 _ _ _ _ _)
    | (with_reducible exact ih2 _ _ _ _ _ _)
    | (with_reducible exact ih3 _ _ _ _)
    | (with_reducible exact ih4 _ _ _ _)
    | (with_reducible exact dD.refl _)
    | (with_reducible exact dD.none _)
    | (with_reducible refine dD.ite ?_ ?_)
    | (with_reducible refine dD.bind ?_ (fun _=>?_))
    | exact xA _ _ _
    | exact ih1 _ _ _ _ _
    | exact ih2 _ _ _ _ _ _
    | exact ih3 _ _ _ _
    | exact ih4 _ _ _ _
    | exact dD.none _
    | refine dD.ite ?_ ?_
    | refine dD.bind ?_ (fun _=>?_)
   ·intro y0 y1 y2 y3
    unfold au.j2
    repeat' first
    | (with_reducible exact xA _ _ _)
    | (with_reducible exact ih1 _ _ _ _ _)
    | (with_reducible exact ih2 _ _ _ _ _ _)
    | (with_reducible exact ih3 _ _ _ _)
    | (with_reducible exact ih4 _ _ _ _)
    | (with_reducible exact dD.refl _)
    | (with_reducible exact dD.none _)
    | (with_reducible refine dD.ite ?_ ?_)
    | (with_reducible refine dD.bind ?_ (fun _=>?_))
    | exact xA _ _ _
    | exact ih1 _ _ _ _ _
    | exact ih2 _ _ _ _ _ _
    | exact ih3 _ _ _ _
    | exact ih4 _ _ _ _
    | exact dD.none _
    | refine dD.ite ?_ ?_
    | refine dD.bind ?_ (fun _=>?_)
theorem au.mono:∀a0 a1 k,dD (au.f k a0 a1) (au.f (k+1) a0 a1):=by
 intro a0 a1 k
 obtain⟨xA,ih1,ih2,ih3,ih4⟩:=au.Ec k
 unfold au.f
 repeat' first
   | (with_reducible exact xA _ _ _)
   | (with_reducible exact ih1 _ _ _ _ _)
   | (with_reducible exact ih2 _ _ _ _ _ _)
   | (with_reducible exact ih3 _ _ _ _)
   | (with_reducible exact ih4 _ _ _ _)
   | (with_reducible exact dD.refl _)
   | (with_reducible exact dD.none _)
   | (with_reducible refine dD.ite ?_ ?_)
   | (with_reducible refine dD.bind ?_ (fun _=>?_))
   | exact xA _ _ _
   | exact ih1 _ _ _ _ _
   | exact ih2 _ _ _ _ _ _
   | exact ih3 _ _ _ _
   | exact ih4 _ _ _ _
   | exact dD.none _
   | refine dD.ite ?_ ?_
   | refine dD.bind ?_ (fun _=>?_)
set_option maxHeartbeats 8000000 in
set_option maxRecDepth 100000 in
theorem au.calls (k:Nat) (A0:Option Addr) (c0:Nat) (l0:List Int) (a1:Int) (r1:Int) (r2:Int) (r3:Bool) (w:World) (hr0:Kd.C (Kd.int .u8) w A0 l0.length l0) (hc0:l0.length≤c0) (h:au.f k l0 a1=some (r1,r2,r3)):
  Calls Tryz.prog 226 #[.slice A0 l0.length c0, .int .i64 a1] w fun e w'=>e= .returned (.tuple #[.int .i64 r1, .int .i64 r2, .bool r3])∧aA w w':=by
 have HR0:=Aside0.mk hr0
 have HC0:=Aside0.mk hc0
 clear hr0 hc0
 have H:(if a1<0 then (au.j0 k l0 a1 true) else (au.j0 k l0 a1 (decide (a1≥(l0.length:Int)))))=some (r1,r2,r3):=h
 clear h
 have Eb:=Aside0.mk H
 clear H
 go_enter Tryz.func226,Tryz.ntmps226
 go_upto_region 1 with (fail)
 go_cut [20] (fun v20 wc=>∃(kq:Nat) (x20_2:Bool),v20= .bool x20_2∧Aside0 (au.j0 kq l0 a1 x20_2=some (r1,r2,r3))∧Aside0 (kq≤k)∧aA w wc)
 case first=>
  have H:=Eb.out
  clear Eb
  by_cases c4:a1<0
  ·rw [if_pos c4] at H
   have jM:decide (a1<0)=true:=decide_eq_true c4
   clear c4
   (first | rw [jM] | (simp only [uT,xK];rw [jM]) | skip)
   have H':=Aside0.mk H
   clear H
   go_wp2
   go_meet
   case rel=>exact⟨_,(true),(by first | rfl | (simp;done) | (simp [*];done)),H',⟨by first | omega | exact Nat.le_refl _⟩,by repeat (first | exact aA.refl _ | apply aA.step)⟩
  ·rw [if_neg c4] at H
   have jM:decide (a1<0)=false:=decide_eq_false c4
   clear c4
   (first | rw [jM] | (simp only [uT,xK];rw [jM]) | skip)
   have H':=Aside0.mk H
   clear H
   go_wp2
   go_meet
   case rel=>exact⟨_,(decide (a1≥(l0.length:Int))),(by first | rfl | (simp;done) | (simp [*];done)),H',⟨by first | omega | exact Nat.le_refl _⟩,by repeat (first | exact aA.refl _ | apply aA.step)⟩
 case rest=>
  clear Eb
  try clear c2
  try clear p2
  try clear c4
  try clear jM
  obtain⟨kq,x20_2,rfl,HA,HJ2,⟨mc2,rfl⟩⟩:=hcut
  cases kq with
  | zero=>exact absurd HA.out (by simp [au.j0])
  | succ rX=>
    have H:=HA.out
    clear HA
    simp only [au.j0] at H
    by_cases c5:x20_2=true
    ·subst c5
     have H1:(some (0,0,false))=some (r1,r2,r3):=by rw [if_pos rfl] at H;exact H
     clear H
     have H:=H1
     clear H1
     simp only [Option.some.injEq,Prod.mk.injEq] at H
     obtain⟨rfl,rfl,rfl⟩:=H
     go_wp2
     go_ret3
     exact⟨by first | rfl | (simp;done) | (simp [*];done),by repeat (first | exact aA.refl _ | apply aA.step)⟩
    ·replace c5:=Bool.eq_false_iff.mpr c5
     subst c5
     have H1:(if 0≤a1 then (if a1<(l0.length:Int) then (if (wrap64 (rd l0 a1))<128 then (some (wrap64 (rd l0 a1),wrap64 (a1+1),true)) else (if (wrap64 (rd l0 a1))≥192 then (au.j1 rX l0 a1 (wrap64 (rd l0 a1)) (decide ((wrap64 (rd l0 a1))<224))) else (au.j1 rX l0 a1 (wrap64 (rd l0 a1)) false))) else (none)) else (none))=some (r1,r2,r3):=by rw [if_neg (show ¬(false=true) by decide)] at H;exact H
     clear H
     have H:=H1
     clear H1
     by_cases c6:0≤a1
     ·rw [if_pos c6] at H
      have sW:decide (0≤a1)=true:=decide_eq_true c6
      clear c6
      by_cases c7:a1<(l0.length:Int)
      ·rw [if_pos c7] at H
       have sV:decide (a1<(l0.length:Int))=true:=decide_eq_true c7
       clear c7
       by_cases c8:(wrap64 (rd l0 a1))<128
       ·rw [if_pos c8] at H
        have Ba:decide ((wrap64 (rd l0 a1))<128)=true:=decide_eq_true c8
        clear c8
        simp only [Option.some.injEq,Prod.mk.injEq] at H
        obtain⟨rfl,rfl,rfl⟩:=H
        have xB:0≤(a1:Int):=of_decide_eq_true (by first | (with_reducible assumption) | assumption)
        have xC:a1<(l0.length:Int):=of_decide_eq_true (by first | (with_reducible assumption) | assumption)
        obtain⟨NS,e125,zH⟩:=Kd.BZ HR0.out a1 xB xC
        cases e125
        replace xB:=eq_true xB
        replace xC:=eq_true xC
        go_wp2
        go_ret3
        exact⟨by first | rfl | (simp;done) | (simp [*];done),by repeat (first | exact aA.refl _ | apply aA.step)⟩
       ·rw [if_neg c8] at H
        have Ba:decide ((wrap64 (rd l0 a1))<128)=false:=decide_eq_false c8
        clear c8
        have HC9:=Aside0.mk H
        clear H
        have xB:0≤(a1:Int):=of_decide_eq_true (by first | (with_reducible assumption) | assumption)
        have xC:a1<(l0.length:Int):=of_decide_eq_true (by first | (with_reducible assumption) | assumption)
        obtain⟨NS,e125,zH⟩:=Kd.BZ HR0.out a1 xB xC
        cases e125
        replace xB:=eq_true xB
        replace xC:=eq_true xC
        go_upto_block 0 with (fail)
        go_cut [8,9,10] (fun v8 v9 v10 wc=>∃(kq:Nat) (x8_8:Int) (x9_8:Int) (x10_8:Int),v8= .int .i64 x8_8∧v9= .int .i64 x9_8∧v10= .int .i64 x10_8∧Aside0 (au.j3 kq l0 a1 x8_8 x9_8 x10_8=some (r1,r2,r3))∧Aside0 (kq≤rX)∧aA w wc)
        case first=>
         have H:=HC9.out
         clear HC9
         have ZE:=Aside0.mk H
         clear H
         go_upto_region 10 with (fail)
         go_cut [31] (fun v31 wc=>∃(kq:Nat) (x31_9:Bool),v31= .bool x31_9∧Aside0 (au.j1 kq l0 a1 (wrap64 (rd l0 a1)) x31_9=some (r1,r2,r3))∧Aside0 (kq≤rX)∧aA w wc)
         case first=>
          have H:=ZE.out
          clear ZE
          by_cases c11:(wrap64 (rd l0 a1))≥192
          ·rw [if_pos c11] at H
           have nZ:decide (192≤(wrap64 (rd l0 a1)))=true:=decide_eq_true c11
           clear c11
           (first | rw [nZ] | (simp only [uT,xK];rw [nZ]) | skip)
           have H':=Aside0.mk H
           clear H
           go_wp2
           go_meet
           case rel=>exact⟨_,(decide ((wrap64 (rd l0 a1))<224)),(by first | rfl | (simp;done) | (simp [*];done)),H',⟨by have:=HJ2.out;first | omega | exact Nat.le_refl _⟩,by repeat (first | exact aA.refl _ | apply aA.step)⟩
          ·rw [if_neg c11] at H
           have nZ:decide (192≤(wrap64 (rd l0 a1)))=false:=decide_eq_false c11
           clear c11
           (first | rw [nZ] | (simp only [uT,xK];rw [nZ]) | skip)
           have H':=Aside0.mk H
           clear H
           go_wp2
           go_meet
           case rel=>exact⟨_,(false),(by first | rfl | (simp;done) | (simp [*];done)),H',⟨by have:=HJ2.out;first | omega | exact Nat.le_refl _⟩,by repeat (first | exact aA.refl _ | apply aA.step)⟩
         case rest=>
          clear ZE
          try clear c1
          try clear p1
          try clear q1
          try clear hx1
          try clear c2
          try clear p2
          try clear c4
          try clear jM
          try clear c5
          try clear c6
          try clear sW
          try clear p6
          try clear c7
          try clear sV
          try clear c8
          try clear Ba
          try clear c11
          try clear nZ
          try clear zH
          try clear xB
          try clear p2
          try clear xC
          obtain⟨kq,x31_9,rfl,HA,Yh,⟨mc9,rfl⟩⟩:=hcut
          cases kq with
          | zero=>exact absurd HA.out (by simp [au.j1])
          | succ kj9=>
            have H:=HA.out
            clear HA
            simp only [au.j1] at H
            by_cases c12:x31_9=true
            ·subst c12
             have H1:(au.j3 kj9 l0 a1 1 128 (Go.bits .and .i64 (wrap64 (rd l0 a1)) 31))=some (r1,r2,r3):=by rw [if_pos rfl] at H;exact H
             clear H
             have H:=H1
             clear H1
             have H':=Aside0.mk H
             clear H
             go_wp2
             go_meet
             case rel=>exact⟨_,(1),(128),(Go.bits .and .i64 (wrap64 (rd l0 a1)) 31),(by first | rfl | (simp;done) | (simp [*];done)),(by first | rfl | (simp;done) | (simp [*];done)),(by first | rfl | (simp;done) | (simp [*];done)),H',⟨by have:=HJ2.out;have:=Yh.out;first | omega | exact Nat.le_refl _⟩,by repeat (first | exact aA.refl _ | apply aA.step)⟩
            ·replace c12:=Bool.eq_false_iff.mpr c12
             subst c12
             have H1:(if (wrap64 (rd l0 a1))≥224 then (au.j2 kj9 l0 a1 (wrap64 (rd l0 a1)) (decide ((wrap64 (rd l0 a1))<240))) else (au.j2 kj9 l0 a1 (wrap64 (rd l0 a1)) false))=some (r1,r2,r3):=by rw [if_neg (show ¬(false=true) by decide)] at H;exact H
             clear H
             have H:=H1
             clear H1
             have ZF:=Aside0.mk H
             clear H
             go_upto_region 12 with (fail)
             go_cut [40] (fun v40 wc=>∃(kq:Nat) (x40_12:Bool),v40= .bool x40_12∧Aside0 (au.j2 kq l0 a1 (wrap64 (rd l0 a1)) x40_12=some (r1,r2,r3))∧Aside0 (kq≤kj9)∧aA w wc)
             case first=>
              have H:=ZF.out
              clear ZF
              by_cases c14:(wrap64 (rd l0 a1))≥224
              ·rw [if_pos c14] at H
               have o8:decide (224≤(wrap64 (rd l0 a1)))=true:=decide_eq_true c14
               clear c14
               (first | rw [o8] | (simp only [uT,xK];rw [o8]) | skip)
               have H':=Aside0.mk H
               clear H
               go_wp2
               go_meet
               case rel=>exact⟨_,(decide ((wrap64 (rd l0 a1))<240)),(by first | rfl | (simp;done) | (simp [*];done)),H',⟨by have:=HJ2.out;have:=Yh.out;first | omega | exact Nat.le_refl _⟩,by repeat (first | exact aA.refl _ | apply aA.step)⟩
              ·rw [if_neg c14] at H
               have o8:decide (224≤(wrap64 (rd l0 a1)))=false:=decide_eq_false c14
               clear c14
               (first | rw [o8] | (simp only [uT,xK];rw [o8]) | skip)
               have H':=Aside0.mk H
               clear H
               go_wp2
               go_meet
               case rel=>exact⟨_,(false),(by first | rfl | (simp;done) | (simp [*];done)),H',⟨by have:=HJ2.out;have:=Yh.out;first | omega | exact Nat.le_refl _⟩,by repeat (first | exact aA.refl _ | apply aA.step)⟩
             case rest=>
              clear ZF
              try clear c1
              try clear p1
              try clear q1
              try clear hx1
              try clear c2
              try clear p2
              try clear c4
              try clear jM
              try clear c5
              try clear c6
              try clear sW
              try clear p6
              try clear c7
              try clear sV
              try clear c8
              try clear Ba
              try clear c9
              try clear c11
              try clear nZ
              try clear c12
              try clear p12
              try clear q12
              try clear acX
              try clear c14
              try clear o8
              try clear zH
              try clear p1
              try clear xB
              try clear p2
              try clear p6
              try clear q1
              try clear xC
              obtain⟨kq,x40_12,rfl,HA,acY,⟨afV,rfl⟩⟩:=hcut
              cases kq with
              | zero=>exact absurd HA.out (by simp [au.j2])
              | succ acZ=>
                have H:=HA.out
                clear HA
                simp only [au.j2] at H
                by_cases c15:x40_12=true
                ·subst c15
                 have H1:(au.j3 acZ l0 a1 2 2048 (Go.bits .and .i64 (wrap64 (rd l0 a1)) 15))=some (r1,r2,r3):=by rw [if_pos rfl] at H;exact H
                 clear H
                 have H:=H1
                 clear H1
                 have H':=Aside0.mk H
                 clear H
                 go_wp2
                 go_meet
                 case rel=>exact⟨_,(2),(2048),(Go.bits .and .i64 (wrap64 (rd l0 a1)) 15),(by first | rfl | (simp;done) | (simp [*];done)),(by first | rfl | (simp;done) | (simp [*];done)),(by first | rfl | (simp;done) | (simp [*];done)),H',⟨by have:=HJ2.out;have:=Yh.out;have:=acY.out;first | omega | exact Nat.le_refl _⟩,by repeat (first | exact aA.refl _ | apply aA.step)⟩
                ·replace c15:=Bool.eq_false_iff.mpr c15
                 subst c15
                 have H1:(if (wrap64 (rd l0 a1))≥240 then (if (wrap64 (rd l0 a1))<248 then (au.j3 acZ l0 a1 3 65536 (Go.bits .and .i64 (wrap64 (rd l0 a1)) 7)) else (some (0,0,false))) else (some (0,0,false)))=some (r1,r2,r3):=by rw [if_neg (show ¬(false=true) by decide)] at H;exact H
                 clear H
                 have H:=H1
                 clear H1
                 by_cases c16:(wrap64 (rd l0 a1))≥240
                 ·rw [if_pos c16] at H
                  have NQ:decide (240≤(wrap64 (rd l0 a1)))=true:=decide_eq_true c16
                  clear c16
                  by_cases c17:(wrap64 (rd l0 a1))<248
                  ·rw [if_pos c17] at H
                   have NR:decide ((wrap64 (rd l0 a1))<248)=true:=decide_eq_true c17
                   clear c17
                   have H':=Aside0.mk H
                   clear H
                   go_wp2
                   go_meet
                   case rel=>exact⟨_,(3),(65536),(Go.bits .and .i64 (wrap64 (rd l0 a1)) 7),(by first | rfl | (simp;done) | (simp [*];done)),(by first | rfl | (simp;done) | (simp [*];done)),(by first | rfl | (simp;done) | (simp [*];done)),H',⟨by have:=HJ2.out;have:=Yh.out;have:=acY.out;first | omega | exact Nat.le_refl _⟩,by repeat (first | exact aA.refl _ | apply aA.step)⟩
                  ·rw [if_neg c17] at H
                   have NR:decide ((wrap64 (rd l0 a1))<248)=false:=decide_eq_false c17
                   clear c17
                   simp only [Option.some.injEq,Prod.mk.injEq] at H
                   obtain⟨rfl,rfl,rfl⟩:=H
                   go_wp2
                   go_ret3
                   exact⟨by first | rfl | (simp;done) | (simp [*];done),by repeat (first | exact aA.refl _ | apply aA.step)⟩
                 ·rw [if_neg c16] at H
                  have NQ:decide (240≤(wrap64 (rd l0 a1)))=false:=decide_eq_false c16
                  clear c16
                  simp only [Option.some.injEq,Prod.mk.injEq] at H
                  obtain⟨rfl,rfl,rfl⟩:=H
                  go_wp2
                  go_ret3
                  exact⟨by first | rfl | (simp;done) | (simp [*];done),by repeat (first | exact aA.refl _ | apply aA.step)⟩
        case rest=>
         clear HC9
         try clear c1
         try clear p1
         try clear q1
         try clear hx1
         try clear c2
         try clear p2
         try clear c4
         try clear jM
         try clear c5
         try clear c6
         try clear sW
         try clear p6
         try clear c7
         try clear sV
         try clear c8
         try clear Ba
         try clear c9
         try clear c11
         try clear nZ
         try clear c12
         try clear p12
         try clear q12
         try clear acX
         try clear c14
         try clear o8
         try clear c15
         try clear c16
         try clear NQ
         try clear c17
         try clear NR
         try clear zH
         try clear p1
         try clear p12
         try clear xB
         try clear p2
         try clear p6
         try clear q1
         try clear q12
         try clear xC
         obtain⟨kq,x8_8,x9_8,x10_8,rfl,rfl,rfl,HA,HJ8,⟨mc8,rfl⟩⟩:=hcut
         cases kq with
         | zero=>exact absurd HA.out (by simp [au.j3])
         | succ kj8=>
           have H:=HA.out
           clear HA
           simp only [au.j3] at H
           by_cases c18:a1>(wrap64 ((wrap64 ((l0.length:Int) - 1)) - x8_8))
           ·rw [if_pos c18] at H
            have aan:decide ((wrap64 ((wrap64 ((l0.length:Int) - 1)) - x8_8))<a1)=true:=decide_eq_true c18
            clear c18
            simp only [Option.some.injEq,Prod.mk.injEq] at H
            obtain⟨rfl,rfl,rfl⟩:=H
            go_wp2
            go_ret3
            exact⟨by first | rfl | (simp;done) | (simp [*];done),by repeat (first | exact aA.refl _ | apply aA.step)⟩
           ·rw [if_neg c18] at H
            have aan:decide ((wrap64 ((wrap64 ((l0.length:Int) - 1)) - x8_8))<a1)=false:=decide_eq_false c18
            clear c18
            have H':=Aside0.mk H
            clear H
            go_wp2
            go_loopg [10,11] kj8 (fun kq v10 v11 w'=>∃(x10_3:Int) (x11_3:Int),v10= .int .i64 x10_3∧v11= .int .i64 x11_3∧Aside0 (au.l0 kq l0 a1 x8_8 x9_8 x10_3 x11_3=some (r1,r2,r3))∧Aside0 (kq≤kj8)∧aA w w')
            case atStart=>exact⟨(x10_8),(1),(by first | rfl | (simp;done) | (simp [*];done)),(by first | rfl | (simp;done) | (simp [*];done)),H',⟨Nat.le_refl _⟩,by repeat (first | exact aA.refl _ | apply aA.step)⟩
            case round=>
             clear H'
             try clear c1
             try clear p1
             try clear q1
             try clear hx1
             try clear c2
             try clear p2
             try clear c4
             try clear jM
             try clear c5
             try clear c6
             try clear sW
             try clear p6
             try clear c7
             try clear sV
             try clear c8
             try clear Ba
             try clear c9
             try clear c11
             try clear nZ
             try clear c12
             try clear p12
             try clear q12
             try clear acX
             try clear c14
             try clear o8
             try clear c15
             try clear c16
             try clear NQ
             try clear c17
             try clear NR
             try clear c18
             try clear aan
             try clear zH
             try clear p1
             try clear p12
             try clear xB
             try clear p2
             try clear p6
             try clear q1
             try clear q12
             try clear xC
             obtain⟨x10_3,x11_3,rfl,rfl,HA,HK3,⟨m3,rfl⟩⟩:=hrel
             cases gk with
             | zero=>exact absurd HA.out (by simp [au.l0])
             | succ k3=>
               have H:=HA.out
               clear HA
               simp only [au.l0] at H
               by_cases c19:x11_3≤x8_8
               ·rw [if_pos c19] at H
                have adV:decide (x11_3≤x8_8)=true:=decide_eq_true c19
                clear c19
                obtain⟨jU,EY⟩:∃j_:Int,(wrap64 (a1+x11_3))=j_:=⟨_,rfl⟩
                replace H:(if 0≤(jU) then (if (jU)<(l0.length:Int) then (if (wrap64 (rd l0 (jU)))<128 then (some (0,0,false)) else (if (wrap64 (rd l0 (jU)))>191 then (some (0,0,false)) else (au.l0 k3 l0 a1 x8_8 x9_8 (wrap64 ((wrap64 ((wrap64 (x10_3*64))+(wrap64 (rd l0 (jU))))) - 128)) (wrap64 (x11_3+1))))) else (none)) else (none))=some (r1,r2,r3):=by first | (rw [EY] at H;exact H) | (simp only [EY] at H⊢;exact H)
                have afk:(IntKind.i64.wrap (a1+x11_3))=jU:=(uT _).trans EY
                by_cases c21:0≤(jU)
                ·rw [if_pos c21] at H
                 have aam:decide (0≤(jU))=true:=decide_eq_true c21
                 clear c21
                 by_cases c22:(jU)<(l0.length:Int)
                 ·rw [if_pos c22] at H
                  have afq:decide ((jU)<(l0.length:Int))=true:=decide_eq_true c22
                  clear c22
                  by_cases c23:(wrap64 (rd l0 (jU)))<128
                  ·rw [if_pos c23] at H
                   have adW:decide ((wrap64 (rd l0 (jU)))<128)=true:=decide_eq_true c23
                   clear c23
                   simp only [Option.some.injEq,Prod.mk.injEq] at H
                   obtain⟨rfl,rfl,rfl⟩:=H
                   have xE:0≤((jU):Int):=of_decide_eq_true (by first | (with_reducible assumption) | assumption)
                   have xG:(jU)<(l0.length:Int):=of_decide_eq_true (by first | (with_reducible assumption) | assumption)
                   obtain⟨JH,e126,Tn⟩:=Kd.BZ HR0.out (jU) xE xG
                   obtain rfl:NS=JH:=(by injection e126)
                   replace xE:=eq_true xE
                   replace xG:=eq_true xG
                   go_wp2
                   go_ret3
                   exact⟨by first | rfl | (simp;done) | (simp only [←EY]<;>(first | rfl | simp)) | (simp [*];done),by repeat (first | exact aA.refl _ | apply aA.step)⟩
                  ·rw [if_neg c23] at H
                   have adW:decide ((wrap64 (rd l0 (jU)))<128)=false:=decide_eq_false c23
                   clear c23
                   by_cases c24:(wrap64 (rd l0 (jU)))>191
                   ·rw [if_pos c24] at H
                    have adX:decide (191<(wrap64 (rd l0 (jU))))=true:=decide_eq_true c24
                    clear c24
                    simp only [Option.some.injEq,Prod.mk.injEq] at H
                    obtain⟨rfl,rfl,rfl⟩:=H
                    have xE:0≤((jU):Int):=of_decide_eq_true (by first | (with_reducible assumption) | assumption)
                    have xG:(jU)<(l0.length:Int):=of_decide_eq_true (by first | (with_reducible assumption) | assumption)
                    obtain⟨JH,e126,Tn⟩:=Kd.BZ HR0.out (jU) xE xG
                    obtain rfl:NS=JH:=(by injection e126)
                    replace xE:=eq_true xE
                    replace xG:=eq_true xG
                    go_wp2
                    go_ret3
                    exact⟨by first | rfl | (simp;done) | (simp only [←EY]<;>(first | rfl | simp)) | (simp [*];done),by repeat (first | exact aA.refl _ | apply aA.step)⟩
                   ·rw [if_neg c24] at H
                    have adX:decide (191<(wrap64 (rd l0 (jU))))=false:=decide_eq_false c24
                    clear c24
                    have H':=Aside0.mk H
                    clear H
                    have xE:0≤((jU):Int):=of_decide_eq_true (by first | (with_reducible assumption) | assumption)
                    have xG:(jU)<(l0.length:Int):=of_decide_eq_true (by first | (with_reducible assumption) | assumption)
                    obtain⟨JH,e126,Tn⟩:=Kd.BZ HR0.out (jU) xE xG
                    obtain rfl:NS=JH:=(by injection e126)
                    replace xE:=eq_true xE
                    replace xG:=eq_true xG
                    go_wp2
                    go_roundg k3
                    case measure=>have:=HJ2.out;have:=HJ8.out;have:=HK3.out;omega
                    case rel=>exact⟨(wrap64 ((wrap64 ((wrap64 (x10_3*64))+(wrap64 (rd l0 (jU))))) - 128)),(wrap64 (x11_3+1)),(by first | rfl | (simp;done) | (simp only [←EY]<;>(first | rfl | simp)) | (simp [*];done)),(by first | rfl | (simp;done) | (simp [*];done)),H',⟨by have:=HJ2.out;have:=HJ8.out;have:=HK3.out;omega⟩,by repeat (first | exact aA.refl _ | apply aA.step)⟩
                 ·rw [if_neg c22] at H
                  exact absurd H (by simp)
                ·rw [if_neg c21] at H
                 exact absurd H (by simp)
               ·rw [if_neg c19] at H
                have adV:decide (x11_3≤x8_8)=false:=decide_eq_false c19
                clear c19
                by_cases c25:x10_3<x9_8
                ·rw [if_pos c25] at H
                 have adY:decide (x10_3<x9_8)=true:=decide_eq_true c25
                 clear c25
                 simp only [Option.some.injEq,Prod.mk.injEq] at H
                 obtain⟨rfl,rfl,rfl⟩:=H
                 go_wp2
                 go_ret3
                 exact⟨by first | rfl | (simp;done) | (simp [*];done),by repeat (first | exact aA.refl _ | apply aA.step)⟩
                ·rw [if_neg c25] at H
                 have adY:decide (x10_3<x9_8)=false:=decide_eq_false c25
                 clear c25
                 by_cases Tq:x10_3>1114111
                 ·rw [if_pos Tq] at H
                  have adZ:decide (1114111<x10_3)=true:=decide_eq_true Tq
                  clear Tq
                  simp only [Option.some.injEq,Prod.mk.injEq] at H
                  obtain⟨rfl,rfl,rfl⟩:=H
                  go_wp2
                  go_ret3
                  exact⟨by first | rfl | (simp;done) | (simp [*];done),by repeat (first | exact aA.refl _ | apply aA.step)⟩
                 ·rw [if_neg Tq] at H
                  have adZ:decide (1114111<x10_3)=false:=decide_eq_false Tq
                  clear Tq
                  replace H:=Option.bind_eq_some_iff.mp H
                  obtain⟨t127,ac0,H⟩:=H
                  replace H:(if t127=true then (some (0,0,false)) else (some (x10_3,wrap64 ((wrap64 (a1+1))+x8_8),true)))=some (r1,r2,r3):=H
                  have A27:=Aside0.mk ac0
                  clear ac0
                  by_cases c28:t127=true
                  ·subst c28
                   have H1:(some (0,0,false))=some (r1,r2,r3):=by rw [if_pos rfl] at H;exact H
                   clear H
                   have H:=H1
                   clear H1
                   simp only [Option.some.injEq,Prod.mk.injEq] at H
                   obtain⟨rfl,rfl,rfl⟩:=H
                   go_wp2_with (first | (go_at_call 159;(with_reducible refine(oO.calls x10_3 55296 57343 true _ A27.out).mono ?_);rintro e w' ⟨rfl,⟨nd,rfl⟩⟩))
                   go_ret3
                   exact⟨by first | rfl | (simp;done) | (simp [*];done),by repeat (first | exact aA.refl _ | apply aA.step)⟩
                  ·replace c28:=Bool.eq_false_iff.mpr c28
                   subst c28
                   have H1:(some (x10_3,wrap64 ((wrap64 (a1+1))+x8_8),true))=some (r1,r2,r3):=by rw [if_neg (show ¬(false=true) by decide)] at H;exact H
                   clear H
                   have H:=H1
                   clear H1
                   simp only [Option.some.injEq,Prod.mk.injEq] at H
                   obtain⟨rfl,rfl,rfl⟩:=H
                   go_wp2_with (first | (go_at_call 159;(with_reducible refine(oO.calls x10_3 55296 57343 false _ A27.out).mono ?_);rintro e w' ⟨rfl,⟨nd,rfl⟩⟩))
                   go_ret3
                   exact⟨by first | rfl | (simp;done) | (simp [*];done),by repeat (first | exact aA.refl _ | apply aA.step)⟩
      ·rw [if_neg c7] at H
       exact absurd H (by simp)
     ·rw [if_neg c6] at H
      exact absurd H (by simp)
end Go.Proofs.YtcnfgfomholheaaGreatDoor.P
