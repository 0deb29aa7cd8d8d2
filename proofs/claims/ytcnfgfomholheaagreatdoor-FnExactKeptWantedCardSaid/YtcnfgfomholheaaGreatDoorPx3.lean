import Derived.Test.YtcnfgfomholheaaGreatDoorPx0
namespace Go.Proofs.YtcnfgfomholheaaGreatDoor.P
open Go.RowKit Go.Proofs.YtcnfgfomholheaaGreatDoor.X Go.Proofs.YtcnfgfomholheaaGreatDoorW.PrintWords Go.Proofs.YtcnfgfomholheaaGreatDoorW.PrintLast Go.Proofs.YtcnfgfomholheaaGreatDoorW.PrintMore
attribute [local go_sem] mG mJ oQ oU kZ lg mM mO
set_option linter.unusedVariables false
set_option linter.unusedSimpArgs false
def aN.l0:Nat→ByteArray→Int→Int→Option (Bool)
 | 0,_,_,_=>none
 | k+1,x0,x1,x5=>if x5<(x0.size:Int) then (if 0≤x5 then (if (bt x0 x5)=x1 then (some true) else (aN.l0 k x0 x1 (wrap64 (x5+1)))) else (none)) else (some false)
def aN.f (k:Nat) (a0:ByteArray) (a1:Int):Option (Bool):=aN.l0 k a0 a1 0
set_option maxHeartbeats 8000000 in
set_option maxRecDepth 100000 in
theorem aN.calls (k:Nat) (a0:ByteArray) (a1:Int) (r:Bool) (w:World) (h:aN.f k a0 a1=some r):
  Calls Tryz.prog 176 #[.string a0, .int .u8 a1] w fun e w'=>e= .returned (.bool r)∧aA w w':=by
 have H:(aN.l0 k a0 a1 0)=some r:=h
 clear h
 have H':=Aside0.mk H
 clear H
 go_enter Tryz.func176,Tryz.ntmps176
 go_wp2
 go_loopg [5] k (fun kq v5 w'=>∃(x5_1:Int),v5= .int .i64 x5_1∧Aside0 (aN.l0 kq a0 a1 x5_1=some r)∧Aside0 (kq≤k)∧aA w w')
 case atStart=>exact⟨(0),(by first | rfl | (simp;done) | (simp [*];done)),H',⟨Nat.le_refl _⟩,by repeat (first | exact aA.refl _ | apply aA.step)⟩
 case round=>
  clear H'
  try clear c1
  try clear p2
  obtain⟨x5_1,rfl,HA,jZ,⟨m1,rfl⟩⟩:=hrel
  cases gk with
  | zero=>exact absurd HA.out (by simp [aN.l0])
  | succ k1=>
    have H:=HA.out
    clear HA
    simp only [aN.l0] at H
    by_cases c3:x5_1<(a0.size:Int)
    ·rw [if_pos c3] at H
     have yM:decide (x5_1<(a0.size:Int))=true:=decide_eq_true c3
     clear c3
     by_cases c4:0≤x5_1
     ·rw [if_pos c4] at H
      have jM:decide (0≤x5_1)=true:=decide_eq_true c4
      clear c4
      by_cases c6:(bt a0 x5_1)=a1
      ·rw [if_pos c6] at H
       have sW:((bt a0 x5_1)==a1)=true:=beq_iff_eq.mpr c6
       have Ql:((bt a0 x5_1) !=a1)=false:=bne_eq_false_iff_eq.mpr c6
       clear c6
       obtain rfl:=Option.some.inj H
       have p5:0≤(x5_1:Int):=of_decide_eq_true (by first | (with_reducible assumption) | assumption)
       have q5:x5_1<(a0.size:Int):=of_decide_eq_true (by first | (with_reducible assumption) | assumption)
       have hx5:=pV a0 x5_1
       replace p5:=eq_true p5
       replace q5:=eq_true q5
       go_wp2
       go_ret
       exact⟨by first | rfl | (simp;done) | (simp [*];done),by repeat (first | exact aA.refl _ | apply aA.step)⟩
      ·rw [if_neg c6] at H
       have sW:((bt a0 x5_1)==a1)=false:=beq_eq_false_iff_ne.mpr c6
       have Ql:((bt a0 x5_1) !=a1)=true:=bne_iff_ne.mpr c6
       have H':=Aside0.mk H
       clear H
       have p5:0≤(x5_1:Int):=of_decide_eq_true (by first | (with_reducible assumption) | assumption)
       have q5:x5_1<(a0.size:Int):=of_decide_eq_true (by first | (with_reducible assumption) | assumption)
       have hx5:=pV a0 x5_1
       replace p5:=eq_true p5
       replace q5:=eq_true q5
       go_wp2
       go_roundg k1
       case measure=>have:=jZ.out;omega
       case rel=>exact⟨(wrap64 (x5_1+1)),(by first | rfl | (simp;done) | (simp [*];done)),H',⟨by have:=jZ.out;omega⟩,by repeat (first | exact aA.refl _ | apply aA.step)⟩
     ·rw [if_neg c4] at H
      exact absurd H (by simp)
    ·rw [if_neg c3] at H
     have yM:decide (x5_1<(a0.size:Int))=false:=decide_eq_false c3
     clear c3
     obtain rfl:=Option.some.inj H
     go_wp2
     go_ret
     exact⟨by first | rfl | (simp;done) | (simp [*];done),by repeat (first | exact aA.refl _ | apply aA.step)⟩
def oO.f (a0:Int) (a1:Int) (a2:Int):Option (Bool):=if a0≥a1 then (some (decide (a0≤a2))) else (some false)
set_option maxHeartbeats 8000000 in
set_option maxRecDepth 100000 in
theorem oO.calls (a0:Int) (a1:Int) (a2:Int) (r:Bool) (w:World) (h:oO.f a0 a1 a2=some r):
  Calls Tryz.prog 159 #[.int .i64 a0, .int .i64 a1, .int .i64 a2] w fun e w'=>e= .returned (.bool r)∧aA w w':=by
 have H:(if a0≥a1 then (some (decide (a0≤a2))) else (some false))=some r:=h
 clear h
 by_cases c4:a0≥a1
 ·rw [if_pos c4] at H
  have jM:decide (a1≤a0)=true:=decide_eq_true c4
  clear c4
  obtain rfl:=Option.some.inj H
  go_enter Tryz.func159,Tryz.ntmps159
  go_wp2
  go_ret
  exact⟨by first | rfl | (simp;done) | (simp [*];done),by repeat (first | exact aA.refl _ | apply aA.step)⟩
 ·rw [if_neg c4] at H
  have jM:decide (a1≤a0)=false:=decide_eq_false c4
  clear c4
  obtain rfl:=Option.some.inj H
  go_enter Tryz.func159,Tryz.ntmps159
  go_wp2
  go_ret
  exact⟨by first | rfl | (simp;done) | (simp [*];done),by repeat (first | exact aA.refl _ | apply aA.step)⟩
end Go.Proofs.YtcnfgfomholheaaGreatDoor.P
