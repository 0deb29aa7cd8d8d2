-- Printed by a program over the kit's print.py (mp.sh), several laws in one namespace.
import Derived.Test.YtggokdobijhdhaaDoorPx0
import Derived.Test.YtggokdobijhdhaaDoorS
import Derived.Test.YtggokdobijhdhaaDoorPx3
namespace Go.Proofs.YtggokdobijhdhaaDoor.P
open Go.RowKit Go.Proofs.YtggokdobijhdhaaDoor.X Go.Proofs.YtggokdobijhdhaaDoorW.PrintWords Go.Proofs.YtggokdobijhdhaaDoorW.PrintLast Go.Proofs.YtggokdobijhdhaaDoorW.PrintMore
attribute [local go_sem] max2_int min2_int max_two min_two max_three min_three max_four min_four   -- for this text's walks alone
set_option maxHeartbeats 8000000
set_option maxRecDepth 100000
set_option linter.unusedVariables false
set_option linter.unusedSimpArgs false

mutual
def spec_RuneAt.j0 : Nat → List Int → Int → Bool → Option (Int × Int × Bool)
 | 0, _, _, _ => none
 | k + 1, x0, x1, x20 => if x20 = true then (some (0, 0, false)) else (if 0 ≤ x1 then (if x1 < (x0.length : Int) then (if (wrap64 (rd x0 x1)) < 128 then (some (wrap64 (rd x0 x1), wrap64 (x1 + 1), true)) else (if (wrap64 (rd x0 x1)) ≥ 192 then (spec_RuneAt.j1 k x0 x1 (wrap64 (rd x0 x1)) (decide ((wrap64 (rd x0 x1)) < 224))) else (spec_RuneAt.j1 k x0 x1 (wrap64 (rd x0 x1)) false))) else (none)) else (none))
def spec_RuneAt.j3 : Nat → List Int → Int → Int → Int → Int → Option (Int × Int × Bool)
 | 0, _, _, _, _, _ => none
 | k + 1, x0, x1, x8, x9, x10 => if x1 > (wrap64 ((wrap64 ((x0.length : Int) - 1)) - x8)) then (some (0, 0, false)) else (spec_RuneAt.l0 k x0 x1 x8 x9 x10 1)
def spec_RuneAt.l0 : Nat → List Int → Int → Int → Int → Int → Int → Option (Int × Int × Bool)
 | 0, _, _, _, _, _, _ => none
 | k + 1, x0, x1, x8, x9, x10, x11 => if x11 ≤ x8 then (if 0 ≤ (wrap64 (x1 + x11)) then (if (wrap64 (x1 + x11)) < (x0.length : Int) then (if (wrap64 (rd x0 (wrap64 (x1 + x11)))) < 128 then (some (0, 0, false)) else (if (wrap64 (rd x0 (wrap64 (x1 + x11)))) > 191 then (some (0, 0, false)) else (spec_RuneAt.l0 k x0 x1 x8 x9 (wrap64 ((wrap64 ((wrap64 (x10 * 64)) + (wrap64 (rd x0 (wrap64 (x1 + x11)))))) - 128)) (wrap64 (x11 + 1))))) else (none)) else (none)) else (if x10 < x9 then (some (0, 0, false)) else (if x10 > 1114111 then (some (0, 0, false)) else ((spec_l1In.f x10 55296 57343).bind fun t114 => (if t114 = true then (some (0, 0, false)) else (some (x10, wrap64 ((wrap64 (x1 + 1)) + x8), true))))))
def spec_RuneAt.j1 : Nat → List Int → Int → Int → Bool → Option (Int × Int × Bool)
 | 0, _, _, _, _ => none
 | k + 1, x0, x1, x7, x31 => if x31 = true then (spec_RuneAt.j3 k x0 x1 1 128 (Go.bits .and .i64 x7 31)) else (if x7 ≥ 224 then (spec_RuneAt.j2 k x0 x1 x7 (decide (x7 < 240))) else (spec_RuneAt.j2 k x0 x1 x7 false))
def spec_RuneAt.j2 : Nat → List Int → Int → Int → Bool → Option (Int × Int × Bool)
 | 0, _, _, _, _ => none
 | k + 1, x0, x1, x7, x40 => if x40 = true then (spec_RuneAt.j3 k x0 x1 2 2048 (Go.bits .and .i64 x7 15)) else (if x7 ≥ 240 then (if x7 < 248 then (spec_RuneAt.j3 k x0 x1 3 65536 (Go.bits .and .i64 x7 7)) else (some (0, 0, false))) else (some (0, 0, false)))
end
def spec_RuneAt.f (k : Nat) (l0 : List Int) (a1 : Int) : Option (Int × Int × Bool) := if a1 < 0 then (spec_RuneAt.j0 k l0 a1 true) else (spec_RuneAt.j0 k l0 a1 (decide (a1 ≥ (l0.length : Int))))
theorem spec_RuneAt_zm {p : Prop} (h : p := by
   repeat' first
   | (with_reducible exact ih0 _ _ _)
   | (with_reducible exact ih1 _ _ _ _ _)
   | (with_reducible exact ih2 _ _ _ _ _ _)
   | (with_reducible exact ih3 _ _ _ _)
   | (with_reducible exact ih4 _ _ _ _)
   | (with_reducible exact LeO.refl _)
   | (with_reducible exact LeO.none _)
   | (with_reducible refine LeO.ite ?_ ?_)
   | (with_reducible refine LeO.bind ?_ (fun _ => ?_))
   | exact ih0 _ _ _
   | exact ih1 _ _ _ _ _
   | exact ih2 _ _ _ _ _ _
   | exact ih3 _ _ _ _
   | exact ih4 _ _ _ _
   | exact LeO.none _
   | refine LeO.ite ?_ ?_
   | refine LeO.bind ?_ (fun _ => ?_)
   ) : p := h
theorem spec_RuneAt.mono_l : ∀ k, (∀ y0 y1 y2, LeO (spec_RuneAt.j0 k y0 y1 y2) (spec_RuneAt.j0 (k + 1) y0 y1 y2)) ∧ (∀ y0 y1 y2 y3 y4, LeO (spec_RuneAt.j3 k y0 y1 y2 y3 y4) (spec_RuneAt.j3 (k + 1) y0 y1 y2 y3 y4)) ∧ (∀ y0 y1 y2 y3 y4 y5, LeO (spec_RuneAt.l0 k y0 y1 y2 y3 y4 y5) (spec_RuneAt.l0 (k + 1) y0 y1 y2 y3 y4 y5)) ∧ (∀ y0 y1 y2 y3, LeO (spec_RuneAt.j1 k y0 y1 y2 y3) (spec_RuneAt.j1 (k + 1) y0 y1 y2 y3)) ∧ (∀ y0 y1 y2 y3, LeO (spec_RuneAt.j2 k y0 y1 y2 y3) (spec_RuneAt.j2 (k + 1) y0 y1 y2 y3))
 | 0 => ⟨fun _ _ _ r h => by simp [spec_RuneAt.j0] at h, fun _ _ _ _ _ r h => by simp [spec_RuneAt.j3] at h, fun _ _ _ _ _ _ r h => by simp [spec_RuneAt.l0] at h, fun _ _ _ _ r h => by simp [spec_RuneAt.j1] at h, fun _ _ _ _ r h => by simp [spec_RuneAt.j2] at h⟩
 | k + 1 => by
  obtain ⟨ih0, ih1, ih2, ih3, ih4⟩ := spec_RuneAt.mono_l k
  refine ⟨?_, ?_, ?_, ?_, ?_⟩
  ·intro y0 y1 y2
   unfold spec_RuneAt.j0
   exact spec_RuneAt_zm
  ·intro y0 y1 y2 y3 y4
   unfold spec_RuneAt.j3
   exact spec_RuneAt_zm
  ·intro y0 y1 y2 y3 y4 y5
   unfold spec_RuneAt.l0
   exact spec_RuneAt_zm
  ·intro y0 y1 y2 y3
   unfold spec_RuneAt.j1
   exact spec_RuneAt_zm
  ·intro y0 y1 y2 y3
   unfold spec_RuneAt.j2
   exact spec_RuneAt_zm
theorem spec_RuneAt.mono : ∀ a0 a1 k, LeO (spec_RuneAt.f k a0 a1) (spec_RuneAt.f (k + 1) a0 a1) := by
 intro a0 a1 k
 obtain ⟨ih0, ih1, ih2, ih3, ih4⟩ := spec_RuneAt.mono_l k
 unfold spec_RuneAt.f
 repeat' first
   | (with_reducible exact ih0 _ _ _)
   | (with_reducible exact ih1 _ _ _ _ _)
   | (with_reducible exact ih2 _ _ _ _ _ _)
   | (with_reducible exact ih3 _ _ _ _)
   | (with_reducible exact ih4 _ _ _ _)
   | (with_reducible exact LeO.refl _)
   | (with_reducible exact LeO.none _)
   | (with_reducible refine LeO.ite ?_ ?_)
   | (with_reducible refine LeO.bind ?_ (fun _ => ?_))
   | exact ih0 _ _ _
   | exact ih1 _ _ _ _ _
   | exact ih2 _ _ _ _ _ _
   | exact ih3 _ _ _ _
   | exact ih4 _ _ _ _
   | exact LeO.none _
   | refine LeO.ite ?_ ?_
   | refine LeO.bind ?_ (fun _ => ?_)
theorem spec_RuneAt_z4 {p : Prop} (h : p := by
 obtain ⟨adz2, ez2, hxz2⟩ := Kd.at_int HRz1.out (jiz1) pz2 qz2
 obtain rfl : adz1 = adz2 := (by injection ez2)
 replace pz2 := eq_true pz2
 replace qz2 := eq_true qz2
 go_wp2
 go_ret3
 exact ⟨by first | rfl | (simp; done) | (simp only [← hjiz1] <;> (first | rfl | simp)) | (simp [*]; done), dr_⟩) : p := h
theorem spec_RuneAt_z3 {p : Prop} (h : p := by
 have qz2 : (jiz1) < (l0.length : Int) := dt_
 exact spec_RuneAt_z4) : p := h
theorem spec_RuneAt_z2 {p : Prop} (h : p := by
 have pz2 : 0 ≤ ((jiz1) : Int) := dt_
 exact spec_RuneAt_z3) : p := h
theorem spec_RuneAt_z1 {p : Prop} (h : p := by
 obtain ⟨rfl, rfl, rfl⟩ := H
 exact spec_RuneAt_z2) : p := h
theorem spec_RuneAt_z0 {p : Prop} (h : p := by
 simp only [Option.some.injEq, Prod.mk.injEq] at H
 exact spec_RuneAt_z1) : p := h
theorem spec_RuneAt.calls (k : Nat) (A0 : Option Addr) (c0 : Nat) (l0 : List Int) (a1 : Int) (r1 : Int) (r2 : Int) (r3 : Bool) (w : World) (hr0 : Kd.C (Kd.int .u8) w A0 l0.length l0) (hc0 : l0.length ≤ c0) (h : spec_RuneAt.f k l0 a1 = some (r1, r2, r3)) :
  Calls Tryd.prog 93 #[.slice A0 l0.length c0, .int .i64 a1] w fun e w' => e = .returned (.tuple #[.int .i64 r1, .int .i64 r2, .bool r3]) ∧ Drawn0 w w' := by
 have HRz1 := Aside0.mk hr0
 have HCz1 := Aside0.mk hc0
 clear hr0 hc0
 have H : (if a1 < 0 then (spec_RuneAt.j0 k l0 a1 true) else (spec_RuneAt.j0 k l0 a1 (decide (a1 ≥ (l0.length : Int))))) = some (r1, r2, r3) := h
 clear h
 have HCz2 := Aside0.mk H
 clear H
 go_enter Tryd.func93, Tryd.ntmps93
 go_upto_region 1 with (fail)
 go_cut [20] (fun v20 wc => ∃ (kq : Nat) (x20_2 : Bool), v20 = .bool x20_2 ∧ Aside0 (spec_RuneAt.j0 kq l0 a1 x20_2 = some (r1, r2, r3)) ∧ Aside0 (kq ≤ k) ∧ Drawn0 w wc)
 case first =>
  have H := HCz2.out
  clear HCz2
  by_cases cz1 : a1 < 0
  ·rw [if_pos cz1] at H
   have cz2 : decide (a1 < 0) = true := decide_eq_true cz1
   clear cz1
   (first | rw [cz2] | (simp only [i64_w, i32_w]; rw [cz2]) | skip)
   have H' := Aside0.mk H
   clear H
   go_wp2
   go_meet
   case rel => exact ⟨_, (true), rs_, H', ⟨by first | omega | exact Nat.le_refl _⟩, dr_⟩
  rw [if_neg cz1] at H
  have cz2 : decide (a1 < 0) = false := decide_eq_false cz1
  clear cz1
  (first | rw [cz2] | (simp only [i64_w, i32_w]; rw [cz2]) | skip)
  have H' := Aside0.mk H
  clear H
  go_wp2
  go_meet
  case rel => exact ⟨_, (decide (a1 ≥ (l0.length : Int))), rs_, H', ⟨by first | omega | exact Nat.le_refl _⟩, dr_⟩
 case rest =>
  clear HCz2
  obtain ⟨kq, xz1, rfl, HA, HJz1, ⟨mcz1, rfl⟩⟩ := hcut
  cases kq with
  | zero => exact absurd HA.out (by simp [spec_RuneAt.j0])
  | succ kjz1 =>
   have H := HA.out
   clear HA
   simp only [spec_RuneAt.j0] at H
   by_cases cz1 : xz1 = true
   ·subst cz1
    replace H := bt_ H
    simp only [Option.some.injEq, Prod.mk.injEq] at H
    obtain ⟨rfl, rfl, rfl⟩ := H
    go_wp2
    go_ret3
    exact ⟨rs_, dr_⟩
   replace cz1 := Bool.eq_false_iff.mpr cz1
   subst cz1
   replace H := bf_ H
   by_cases cz2 : 0 ≤ a1
   rotate_left
   ·rw [if_neg cz2] at H
    exact absurd H (by simp)
   rw [if_pos cz2] at H
   have cz3 : decide (0 ≤ a1) = true := decide_eq_true cz2
   clear cz2
   by_cases cz4 : a1 < (l0.length : Int)
   rotate_left
   ·rw [if_neg cz4] at H
    exact absurd H (by simp)
   rw [if_pos cz4] at H
   have cz5 : decide (a1 < (l0.length : Int)) = true := decide_eq_true cz4
   clear cz4
   by_cases cz6 : (wrap64 (rd l0 a1)) < 128
   ·rw [if_pos cz6] at H
    have cz7 : decide ((wrap64 (rd l0 a1)) < 128) = true := decide_eq_true cz6
    clear cz6
    simp only [Option.some.injEq, Prod.mk.injEq] at H
    obtain ⟨rfl, rfl, rfl⟩ := H
    have pz1 : 0 ≤ (a1 : Int) := dt_
    have qz1 : a1 < (l0.length : Int) := dt_
    obtain ⟨adz1, ez1, hxz1⟩ := Kd.at_int HRz1.out a1 pz1 qz1
    cases ez1
    replace pz1 := eq_true pz1
    replace qz1 := eq_true qz1
    go_wp2
    go_ret3
    exact ⟨rs_, dr_⟩
   rw [if_neg cz6] at H
   have cz7 : decide ((wrap64 (rd l0 a1)) < 128) = false := decide_eq_false cz6
   clear cz6
   have HCz3 := Aside0.mk H
   clear H
   have pz1 : 0 ≤ (a1 : Int) := dt_
   have qz1 : a1 < (l0.length : Int) := dt_
   obtain ⟨adz1, ez1, hxz1⟩ := Kd.at_int HRz1.out a1 pz1 qz1
   cases ez1
   replace pz1 := eq_true pz1
   replace qz1 := eq_true qz1
   go_upto_block 0 with (fail)
   go_cut [8, 9, 10] (fun v8 v9 v10 wc => ∃ (kq : Nat) (x8_8 : Int) (x9_8 : Int) (x10_8 : Int), v8 = .int .i64 x8_8 ∧ v9 = .int .i64 x9_8 ∧ v10 = .int .i64 x10_8 ∧ Aside0 (spec_RuneAt.j3 kq l0 a1 x8_8 x9_8 x10_8 = some (r1, r2, r3)) ∧ Aside0 (kq ≤ kjz1) ∧ Drawn0 w wc)
   case first =>
    have H := HCz3.out
    clear HCz3
    have HCz4 := Aside0.mk H
    clear H
    go_upto_region 10 with (fail)
    go_cut [31] (fun v31 wc => ∃ (kq : Nat) (x31_9 : Bool), v31 = .bool x31_9 ∧ Aside0 (spec_RuneAt.j1 kq l0 a1 (wrap64 (rd l0 a1)) x31_9 = some (r1, r2, r3)) ∧ Aside0 (kq ≤ kjz1) ∧ Drawn0 w wc)
    case first =>
     have H := HCz4.out
     clear HCz4
     by_cases cz8 : (wrap64 (rd l0 a1)) ≥ 192
     rotate_left
     ·rw [if_neg cz8] at H
      have cz9 : decide (192 ≤ (wrap64 (rd l0 a1))) = false := decide_eq_false cz8
      clear cz8
      (first | rw [cz9] | (simp only [i64_w, i32_w]; rw [cz9]) | skip)
      have H' := Aside0.mk H
      clear H
      go_wp2
      go_meet
      case rel => exact ⟨_, (false), rs_, H', ⟨by have := HJz1.out; first | omega | exact Nat.le_refl _⟩, dr_⟩
     rw [if_pos cz8] at H
     have cz9 : decide (192 ≤ (wrap64 (rd l0 a1))) = true := decide_eq_true cz8
     clear cz8
     (first | rw [cz9] | (simp only [i64_w, i32_w]; rw [cz9]) | skip)
     have H' := Aside0.mk H
     clear H
     go_wp2
     go_meet
     case rel => exact ⟨_, (decide ((wrap64 (rd l0 a1)) < 224)), rs_, H', ⟨by have := HJz1.out; first | omega | exact Nat.le_refl _⟩, dr_⟩
    case rest =>
     clear HCz4
     obtain ⟨kq, xz2, rfl, HA, HJz2, ⟨mcz2, rfl⟩⟩ := hcut
     cases kq with
     | zero => exact absurd HA.out (by simp [spec_RuneAt.j1])
     | succ kjz2 =>
      have H := HA.out
      clear HA
      simp only [spec_RuneAt.j1] at H
      by_cases cz8 : xz2 = true
      ·subst cz8
       replace H := bt_ H
       have H' := Aside0.mk H
       clear H
       go_wp2
       go_meet
       case rel => exact ⟨_, (1), (128), (Go.bits .and .i64 (wrap64 (rd l0 a1)) 31), rs_, rs_, rs_, H', ⟨by have := HJz1.out; have := HJz2.out; first | omega | exact Nat.le_refl _⟩, dr_⟩
      replace cz8 := Bool.eq_false_iff.mpr cz8
      subst cz8
      replace H := bf_ H
      have HCz5 := Aside0.mk H
      clear H
      go_upto_region 12 with (fail)
      go_cut [40] (fun v40 wc => ∃ (kq : Nat) (x40_12 : Bool), v40 = .bool x40_12 ∧ Aside0 (spec_RuneAt.j2 kq l0 a1 (wrap64 (rd l0 a1)) x40_12 = some (r1, r2, r3)) ∧ Aside0 (kq ≤ kjz2) ∧ Drawn0 w wc)
      case first =>
       have H := HCz5.out
       clear HCz5
       by_cases cz9 : (wrap64 (rd l0 a1)) ≥ 224
       rotate_left
       ·rw [if_neg cz9] at H
        have cz10 : decide (224 ≤ (wrap64 (rd l0 a1))) = false := decide_eq_false cz9
        clear cz9
        (first | rw [cz10] | (simp only [i64_w, i32_w]; rw [cz10]) | skip)
        have H' := Aside0.mk H
        clear H
        go_wp2
        go_meet
        case rel => exact ⟨_, (false), rs_, H', ⟨by have := HJz1.out; have := HJz2.out; first | omega | exact Nat.le_refl _⟩, dr_⟩
       rw [if_pos cz9] at H
       have cz10 : decide (224 ≤ (wrap64 (rd l0 a1))) = true := decide_eq_true cz9
       clear cz9
       (first | rw [cz10] | (simp only [i64_w, i32_w]; rw [cz10]) | skip)
       have H' := Aside0.mk H
       clear H
       go_wp2
       go_meet
       case rel => exact ⟨_, (decide ((wrap64 (rd l0 a1)) < 240)), rs_, H', ⟨by have := HJz1.out; have := HJz2.out; first | omega | exact Nat.le_refl _⟩, dr_⟩
      case rest =>
       clear HCz5
       obtain ⟨kq, xz3, rfl, HA, HJz3, ⟨mcz3, rfl⟩⟩ := hcut
       cases kq with
       | zero => exact absurd HA.out (by simp [spec_RuneAt.j2])
       | succ kjz3 =>
        have H := HA.out
        clear HA
        simp only [spec_RuneAt.j2] at H
        by_cases cz9 : xz3 = true
        ·subst cz9
         replace H := bt_ H
         have H' := Aside0.mk H
         clear H
         go_wp2
         go_meet
         case rel => exact ⟨_, (2), (2048), (Go.bits .and .i64 (wrap64 (rd l0 a1)) 15), rs_, rs_, rs_, H', ⟨by have := HJz1.out; have := HJz2.out; have := HJz3.out; first | omega | exact Nat.le_refl _⟩, dr_⟩
        replace cz9 := Bool.eq_false_iff.mpr cz9
        subst cz9
        replace H := bf_ H
        by_cases cz10 : (wrap64 (rd l0 a1)) ≥ 240
        rotate_left
        ·rw [if_neg cz10] at H
         have cz11 : decide (240 ≤ (wrap64 (rd l0 a1))) = false := decide_eq_false cz10
         clear cz10
         simp only [Option.some.injEq, Prod.mk.injEq] at H
         obtain ⟨rfl, rfl, rfl⟩ := H
         go_wp2
         go_ret3
         exact ⟨rs_, dr_⟩
        rw [if_pos cz10] at H
        have cz11 : decide (240 ≤ (wrap64 (rd l0 a1))) = true := decide_eq_true cz10
        clear cz10
        by_cases cz12 : (wrap64 (rd l0 a1)) < 248
        rotate_left
        ·rw [if_neg cz12] at H
         have cz13 : decide ((wrap64 (rd l0 a1)) < 248) = false := decide_eq_false cz12
         clear cz12
         simp only [Option.some.injEq, Prod.mk.injEq] at H
         obtain ⟨rfl, rfl, rfl⟩ := H
         go_wp2
         go_ret3
         exact ⟨rs_, dr_⟩
        rw [if_pos cz12] at H
        have cz13 : decide ((wrap64 (rd l0 a1)) < 248) = true := decide_eq_true cz12
        clear cz12
        have H' := Aside0.mk H
        clear H
        go_wp2
        go_meet
        case rel => exact ⟨_, (3), (65536), (Go.bits .and .i64 (wrap64 (rd l0 a1)) 7), rs_, rs_, rs_, H', ⟨by have := HJz1.out; have := HJz2.out; have := HJz3.out; first | omega | exact Nat.le_refl _⟩, dr_⟩
   case rest =>
    clear HCz3
    obtain ⟨kq, xz2, xz3, xz4, rfl, rfl, rfl, HA, HJz2, ⟨mcz2, rfl⟩⟩ := hcut
    cases kq with
    | zero => exact absurd HA.out (by simp [spec_RuneAt.j3])
    | succ kjz2 =>
     have H := HA.out
     clear HA
     simp only [spec_RuneAt.j3] at H
     by_cases cz8 : a1 > (wrap64 ((wrap64 ((l0.length : Int) - 1)) - xz2))
     ·rw [if_pos cz8] at H
      have cz9 : decide ((wrap64 ((wrap64 ((l0.length : Int) - 1)) - xz2)) < a1) = true := decide_eq_true cz8
      clear cz8
      simp only [Option.some.injEq, Prod.mk.injEq] at H
      obtain ⟨rfl, rfl, rfl⟩ := H
      go_wp2
      go_ret3
      exact ⟨rs_, dr_⟩
     rw [if_neg cz8] at H
     have cz9 : decide ((wrap64 ((wrap64 ((l0.length : Int) - 1)) - xz2)) < a1) = false := decide_eq_false cz8
     clear cz8
     have H' := Aside0.mk H
     clear H
     go_wp2
     go_loopg [10, 11] kjz2 (fun kq v10 v11 w' => ∃ (x10_3 : Int) (x11_3 : Int), v10 = .int .i64 x10_3 ∧ v11 = .int .i64 x11_3 ∧ Aside0 (spec_RuneAt.l0 kq l0 a1 xz2 xz3 x10_3 x11_3 = some (r1, r2, r3)) ∧ Aside0 (kq ≤ kjz2) ∧ Drawn0 w w')
     case atStart => exact ⟨(xz4), (1), rs_, rs_, H', ⟨Nat.le_refl _⟩, dr_⟩
     case round =>
      clear H'
      obtain ⟨xz5, xz6, rfl, rfl, HA, HKz1, ⟨mz1, rfl⟩⟩ := hrel
      cases gk with
      | zero => exact absurd HA.out (by simp [spec_RuneAt.l0])
      | succ kz1 =>
       have H := HA.out
       clear HA
       simp only [spec_RuneAt.l0] at H
       by_cases cz10 : xz6 ≤ xz2
       rotate_left
       ·rw [if_neg cz10] at H
        have cz11 : decide (xz6 ≤ xz2) = false := decide_eq_false cz10
        clear cz10
        by_cases cz12 : xz5 < xz3
        ·rw [if_pos cz12] at H
         have cz13 : decide (xz5 < xz3) = true := decide_eq_true cz12
         clear cz12
         simp only [Option.some.injEq, Prod.mk.injEq] at H
         obtain ⟨rfl, rfl, rfl⟩ := H
         go_wp2
         go_ret3
         exact ⟨rs_, dr_⟩
        rw [if_neg cz12] at H
        have cz13 : decide (xz5 < xz3) = false := decide_eq_false cz12
        clear cz12
        by_cases cz14 : xz5 > 1114111
        ·rw [if_pos cz14] at H
         have cz15 : decide (1114111 < xz5) = true := decide_eq_true cz14
         clear cz14
         simp only [Option.some.injEq, Prod.mk.injEq] at H
         obtain ⟨rfl, rfl, rfl⟩ := H
         go_wp2
         go_ret3
         exact ⟨rs_, dr_⟩
        rw [if_neg cz14] at H
        have cz15 : decide (1114111 < xz5) = false := decide_eq_false cz14
        clear cz14
        replace H := bo_ H
        obtain ⟨tz1, Az2, H⟩ := H
        (try dsimp only at H)
        by_cases cz16 : tz1 = true
        ·subst cz16
         replace H := bt_ H
         simp only [Option.some.injEq, Prod.mk.injEq] at H
         obtain ⟨rfl, rfl, rfl⟩ := H
         go_wp2_with (first | (go_at_call 41; (with_reducible refine (spec_l1In.calls xz5 55296 57343 true _ Az2.out).mono ?_); rintro e w' ⟨rfl, ⟨nd, rfl⟩⟩))
         go_ret3
         exact ⟨rs_, dr_⟩
        replace cz16 := Bool.eq_false_iff.mpr cz16
        subst cz16
        replace H := bf_ H
        simp only [Option.some.injEq, Prod.mk.injEq] at H
        obtain ⟨rfl, rfl, rfl⟩ := H
        go_wp2_with (first | (go_at_call 41; (with_reducible refine (spec_l1In.calls xz5 55296 57343 false _ Az2.out).mono ?_); rintro e w' ⟨rfl, ⟨nd, rfl⟩⟩))
        go_ret3
        exact ⟨rs_, dr_⟩
       rw [if_pos cz10] at H
       have cz11 : decide (xz6 ≤ xz2) = true := decide_eq_true cz10
       clear cz10
       obtain ⟨jiz1, hjiz1⟩ : ∃ j_ : Int, (wrap64 (a1 + xz6)) = j_ := ⟨_, rfl⟩
       replace H : (if 0 ≤ (jiz1) then (if (jiz1) < (l0.length : Int) then (if (wrap64 (rd l0 (jiz1))) < 128 then (some (0, 0, false)) else (if (wrap64 (rd l0 (jiz1))) > 191 then (some (0, 0, false)) else (spec_RuneAt.l0 kz1 l0 a1 xz2 xz3 (wrap64 ((wrap64 ((wrap64 (xz5 * 64)) + (wrap64 (rd l0 (jiz1))))) - 128)) (wrap64 (xz6 + 1))))) else (none)) else (none)) = some (r1, r2, r3) := by first | (rw [hjiz1] at H; exact H) | (simp only [hjiz1] at H ⊢; exact H)
       have hji20w : (IntKind.i64.wrap (a1 + xz6)) = jiz1 := (i64_w _).trans hjiz1
       by_cases cz12 : 0 ≤ (jiz1)
       rotate_left
       ·rw [if_neg cz12] at H
        exact absurd H (by simp)
       rw [if_pos cz12] at H
       have cz13 : decide (0 ≤ (jiz1)) = true := decide_eq_true cz12
       clear cz12
       by_cases cz14 : (jiz1) < (l0.length : Int)
       rotate_left
       ·rw [if_neg cz14] at H
        exact absurd H (by simp)
       rw [if_pos cz14] at H
       have cz15 : decide ((jiz1) < (l0.length : Int)) = true := decide_eq_true cz14
       clear cz14
       by_cases cz16 : (wrap64 (rd l0 (jiz1))) < 128
       ·rw [if_pos cz16] at H
        have cz17 : decide ((wrap64 (rd l0 (jiz1))) < 128) = true := decide_eq_true cz16
        clear cz16
        exact spec_RuneAt_z0
       rw [if_neg cz16] at H
       have cz17 : decide ((wrap64 (rd l0 (jiz1))) < 128) = false := decide_eq_false cz16
       clear cz16
       by_cases cz18 : (wrap64 (rd l0 (jiz1))) > 191
       ·rw [if_pos cz18] at H
        have cz19 : decide (191 < (wrap64 (rd l0 (jiz1)))) = true := decide_eq_true cz18
        clear cz18
        exact spec_RuneAt_z0
       rw [if_neg cz18] at H
       have cz19 : decide (191 < (wrap64 (rd l0 (jiz1)))) = false := decide_eq_false cz18
       clear cz18
       have H' := Aside0.mk H
       clear H
       have pz2 : 0 ≤ ((jiz1) : Int) := dt_
       have qz2 : (jiz1) < (l0.length : Int) := dt_
       obtain ⟨adz2, ez2, hxz2⟩ := Kd.at_int HRz1.out (jiz1) pz2 qz2
       obtain rfl : adz1 = adz2 := (by injection ez2)
       replace pz2 := eq_true pz2
       replace qz2 := eq_true qz2
       go_wp2
       go_roundg kz1
       case measure => have := HJz1.out; have := HJz2.out; have := HKz1.out; omega
       case rel => exact ⟨(wrap64 ((wrap64 ((wrap64 (xz5 * 64)) + (wrap64 (rd l0 (jiz1))))) - 128)), (wrap64 (xz6 + 1)), (by first | rfl | (simp; done) | (simp only [← hjiz1] <;> (first | rfl | simp)) | (simp [*]; done)), rs_, H', ⟨by have := HJz1.out; have := HJz2.out; have := HKz1.out; omega⟩, dr_⟩

end Go.Proofs.YtggokdobijhdhaaDoor.P
