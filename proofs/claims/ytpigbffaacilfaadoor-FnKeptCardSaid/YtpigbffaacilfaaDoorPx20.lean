-- Printed by a program over the kit's print.py (mp.sh), several laws in one namespace.
import Derived.Test.YtpigbffaacilfaaDoorPx0
import Derived.Test.YtpigbffaacilfaaDoorS
import Derived.Test.YtpigbffaacilfaaDoorPx8
import Derived.Test.YtpigbffaacilfaaDoorPx19
namespace Go.Proofs.YtpigbffaacilfaaDoor.P
open Go.RowKit Go.Proofs.YtpigbffaacilfaaDoor.X Go.Proofs.YtpigbffaacilfaaDoorW.PrintWords Go.Proofs.YtpigbffaacilfaaDoorW.PrintLast Go.Proofs.YtpigbffaacilfaaDoorW.PrintMore
attribute [local go_sem] max2_int min2_int max_two min_two max_three min_three max_four min_four   -- for this text's walks alone
set_option linter.unusedVariables false
set_option linter.unusedSimpArgs false

mutual
def impl_fits.l0 : Nat → List ByteArray → List ByteArray → List ByteArray → Int → Int → Option (Bool)
  | 0, _, _, _, _, _ => none
  | k + 1, x0, x1, x7, x8, x9 => if x9 < x8 then (if 0 ≤ x9 then (if x9 < (x7.length : Int) then (if (rdOf ByteArray.empty x7 x9).toList = ([35] : List UInt8) then (some true) else (if x9 = (x1.length : Int) then (some false) else (if (rdOf ByteArray.empty x7 x9).toList = ([43] : List UInt8) then (if x9 < (x1.length : Int) then (impl_fits.j1 k x0 x1 x9 (rdOf ByteArray.empty x7 x9) x7 x8 x9 ((rdOf ByteArray.empty x1 x9).toList == ([35] : List UInt8))) else (none)) else (impl_fits.j1 k x0 x1 x9 (rdOf ByteArray.empty x7 x9) x7 x8 x9 false)))) else (none)) else (none)) else (some ((x0.length : Int) == (x1.length : Int)))
def impl_fits.j1 : Nat → List ByteArray → List ByteArray → Int → ByteArray → List ByteArray → Int → Int → Bool → Option (Bool)
  | 0, _, _, _, _, _, _, _, _ => none
  | k + 1, x0, x1, x5, x6, x7, x8, x9, x22 => if x22 = true then (some false) else (if x6.toList = ([43] : List UInt8) then (impl_fits.l0 k x0 x1 x7 x8 (wrap64 (x9 + 1))) else (if 0 ≤ x5 then (if x5 < (x1.length : Int) then (if x6.toList = (rdOf ByteArray.empty x1 x5).toList then (impl_fits.l0 k x0 x1 x7 x8 (wrap64 (x9 + 1))) else (some false)) else (none)) else (none)))
end
def impl_fits.f (k : Nat) (l0 : List ByteArray) (l1 : List ByteArray) : Option (Bool) := impl_fits.l0 k l0 l1 l0 (l0.length : Int) 0
theorem impl_fits_zm {p : Prop} (h : p := by
      repeat' first
      | (with_reducible exact ih0 _ _ _ _ _)
      | (with_reducible exact ih1 _ _ _ _ _ _ _ _)
      | (with_reducible exact LeO.refl _)
      | (with_reducible exact LeO.none _)
      | (with_reducible refine LeO.ite ?_ ?_)
      | (with_reducible refine LeO.bind ?_ (fun _ => ?_))
      | exact ih0 _ _ _ _ _
      | exact ih1 _ _ _ _ _ _ _ _
      | exact LeO.none _
      | refine LeO.ite ?_ ?_
      | refine LeO.bind ?_ (fun _ => ?_)
      ) : p := h
theorem impl_fits.mono_l : ∀ k, (∀ y0 y1 y2 y3 y4, LeO (impl_fits.l0 k y0 y1 y2 y3 y4) (impl_fits.l0 (k + 1) y0 y1 y2 y3 y4)) ∧ (∀ y0 y1 y2 y3 y4 y5 y6 y7, LeO (impl_fits.j1 k y0 y1 y2 y3 y4 y5 y6 y7) (impl_fits.j1 (k + 1) y0 y1 y2 y3 y4 y5 y6 y7))
  | 0 => ⟨fun _ _ _ _ _ r h => by simp [impl_fits.l0] at h, fun _ _ _ _ _ _ _ _ r h => by simp [impl_fits.j1] at h⟩
  | k + 1 => by
    obtain ⟨ih0, ih1⟩ := impl_fits.mono_l k
    refine ⟨?_, ?_⟩
    · intro y0 y1 y2 y3 y4
      unfold impl_fits.l0
      exact impl_fits_zm
    · intro y0 y1 y2 y3 y4 y5 y6 y7
      unfold impl_fits.j1
      exact impl_fits_zm
theorem impl_fits.mono : ∀ a0 a1 k, LeO (impl_fits.f k a0 a1) (impl_fits.f (k + 1) a0 a1) := by
  intro a0 a1 k
  obtain ⟨ih0, ih1⟩ := impl_fits.mono_l k
  unfold impl_fits.f
  repeat' first
      | (with_reducible exact ih0 _ _ _ _ _)
      | (with_reducible exact ih1 _ _ _ _ _ _ _ _)
      | (with_reducible exact LeO.refl _)
      | (with_reducible exact LeO.none _)
      | (with_reducible refine LeO.ite ?_ ?_)
      | (with_reducible refine LeO.bind ?_ (fun _ => ?_))
      | exact ih0 _ _ _ _ _
      | exact ih1 _ _ _ _ _ _ _ _
      | exact LeO.none _
      | refine LeO.ite ?_ ?_
      | refine LeO.bind ?_ (fun _ => ?_)
theorem impl_fits_z2 {p : Prop} (h : p := by
  have qz1 : xz1 < (l0.length : Int) := dt_
  obtain ⟨adz1, ez1, hxz1⟩ := Kd.at_string HRz1.out xz1 pz1 qz1
  cases ez1
  replace pz1 := eq_true pz1
  replace qz1 := eq_true qz1
  go_wp2
  go_ret
  exact ⟨rs_, dr_⟩) : p := h
theorem impl_fits_z1 {p : Prop} (h : p := by
  have pz1 : 0 ≤ (xz1 : Int) := dt_
  exact impl_fits_z2) : p := h
theorem impl_fits_z0 {p : Prop} (h : p := by
  obtain rfl := Option.some.inj H
  exact impl_fits_z1) : p := h
set_option maxHeartbeats 8000000 in
set_option maxRecDepth 100000 in
theorem impl_fits.calls (k : Nat) (A0 : Option Addr) (c0 : Nat) (l0 : List ByteArray) (A1 : Option Addr) (c1 : Nat) (l1 : List ByteArray) (r : Bool) (w : World) (hr0 : Kd.C Kd.string w A0 l0.length l0) (hc0 : l0.length ≤ c0) (hr1 : Kd.C Kd.string w A1 l1.length l1) (hc1 : l1.length ≤ c1) (h : impl_fits.f k l0 l1 = some r) :
    Calls Tryd.prog 64 #[.slice A0 l0.length c0, .slice A1 l1.length c1] w fun e w' => e = .returned (.bool r) ∧ Drawn0 w w' := by
  have HRz1 := Aside0.mk hr0
  have HCz1 := Aside0.mk hc0
  clear hr0 hc0
  have HRz2 := Aside0.mk hr1
  have HCz2 := Aside0.mk hc1
  clear hr1 hc1
  have H : (impl_fits.l0 k l0 l1 l0 (l0.length : Int) 0) = some r := h
  clear h
  have H' := Aside0.mk H
  clear H
  go_enter Tryd.func64, Tryd.ntmps64
  go_wp2
  go_loopg [9] k (fun kq v9 w' => ∃ (x9_1 : Int), v9 = .int .i64 x9_1 ∧ Aside0 (impl_fits.l0 kq l0 l1 l0 (l0.length : Int) x9_1 = some r) ∧ Aside0 (kq ≤ k) ∧ Drawn0 w w')
  case atStart => exact ⟨(0), rs_, H', ⟨Nat.le_refl _⟩, dr_⟩
  case round =>
    clear H'
    try clear c1
    try clear p2
    obtain ⟨xz1, rfl, HA, HKz1, ⟨mz1, rfl⟩⟩ := hrel
    cases gk with
    | zero => exact absurd HA.out (by simp [impl_fits.l0])
    | succ kz1 =>
      have H := HA.out
      clear HA
      simp only [impl_fits.l0] at H
      by_cases cz1 : xz1 < (l0.length : Int)
      rotate_left
      · rw [if_neg cz1] at H
        have cz2 : decide (xz1 < (l0.length : Int)) = false := decide_eq_false cz1
        clear cz1
        obtain rfl := Option.some.inj H
        go_wp2
        go_ret
        exact ⟨rs_, dr_⟩
      rw [if_pos cz1] at H
      have cz2 : decide (xz1 < (l0.length : Int)) = true := decide_eq_true cz1
      clear cz1
      by_cases cz3 : 0 ≤ xz1
      rotate_left
      · rw [if_neg cz3] at H
        exact absurd H (by simp)
      rw [if_pos cz3] at H
      have cz4 : decide (0 ≤ xz1) = true := decide_eq_true cz3
      clear cz3
      by_cases cz5 : xz1 < (l0.length : Int)
      rotate_left
      · rw [if_neg cz5] at H
        exact absurd H (by simp)
      rw [if_pos cz5] at H
      have cz6 : decide (xz1 < (l0.length : Int)) = true := decide_eq_true cz5
      clear cz5
      by_cases cz7 : (rdOf ByteArray.empty l0 xz1).toList = ([35] : List UInt8)
      · rw [if_pos cz7] at H
        have cz8 : ((rdOf ByteArray.empty l0 xz1).toList == ([35] : List UInt8)) = true := beq_iff_eq.mpr cz7
        have cz9 : ((rdOf ByteArray.empty l0 xz1).toList != ([35] : List UInt8)) = false := bne_eq_false_iff_eq.mpr cz7
        clear cz7
        exact impl_fits_z0
      rw [if_neg cz7] at H
      have cz8 : ((rdOf ByteArray.empty l0 xz1).toList == ([35] : List UInt8)) = false := beq_eq_false_iff_ne.mpr cz7
      have cz9 : ((rdOf ByteArray.empty l0 xz1).toList != ([35] : List UInt8)) = true := bne_iff_ne.mpr cz7
      by_cases cz10 : xz1 = (l1.length : Int)
      · rw [if_pos cz10] at H
        have cz11 : (xz1 == (l1.length : Int)) = true := beq_iff_eq.mpr cz10
        have cz12 : (xz1 != (l1.length : Int)) = false := bne_eq_false_iff_eq.mpr cz10
        clear cz10
        exact impl_fits_z0
      rw [if_neg cz10] at H
      have cz11 : (xz1 == (l1.length : Int)) = false := beq_eq_false_iff_ne.mpr cz10
      have cz12 : (xz1 != (l1.length : Int)) = true := bne_iff_ne.mpr cz10
      have HCz3 := Aside0.mk H
      clear H
      have pz1 : 0 ≤ (xz1 : Int) := dt_
      have qz1 : xz1 < (l0.length : Int) := dt_
      obtain ⟨adz1, ez1, hxz1⟩ := Kd.at_string HRz1.out xz1 pz1 qz1
      cases ez1
      replace pz1 := eq_true pz1
      replace qz1 := eq_true qz1
      go_upto_region 8 with (fail)
      go_cut [22] (fun v22 wc => ∃ (kq : Nat) (x22_7 : Bool), v22 = .bool x22_7 ∧ Aside0 (impl_fits.j1 kq l0 l1 xz1 (rdOf ByteArray.empty l0 xz1) l0 (l0.length : Int) xz1 x22_7 = some r) ∧ Aside0 (kq ≤ kz1) ∧ Drawn0 w wc)
      case first =>
        have H := HCz3.out
        clear HCz3
        by_cases cz13 : (rdOf ByteArray.empty l0 xz1).toList = ([43] : List UInt8)
        rotate_left
        · rw [if_neg cz13] at H
          have cz14 : ((rdOf ByteArray.empty l0 xz1).toList == ([43] : List UInt8)) = false := beq_eq_false_iff_ne.mpr cz13
          have cz15 : ((rdOf ByteArray.empty l0 xz1).toList != ([43] : List UInt8)) = true := bne_iff_ne.mpr cz13
          (first | rw [cz14] | (simp only [i64_w, i32_w]; rw [cz14]) | skip)
          have H' := Aside0.mk H
          clear H
          go_wp2
          go_meet
          case rel => exact ⟨_, (false), rs_, H', ⟨by have := HKz1.out; first | omega | exact Nat.le_refl _⟩, dr_⟩
        rw [if_pos cz13] at H
        have cz14 : ((rdOf ByteArray.empty l0 xz1).toList == ([43] : List UInt8)) = true := beq_iff_eq.mpr cz13
        have cz15 : ((rdOf ByteArray.empty l0 xz1).toList != ([43] : List UInt8)) = false := bne_eq_false_iff_eq.mpr cz13
        clear cz13
        (first | rw [cz14] | (simp only [i64_w, i32_w]; rw [cz14]) | skip)
        by_cases cz16 : xz1 < (l1.length : Int)
        rotate_left
        · rw [if_neg cz16] at H
          exact absurd H (by simp)
        rw [if_pos cz16] at H
        have cz17 : decide (xz1 < (l1.length : Int)) = true := decide_eq_true cz16
        clear cz16
        have H' := Aside0.mk H
        clear H
        have pz2 : 0 ≤ (xz1 : Int) := dt_
        have qz2 : xz1 < (l1.length : Int) := dt_
        obtain ⟨adz2, ez2, hxz2⟩ := Kd.at_string HRz2.out xz1 pz2 qz2
        cases ez2
        replace pz2 := eq_true pz2
        replace qz2 := eq_true qz2
        go_wp2
        go_meet
        case rel => exact ⟨_, (((rdOf ByteArray.empty l1 xz1).toList == ([35] : List UInt8))), rs_, H', ⟨by have := HKz1.out; first | omega | exact Nat.le_refl _⟩, dr_⟩
      case rest =>
        clear HCz3
        try clear c1
        try clear p2
        try clear cz1
        try clear cz2
        try clear cz3
        try clear cz4
        try clear p4
        try clear q4
        try clear hx4
        try clear cz5
        try clear cz6
        try clear cz7
        try clear cz8
        try clear cz9
        try clear cz10
        try clear cz11
        try clear cz12
        try clear c9
        try clear c9b0
        try clear c9b1
        try clear c10
        try clear c10b0
        try clear hxz1
        try clear hx493_0
        try clear p2
        try clear pz1
        try clear p493
        try clear qz1
        try clear q493
        obtain ⟨kq, xz2, rfl, HA, HJz1, ⟨mcz1, rfl⟩⟩ := hcut
        cases kq with
        | zero => exact absurd HA.out (by simp [impl_fits.j1])
        | succ kjz1 =>
          have H := HA.out
          clear HA
          simp only [impl_fits.j1] at H
          by_cases cz13 : xz2 = true
          · subst cz13
            replace H := bt_ H
            obtain rfl := Option.some.inj H
            go_wp2
            go_ret
            exact ⟨rs_, dr_⟩
          replace cz13 := Bool.eq_false_iff.mpr cz13
          subst cz13
          replace H := bf_ H
          by_cases cz14 : (rdOf ByteArray.empty l0 xz1).toList = ([43] : List UInt8)
          · rw [if_pos cz14] at H
            have cz15 : ((rdOf ByteArray.empty l0 xz1).toList == ([43] : List UInt8)) = true := beq_iff_eq.mpr cz14
            have cz16 : ((rdOf ByteArray.empty l0 xz1).toList != ([43] : List UInt8)) = false := bne_eq_false_iff_eq.mpr cz14
            clear cz14
            have H' := Aside0.mk H
            clear H
            go_wp2
            go_roundg kjz1
            case measure => have := HKz1.out; have := HJz1.out; omega
            case rel => exact ⟨(wrap64 (xz1 + 1)), rs_, H', ⟨by have := HKz1.out; have := HJz1.out; omega⟩, dr_⟩
          rw [if_neg cz14] at H
          have cz15 : ((rdOf ByteArray.empty l0 xz1).toList == ([43] : List UInt8)) = false := beq_eq_false_iff_ne.mpr cz14
          have cz16 : ((rdOf ByteArray.empty l0 xz1).toList != ([43] : List UInt8)) = true := bne_iff_ne.mpr cz14
          by_cases cz17 : 0 ≤ xz1
          rotate_left
          · rw [if_neg cz17] at H
            exact absurd H (by simp)
          rw [if_pos cz17] at H
          have cz18 : decide (0 ≤ xz1) = true := decide_eq_true cz17
          clear cz17
          by_cases cz19 : xz1 < (l1.length : Int)
          rotate_left
          · rw [if_neg cz19] at H
            exact absurd H (by simp)
          rw [if_pos cz19] at H
          have cz20 : decide (xz1 < (l1.length : Int)) = true := decide_eq_true cz19
          clear cz19
          by_cases cz21 : (rdOf ByteArray.empty l0 xz1).toList = (rdOf ByteArray.empty l1 xz1).toList
          rotate_left
          · rw [if_neg cz21] at H
            have cz22 : ((rdOf ByteArray.empty l0 xz1).toList == (rdOf ByteArray.empty l1 xz1).toList) = false := beq_eq_false_iff_ne.mpr cz21
            have cz23 : ((rdOf ByteArray.empty l0 xz1).toList != (rdOf ByteArray.empty l1 xz1).toList) = true := bne_iff_ne.mpr cz21
            obtain rfl := Option.some.inj H
            have pz2 : 0 ≤ (xz1 : Int) := dt_
            have qz2 : xz1 < (l1.length : Int) := dt_
            obtain ⟨adz2, ez2, hxz2⟩ := Kd.at_string HRz2.out xz1 pz2 qz2
            cases ez2
            replace pz2 := eq_true pz2
            replace qz2 := eq_true qz2
            go_wp2
            go_ret
            exact ⟨rs_, dr_⟩
          rw [if_pos cz21] at H
          have cz22 : ((rdOf ByteArray.empty l0 xz1).toList == (rdOf ByteArray.empty l1 xz1).toList) = true := beq_iff_eq.mpr cz21
          have cz23 : ((rdOf ByteArray.empty l0 xz1).toList != (rdOf ByteArray.empty l1 xz1).toList) = false := bne_eq_false_iff_eq.mpr cz21
          clear cz21
          have H' := Aside0.mk H
          clear H
          have pz2 : 0 ≤ (xz1 : Int) := dt_
          have qz2 : xz1 < (l1.length : Int) := dt_
          obtain ⟨adz2, ez2, hxz2⟩ := Kd.at_string HRz2.out xz1 pz2 qz2
          cases ez2
          replace pz2 := eq_true pz2
          replace qz2 := eq_true qz2
          go_wp2
          go_roundg kjz1
          case measure => have := HKz1.out; have := HJz1.out; omega
          case rel => exact ⟨(wrap64 (xz1 + 1)), rs_, H', ⟨by have := HKz1.out; have := HJz1.out; omega⟩, dr_⟩

def impl_Match.j0 : Nat → ByteArray → ByteArray → Bool → Option (Bool)
  | 0, _, _, _ => none
  | k + 1, x0, x1, x20 => if x20 = true then (some false) else ((impl_Levels.f x0).bind fun t499 => ((impl_Levels.f x1).bind fun t502 => ((impl_fits.f k t499 t502).bind fun t505 => (some t505))))
def impl_Match.f (k : Nat) (a0 : ByteArray) (a1 : ByteArray) : Option (Bool) := (impl_FilterOk.f k a0).bind fun t495 => (if t495 = true then ((impl_TopicOk.f a1).bind fun t496 => (if t496 = true then ((impl_beginsWild.f a0).bind fun t497 => (if t497 = true then ((impl_Hidden.f a1).bind fun t498 => (impl_Match.j0 k a0 a1 t498)) else (impl_Match.j0 k a0 a1 false))) else (impl_Match.j0 k a0 a1 true))) else (impl_Match.j0 k a0 a1 true))
theorem impl_Match.mono_l : ∀ k, (∀ y0 y1 y2, LeO (impl_Match.j0 k y0 y1 y2) (impl_Match.j0 (k + 1) y0 y1 y2))
  | 0 => fun _ _ _ r h => by simp [impl_Match.j0] at h
  | k + 1 => by
    have ih0 := impl_Match.mono_l k
    · intro y0 y1 y2
      unfold impl_Match.j0
      repeat' first
      | (with_reducible exact ih0 _ _ _)
      | (with_reducible exact impl_FilterOk.mono _ _)
      | (with_reducible exact impl_fits.mono _ _ _)
      | (with_reducible exact LeO.refl _)
      | (with_reducible exact LeO.none _)
      | (with_reducible refine LeO.ite ?_ ?_)
      | (with_reducible refine LeO.bind ?_ (fun _ => ?_))
      | exact ih0 _ _ _
      | exact impl_FilterOk.mono _ _
      | exact impl_fits.mono _ _ _
      | exact LeO.none _
      | refine LeO.ite ?_ ?_
      | refine LeO.bind ?_ (fun _ => ?_)
theorem impl_Match.mono : ∀ a0 a1 k, LeO (impl_Match.f k a0 a1) (impl_Match.f (k + 1) a0 a1) := by
  intro a0 a1 k
  have ih0 := impl_Match.mono_l k
  unfold impl_Match.f
  repeat' first
      | (with_reducible exact ih0 _ _ _)
      | (with_reducible exact impl_FilterOk.mono _ _)
      | (with_reducible exact impl_fits.mono _ _ _)
      | (with_reducible exact LeO.refl _)
      | (with_reducible exact LeO.none _)
      | (with_reducible refine LeO.ite ?_ ?_)
      | (with_reducible refine LeO.bind ?_ (fun _ => ?_))
      | exact ih0 _ _ _
      | exact impl_FilterOk.mono _ _
      | exact impl_fits.mono _ _ _
      | exact LeO.none _
      | refine LeO.ite ?_ ?_
      | refine LeO.bind ?_ (fun _ => ?_)
set_option maxHeartbeats 8000000 in
set_option maxRecDepth 100000 in
theorem impl_Match.calls (k : Nat) (a0 : ByteArray) (a1 : ByteArray) (r : Bool) (w : World) (hT : Tabs w) (h : impl_Match.f k a0 a1 = some r) :
    Calls Tryd.prog 45 #[.string a0, .string a1] w fun e w' => e = .returned (.bool r) ∧ Below w.heap.size w w' := by
  have HT := Aside0.mk hT
  clear hT
  have HB := Aside0.mk (Below.refl w.heap.size w)
  have H : ((impl_FilterOk.f k a0).bind fun t495 => (if t495 = true then ((impl_TopicOk.f a1).bind fun t496 => (if t496 = true then ((impl_beginsWild.f a0).bind fun t497 => (if t497 = true then ((impl_Hidden.f a1).bind fun t498 => (impl_Match.j0 k a0 a1 t498)) else (impl_Match.j0 k a0 a1 false))) else (impl_Match.j0 k a0 a1 true))) else (impl_Match.j0 k a0 a1 true))) = some r := h
  clear h
  have HCz1 := Aside0.mk H
  clear H
  go_enter Tryd.func45, Tryd.ntmps45
  go_upto_region 1 with (fail)
  go_cut [20] (fun v20 wc => ∃ (kq : Nat) (x20_2 : Bool), v20 = .bool x20_2 ∧ Aside0 (impl_Match.j0 kq a0 a1 x20_2 = some r) ∧ Aside0 (kq ≤ k) ∧ Aside0 (Below w.heap.size w wc))
  case first =>
    have H := HCz1.out
    clear HCz1
    replace H := bo_ H
    obtain ⟨tz1, Az2, H⟩ := H
    (try dsimp only at H)
    by_cases cz1 : tz1 = true
    rotate_left
    · replace cz1 := Bool.eq_false_iff.mpr cz1
      subst cz1
      replace H := bf_ H
      have H' := Aside0.mk H
      clear H
      go_wp2_with (first | ((with_reducible refine gate_callee (f := 61) rfl ?_); refine ca_ 6 Tryd.func61 #[.string a0] ?_; (with_reducible refine (impl_FilterOk.calls k a0 false _ ?side1 Az2.out).mono ?_); (case side1 => exact Tabs.below HT.out be_); rintro e wz1 ⟨rfl, hb⟩; refine ⟨_, rfl, ?_⟩; replace HB := bw_ hb; clear hb))
      go_meet
      case rel => exact ⟨_, (true), rs_, H', ⟨by first | omega | exact Nat.le_refl _⟩, ⟨be_⟩⟩
    subst cz1
    replace H := bt_ H
    replace H := bo_ H
    obtain ⟨tz2, Az4, H⟩ := H
    (try dsimp only at H)
    by_cases cz2 : tz2 = true
    rotate_left
    · replace cz2 := Bool.eq_false_iff.mpr cz2
      subst cz2
      replace H := bf_ H
      have H' := Aside0.mk H
      clear H
      go_wp2_with (first | ((with_reducible refine gate_callee (f := 61) rfl ?_); refine ca_ 6 Tryd.func61 #[.string a0] ?_; (with_reducible refine (impl_FilterOk.calls k a0 true _ ?side1 Az2.out).mono ?_); (case side1 => exact Tabs.below HT.out be_); rintro e wz1 ⟨rfl, hb⟩; refine ⟨_, rfl, ?_⟩; replace HB := bw_ hb; clear hb) | (go_at_call 27; (with_reducible refine (impl_TopicOk.calls a1 false _ ?side1 Az4.out).mono ?_); (case side1 => exact Tabs.below HT.out be_); rintro e wz2 ⟨rfl, hb⟩; replace HB := bw_ hb; clear hb))
      go_meet
      case rel => exact ⟨_, (true), rs_, H', ⟨by first | omega | exact Nat.le_refl _⟩, ⟨be_⟩⟩
    subst cz2
    replace H := bt_ H
    replace H := bo_ H
    obtain ⟨tz3, Az6, H⟩ := H
    (try dsimp only at H)
    by_cases cz3 : tz3 = true
    rotate_left
    · replace cz3 := Bool.eq_false_iff.mpr cz3
      subst cz3
      replace H := bf_ H
      have H' := Aside0.mk H
      clear H
      go_wp2_with (first | ((with_reducible refine gate_callee (f := 61) rfl ?_); refine ca_ 6 Tryd.func61 #[.string a0] ?_; (with_reducible refine (impl_FilterOk.calls k a0 true _ ?side1 Az2.out).mono ?_); (case side1 => exact Tabs.below HT.out be_); rintro e wz1 ⟨rfl, hb⟩; refine ⟨_, rfl, ?_⟩; replace HB := bw_ hb; clear hb) | (go_at_call 27; (with_reducible refine (impl_TopicOk.calls a1 true _ ?side1 Az4.out).mono ?_); (case side1 => exact Tabs.below HT.out be_); rintro e wz2 ⟨rfl, hb⟩; replace HB := bw_ hb; clear hb) | (go_at_call 62; (with_reducible refine (impl_beginsWild.calls a0 false _ Az6.out).mono ?_); rintro e w' ⟨rfl, ⟨nd, rfl⟩⟩))
      go_meet
      case rel => exact ⟨_, (false), rs_, H', ⟨by first | omega | exact Nat.le_refl _⟩, ⟨be_⟩⟩
    subst cz3
    replace H := bt_ H
    replace H := bo_ H
    obtain ⟨tz4, Az8, H⟩ := H
    (try dsimp only at H)
    have H' := Aside0.mk H
    clear H
    go_wp2_with (first | ((with_reducible refine gate_callee (f := 61) rfl ?_); refine ca_ 6 Tryd.func61 #[.string a0] ?_; (with_reducible refine (impl_FilterOk.calls k a0 true _ ?side1 Az2.out).mono ?_); (case side1 => exact Tabs.below HT.out be_); rintro e wz1 ⟨rfl, hb⟩; refine ⟨_, rfl, ?_⟩; replace HB := bw_ hb; clear hb) | (go_at_call 27; (with_reducible refine (impl_TopicOk.calls a1 true _ ?side1 Az4.out).mono ?_); (case side1 => exact Tabs.below HT.out be_); rintro e wz2 ⟨rfl, hb⟩; replace HB := bw_ hb; clear hb) | (go_at_call 62; (with_reducible refine (impl_beginsWild.calls a0 true _ Az6.out).mono ?_); rintro e w' ⟨rfl, ⟨nd, rfl⟩⟩) | (go_at_call 63; (with_reducible refine (impl_Hidden.calls a1 tz4 _ Az8.out).mono ?_); rintro e w' ⟨rfl, ⟨nd, rfl⟩⟩))
    go_meet
    case rel => exact ⟨_, (tz4), rs_, H', ⟨by first | omega | exact Nat.le_refl _⟩, ⟨be_⟩⟩
  case rest =>
    clear HCz1
    try clear p2
    try clear c4
    try clear c5
    try clear c6
    try clear c7
    try clear c9
    obtain ⟨kq, xz1, rfl, HA, HJz1, HB⟩ := hcut
    cases kq with
    | zero => exact absurd HA.out (by simp [impl_Match.j0])
    | succ kjz1 =>
      have H := HA.out
      clear HA
      simp only [impl_Match.j0] at H
      by_cases cz1 : xz1 = true
      · subst cz1
        replace H := bt_ H
        obtain rfl := Option.some.inj H
        go_wp2
        go_ret
        exact ⟨er_, be_⟩
      replace cz1 := Bool.eq_false_iff.mpr cz1
      subst cz1
      replace H := bf_ H
      replace H := bo_ H
      obtain ⟨tz1, Az2, H⟩ := H
      (try dsimp only at H)
      replace H := bo_ H
      obtain ⟨tz2, Az4, H⟩ := H
      (try dsimp only at H)
      replace H := bo_ H
      obtain ⟨tz3, Az6, H⟩ := H
      (try dsimp only at H)
      obtain rfl := Option.some.inj H
      go_wp2_with (first | ((with_reducible refine gate_callee (f := 52) rfl ?_); refine ca_ 22 Tryd.func52 #[.string a0] ?_; (with_reducible refine (impl_Levels.calls a0 tz1 _ ?side1 Az2.out).mono ?_); (case side1 => exact Tabs.below HT.out be_); rintro e wz1 ⟨vz1, rfl, hoz1, hb⟩; refine ⟨_, rfl, ?_⟩; have HOz1 := Aside0.mk (Kd.R_lower hoz1 (below_size be_)); replace HB := bw_ hb; clear hb hoz1) | ((with_reducible refine gate_callee (f := 52) rfl ?_); refine ca_ 24 Tryd.func52 #[.string a1] ?_; (with_reducible refine (impl_Levels.calls a1 tz2 _ ?side1 Az4.out).mono ?_); (case side1 => exact Tabs.below HT.out be_); rintro e wz2 ⟨vz2, rfl, hoz1, hb⟩; refine ⟨_, rfl, ?_⟩; have HOz2 := Aside0.mk (Kd.R_lower (Kd.R_new' hoz1 (Kd.R_lt (lR_ HOz1.out))) (below_size be_)); replace HOz1 := eR_ HOz1 (Kd.R_base hoz1) hb; replace HB := bw_ hb; clear hb hoz1; obtain ⟨Aoz1, coz1, eoz1⟩ := Kd.R_slice HOz1.out; subst eoz1; obtain ⟨Aoz2, coz2, eoz2⟩ := Kd.R_slice HOz2.out; subst eoz2) | ((with_reducible refine gate_callee (f := 64) rfl ?_); refine ca_ 25 Tryd.func64 #[.slice Aoz1 tz1.length coz1, .slice Aoz2 tz2.length coz2] ?_; (with_reducible refine (impl_fits.calls kjz1 _ _ tz1 _ _ tz2 tz3 _ ?side1 ?side2 ?side3 ?side4 Az6.out).mono ?_); (case side1 => exact cR_ HOz1); (case side2 => exact (Kd.R_reads' HOz1.out).2.1); (case side3 => exact cR_ HOz2); (case side4 => exact (Kd.R_reads' HOz2.out).2.1); rintro e w' ⟨rfl, ⟨nd, rfl⟩⟩; refine ⟨_, rfl, ?_⟩))
      go_ret
      exact ⟨er_, be_⟩

end Go.Proofs.YtpigbffaacilfaaDoor.P
