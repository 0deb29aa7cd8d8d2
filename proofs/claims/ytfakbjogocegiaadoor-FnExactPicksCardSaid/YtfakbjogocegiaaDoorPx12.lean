-- Printed by a program over the kit's print.py (mp.sh), several laws in one namespace.
import Derived.Test.YtfakbjogocegiaaDoorPx0
namespace Go.Proofs.YtfakbjogocegiaaDoor.P
open Go.RowKit Go.Proofs.YtfakbjogocegiaaDoor.X Go.Proofs.YtfakbjogocegiaaDoorW.PrintWords Go.Proofs.YtfakbjogocegiaaDoorW.PrintLast Go.Proofs.YtfakbjogocegiaaDoorW.PrintMore
attribute [local go_sem] max2_int min2_int max_two min_two max_three min_three max_four min_four   -- for this text's walks alone
set_option linter.unusedVariables false
set_option linter.unusedSimpArgs false

/-! ### impl_fits: function 51 -/
mutual
def impl_fits.l0 : Nat → List ByteArray → List ByteArray → List ByteArray → Int → Int → Option (Bool)
  | 0, _, _, _, _, _ => none
  | k + 1, x0, x1, x7, x8, x9 => if x9 < x8 then (if 0 ≤ x9 then (if x9 < (x7.length : Int) then (if (rdOf ByteArray.empty x7 x9).toList = ([35] : List UInt8) then (some true) else (if x9 = (x1.length : Int) then (some false) else (if (rdOf ByteArray.empty x7 x9).toList = ([43] : List UInt8) then (if x9 < (x1.length : Int) then (impl_fits.j1 k x0 x1 x9 (rdOf ByteArray.empty x7 x9) x7 x8 x9 ((rdOf ByteArray.empty x1 x9).toList == ([35] : List UInt8))) else (none)) else (impl_fits.j1 k x0 x1 x9 (rdOf ByteArray.empty x7 x9) x7 x8 x9 false)))) else (none)) else (none)) else (some ((x0.length : Int) == (x1.length : Int)))
def impl_fits.j1 : Nat → List ByteArray → List ByteArray → Int → ByteArray → List ByteArray → Int → Int → Bool → Option (Bool)
  | 0, _, _, _, _, _, _, _, _ => none
  | k + 1, x0, x1, x5, x6, x7, x8, x9, x22 => if x22 = true then (some false) else (if x6.toList = ([43] : List UInt8) then (impl_fits.l0 k x0 x1 x7 x8 (wrap64 (x9 + 1))) else (if 0 ≤ x5 then (if x5 < (x1.length : Int) then (if x6.toList = (rdOf ByteArray.empty x1 x5).toList then (impl_fits.l0 k x0 x1 x7 x8 (wrap64 (x9 + 1))) else (some false)) else (none)) else (none)))
end
def impl_fits.f (k : Nat) (l0 : List ByteArray) (l1 : List ByteArray) : Option (Bool) := impl_fits.l0 k l0 l1 l0 (l0.length : Int) 0
theorem impl_fits.mono_l : ∀ k, (∀ y0 y1 y2 y3 y4, LeO (impl_fits.l0 k y0 y1 y2 y3 y4) (impl_fits.l0 (k + 1) y0 y1 y2 y3 y4)) ∧ (∀ y0 y1 y2 y3 y4 y5 y6 y7, LeO (impl_fits.j1 k y0 y1 y2 y3 y4 y5 y6 y7) (impl_fits.j1 (k + 1) y0 y1 y2 y3 y4 y5 y6 y7))
  | 0 => ⟨fun _ _ _ _ _ r h => by simp [impl_fits.l0] at h, fun _ _ _ _ _ _ _ _ r h => by simp [impl_fits.j1] at h⟩
  | k + 1 => by
    obtain ⟨ih0, ih1⟩ := impl_fits.mono_l k
    refine ⟨?_, ?_⟩
    · intro y0 y1 y2 y3 y4
      unfold impl_fits.l0
      repeat' first
      | (with_reducible exact ih0 _ _ _ _ _)
      | (with_reducible exact ih1 _ _ _ _ _ _ _ _)
      | (with_reducible exact LeO.refl _)
      | (with_reducible exact LeO.none _)
      | (with_reducible refine LeO.ite ?_ ?_)
      | (with_reducible refine LeO.bind ?_ (fun _ => ?_))
      | exact ih0 _ _ _ _ _
      | exact ih1 _ _ _ _ _ _ _ _
      | exact LeO.none _
      | refine LeO.ite ?_ ?_
      | refine LeO.bind ?_ (fun _ => ?_)
    · intro y0 y1 y2 y3 y4 y5 y6 y7
      unfold impl_fits.j1
      repeat' first
      | (with_reducible exact ih0 _ _ _ _ _)
      | (with_reducible exact ih1 _ _ _ _ _ _ _ _)
      | (with_reducible exact LeO.refl _)
      | (with_reducible exact LeO.none _)
      | (with_reducible refine LeO.ite ?_ ?_)
      | (with_reducible refine LeO.bind ?_ (fun _ => ?_))
      | exact ih0 _ _ _ _ _
      | exact ih1 _ _ _ _ _ _ _ _
      | exact LeO.none _
      | refine LeO.ite ?_ ?_
      | refine LeO.bind ?_ (fun _ => ?_)
theorem impl_fits.mono : ∀ a0 a1 k, LeO (impl_fits.f k a0 a1) (impl_fits.f (k + 1) a0 a1) := by
  intro a0 a1 k
  obtain ⟨ih0, ih1⟩ := impl_fits.mono_l k
  unfold impl_fits.f
  repeat' first
      | (with_reducible exact ih0 _ _ _ _ _)
      | (with_reducible exact ih1 _ _ _ _ _ _ _ _)
      | (with_reducible exact LeO.refl _)
      | (with_reducible exact LeO.none _)
      | (with_reducible refine LeO.ite ?_ ?_)
      | (with_reducible refine LeO.bind ?_ (fun _ => ?_))
      | exact ih0 _ _ _ _ _
      | exact ih1 _ _ _ _ _ _ _ _
      | exact LeO.none _
      | refine LeO.ite ?_ ?_
      | refine LeO.bind ?_ (fun _ => ?_)
set_option maxHeartbeats 8000000 in
set_option maxRecDepth 100000 in
theorem impl_fits.calls (k : Nat) (A0 : Option Addr) (c0 : Nat) (l0 : List ByteArray) (A1 : Option Addr) (c1 : Nat) (l1 : List ByteArray) (r : Bool) (w : World) (hr0 : Kd.C Kd.string w A0 l0.length l0) (hc0 : l0.length ≤ c0) (hr1 : Kd.C Kd.string w A1 l1.length l1) (hc1 : l1.length ≤ c1) (h : impl_fits.f k l0 l1 = some r) :
    Calls Tryd.prog 51 #[.slice A0 l0.length c0, .slice A1 l1.length c1] w fun e w' => e = .returned (.bool r) ∧ Drawn0 w w' := by
  have HR0 := Aside0.mk hr0
  have HC0 := Aside0.mk hc0
  clear hr0 hc0
  have HR1 := Aside0.mk hr1
  have HC1 := Aside0.mk hc1
  clear hr1 hc1
  have H : (impl_fits.l0 k l0 l1 l0 (l0.length : Int) 0) = some r := h
  clear h
  have H' := Aside0.mk H
  clear H
  go_enter Tryd.func51, Tryd.ntmps51
  go_wp2
  go_loopg [9] k (fun kq v9 w' => ∃ (x9_1 : Int), v9 = .int .i64 x9_1 ∧ Aside0 (impl_fits.l0 kq l0 l1 l0 (l0.length : Int) x9_1 = some r) ∧ Aside0 (kq ≤ k) ∧ Drawn0 w w')
  case atStart => exact ⟨(0), (by first | rfl | (simp; done) | (simp [*]; done)), H', ⟨Nat.le_refl _⟩, by repeat (first | exact Drawn0.refl _ | apply Drawn0.step)⟩
  case round =>
    clear H'
    try clear c1
    try clear p2
    obtain ⟨x9_1, rfl, HA, HK1, ⟨m1, rfl⟩⟩ := hrel
    cases gk with
    | zero => exact absurd HA.out (by simp [impl_fits.l0])
    | succ k1 =>
      have H := HA.out
      clear HA
      simp only [impl_fits.l0] at H
      by_cases c3 : x9_1 < (l0.length : Int)
      · rw [if_pos c3] at H
        have c3b0 : decide (x9_1 < (l0.length : Int)) = true := decide_eq_true c3
        clear c3
        by_cases c4 : 0 ≤ x9_1
        · rw [if_pos c4] at H
          have c4b0 : decide (0 ≤ x9_1) = true := decide_eq_true c4
          clear c4
          by_cases c5 : x9_1 < (l0.length : Int)
          · rw [if_pos c5] at H
            have c5b0 : decide (x9_1 < (l0.length : Int)) = true := decide_eq_true c5
            clear c5
            by_cases c6 : (rdOf ByteArray.empty l0 x9_1).toList = ([35] : List UInt8)
            · rw [if_pos c6] at H
              have c6b0 : ((rdOf ByteArray.empty l0 x9_1).toList == ([35] : List UInt8)) = true := beq_iff_eq.mpr c6
              have c6b1 : ((rdOf ByteArray.empty l0 x9_1).toList != ([35] : List UInt8)) = false := bne_eq_false_iff_eq.mpr c6
              clear c6
              obtain rfl := Option.some.inj H
              have p179 : 0 ≤ (x9_1 : Int) := of_decide_eq_true (by first | (with_reducible assumption) | assumption)
              have q179 : x9_1 < (l0.length : Int) := of_decide_eq_true (by first | (with_reducible assumption) | assumption)
              obtain ⟨ad179, e179, hx179_0⟩ := Kd.at_string HR0.out x9_1 p179 q179
              cases e179
              replace p179 := eq_true p179
              replace q179 := eq_true q179
              go_wp2
              go_ret
              exact ⟨by first | rfl | (simp; done) | (simp [*]; done), by repeat (first | exact Drawn0.refl _ | apply Drawn0.step)⟩
            · rw [if_neg c6] at H
              have c6b0 : ((rdOf ByteArray.empty l0 x9_1).toList == ([35] : List UInt8)) = false := beq_eq_false_iff_ne.mpr c6
              have c6b1 : ((rdOf ByteArray.empty l0 x9_1).toList != ([35] : List UInt8)) = true := bne_iff_ne.mpr c6
              by_cases c7 : x9_1 = (l1.length : Int)
              · rw [if_pos c7] at H
                have c7b0 : (x9_1 == (l1.length : Int)) = true := beq_iff_eq.mpr c7
                have c7b1 : (x9_1 != (l1.length : Int)) = false := bne_eq_false_iff_eq.mpr c7
                clear c7
                obtain rfl := Option.some.inj H
                have p179 : 0 ≤ (x9_1 : Int) := of_decide_eq_true (by first | (with_reducible assumption) | assumption)
                have q179 : x9_1 < (l0.length : Int) := of_decide_eq_true (by first | (with_reducible assumption) | assumption)
                obtain ⟨ad179, e179, hx179_0⟩ := Kd.at_string HR0.out x9_1 p179 q179
                cases e179
                replace p179 := eq_true p179
                replace q179 := eq_true q179
                go_wp2
                go_ret
                exact ⟨by first | rfl | (simp; done) | (simp [*]; done), by repeat (first | exact Drawn0.refl _ | apply Drawn0.step)⟩
              · rw [if_neg c7] at H
                have c7b0 : (x9_1 == (l1.length : Int)) = false := beq_eq_false_iff_ne.mpr c7
                have c7b1 : (x9_1 != (l1.length : Int)) = true := bne_iff_ne.mpr c7
                have HC8 := Aside0.mk H
                clear H
                have p179 : 0 ≤ (x9_1 : Int) := of_decide_eq_true (by first | (with_reducible assumption) | assumption)
                have q179 : x9_1 < (l0.length : Int) := of_decide_eq_true (by first | (with_reducible assumption) | assumption)
                obtain ⟨ad179, e179, hx179_0⟩ := Kd.at_string HR0.out x9_1 p179 q179
                cases e179
                replace p179 := eq_true p179
                replace q179 := eq_true q179
                go_upto_region 8 with (fail)
                go_cut [22] (fun v22 wc => ∃ (kq : Nat) (x22_7 : Bool), v22 = .bool x22_7 ∧ Aside0 (impl_fits.j1 kq l0 l1 x9_1 (rdOf ByteArray.empty l0 x9_1) l0 (l0.length : Int) x9_1 x22_7 = some r) ∧ Aside0 (kq ≤ k1) ∧ Drawn0 w wc)
                case first =>
                  have H := HC8.out
                  clear HC8
                  by_cases c9 : (rdOf ByteArray.empty l0 x9_1).toList = ([43] : List UInt8)
                  · rw [if_pos c9] at H
                    have c9b0 : ((rdOf ByteArray.empty l0 x9_1).toList == ([43] : List UInt8)) = true := beq_iff_eq.mpr c9
                    have c9b1 : ((rdOf ByteArray.empty l0 x9_1).toList != ([43] : List UInt8)) = false := bne_eq_false_iff_eq.mpr c9
                    clear c9
                    (first | rw [c9b0] | (simp only [i64_w, i32_w]; rw [c9b0]) | skip)
                    by_cases c10 : x9_1 < (l1.length : Int)
                    · rw [if_pos c10] at H
                      have c10b0 : decide (x9_1 < (l1.length : Int)) = true := decide_eq_true c10
                      clear c10
                      have H' := Aside0.mk H
                      clear H
                      have p180 : 0 ≤ (x9_1 : Int) := of_decide_eq_true (by first | (with_reducible assumption) | assumption)
                      have q180 : x9_1 < (l1.length : Int) := of_decide_eq_true (by first | (with_reducible assumption) | assumption)
                      obtain ⟨ad180, e180, hx180_0⟩ := Kd.at_string HR1.out x9_1 p180 q180
                      cases e180
                      replace p180 := eq_true p180
                      replace q180 := eq_true q180
                      go_wp2
                      go_meet
                      case rel => exact ⟨_, (((rdOf ByteArray.empty l1 x9_1).toList == ([35] : List UInt8))), (by first | rfl | (simp; done) | (simp [*]; done)), H', ⟨by have := HK1.out; first | omega | exact Nat.le_refl _⟩, by repeat (first | exact Drawn0.refl _ | apply Drawn0.step)⟩
                    · rw [if_neg c10] at H
                      exact absurd H (by simp)
                  · rw [if_neg c9] at H
                    have c9b0 : ((rdOf ByteArray.empty l0 x9_1).toList == ([43] : List UInt8)) = false := beq_eq_false_iff_ne.mpr c9
                    have c9b1 : ((rdOf ByteArray.empty l0 x9_1).toList != ([43] : List UInt8)) = true := bne_iff_ne.mpr c9
                    (first | rw [c9b0] | (simp only [i64_w, i32_w]; rw [c9b0]) | skip)
                    have H' := Aside0.mk H
                    clear H
                    go_wp2
                    go_meet
                    case rel => exact ⟨_, (false), (by first | rfl | (simp; done) | (simp [*]; done)), H', ⟨by have := HK1.out; first | omega | exact Nat.le_refl _⟩, by repeat (first | exact Drawn0.refl _ | apply Drawn0.step)⟩
                case rest =>
                  clear HC8
                  try clear c1
                  try clear p1
                  try clear q1
                  try clear hx1
                  try clear p2
                  try clear c3
                  try clear c3b0
                  try clear c4
                  try clear c4b0
                  try clear c5
                  try clear c5b0
                  try clear c6
                  try clear c6b0
                  try clear c6b1
                  try clear c7
                  try clear c7b0
                  try clear c7b1
                  try clear c9
                  try clear c9b0
                  try clear c9b1
                  try clear c10
                  try clear c10b0
                  try clear hx179_0
                  try clear hx180_0
                  try clear p179
                  try clear p180
                  try clear p2
                  try clear q179
                  try clear q180
                  obtain ⟨kq, x22_7, rfl, HA, HJ7, ⟨mc7, rfl⟩⟩ := hcut
                  cases kq with
                  | zero => exact absurd HA.out (by simp [impl_fits.j1])
                  | succ kj7 =>
                    have H := HA.out
                    clear HA
                    simp only [impl_fits.j1] at H
                    by_cases c11 : x22_7 = true
                    · subst c11
                      have H1 : (some false) = some r := by rw [if_pos rfl] at H; exact H
                      clear H
                      have H := H1
                      clear H1
                      obtain rfl := Option.some.inj H
                      go_wp2
                      go_ret
                      exact ⟨by first | rfl | (simp; done) | (simp [*]; done), by repeat (first | exact Drawn0.refl _ | apply Drawn0.step)⟩
                    · replace c11 := Bool.eq_false_iff.mpr c11
                      subst c11
                      have H1 : (if (rdOf ByteArray.empty l0 x9_1).toList = ([43] : List UInt8) then (impl_fits.l0 kj7 l0 l1 l0 (l0.length : Int) (wrap64 (x9_1 + 1))) else (if 0 ≤ x9_1 then (if x9_1 < (l1.length : Int) then (if (rdOf ByteArray.empty l0 x9_1).toList = (rdOf ByteArray.empty l1 x9_1).toList then (impl_fits.l0 kj7 l0 l1 l0 (l0.length : Int) (wrap64 (x9_1 + 1))) else (some false)) else (none)) else (none))) = some r := by rw [if_neg (show ¬ (false = true) by decide)] at H; exact H
                      clear H
                      have H := H1
                      clear H1
                      by_cases c12 : (rdOf ByteArray.empty l0 x9_1).toList = ([43] : List UInt8)
                      · rw [if_pos c12] at H
                        have c12b0 : ((rdOf ByteArray.empty l0 x9_1).toList == ([43] : List UInt8)) = true := beq_iff_eq.mpr c12
                        have c12b1 : ((rdOf ByteArray.empty l0 x9_1).toList != ([43] : List UInt8)) = false := bne_eq_false_iff_eq.mpr c12
                        clear c12
                        have H' := Aside0.mk H
                        clear H
                        go_wp2
                        go_roundg kj7
                        case measure => have := HK1.out; have := HJ7.out; omega
                        case rel => exact ⟨(wrap64 (x9_1 + 1)), (by first | rfl | (simp; done) | (simp [*]; done)), H', ⟨by have := HK1.out; have := HJ7.out; omega⟩, by repeat (first | exact Drawn0.refl _ | apply Drawn0.step)⟩
                      · rw [if_neg c12] at H
                        have c12b0 : ((rdOf ByteArray.empty l0 x9_1).toList == ([43] : List UInt8)) = false := beq_eq_false_iff_ne.mpr c12
                        have c12b1 : ((rdOf ByteArray.empty l0 x9_1).toList != ([43] : List UInt8)) = true := bne_iff_ne.mpr c12
                        by_cases c13 : 0 ≤ x9_1
                        · rw [if_pos c13] at H
                          have c13b0 : decide (0 ≤ x9_1) = true := decide_eq_true c13
                          clear c13
                          by_cases c14 : x9_1 < (l1.length : Int)
                          · rw [if_pos c14] at H
                            have c14b0 : decide (x9_1 < (l1.length : Int)) = true := decide_eq_true c14
                            clear c14
                            by_cases c15 : (rdOf ByteArray.empty l0 x9_1).toList = (rdOf ByteArray.empty l1 x9_1).toList
                            · rw [if_pos c15] at H
                              have c15b0 : ((rdOf ByteArray.empty l0 x9_1).toList == (rdOf ByteArray.empty l1 x9_1).toList) = true := beq_iff_eq.mpr c15
                              have c15b1 : ((rdOf ByteArray.empty l0 x9_1).toList != (rdOf ByteArray.empty l1 x9_1).toList) = false := bne_eq_false_iff_eq.mpr c15
                              clear c15
                              have H' := Aside0.mk H
                              clear H
                              have p181 : 0 ≤ (x9_1 : Int) := of_decide_eq_true (by first | (with_reducible assumption) | assumption)
                              have q181 : x9_1 < (l1.length : Int) := of_decide_eq_true (by first | (with_reducible assumption) | assumption)
                              obtain ⟨ad181, e181, hx181_0⟩ := Kd.at_string HR1.out x9_1 p181 q181
                              cases e181
                              replace p181 := eq_true p181
                              replace q181 := eq_true q181
                              go_wp2
                              go_roundg kj7
                              case measure => have := HK1.out; have := HJ7.out; omega
                              case rel => exact ⟨(wrap64 (x9_1 + 1)), (by first | rfl | (simp; done) | (simp [*]; done)), H', ⟨by have := HK1.out; have := HJ7.out; omega⟩, by repeat (first | exact Drawn0.refl _ | apply Drawn0.step)⟩
                            · rw [if_neg c15] at H
                              have c15b0 : ((rdOf ByteArray.empty l0 x9_1).toList == (rdOf ByteArray.empty l1 x9_1).toList) = false := beq_eq_false_iff_ne.mpr c15
                              have c15b1 : ((rdOf ByteArray.empty l0 x9_1).toList != (rdOf ByteArray.empty l1 x9_1).toList) = true := bne_iff_ne.mpr c15
                              obtain rfl := Option.some.inj H
                              have p181 : 0 ≤ (x9_1 : Int) := of_decide_eq_true (by first | (with_reducible assumption) | assumption)
                              have q181 : x9_1 < (l1.length : Int) := of_decide_eq_true (by first | (with_reducible assumption) | assumption)
                              obtain ⟨ad181, e181, hx181_0⟩ := Kd.at_string HR1.out x9_1 p181 q181
                              cases e181
                              replace p181 := eq_true p181
                              replace q181 := eq_true q181
                              go_wp2
                              go_ret
                              exact ⟨by first | rfl | (simp; done) | (simp [*]; done), by repeat (first | exact Drawn0.refl _ | apply Drawn0.step)⟩
                          · rw [if_neg c14] at H
                            exact absurd H (by simp)
                        · rw [if_neg c13] at H
                          exact absurd H (by simp)
          · rw [if_neg c5] at H
            exact absurd H (by simp)
        · rw [if_neg c4] at H
          exact absurd H (by simp)
      · rw [if_neg c3] at H
        have c3b0 : decide (x9_1 < (l0.length : Int)) = false := decide_eq_false c3
        clear c3
        obtain rfl := Option.some.inj H
        go_wp2
        go_ret
        exact ⟨by first | rfl | (simp; done) | (simp [*]; done), by repeat (first | exact Drawn0.refl _ | apply Drawn0.step)⟩

end Go.Proofs.YtfakbjogocegiaaDoor.P
