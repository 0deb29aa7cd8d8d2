-- Printed by a program over the kit's print.py (mp.sh), several laws in one namespace.
import Derived.Test.YtemehnmbmajnfaaDoorPx0
import Derived.Test.YtemehnmbmajnfaaDoorS
import Derived.Test.YtemehnmbmajnfaaDoorPx12
import Derived.Test.YtemehnmbmajnfaaDoorX12
import Derived.Test.YtemehnmbmajnfaaDoorX5
namespace Go.Proofs.YtemehnmbmajnfaaDoor.P
open Go.RowKit Go.Proofs.YtemehnmbmajnfaaDoor.X Go.Proofs.YtemehnmbmajnfaaDoorW.PrintWords Go.Proofs.YtemehnmbmajnfaaDoorW.PrintLast Go.Proofs.YtemehnmbmajnfaaDoorW.PrintMore
attribute [local go_sem] max2_int min2_int max_two min_two max_three min_three max_four min_four   -- for this text's walks alone
set_option linter.unusedVariables false
set_option linter.unusedSimpArgs false

/-! ### impl_levelOk: function 57 -/
def impl_levelOk.f (a0 : ByteArray) (a1 : Bool) : Option (Bool) := (strings_ContainsAny.f a0 (⟨#[43, 35]⟩ : ByteArray)).bind fun t197 => (if t197 = true then (if a0.toList = ([43] : List UInt8) then (some true) else (if a0.toList = ([35] : List UInt8) then (some a1) else (some false))) else (some true))
theorem impl_levelOk_z1 {p : Prop} (h : p := by
  go_enter Tryd.func57, Tryd.ntmps57
  go_wp2_with (first | ((with_reducible refine gate_callee (f := 72) rfl ?_); refine goesL_ (some 6) rfl rfl Tryd.func72 (by kernel_rfl) rfl #[.string a0, .string (⟨#[43, 35]⟩ : ByteArray)] rfl ar_ ?_; (with_reducible refine (strings_ContainsAny.calls a0 (⟨#[43, 35]⟩ : ByteArray) true _ Az2.out).mono ?_); rintro e wz1 ⟨rfl, hb⟩; refine ⟨_, rfl, ?_⟩; have nz1 := Aside0.mk (below_step be_ hb); clear HB; have HB := nz1; clear nz1; (try clear hb); (try clear hb2); (try clear hk); (try clear hi)))
  go_ret
  exact ⟨by first | rfl | (simp [errW_none, errW_some] <;> rfl) | (simp [*, errW_none, errW_some] <;> rfl), be_⟩) : p := h
theorem impl_levelOk_z0 {p : Prop} (h : p := by
  obtain rfl := Option.some.inj H
  exact impl_levelOk_z1) : p := h
set_option maxHeartbeats 8000000 in
set_option maxRecDepth 100000 in
theorem impl_levelOk.calls (a0 : ByteArray) (a1 : Bool) (r : Bool) (w : World) (h : impl_levelOk.f a0 a1 = some r) :
    Calls Tryd.prog 57 #[.string a0, .bool a1] w fun e w' => e = .returned (.bool r) ∧ Below w.heap.size w w' := by
  have HB := Aside0.mk (Below.refl w.heap.size w)
  have H : ((strings_ContainsAny.f a0 (⟨#[43, 35]⟩ : ByteArray)).bind fun t197 => (if t197 = true then (if a0.toList = ([43] : List UInt8) then (some true) else (if a0.toList = ([35] : List UInt8) then (some a1) else (some false))) else (some true))) = some r := h
  clear h
  replace H := Option.bind_eq_some_iff.mp H
  obtain ⟨tz1, Az1, H⟩ := H
  replace H : (if tz1 = true then (if a0.toList = ([43] : List UInt8) then (some true) else (if a0.toList = ([35] : List UInt8) then (some a1) else (some false))) else (some true)) = some r := H
  have Az2 := Aside0.mk Az1
  clear Az1
  by_cases cz1 : tz1 = true
  rotate_left
  · replace cz1 := Bool.eq_false_iff.mpr cz1
    subst cz1
    have Hz1 : (some true) = some r := by rw [if_neg (show ¬ (false = true) by decide)] at H; exact H
    clear H
    have H := Hz1
    clear Hz1
    obtain rfl := Option.some.inj H
    go_enter Tryd.func57, Tryd.ntmps57
    go_wp2_with (first | ((with_reducible refine gate_callee (f := 72) rfl ?_); refine goesL_ (some 6) rfl rfl Tryd.func72 (by kernel_rfl) rfl #[.string a0, .string (⟨#[43, 35]⟩ : ByteArray)] rfl ar_ ?_; (with_reducible refine (strings_ContainsAny.calls a0 (⟨#[43, 35]⟩ : ByteArray) false _ Az2.out).mono ?_); rintro e wz1 ⟨rfl, hb⟩; refine ⟨_, rfl, ?_⟩; have nz1 := Aside0.mk (below_step be_ hb); clear HB; have HB := nz1; clear nz1; (try clear hb); (try clear hb2); (try clear hk); (try clear hi)))
    go_ret
    exact ⟨by first | rfl | (simp [errW_none, errW_some] <;> rfl) | (simp [*, errW_none, errW_some] <;> rfl), be_⟩
  subst cz1
  have Hz1 : (if a0.toList = ([43] : List UInt8) then (some true) else (if a0.toList = ([35] : List UInt8) then (some a1) else (some false))) = some r := by rw [if_pos rfl] at H; exact H
  clear H
  have H := Hz1
  clear Hz1
  by_cases cz2 : a0.toList = ([43] : List UInt8)
  · rw [if_pos cz2] at H
    have c5b0 : (a0.toList == ([43] : List UInt8)) = true := beq_iff_eq.mpr cz2
    have c5b1 : (a0.toList != ([43] : List UInt8)) = false := bne_eq_false_iff_eq.mpr cz2
    clear cz2
    exact impl_levelOk_z0
  rw [if_neg cz2] at H
  have c5b0 : (a0.toList == ([43] : List UInt8)) = false := beq_eq_false_iff_ne.mpr cz2
  have c5b1 : (a0.toList != ([43] : List UInt8)) = true := bne_iff_ne.mpr cz2
  by_cases cz3 : a0.toList = ([35] : List UInt8)
  rotate_left
  · rw [if_neg cz3] at H
    have c7b0 : (a0.toList == ([35] : List UInt8)) = false := beq_eq_false_iff_ne.mpr cz3
    have c7b1 : (a0.toList != ([35] : List UInt8)) = true := bne_iff_ne.mpr cz3
    exact impl_levelOk_z0
  rw [if_pos cz3] at H
  have c7b0 : (a0.toList == ([35] : List UInt8)) = true := beq_iff_eq.mpr cz3
  have c7b1 : (a0.toList != ([35] : List UInt8)) = false := bne_eq_false_iff_eq.mpr cz3
  clear cz3
  exact impl_levelOk_z0

/-! ### impl_FilterOk: function 54 -/
def impl_FilterOk.l0 : Nat → ByteArray → List ByteArray → List ByteArray → Int → Int → Option (Bool)
  | 0, _, _, _, _, _ => none
  | k + 1, x0, x3, x8, x9, x10 => if x10 < x9 then (if 0 ≤ x10 then (if x10 < (x8.length : Int) then ((impl_levelOk.f (rdOf ByteArray.empty x8 x10) (x10 == (wrap64 ((x3.length : Int) - 1)))).bind fun t202 => (if t202 = true then (impl_FilterOk.l0 k x0 x3 x8 x9 (wrap64 (x10 + 1))) else (some false))) else (none)) else (none)) else ((impl_TextOk.f x0).bind fun t203 => (if t203 = true then (if x0.toList = ([] : List UInt8) then (some false) else (some (decide ((x3.length : Int) ≤ 6)))) else (some false)))
def impl_FilterOk.f (k : Nat) (a0 : ByteArray) : Option (Bool) := (impl_Levels.f a0).bind fun t198 => (impl_FilterOk.l0 k a0 t198 t198 (t198.length : Int) 0)
theorem impl_FilterOk.mono_l : ∀ k, (∀ y0 y1 y2 y3 y4, LeO (impl_FilterOk.l0 k y0 y1 y2 y3 y4) (impl_FilterOk.l0 (k + 1) y0 y1 y2 y3 y4))
  | 0 => fun _ _ _ _ _ r h => by simp [impl_FilterOk.l0] at h
  | k + 1 => by
    have ih0 := impl_FilterOk.mono_l k
    · intro y0 y1 y2 y3 y4
      unfold impl_FilterOk.l0
      repeat' first
      | (with_reducible exact ih0 _ _ _ _ _)
      | (with_reducible exact LeO.refl _)
      | (with_reducible exact LeO.none _)
      | (with_reducible refine LeO.ite ?_ ?_)
      | (with_reducible refine LeO.bind ?_ (fun _ => ?_))
      | exact ih0 _ _ _ _ _
      | exact LeO.none _
      | refine LeO.ite ?_ ?_
      | refine LeO.bind ?_ (fun _ => ?_)
theorem impl_FilterOk.mono : ∀ a0 k, LeO (impl_FilterOk.f k a0) (impl_FilterOk.f (k + 1) a0) := by
  intro a0 k
  have ih0 := impl_FilterOk.mono_l k
  unfold impl_FilterOk.f
  repeat' first
      | (with_reducible exact ih0 _ _ _ _ _)
      | (with_reducible exact LeO.refl _)
      | (with_reducible exact LeO.none _)
      | (with_reducible refine LeO.ite ?_ ?_)
      | (with_reducible refine LeO.bind ?_ (fun _ => ?_))
      | exact ih0 _ _ _ _ _
      | exact LeO.none _
      | refine LeO.ite ?_ ?_
      | refine LeO.bind ?_ (fun _ => ?_)
theorem impl_FilterOk_z1 {p : Prop} (h : p := by
  go_wp2_with (first | ((with_reducible refine gate_callee (f := 69) rfl ?_); refine goesL_ (some 25) rfl rfl Tryd.func69 (by kernel_rfl) rfl #[.string a0] rfl ar_ ?_; (with_reducible refine (impl_TextOk.calls a0 true _ ?side1 Az4.out).mono ?_); (case side1 => exact Tabs.below HT.out be_); rintro e wz2 ⟨rfl, hb⟩; refine ⟨_, rfl, ?_⟩; have nz1 := Aside0.mk (Kd.R_below (by (with_reducible repeat (first | apply Kd.R_alloc | apply Kd.R_drewN | apply Kd.R_drew)); exact HO_3.out) hb); have nz2 := Aside0.mk (Kd.R_below (by (with_reducible repeat (first | apply Kd.R_alloc | apply Kd.R_drewN | apply Kd.R_drew)); exact HO_8.out) hb); have nz3 := Aside0.mk (below_step be_ hb); clear HO_3; clear HO_8; clear HB; have HO_3 := nz1; have HO_8 := nz2; have HB := nz3; clear nz1 nz2 nz3; (try clear hb); (try clear hb2); (try clear hk); (try clear hi)))
  go_ret
  exact ⟨by first | rfl | (simp [errW_none, errW_some] <;> rfl) | (simp [*, errW_none, errW_some] <;> rfl), be_⟩) : p := h
theorem impl_FilterOk_z0 {p : Prop} (h : p := by
  obtain rfl := Option.some.inj H
  exact impl_FilterOk_z1) : p := h
set_option maxHeartbeats 8000000 in
set_option maxRecDepth 100000 in
theorem impl_FilterOk.calls (k : Nat) (a0 : ByteArray) (r : Bool) (w : World) (hT : Tabs w) (h : impl_FilterOk.f k a0 = some r) :
    Calls Tryd.prog 54 #[.string a0] w fun e w' => e = .returned (.bool r) ∧ Below w.heap.size w w' := by
  have HT := Aside0.mk hT
  clear hT
  have HB := Aside0.mk (Below.refl w.heap.size w)
  have H : ((impl_Levels.f a0).bind fun t198 => (impl_FilterOk.l0 k a0 t198 t198 (t198.length : Int) 0)) = some r := h
  clear h
  replace H := Option.bind_eq_some_iff.mp H
  obtain ⟨tz1, Az1, H⟩ := H
  replace H : (impl_FilterOk.l0 k a0 tz1 tz1 (tz1.length : Int) 0) = some r := H
  have Az2 := Aside0.mk Az1
  clear Az1
  have H' := Aside0.mk H
  clear H
  go_enter Tryd.func54, Tryd.ntmps54
  go_wp2_with (first | ((with_reducible refine gate_callee (f := 56) rfl ?_); refine goesL_ (some 7) rfl rfl Tryd.func56 (by kernel_rfl) rfl #[.string a0] rfl ar_ ?_; (with_reducible refine (impl_Levels.calls a0 tz1 _ ?side1 Az2.out).mono ?_); (case side1 => exact Tabs.below HT.out be_); rintro e wz1 ⟨vz1, rfl, hoz1, hb⟩; refine ⟨_, rfl, ?_⟩; have nz1 := Aside0.mk (Kd.R_lower hoz1 (below_size be_)); have nz2 := Aside0.mk (below_step be_ hb); clear HB; have HOz1 := nz1; have HB := nz2; clear nz1 nz2; (try clear hb); (try clear hb2); (try clear hk); (try clear hi); (try clear hoz1); obtain ⟨Aoz1, coz1, eoz1⟩ := Kd.R_slice HOz1.out; subst eoz1))
  go_loopg [10] k (fun kq v10 w' => ∃ (x10_1 : Int), v10 = .int .i64 x10_1 ∧ Aside0 (impl_FilterOk.l0 kq a0 tz1 tz1 (tz1.length : Int) x10_1 = some r) ∧ Aside0 (kq ≤ k) ∧ Aside0 (Kd.R Kd.string 9 w' w.heap.size (fun _ => True) (.slice Aoz1 tz1.length coz1) tz1) ∧ Aside0 (Kd.R Kd.string 9 w' w.heap.size (fun _ => True) (.slice Aoz1 tz1.length coz1) tz1) ∧ Aside0 (Below w.heap.size w w'))
  case atStart => exact ⟨(0), (by first | rfl | (simp; done) | (simp [*]; done)), H', ⟨Nat.le_refl _⟩, ⟨by (with_reducible repeat (first | apply Kd.R_alloc | apply Kd.R_drewN | apply Kd.R_drew)); exact HOz1.out⟩, ⟨by (with_reducible repeat (first | apply Kd.R_alloc | apply Kd.R_drewN | apply Kd.R_drew)); exact HOz1.out⟩, ⟨be_⟩⟩
  case round =>
    clear H'
    try clear p2
    obtain ⟨xz1, rfl, HA, HKz1, HO_3, HO_8, HB⟩ := hrel
    cases gk with
    | zero => exact absurd HA.out (by simp [impl_FilterOk.l0])
    | succ kz1 =>
      have H := HA.out
      clear HA
      simp only [impl_FilterOk.l0] at H
      by_cases cz1 : xz1 < (tz1.length : Int)
      · rw [if_pos cz1] at H
        have c5b0 : decide (xz1 < (tz1.length : Int)) = true := decide_eq_true cz1
        clear cz1
        by_cases cz2 : 0 ≤ xz1
        rotate_left
        · rw [if_neg cz2] at H
          exact absurd H (by simp)
        rw [if_pos cz2] at H
        have c6b0 : decide (0 ≤ xz1) = true := decide_eq_true cz2
        clear cz2
        by_cases cz3 : xz1 < (tz1.length : Int)
        rotate_left
        · rw [if_neg cz3] at H
          exact absurd H (by simp)
        rw [if_pos cz3] at H
        have c7b0 : decide (xz1 < (tz1.length : Int)) = true := decide_eq_true cz3
        clear cz3
        replace H := Option.bind_eq_some_iff.mp H
        obtain ⟨tz2, Az3, H⟩ := H
        replace H : (if tz2 = true then (impl_FilterOk.l0 kz1 a0 tz1 tz1 (tz1.length : Int) (wrap64 (xz1 + 1))) else (some false)) = some r := H
        have Az4 := Aside0.mk Az3
        clear Az3
        by_cases cz4 : tz2 = true
        rotate_left
        · replace cz4 := Bool.eq_false_iff.mpr cz4
          subst cz4
          have Hz1 : (some false) = some r := by rw [if_neg (show ¬ (false = true) by decide)] at H; exact H
          clear H
          have H := Hz1
          clear Hz1
          obtain rfl := Option.some.inj H
          have pz1 : 0 ≤ (xz1 : Int) := of_decide_eq_true as_
          have qz1 : xz1 < (tz1.length : Int) := of_decide_eq_true as_
          obtain ⟨adz1, ez1, hxz1⟩ := Kd.at_string (Kd.R_reads' HO_8.out).2.2 xz1 pz1 qz1
          cases ez1
          replace pz1 := eq_true pz1
          replace qz1 := eq_true qz1
          go_wp2_with (first | ((with_reducible refine gate_callee (f := 57) rfl ?_); refine goesL_ (some 21) rfl rfl Tryd.func57 (by kernel_rfl) rfl #[.string (rdOf ByteArray.empty tz1 xz1), .bool (xz1 == (wrap64 ((tz1.length : Int) - 1)))] rfl ar_ ?_; (with_reducible refine (impl_levelOk.calls (rdOf ByteArray.empty tz1 xz1) (xz1 == (wrap64 ((tz1.length : Int) - 1))) false _ Az4.out).mono ?_); rintro e wz2 ⟨rfl, hb⟩; refine ⟨_, rfl, ?_⟩; have nz1 := Aside0.mk (Kd.R_below (by (with_reducible repeat (first | apply Kd.R_alloc | apply Kd.R_drewN | apply Kd.R_drew)); exact HO_3.out) hb); have nz2 := Aside0.mk (Kd.R_below (by (with_reducible repeat (first | apply Kd.R_alloc | apply Kd.R_drewN | apply Kd.R_drew)); exact HO_8.out) hb); have nz3 := Aside0.mk (below_step be_ hb); clear HO_3; clear HO_8; clear HB; have HO_3 := nz1; have HO_8 := nz2; have HB := nz3; clear nz1 nz2 nz3; (try clear hb); (try clear hb2); (try clear hk); (try clear hi)))
          go_ret
          exact ⟨by first | rfl | (simp [errW_none, errW_some] <;> rfl) | (simp [*, errW_none, errW_some] <;> rfl), be_⟩
        subst cz4
        have Hz1 : (impl_FilterOk.l0 kz1 a0 tz1 tz1 (tz1.length : Int) (wrap64 (xz1 + 1))) = some r := by rw [if_pos rfl] at H; exact H
        clear H
        have H := Hz1
        clear Hz1
        have H' := Aside0.mk H
        clear H
        have pz1 : 0 ≤ (xz1 : Int) := of_decide_eq_true as_
        have qz1 : xz1 < (tz1.length : Int) := of_decide_eq_true as_
        obtain ⟨adz1, ez1, hxz1⟩ := Kd.at_string (Kd.R_reads' HO_8.out).2.2 xz1 pz1 qz1
        cases ez1
        replace pz1 := eq_true pz1
        replace qz1 := eq_true qz1
        go_wp2_with (first | ((with_reducible refine gate_callee (f := 57) rfl ?_); refine goesL_ (some 21) rfl rfl Tryd.func57 (by kernel_rfl) rfl #[.string (rdOf ByteArray.empty tz1 xz1), .bool (xz1 == (wrap64 ((tz1.length : Int) - 1)))] rfl ar_ ?_; (with_reducible refine (impl_levelOk.calls (rdOf ByteArray.empty tz1 xz1) (xz1 == (wrap64 ((tz1.length : Int) - 1))) true _ Az4.out).mono ?_); rintro e wz2 ⟨rfl, hb⟩; refine ⟨_, rfl, ?_⟩; have nz1 := Aside0.mk (Kd.R_below (by (with_reducible repeat (first | apply Kd.R_alloc | apply Kd.R_drewN | apply Kd.R_drew)); exact HO_3.out) hb); have nz2 := Aside0.mk (Kd.R_below (by (with_reducible repeat (first | apply Kd.R_alloc | apply Kd.R_drewN | apply Kd.R_drew)); exact HO_8.out) hb); have nz3 := Aside0.mk (below_step be_ hb); clear HO_3; clear HO_8; clear HB; have HO_3 := nz1; have HO_8 := nz2; have HB := nz3; clear nz1 nz2 nz3; (try clear hb); (try clear hb2); (try clear hk); (try clear hi)))
        go_roundg kz1
        case measure => have := HKz1.out; omega
        case rel => exact ⟨(wrap64 (xz1 + 1)), (by first | rfl | (simp; done) | (simp [*]; done)), H', ⟨by have := HKz1.out; omega⟩, ⟨by (with_reducible repeat (first | apply Kd.R_alloc | apply Kd.R_drewN | apply Kd.R_drew)); exact HO_3.out⟩, ⟨by (with_reducible repeat (first | apply Kd.R_alloc | apply Kd.R_drewN | apply Kd.R_drew)); exact HO_8.out⟩, ⟨be_⟩⟩
      rw [if_neg cz1] at H
      have c5b0 : decide (xz1 < (tz1.length : Int)) = false := decide_eq_false cz1
      clear cz1
      replace H := Option.bind_eq_some_iff.mp H
      obtain ⟨tz2, Az3, H⟩ := H
      replace H : (if tz2 = true then (if a0.toList = ([] : List UInt8) then (some false) else (some (decide ((tz1.length : Int) ≤ 6)))) else (some false)) = some r := H
      have Az4 := Aside0.mk Az3
      clear Az3
      by_cases cz2 : tz2 = true
      rotate_left
      · replace cz2 := Bool.eq_false_iff.mpr cz2
        subst cz2
        have Hz1 : (some false) = some r := by rw [if_neg (show ¬ (false = true) by decide)] at H; exact H
        clear H
        have H := Hz1
        clear Hz1
        obtain rfl := Option.some.inj H
        go_wp2_with (first | ((with_reducible refine gate_callee (f := 69) rfl ?_); refine goesL_ (some 25) rfl rfl Tryd.func69 (by kernel_rfl) rfl #[.string a0] rfl ar_ ?_; (with_reducible refine (impl_TextOk.calls a0 false _ ?side1 Az4.out).mono ?_); (case side1 => exact Tabs.below HT.out be_); rintro e wz2 ⟨rfl, hb⟩; refine ⟨_, rfl, ?_⟩; have nz1 := Aside0.mk (Kd.R_below (by (with_reducible repeat (first | apply Kd.R_alloc | apply Kd.R_drewN | apply Kd.R_drew)); exact HO_3.out) hb); have nz2 := Aside0.mk (Kd.R_below (by (with_reducible repeat (first | apply Kd.R_alloc | apply Kd.R_drewN | apply Kd.R_drew)); exact HO_8.out) hb); have nz3 := Aside0.mk (below_step be_ hb); clear HO_3; clear HO_8; clear HB; have HO_3 := nz1; have HO_8 := nz2; have HB := nz3; clear nz1 nz2 nz3; (try clear hb); (try clear hb2); (try clear hk); (try clear hi)))
        go_ret
        exact ⟨by first | rfl | (simp [errW_none, errW_some] <;> rfl) | (simp [*, errW_none, errW_some] <;> rfl), be_⟩
      subst cz2
      have Hz1 : (if a0.toList = ([] : List UInt8) then (some false) else (some (decide ((tz1.length : Int) ≤ 6)))) = some r := by rw [if_pos rfl] at H; exact H
      clear H
      have H := Hz1
      clear Hz1
      by_cases cz3 : a0.toList = ([] : List UInt8)
      rotate_left
      · rw [if_neg cz3] at H
        have c14b0 : (a0.toList == ([] : List UInt8)) = false := beq_eq_false_iff_ne.mpr cz3
        have c14b1 : (a0.toList != ([] : List UInt8)) = true := bne_iff_ne.mpr cz3
        exact impl_FilterOk_z0
      rw [if_pos cz3] at H
      have c14b0 : (a0.toList == ([] : List UInt8)) = true := beq_iff_eq.mpr cz3
      have c14b1 : (a0.toList != ([] : List UInt8)) = false := bne_eq_false_iff_eq.mpr cz3
      clear cz3
      exact impl_FilterOk_z0

end Go.Proofs.YtemehnmbmajnfaaDoor.P
