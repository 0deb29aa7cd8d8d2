-- Printed by a program over the kit's print.py (mp.sh), several laws in one namespace.
import Derived.Test.YtemehnmbmajnfaaDoorPx0
import Derived.Test.YtemehnmbmajnfaaDoorS
import Derived.Test.YtemehnmbmajnfaaDoorPx4
namespace Go.Proofs.YtemehnmbmajnfaaDoor.P
open Go.RowKit Go.Proofs.YtemehnmbmajnfaaDoor.X Go.Proofs.YtemehnmbmajnfaaDoorW.PrintWords Go.Proofs.YtemehnmbmajnfaaDoorW.PrintLast Go.Proofs.YtemehnmbmajnfaaDoorW.PrintMore
attribute [local go_sem] max2_int min2_int max_two min_two max_three min_three max_four min_four   -- for this text's walks alone
set_option linter.unusedVariables false
set_option linter.unusedSimpArgs false

/-! ### spec_FilterOk: function 51 -/
def spec_FilterOk.l0 : Nat → ByteArray → List ByteArray → Int → Option (Bool)
  | 0, _, _, _ => none
  | k + 1, x0, x3, x4 => if x4 < (x3.length : Int) then (if 0 ≤ x4 then ((spec_l3Has.f k (rdOf ByteArray.empty x3 x4) 43).bind fun t126 => (if t126 = true then (if (rdOf ByteArray.empty x3 x4).toList = ([43] : List UInt8) then ((spec_l3Has.f k (rdOf ByteArray.empty x3 x4) 35).bind fun t129 => (if t129 = true then (if (rdOf ByteArray.empty x3 x4).toList = ([35] : List UInt8) then (if x4 < (wrap64 ((x3.length : Int) - 1)) then (some false) else (spec_FilterOk.l0 k x0 x3 (wrap64 (x4 + 1)))) else (some false)) else (spec_FilterOk.l0 k x0 x3 (wrap64 (x4 + 1))))) else (some false)) else ((spec_l3Has.f k (rdOf ByteArray.empty x3 x4) 35).bind fun t132 => (if t132 = true then (if (rdOf ByteArray.empty x3 x4).toList = ([35] : List UInt8) then (if x4 < (wrap64 ((x3.length : Int) - 1)) then (some false) else (spec_FilterOk.l0 k x0 x3 (wrap64 (x4 + 1)))) else (some false)) else (spec_FilterOk.l0 k x0 x3 (wrap64 (x4 + 1))))))) else (none)) else ((spec_TextOk.f k x0).bind fun t124 => (if t124 = true then (if x0.toList = ([] : List UInt8) then (some false) else (some (decide ((x3.length : Int) ≤ 6)))) else (some false)))
def spec_FilterOk.f (k : Nat) (a0 : ByteArray) : Option (Bool) := (spec_Levels.f k a0).bind fun t121 => (spec_FilterOk.l0 k a0 t121 0)
theorem spec_FilterOk.mono_l : ∀ k, (∀ y0 y1 y2, LeO (spec_FilterOk.l0 k y0 y1 y2) (spec_FilterOk.l0 (k + 1) y0 y1 y2))
  | 0 => fun _ _ _ r h => by simp [spec_FilterOk.l0] at h
  | k + 1 => by
    have ih0 := spec_FilterOk.mono_l k
    · intro y0 y1 y2
      unfold spec_FilterOk.l0
      repeat' first
      | (with_reducible exact ih0 _ _ _)
      | (with_reducible exact spec_Levels.mono _ _)
      | (with_reducible exact spec_TextOk.mono _ _)
      | (with_reducible exact spec_l3Has.mono _ _ _)
      | (with_reducible exact LeO.refl _)
      | (with_reducible exact LeO.none _)
      | (with_reducible refine LeO.ite ?_ ?_)
      | (with_reducible refine LeO.bind ?_ (fun _ => ?_))
      | exact ih0 _ _ _
      | exact spec_Levels.mono _ _
      | exact spec_TextOk.mono _ _
      | exact spec_l3Has.mono _ _ _
      | exact LeO.none _
      | refine LeO.ite ?_ ?_
      | refine LeO.bind ?_ (fun _ => ?_)
theorem spec_FilterOk.mono : ∀ a0 k, LeO (spec_FilterOk.f k a0) (spec_FilterOk.f (k + 1) a0) := by
  intro a0 k
  have ih0 := spec_FilterOk.mono_l k
  unfold spec_FilterOk.f
  repeat' first
      | (with_reducible exact ih0 _ _ _)
      | (with_reducible exact spec_Levels.mono _ _)
      | (with_reducible exact spec_TextOk.mono _ _)
      | (with_reducible exact spec_l3Has.mono _ _ _)
      | (with_reducible exact LeO.refl _)
      | (with_reducible exact LeO.none _)
      | (with_reducible refine LeO.ite ?_ ?_)
      | (with_reducible refine LeO.bind ?_ (fun _ => ?_))
      | exact ih0 _ _ _
      | exact spec_Levels.mono _ _
      | exact spec_TextOk.mono _ _
      | exact spec_l3Has.mono _ _ _
      | exact LeO.none _
      | refine LeO.ite ?_ ?_
      | refine LeO.bind ?_ (fun _ => ?_)
theorem spec_FilterOk_z3 {p : Prop} (h : p := by
  go_wp2_with (first | ((with_reducible refine gate_callee (f := 65) rfl ?_); refine goesL_ (some 47) rfl rfl Tryd.func65 (by kernel_rfl) rfl #[.string a0] rfl ar_ ?_; (with_reducible refine (spec_TextOk.calls kz1 a0 true _ Az4.out).mono ?_); rintro e wz2 ⟨rfl, hb⟩; refine ⟨_, rfl, ?_⟩; have nz1 := Aside0.mk (Kd.R_below (by (with_reducible repeat (first | apply Kd.R_alloc | apply Kd.R_drewN | apply Kd.R_drew)); exact HO_3.out) hb); have nz2 := Aside0.mk (below_step be_ hb); clear HO_3; clear HB; have HO_3 := nz1; have HB := nz2; clear nz1 nz2; (try clear hb); (try clear hb2); (try clear hk); (try clear hi)))
  go_ret
  exact ⟨by first | rfl | (simp [errW_none, errW_some] <;> rfl) | (simp [*, errW_none, errW_some] <;> rfl), be_⟩) : p := h
theorem spec_FilterOk_z2 {p : Prop} (h : p := by
  subst eoz1
  exact spec_FilterOk_z3) : p := h
theorem spec_FilterOk_z1 {p : Prop} (h : p := by
  obtain ⟨Aoz1, coz1, eoz1⟩ := Kd.R_slice HO_3.out
  exact spec_FilterOk_z2) : p := h
theorem spec_FilterOk_z0 {p : Prop} (h : p := by
  obtain rfl := Option.some.inj H
  exact spec_FilterOk_z1) : p := h
theorem spec_FilterOk_z13 {p : Prop} (h : p := by
  go_wp2_with (first | ((with_reducible refine gate_callee (f := 66) rfl ?_); refine goesL_ (some 17) rfl rfl Tryd.func66 (by kernel_rfl) rfl #[.string (rdOf ByteArray.empty tz1 xz1), .int .u8 43] rfl ar_ ?_; (with_reducible refine (spec_l3Has.calls kz1 (rdOf ByteArray.empty tz1 xz1) 43 false _ Az4.out).mono ?_); rintro e w' ⟨rfl, ⟨nd, rfl⟩⟩; refine ⟨_, rfl, ?_⟩; have pz2 : 0 ≤ (xz1 : Int) := of_decide_eq_true as_; have qz2 : xz1 < (tz1.length : Int) := of_decide_eq_true as_; obtain ⟨adz2, ez2, hxz2⟩ := Kd.at_string (Kd.R_reads' HO_3.out).2.2 xz1 pz2 qz2; obtain rfl : adz1 = adz2 := (by injection ez2); replace pz2 := eq_true pz2; replace qz2 := eq_true qz2) | (go_at_call 66; (with_reducible refine (spec_l3Has.calls kz1 (rdOf ByteArray.empty tz1 xz1) 35 true _ Az6.out).mono ?_); rintro e w' ⟨rfl, ⟨nd, rfl⟩⟩; have pz3 : 0 ≤ (xz1 : Int) := of_decide_eq_true as_; have qz3 : xz1 < (tz1.length : Int) := of_decide_eq_true as_; obtain ⟨adz3, ez3, hxz3⟩ := Kd.at_string (Kd.R_reads' HO_3.out).2.2 xz1 pz3 qz3; obtain rfl : adz1 = adz3 := (by injection ez3); replace pz3 := eq_true pz3; replace qz3 := eq_true qz3))
  go_ret
  exact ⟨by first | rfl | (simp [errW_none, errW_some] <;> rfl) | (simp [*, errW_none, errW_some] <;> rfl), be_⟩) : p := h
theorem spec_FilterOk_z12 {p : Prop} (h : p := by
  replace qz1 := eq_true qz1
  exact spec_FilterOk_z13) : p := h
theorem spec_FilterOk_z11 {p : Prop} (h : p := by
  replace pz1 := eq_true pz1
  exact spec_FilterOk_z12) : p := h
theorem spec_FilterOk_z10 {p : Prop} (h : p := by
  cases ez1
  exact spec_FilterOk_z11) : p := h
theorem spec_FilterOk_z9 {p : Prop} (h : p := by
  obtain ⟨adz1, ez1, hxz1⟩ := Kd.at_string (Kd.R_reads' HO_3.out).2.2 xz1 pz1 qz1
  exact spec_FilterOk_z10) : p := h
theorem spec_FilterOk_z8 {p : Prop} (h : p := by
  have qz1 : xz1 < (tz1.length : Int) := of_decide_eq_true as_
  exact spec_FilterOk_z9) : p := h
theorem spec_FilterOk_z7 {p : Prop} (h : p := by
  have pz1 : 0 ≤ (xz1 : Int) := of_decide_eq_true as_
  exact spec_FilterOk_z8) : p := h
theorem spec_FilterOk_z6 {p : Prop} (h : p := by
  subst eoz1
  exact spec_FilterOk_z7) : p := h
theorem spec_FilterOk_z5 {p : Prop} (h : p := by
  obtain ⟨Aoz1, coz1, eoz1⟩ := Kd.R_slice HO_3.out
  exact spec_FilterOk_z6) : p := h
theorem spec_FilterOk_z4 {p : Prop} (h : p := by
  obtain rfl := Option.some.inj H
  exact spec_FilterOk_z5) : p := h
theorem spec_FilterOk_z23 {p : Prop} (h : p := by
  go_wp2_with (first | ((with_reducible refine gate_callee (f := 66) rfl ?_); refine goesL_ (some 17) rfl rfl Tryd.func66 (by kernel_rfl) rfl #[.string (rdOf ByteArray.empty tz1 xz1), .int .u8 43] rfl ar_ ?_; (with_reducible refine (spec_l3Has.calls kz1 (rdOf ByteArray.empty tz1 xz1) 43 true _ Az4.out).mono ?_); rintro e w' ⟨rfl, ⟨nd, rfl⟩⟩; refine ⟨_, rfl, ?_⟩; have pz2 : 0 ≤ (xz1 : Int) := of_decide_eq_true as_; have qz2 : xz1 < (tz1.length : Int) := of_decide_eq_true as_; obtain ⟨adz2, ez2, hxz2⟩ := Kd.at_string (Kd.R_reads' HO_3.out).2.2 xz1 pz2 qz2; obtain rfl : adz1 = adz2 := (by injection ez2); replace pz2 := eq_true pz2; replace qz2 := eq_true qz2; have pz3 : 0 ≤ (xz1 : Int) := of_decide_eq_true as_; have qz3 : xz1 < (tz1.length : Int) := of_decide_eq_true as_; obtain ⟨adz3, ez3, hxz3⟩ := Kd.at_string (Kd.R_reads' HO_3.out).2.2 xz1 pz3 qz3; obtain rfl : adz1 = adz3 := (by injection ez3); replace pz3 := eq_true pz3; replace qz3 := eq_true qz3) | (go_at_call 66; (with_reducible refine (spec_l3Has.calls kz1 (rdOf ByteArray.empty tz1 xz1) 35 true _ Az6.out).mono ?_); rintro e w' ⟨rfl, ⟨nd, rfl⟩⟩; have pz4 : 0 ≤ (xz1 : Int) := of_decide_eq_true as_; have qz4 : xz1 < (tz1.length : Int) := of_decide_eq_true as_; obtain ⟨adz4, ez4, hxz4⟩ := Kd.at_string (Kd.R_reads' HO_3.out).2.2 xz1 pz4 qz4; obtain rfl : adz1 = adz4 := (by injection ez4); replace pz4 := eq_true pz4; replace qz4 := eq_true qz4))
  go_ret
  exact ⟨by first | rfl | (simp [errW_none, errW_some] <;> rfl) | (simp [*, errW_none, errW_some] <;> rfl), be_⟩) : p := h
theorem spec_FilterOk_z22 {p : Prop} (h : p := by
  replace qz1 := eq_true qz1
  exact spec_FilterOk_z23) : p := h
theorem spec_FilterOk_z21 {p : Prop} (h : p := by
  replace pz1 := eq_true pz1
  exact spec_FilterOk_z22) : p := h
theorem spec_FilterOk_z20 {p : Prop} (h : p := by
  cases ez1
  exact spec_FilterOk_z21) : p := h
theorem spec_FilterOk_z19 {p : Prop} (h : p := by
  obtain ⟨adz1, ez1, hxz1⟩ := Kd.at_string (Kd.R_reads' HO_3.out).2.2 xz1 pz1 qz1
  exact spec_FilterOk_z20) : p := h
theorem spec_FilterOk_z18 {p : Prop} (h : p := by
  have qz1 : xz1 < (tz1.length : Int) := of_decide_eq_true as_
  exact spec_FilterOk_z19) : p := h
theorem spec_FilterOk_z17 {p : Prop} (h : p := by
  have pz1 : 0 ≤ (xz1 : Int) := of_decide_eq_true as_
  exact spec_FilterOk_z18) : p := h
theorem spec_FilterOk_z16 {p : Prop} (h : p := by
  subst eoz1
  exact spec_FilterOk_z17) : p := h
theorem spec_FilterOk_z15 {p : Prop} (h : p := by
  obtain ⟨Aoz1, coz1, eoz1⟩ := Kd.R_slice HO_3.out
  exact spec_FilterOk_z16) : p := h
theorem spec_FilterOk_z14 {p : Prop} (h : p := by
  obtain rfl := Option.some.inj H
  exact spec_FilterOk_z15) : p := h
set_option maxHeartbeats 8000000 in
set_option maxRecDepth 100000 in
theorem spec_FilterOk.calls (k : Nat) (a0 : ByteArray) (r : Bool) (w : World) (h : spec_FilterOk.f k a0 = some r) :
    Calls Tryd.prog 51 #[.string a0] w fun e w' => e = .returned (.bool r) ∧ Below w.heap.size w w' := by
  have HB := Aside0.mk (Below.refl w.heap.size w)
  have H : ((spec_Levels.f k a0).bind fun t121 => (spec_FilterOk.l0 k a0 t121 0)) = some r := h
  clear h
  replace H := Option.bind_eq_some_iff.mp H
  obtain ⟨tz1, Az1, H⟩ := H
  replace H : (spec_FilterOk.l0 k a0 tz1 0) = some r := H
  have Az2 := Aside0.mk Az1
  clear Az1
  have H' := Aside0.mk H
  clear H
  go_enter Tryd.func51, Tryd.ntmps51
  go_wp2_with (first | ((with_reducible refine gate_callee (f := 67) rfl ?_); refine goesL_ (some 6) rfl rfl Tryd.func67 (by kernel_rfl) rfl #[.string a0] rfl ar_ ?_; (with_reducible refine (spec_Levels.calls k a0 tz1 _ Az2.out).mono ?_); rintro e wz1 ⟨vz1, rfl, hoz1, hb⟩; refine ⟨_, rfl, ?_⟩; have nz1 := Aside0.mk (Kd.R_lower hoz1 (below_size be_)); have nz2 := Aside0.mk (below_step be_ hb); clear HB; have HOz1 := nz1; have HB := nz2; clear nz1 nz2; (try clear hb); (try clear hb2); (try clear hk); (try clear hi); (try clear hoz1)))
  go_loopg [4] k (fun kq v4 w' => ∃ (x4_1 : Int), v4 = .int .i64 x4_1 ∧ Aside0 (spec_FilterOk.l0 kq a0 tz1 x4_1 = some r) ∧ Aside0 (kq ≤ k) ∧ Aside0 (Kd.R Kd.string 9 w' w.heap.size (fun _ => True) vz1 tz1) ∧ Aside0 (Below w.heap.size w w'))
  case atStart => exact ⟨(0), (by first | rfl | (simp; done) | (simp [*]; done)), H', ⟨Nat.le_refl _⟩, ⟨by (with_reducible repeat (first | apply Kd.R_alloc | apply Kd.R_drewN | apply Kd.R_drew)); exact HOz1.out⟩, ⟨be_⟩⟩
  case round =>
    clear H'
    try clear p2
    obtain ⟨xz1, rfl, HA, HKz1, HO_3, HB⟩ := hrel
    cases gk with
    | zero => exact absurd HA.out (by simp [spec_FilterOk.l0])
    | succ kz1 =>
      have H := HA.out
      clear HA
      simp only [spec_FilterOk.l0] at H
      by_cases cz1 : xz1 < (tz1.length : Int)
      rotate_left
      · rw [if_neg cz1] at H
        have c4b0 : decide (xz1 < (tz1.length : Int)) = false := decide_eq_false cz1
        clear cz1
        replace H := Option.bind_eq_some_iff.mp H
        obtain ⟨tz2, Az3, H⟩ := H
        replace H : (if tz2 = true then (if a0.toList = ([] : List UInt8) then (some false) else (some (decide ((tz1.length : Int) ≤ 6)))) else (some false)) = some r := H
        have Az4 := Aside0.mk Az3
        clear Az3
        by_cases cz2 : tz2 = true
        rotate_left
        · replace cz2 := Bool.eq_false_iff.mpr cz2
          subst cz2
          have Hz1 : (some false) = some r := by rw [if_neg (show ¬ (false = true) by decide)] at H; exact H
          clear H
          have H := Hz1
          clear Hz1
          obtain rfl := Option.some.inj H
          obtain ⟨Aoz1, coz1, eoz1⟩ := Kd.R_slice HO_3.out
          subst eoz1
          go_wp2_with (first | ((with_reducible refine gate_callee (f := 65) rfl ?_); refine goesL_ (some 47) rfl rfl Tryd.func65 (by kernel_rfl) rfl #[.string a0] rfl ar_ ?_; (with_reducible refine (spec_TextOk.calls kz1 a0 false _ Az4.out).mono ?_); rintro e wz2 ⟨rfl, hb⟩; refine ⟨_, rfl, ?_⟩; have nz1 := Aside0.mk (Kd.R_below (by (with_reducible repeat (first | apply Kd.R_alloc | apply Kd.R_drewN | apply Kd.R_drew)); exact HO_3.out) hb); have nz2 := Aside0.mk (below_step be_ hb); clear HO_3; clear HB; have HO_3 := nz1; have HB := nz2; clear nz1 nz2; (try clear hb); (try clear hb2); (try clear hk); (try clear hi)))
          go_ret
          exact ⟨by first | rfl | (simp [errW_none, errW_some] <;> rfl) | (simp [*, errW_none, errW_some] <;> rfl), be_⟩
        subst cz2
        have Hz1 : (if a0.toList = ([] : List UInt8) then (some false) else (some (decide ((tz1.length : Int) ≤ 6)))) = some r := by rw [if_pos rfl] at H; exact H
        clear H
        have H := Hz1
        clear Hz1
        by_cases cz3 : a0.toList = ([] : List UInt8)
        rotate_left
        · rw [if_neg cz3] at H
          have c28b0 : (a0.toList == ([] : List UInt8)) = false := beq_eq_false_iff_ne.mpr cz3
          have c28b1 : (a0.toList != ([] : List UInt8)) = true := bne_iff_ne.mpr cz3
          exact spec_FilterOk_z0
        rw [if_pos cz3] at H
        have c28b0 : (a0.toList == ([] : List UInt8)) = true := beq_iff_eq.mpr cz3
        have c28b1 : (a0.toList != ([] : List UInt8)) = false := bne_eq_false_iff_eq.mpr cz3
        clear cz3
        exact spec_FilterOk_z0
      rw [if_pos cz1] at H
      have c4b0 : decide (xz1 < (tz1.length : Int)) = true := decide_eq_true cz1
      clear cz1
      by_cases cz2 : 0 ≤ xz1
      rotate_left
      · rw [if_neg cz2] at H
        exact absurd H (by simp)
      rw [if_pos cz2] at H
      have c5b0 : decide (0 ≤ xz1) = true := decide_eq_true cz2
      clear cz2
      replace H := Option.bind_eq_some_iff.mp H
      obtain ⟨tz2, Az3, H⟩ := H
      replace H : (if tz2 = true then (if (rdOf ByteArray.empty tz1 xz1).toList = ([43] : List UInt8) then ((spec_l3Has.f kz1 (rdOf ByteArray.empty tz1 xz1) 35).bind fun t129 => (if t129 = true then (if (rdOf ByteArray.empty tz1 xz1).toList = ([35] : List UInt8) then (if xz1 < (wrap64 ((tz1.length : Int) - 1)) then (some false) else (spec_FilterOk.l0 kz1 a0 tz1 (wrap64 (xz1 + 1)))) else (some false)) else (spec_FilterOk.l0 kz1 a0 tz1 (wrap64 (xz1 + 1))))) else (some false)) else ((spec_l3Has.f kz1 (rdOf ByteArray.empty tz1 xz1) 35).bind fun t132 => (if t132 = true then (if (rdOf ByteArray.empty tz1 xz1).toList = ([35] : List UInt8) then (if xz1 < (wrap64 ((tz1.length : Int) - 1)) then (some false) else (spec_FilterOk.l0 kz1 a0 tz1 (wrap64 (xz1 + 1)))) else (some false)) else (spec_FilterOk.l0 kz1 a0 tz1 (wrap64 (xz1 + 1)))))) = some r := H
      have Az4 := Aside0.mk Az3
      clear Az3
      by_cases cz3 : tz2 = true
      rotate_left
      · replace cz3 := Bool.eq_false_iff.mpr cz3
        subst cz3
        have Hz1 : ((spec_l3Has.f kz1 (rdOf ByteArray.empty tz1 xz1) 35).bind fun t132 => (if t132 = true then (if (rdOf ByteArray.empty tz1 xz1).toList = ([35] : List UInt8) then (if xz1 < (wrap64 ((tz1.length : Int) - 1)) then (some false) else (spec_FilterOk.l0 kz1 a0 tz1 (wrap64 (xz1 + 1)))) else (some false)) else (spec_FilterOk.l0 kz1 a0 tz1 (wrap64 (xz1 + 1))))) = some r := by rw [if_neg (show ¬ (false = true) by decide)] at H; exact H
        clear H
        have H := Hz1
        clear Hz1
        replace H := Option.bind_eq_some_iff.mp H
        obtain ⟨tz3, Az5, H⟩ := H
        replace H : (if tz3 = true then (if (rdOf ByteArray.empty tz1 xz1).toList = ([35] : List UInt8) then (if xz1 < (wrap64 ((tz1.length : Int) - 1)) then (some false) else (spec_FilterOk.l0 kz1 a0 tz1 (wrap64 (xz1 + 1)))) else (some false)) else (spec_FilterOk.l0 kz1 a0 tz1 (wrap64 (xz1 + 1)))) = some r := H
        have Az6 := Aside0.mk Az5
        clear Az5
        by_cases cz4 : tz3 = true
        rotate_left
        · replace cz4 := Bool.eq_false_iff.mpr cz4
          subst cz4
          have Hz1 : (spec_FilterOk.l0 kz1 a0 tz1 (wrap64 (xz1 + 1))) = some r := by rw [if_neg (show ¬ (false = true) by decide)] at H; exact H
          clear H
          have H := Hz1
          clear Hz1
          have H' := Aside0.mk H
          clear H
          obtain ⟨Aoz1, coz1, eoz1⟩ := Kd.R_slice HO_3.out
          subst eoz1
          have pz1 : 0 ≤ (xz1 : Int) := of_decide_eq_true as_
          have qz1 : xz1 < (tz1.length : Int) := of_decide_eq_true as_
          obtain ⟨adz1, ez1, hxz1⟩ := Kd.at_string (Kd.R_reads' HO_3.out).2.2 xz1 pz1 qz1
          cases ez1
          replace pz1 := eq_true pz1
          replace qz1 := eq_true qz1
          go_wp2_with (first | ((with_reducible refine gate_callee (f := 66) rfl ?_); refine goesL_ (some 17) rfl rfl Tryd.func66 (by kernel_rfl) rfl #[.string (rdOf ByteArray.empty tz1 xz1), .int .u8 43] rfl ar_ ?_; (with_reducible refine (spec_l3Has.calls kz1 (rdOf ByteArray.empty tz1 xz1) 43 false _ Az4.out).mono ?_); rintro e w' ⟨rfl, ⟨nd, rfl⟩⟩; refine ⟨_, rfl, ?_⟩; have pz2 : 0 ≤ (xz1 : Int) := of_decide_eq_true as_; have qz2 : xz1 < (tz1.length : Int) := of_decide_eq_true as_; obtain ⟨adz2, ez2, hxz2⟩ := Kd.at_string (Kd.R_reads' HO_3.out).2.2 xz1 pz2 qz2; obtain rfl : adz1 = adz2 := (by injection ez2); replace pz2 := eq_true pz2; replace qz2 := eq_true qz2) | (go_at_call 66; (with_reducible refine (spec_l3Has.calls kz1 (rdOf ByteArray.empty tz1 xz1) 35 false _ Az6.out).mono ?_); rintro e w' ⟨rfl, ⟨nd, rfl⟩⟩))
          go_roundg kz1
          case measure => have := HKz1.out; omega
          case rel => exact ⟨(wrap64 (xz1 + 1)), (by first | rfl | (simp; done) | (simp [*]; done)), H', ⟨by have := HKz1.out; omega⟩, ⟨by (with_reducible repeat (first | apply Kd.R_alloc | apply Kd.R_drewN | apply Kd.R_drew)); exact HO_3.out⟩, ⟨be_⟩⟩
        subst cz4
        have Hz1 : (if (rdOf ByteArray.empty tz1 xz1).toList = ([35] : List UInt8) then (if xz1 < (wrap64 ((tz1.length : Int) - 1)) then (some false) else (spec_FilterOk.l0 kz1 a0 tz1 (wrap64 (xz1 + 1)))) else (some false)) = some r := by rw [if_pos rfl] at H; exact H
        clear H
        have H := Hz1
        clear Hz1
        by_cases cz5 : (rdOf ByteArray.empty tz1 xz1).toList = ([35] : List UInt8)
        rotate_left
        · rw [if_neg cz5] at H
          have c20b0 : ((rdOf ByteArray.empty tz1 xz1).toList == ([35] : List UInt8)) = false := beq_eq_false_iff_ne.mpr cz5
          have c20b1 : ((rdOf ByteArray.empty tz1 xz1).toList != ([35] : List UInt8)) = true := bne_iff_ne.mpr cz5
          exact spec_FilterOk_z4
        rw [if_pos cz5] at H
        have c20b0 : ((rdOf ByteArray.empty tz1 xz1).toList == ([35] : List UInt8)) = true := beq_iff_eq.mpr cz5
        have c20b1 : ((rdOf ByteArray.empty tz1 xz1).toList != ([35] : List UInt8)) = false := bne_eq_false_iff_eq.mpr cz5
        clear cz5
        by_cases cz6 : xz1 < (wrap64 ((tz1.length : Int) - 1))
        · rw [if_pos cz6] at H
          have c21b0 : decide (xz1 < (wrap64 ((tz1.length : Int) - 1))) = true := decide_eq_true cz6
          clear cz6
          exact spec_FilterOk_z4
        rw [if_neg cz6] at H
        have c21b0 : decide (xz1 < (wrap64 ((tz1.length : Int) - 1))) = false := decide_eq_false cz6
        clear cz6
        have H' := Aside0.mk H
        clear H
        obtain ⟨Aoz1, coz1, eoz1⟩ := Kd.R_slice HO_3.out
        subst eoz1
        have pz1 : 0 ≤ (xz1 : Int) := of_decide_eq_true as_
        have qz1 : xz1 < (tz1.length : Int) := of_decide_eq_true as_
        obtain ⟨adz1, ez1, hxz1⟩ := Kd.at_string (Kd.R_reads' HO_3.out).2.2 xz1 pz1 qz1
        cases ez1
        replace pz1 := eq_true pz1
        replace qz1 := eq_true qz1
        go_wp2_with (first | ((with_reducible refine gate_callee (f := 66) rfl ?_); refine goesL_ (some 17) rfl rfl Tryd.func66 (by kernel_rfl) rfl #[.string (rdOf ByteArray.empty tz1 xz1), .int .u8 43] rfl ar_ ?_; (with_reducible refine (spec_l3Has.calls kz1 (rdOf ByteArray.empty tz1 xz1) 43 false _ Az4.out).mono ?_); rintro e w' ⟨rfl, ⟨nd, rfl⟩⟩; refine ⟨_, rfl, ?_⟩; have pz2 : 0 ≤ (xz1 : Int) := of_decide_eq_true as_; have qz2 : xz1 < (tz1.length : Int) := of_decide_eq_true as_; obtain ⟨adz2, ez2, hxz2⟩ := Kd.at_string (Kd.R_reads' HO_3.out).2.2 xz1 pz2 qz2; obtain rfl : adz1 = adz2 := (by injection ez2); replace pz2 := eq_true pz2; replace qz2 := eq_true qz2) | (go_at_call 66; (with_reducible refine (spec_l3Has.calls kz1 (rdOf ByteArray.empty tz1 xz1) 35 true _ Az6.out).mono ?_); rintro e w' ⟨rfl, ⟨nd, rfl⟩⟩; have pz3 : 0 ≤ (xz1 : Int) := of_decide_eq_true as_; have qz3 : xz1 < (tz1.length : Int) := of_decide_eq_true as_; obtain ⟨adz3, ez3, hxz3⟩ := Kd.at_string (Kd.R_reads' HO_3.out).2.2 xz1 pz3 qz3; obtain rfl : adz1 = adz3 := (by injection ez3); replace pz3 := eq_true pz3; replace qz3 := eq_true qz3))
        go_roundg kz1
        case measure => have := HKz1.out; omega
        case rel => exact ⟨(wrap64 (xz1 + 1)), (by first | rfl | (simp; done) | (simp [*]; done)), H', ⟨by have := HKz1.out; omega⟩, ⟨by (with_reducible repeat (first | apply Kd.R_alloc | apply Kd.R_drewN | apply Kd.R_drew)); exact HO_3.out⟩, ⟨be_⟩⟩
      subst cz3
      have Hz1 : (if (rdOf ByteArray.empty tz1 xz1).toList = ([43] : List UInt8) then ((spec_l3Has.f kz1 (rdOf ByteArray.empty tz1 xz1) 35).bind fun t129 => (if t129 = true then (if (rdOf ByteArray.empty tz1 xz1).toList = ([35] : List UInt8) then (if xz1 < (wrap64 ((tz1.length : Int) - 1)) then (some false) else (spec_FilterOk.l0 kz1 a0 tz1 (wrap64 (xz1 + 1)))) else (some false)) else (spec_FilterOk.l0 kz1 a0 tz1 (wrap64 (xz1 + 1))))) else (some false)) = some r := by rw [if_pos rfl] at H; exact H
      clear H
      have H := Hz1
      clear Hz1
      by_cases cz4 : (rdOf ByteArray.empty tz1 xz1).toList = ([43] : List UInt8)
      rotate_left
      · rw [if_neg cz4] at H
        have c8b0 : ((rdOf ByteArray.empty tz1 xz1).toList == ([43] : List UInt8)) = false := beq_eq_false_iff_ne.mpr cz4
        have c8b1 : ((rdOf ByteArray.empty tz1 xz1).toList != ([43] : List UInt8)) = true := bne_iff_ne.mpr cz4
        obtain rfl := Option.some.inj H
        obtain ⟨Aoz1, coz1, eoz1⟩ := Kd.R_slice HO_3.out
        subst eoz1
        have pz1 : 0 ≤ (xz1 : Int) := of_decide_eq_true as_
        have qz1 : xz1 < (tz1.length : Int) := of_decide_eq_true as_
        obtain ⟨adz1, ez1, hxz1⟩ := Kd.at_string (Kd.R_reads' HO_3.out).2.2 xz1 pz1 qz1
        cases ez1
        replace pz1 := eq_true pz1
        replace qz1 := eq_true qz1
        go_wp2_with (first | ((with_reducible refine gate_callee (f := 66) rfl ?_); refine goesL_ (some 17) rfl rfl Tryd.func66 (by kernel_rfl) rfl #[.string (rdOf ByteArray.empty tz1 xz1), .int .u8 43] rfl ar_ ?_; (with_reducible refine (spec_l3Has.calls kz1 (rdOf ByteArray.empty tz1 xz1) 43 true _ Az4.out).mono ?_); rintro e w' ⟨rfl, ⟨nd, rfl⟩⟩; refine ⟨_, rfl, ?_⟩; have pz2 : 0 ≤ (xz1 : Int) := of_decide_eq_true as_; have qz2 : xz1 < (tz1.length : Int) := of_decide_eq_true as_; obtain ⟨adz2, ez2, hxz2⟩ := Kd.at_string (Kd.R_reads' HO_3.out).2.2 xz1 pz2 qz2; obtain rfl : adz1 = adz2 := (by injection ez2); replace pz2 := eq_true pz2; replace qz2 := eq_true qz2))
        go_ret
        exact ⟨by first | rfl | (simp [errW_none, errW_some] <;> rfl) | (simp [*, errW_none, errW_some] <;> rfl), be_⟩
      rw [if_pos cz4] at H
      have c8b0 : ((rdOf ByteArray.empty tz1 xz1).toList == ([43] : List UInt8)) = true := beq_iff_eq.mpr cz4
      have c8b1 : ((rdOf ByteArray.empty tz1 xz1).toList != ([43] : List UInt8)) = false := bne_eq_false_iff_eq.mpr cz4
      clear cz4
      replace H := Option.bind_eq_some_iff.mp H
      obtain ⟨tz3, Az5, H⟩ := H
      replace H : (if tz3 = true then (if (rdOf ByteArray.empty tz1 xz1).toList = ([35] : List UInt8) then (if xz1 < (wrap64 ((tz1.length : Int) - 1)) then (some false) else (spec_FilterOk.l0 kz1 a0 tz1 (wrap64 (xz1 + 1)))) else (some false)) else (spec_FilterOk.l0 kz1 a0 tz1 (wrap64 (xz1 + 1)))) = some r := H
      have Az6 := Aside0.mk Az5
      clear Az5
      by_cases cz5 : tz3 = true
      rotate_left
      · replace cz5 := Bool.eq_false_iff.mpr cz5
        subst cz5
        have Hz1 : (spec_FilterOk.l0 kz1 a0 tz1 (wrap64 (xz1 + 1))) = some r := by rw [if_neg (show ¬ (false = true) by decide)] at H; exact H
        clear H
        have H := Hz1
        clear Hz1
        have H' := Aside0.mk H
        clear H
        obtain ⟨Aoz1, coz1, eoz1⟩ := Kd.R_slice HO_3.out
        subst eoz1
        have pz1 : 0 ≤ (xz1 : Int) := of_decide_eq_true as_
        have qz1 : xz1 < (tz1.length : Int) := of_decide_eq_true as_
        obtain ⟨adz1, ez1, hxz1⟩ := Kd.at_string (Kd.R_reads' HO_3.out).2.2 xz1 pz1 qz1
        cases ez1
        replace pz1 := eq_true pz1
        replace qz1 := eq_true qz1
        go_wp2_with (first | ((with_reducible refine gate_callee (f := 66) rfl ?_); refine goesL_ (some 17) rfl rfl Tryd.func66 (by kernel_rfl) rfl #[.string (rdOf ByteArray.empty tz1 xz1), .int .u8 43] rfl ar_ ?_; (with_reducible refine (spec_l3Has.calls kz1 (rdOf ByteArray.empty tz1 xz1) 43 true _ Az4.out).mono ?_); rintro e w' ⟨rfl, ⟨nd, rfl⟩⟩; refine ⟨_, rfl, ?_⟩; have pz2 : 0 ≤ (xz1 : Int) := of_decide_eq_true as_; have qz2 : xz1 < (tz1.length : Int) := of_decide_eq_true as_; obtain ⟨adz2, ez2, hxz2⟩ := Kd.at_string (Kd.R_reads' HO_3.out).2.2 xz1 pz2 qz2; obtain rfl : adz1 = adz2 := (by injection ez2); replace pz2 := eq_true pz2; replace qz2 := eq_true qz2; have pz3 : 0 ≤ (xz1 : Int) := of_decide_eq_true as_; have qz3 : xz1 < (tz1.length : Int) := of_decide_eq_true as_; obtain ⟨adz3, ez3, hxz3⟩ := Kd.at_string (Kd.R_reads' HO_3.out).2.2 xz1 pz3 qz3; obtain rfl : adz1 = adz3 := (by injection ez3); replace pz3 := eq_true pz3; replace qz3 := eq_true qz3) | (go_at_call 66; (with_reducible refine (spec_l3Has.calls kz1 (rdOf ByteArray.empty tz1 xz1) 35 false _ Az6.out).mono ?_); rintro e w' ⟨rfl, ⟨nd, rfl⟩⟩))
        go_roundg kz1
        case measure => have := HKz1.out; omega
        case rel => exact ⟨(wrap64 (xz1 + 1)), (by first | rfl | (simp; done) | (simp [*]; done)), H', ⟨by have := HKz1.out; omega⟩, ⟨by (with_reducible repeat (first | apply Kd.R_alloc | apply Kd.R_drewN | apply Kd.R_drew)); exact HO_3.out⟩, ⟨be_⟩⟩
      subst cz5
      have Hz1 : (if (rdOf ByteArray.empty tz1 xz1).toList = ([35] : List UInt8) then (if xz1 < (wrap64 ((tz1.length : Int) - 1)) then (some false) else (spec_FilterOk.l0 kz1 a0 tz1 (wrap64 (xz1 + 1)))) else (some false)) = some r := by rw [if_pos rfl] at H; exact H
      clear H
      have H := Hz1
      clear Hz1
      by_cases cz6 : (rdOf ByteArray.empty tz1 xz1).toList = ([35] : List UInt8)
      rotate_left
      · rw [if_neg cz6] at H
        have c11b0 : ((rdOf ByteArray.empty tz1 xz1).toList == ([35] : List UInt8)) = false := beq_eq_false_iff_ne.mpr cz6
        have c11b1 : ((rdOf ByteArray.empty tz1 xz1).toList != ([35] : List UInt8)) = true := bne_iff_ne.mpr cz6
        exact spec_FilterOk_z14
      rw [if_pos cz6] at H
      have c11b0 : ((rdOf ByteArray.empty tz1 xz1).toList == ([35] : List UInt8)) = true := beq_iff_eq.mpr cz6
      have c11b1 : ((rdOf ByteArray.empty tz1 xz1).toList != ([35] : List UInt8)) = false := bne_eq_false_iff_eq.mpr cz6
      clear cz6
      by_cases cz7 : xz1 < (wrap64 ((tz1.length : Int) - 1))
      · rw [if_pos cz7] at H
        have c12b0 : decide (xz1 < (wrap64 ((tz1.length : Int) - 1))) = true := decide_eq_true cz7
        clear cz7
        exact spec_FilterOk_z14
      rw [if_neg cz7] at H
      have c12b0 : decide (xz1 < (wrap64 ((tz1.length : Int) - 1))) = false := decide_eq_false cz7
      clear cz7
      have H' := Aside0.mk H
      clear H
      obtain ⟨Aoz1, coz1, eoz1⟩ := Kd.R_slice HO_3.out
      subst eoz1
      have pz1 : 0 ≤ (xz1 : Int) := of_decide_eq_true as_
      have qz1 : xz1 < (tz1.length : Int) := of_decide_eq_true as_
      obtain ⟨adz1, ez1, hxz1⟩ := Kd.at_string (Kd.R_reads' HO_3.out).2.2 xz1 pz1 qz1
      cases ez1
      replace pz1 := eq_true pz1
      replace qz1 := eq_true qz1
      go_wp2_with (first | ((with_reducible refine gate_callee (f := 66) rfl ?_); refine goesL_ (some 17) rfl rfl Tryd.func66 (by kernel_rfl) rfl #[.string (rdOf ByteArray.empty tz1 xz1), .int .u8 43] rfl ar_ ?_; (with_reducible refine (spec_l3Has.calls kz1 (rdOf ByteArray.empty tz1 xz1) 43 true _ Az4.out).mono ?_); rintro e w' ⟨rfl, ⟨nd, rfl⟩⟩; refine ⟨_, rfl, ?_⟩; have pz2 : 0 ≤ (xz1 : Int) := of_decide_eq_true as_; have qz2 : xz1 < (tz1.length : Int) := of_decide_eq_true as_; obtain ⟨adz2, ez2, hxz2⟩ := Kd.at_string (Kd.R_reads' HO_3.out).2.2 xz1 pz2 qz2; obtain rfl : adz1 = adz2 := (by injection ez2); replace pz2 := eq_true pz2; replace qz2 := eq_true qz2; have pz3 : 0 ≤ (xz1 : Int) := of_decide_eq_true as_; have qz3 : xz1 < (tz1.length : Int) := of_decide_eq_true as_; obtain ⟨adz3, ez3, hxz3⟩ := Kd.at_string (Kd.R_reads' HO_3.out).2.2 xz1 pz3 qz3; obtain rfl : adz1 = adz3 := (by injection ez3); replace pz3 := eq_true pz3; replace qz3 := eq_true qz3) | (go_at_call 66; (with_reducible refine (spec_l3Has.calls kz1 (rdOf ByteArray.empty tz1 xz1) 35 true _ Az6.out).mono ?_); rintro e w' ⟨rfl, ⟨nd, rfl⟩⟩; have pz4 : 0 ≤ (xz1 : Int) := of_decide_eq_true as_; have qz4 : xz1 < (tz1.length : Int) := of_decide_eq_true as_; obtain ⟨adz4, ez4, hxz4⟩ := Kd.at_string (Kd.R_reads' HO_3.out).2.2 xz1 pz4 qz4; obtain rfl : adz1 = adz4 := (by injection ez4); replace pz4 := eq_true pz4; replace qz4 := eq_true qz4))
      go_roundg kz1
      case measure => have := HKz1.out; omega
      case rel => exact ⟨(wrap64 (xz1 + 1)), (by first | rfl | (simp; done) | (simp [*]; done)), H', ⟨by have := HKz1.out; omega⟩, ⟨by (with_reducible repeat (first | apply Kd.R_alloc | apply Kd.R_drewN | apply Kd.R_drew)); exact HO_3.out⟩, ⟨be_⟩⟩

/-! ### spec_l8Level: function 50 -/
def spec_l8Level.f (k : Nat) (a0 : ByteArray) : Option (Bool) := (spec_FilterOk.f k a0).bind fun t134 => (if t134 = true then ((spec_l3Has.f k a0 47).bind fun t135 => (if t135 = true then (some (a0.toList == ([] : List UInt8))) else (some true))) else (some (a0.toList == ([] : List UInt8))))
theorem spec_l8Level.mono : ∀ a0 k, LeO (spec_l8Level.f k a0) (spec_l8Level.f (k + 1) a0) := by
  intro a0 k
  unfold spec_l8Level.f
  repeat' first
      | (with_reducible exact spec_FilterOk.mono _ _)
      | (with_reducible exact spec_l3Has.mono _ _ _)
      | (with_reducible exact LeO.refl _)
      | (with_reducible exact LeO.none _)
      | (with_reducible refine LeO.ite ?_ ?_)
      | (with_reducible refine LeO.bind ?_ (fun _ => ?_))
      | exact spec_FilterOk.mono _ _
      | exact spec_l3Has.mono _ _ _
      | exact LeO.none _
      | refine LeO.ite ?_ ?_
      | refine LeO.bind ?_ (fun _ => ?_)
set_option maxHeartbeats 8000000 in
set_option maxRecDepth 100000 in
theorem spec_l8Level.calls (k : Nat) (a0 : ByteArray) (r : Bool) (w : World) (h : spec_l8Level.f k a0 = some r) :
    Calls Tryd.prog 50 #[.string a0] w fun e w' => e = .returned (.bool r) ∧ Below w.heap.size w w' := by
  have HB := Aside0.mk (Below.refl w.heap.size w)
  have H : ((spec_FilterOk.f k a0).bind fun t134 => (if t134 = true then ((spec_l3Has.f k a0 47).bind fun t135 => (if t135 = true then (some (a0.toList == ([] : List UInt8))) else (some true))) else (some (a0.toList == ([] : List UInt8))))) = some r := h
  clear h
  replace H := Option.bind_eq_some_iff.mp H
  obtain ⟨tz1, Az1, H⟩ := H
  replace H : (if tz1 = true then ((spec_l3Has.f k a0 47).bind fun t135 => (if t135 = true then (some (a0.toList == ([] : List UInt8))) else (some true))) else (some (a0.toList == ([] : List UInt8)))) = some r := H
  have Az2 := Aside0.mk Az1
  clear Az1
  by_cases cz1 : tz1 = true
  rotate_left
  · replace cz1 := Bool.eq_false_iff.mpr cz1
    subst cz1
    have Hz1 : (some (a0.toList == ([] : List UInt8))) = some r := by rw [if_neg (show ¬ (false = true) by decide)] at H; exact H
    clear H
    have H := Hz1
    clear Hz1
    obtain rfl := Option.some.inj H
    go_enter Tryd.func50, Tryd.ntmps50
    go_wp2_with (first | ((with_reducible refine gate_callee (f := 51) rfl ?_); refine goesL_ (some 4) rfl rfl Tryd.func51 (by kernel_rfl) rfl #[.string a0] rfl ar_ ?_; (with_reducible refine (spec_FilterOk.calls k a0 false _ Az2.out).mono ?_); rintro e wz1 ⟨rfl, hb⟩; refine ⟨_, rfl, ?_⟩; have nz1 := Aside0.mk (below_step be_ hb); clear HB; have HB := nz1; clear nz1; (try clear hb); (try clear hb2); (try clear hk); (try clear hi)))
    go_ret
    exact ⟨by first | rfl | (simp [errW_none, errW_some] <;> rfl) | (simp [*, errW_none, errW_some] <;> rfl), be_⟩
  subst cz1
  have Hz1 : ((spec_l3Has.f k a0 47).bind fun t135 => (if t135 = true then (some (a0.toList == ([] : List UInt8))) else (some true))) = some r := by rw [if_pos rfl] at H; exact H
  clear H
  have H := Hz1
  clear Hz1
  replace H := Option.bind_eq_some_iff.mp H
  obtain ⟨tz2, Az3, H⟩ := H
  replace H : (if tz2 = true then (some (a0.toList == ([] : List UInt8))) else (some true)) = some r := H
  have Az4 := Aside0.mk Az3
  clear Az3
  by_cases cz2 : tz2 = true
  · subst cz2
    have Hz1 : (some (a0.toList == ([] : List UInt8))) = some r := by rw [if_pos rfl] at H; exact H
    clear H
    have H := Hz1
    clear Hz1
    obtain rfl := Option.some.inj H
    go_enter Tryd.func50, Tryd.ntmps50
    go_wp2_with (first | ((with_reducible refine gate_callee (f := 51) rfl ?_); refine goesL_ (some 4) rfl rfl Tryd.func51 (by kernel_rfl) rfl #[.string a0] rfl ar_ ?_; (with_reducible refine (spec_FilterOk.calls k a0 true _ Az2.out).mono ?_); rintro e wz1 ⟨rfl, hb⟩; refine ⟨_, rfl, ?_⟩; have nz1 := Aside0.mk (below_step be_ hb); clear HB; have HB := nz1; clear nz1; (try clear hb); (try clear hb2); (try clear hk); (try clear hi)) | (go_at_call 66; (with_reducible refine (spec_l3Has.calls k a0 47 true _ Az4.out).mono ?_); rintro e w' ⟨rfl, ⟨nd, rfl⟩⟩))
    go_ret
    exact ⟨by first | rfl | (simp [errW_none, errW_some] <;> rfl) | (simp [*, errW_none, errW_some] <;> rfl), be_⟩
  replace cz2 := Bool.eq_false_iff.mpr cz2
  subst cz2
  have Hz1 : (some true) = some r := by rw [if_neg (show ¬ (false = true) by decide)] at H; exact H
  clear H
  have H := Hz1
  clear Hz1
  obtain rfl := Option.some.inj H
  go_enter Tryd.func50, Tryd.ntmps50
  go_wp2_with (first | ((with_reducible refine gate_callee (f := 51) rfl ?_); refine goesL_ (some 4) rfl rfl Tryd.func51 (by kernel_rfl) rfl #[.string a0] rfl ar_ ?_; (with_reducible refine (spec_FilterOk.calls k a0 true _ Az2.out).mono ?_); rintro e wz1 ⟨rfl, hb⟩; refine ⟨_, rfl, ?_⟩; have nz1 := Aside0.mk (below_step be_ hb); clear HB; have HB := nz1; clear nz1; (try clear hb); (try clear hb2); (try clear hk); (try clear hi)) | (go_at_call 66; (with_reducible refine (spec_l3Has.calls k a0 47 false _ Az4.out).mono ?_); rintro e w' ⟨rfl, ⟨nd, rfl⟩⟩))
  go_ret
  exact ⟨by first | rfl | (simp [errW_none, errW_some] <;> rfl) | (simp [*, errW_none, errW_some] <;> rfl), be_⟩

end Go.Proofs.YtemehnmbmajnfaaDoor.P
