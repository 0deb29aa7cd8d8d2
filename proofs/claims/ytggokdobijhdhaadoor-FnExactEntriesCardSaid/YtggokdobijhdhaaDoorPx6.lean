-- Printed by a program over the kit's print.py (mp.sh), several laws in one namespace.
import Derived.Test.YtggokdobijhdhaaDoorPx0
import Derived.Test.YtggokdobijhdhaaDoorS
import Derived.Test.YtggokdobijhdhaaDoorPx5
namespace Go.Proofs.YtggokdobijhdhaaDoor.P
open Go.RowKit Go.Proofs.YtggokdobijhdhaaDoor.X Go.Proofs.YtggokdobijhdhaaDoorW.PrintWords Go.Proofs.YtggokdobijhdhaaDoorW.PrintLast Go.Proofs.YtggokdobijhdhaaDoorW.PrintMore
attribute [local go_sem] max2_int min2_int max_two min_two max_three min_three max_four min_four   -- for this text's walks alone
set_option maxHeartbeats 8000000
set_option maxRecDepth 100000
set_option linter.unusedVariables false
set_option linter.unusedSimpArgs false

def spec_FilterOk.l0 : Nat → ByteArray → List ByteArray → Int → Option (Bool)
 | 0, _, _, _ => none
 | k + 1, x0, x3, x4 => if x4 < (x3.length : Int) then (if 0 ≤ x4 then ((spec_l3Has.f k (rdOf ByteArray.empty x3 x4) 43).bind fun t133 => (if t133 = true then (if (rdOf ByteArray.empty x3 x4).toList = ([43] : List UInt8) then ((spec_l3Has.f k (rdOf ByteArray.empty x3 x4) 35).bind fun t136 => (if t136 = true then (if (rdOf ByteArray.empty x3 x4).toList = ([35] : List UInt8) then (if x4 < (wrap64 ((x3.length : Int) - 1)) then (some false) else (spec_FilterOk.l0 k x0 x3 (wrap64 (x4 + 1)))) else (some false)) else (spec_FilterOk.l0 k x0 x3 (wrap64 (x4 + 1))))) else (some false)) else ((spec_l3Has.f k (rdOf ByteArray.empty x3 x4) 35).bind fun t139 => (if t139 = true then (if (rdOf ByteArray.empty x3 x4).toList = ([35] : List UInt8) then (if x4 < (wrap64 ((x3.length : Int) - 1)) then (some false) else (spec_FilterOk.l0 k x0 x3 (wrap64 (x4 + 1)))) else (some false)) else (spec_FilterOk.l0 k x0 x3 (wrap64 (x4 + 1))))))) else (none)) else ((spec_TextOk.f k x0).bind fun t131 => (if t131 = true then (if x0.toList = ([] : List UInt8) then (some false) else (some (decide ((x3.length : Int) ≤ 6)))) else (some false)))
def spec_FilterOk.f (k : Nat) (a0 : ByteArray) : Option (Bool) := (spec_Levels.f k a0).bind fun t128 => (spec_FilterOk.l0 k a0 t128 0)
theorem spec_FilterOk_z3 {p : Prop} (h : p := by
 go_wp2_with (first | ((with_reducible refine gate_callee (f := 74) rfl ?_); refine ca_ 47 Tryd.func74 #[.string a0] ?_; (with_reducible refine (spec_TextOk.calls kz1 a0 true _ Az4.out).mono ?_); rintro e wz2 ⟨rfl, hb⟩; refine ⟨_, rfl, ?_⟩; replace HO_3 := bR_ HO_3 hb; replace HB := bw_ hb; clear hb))
 go_ret
 exact ⟨er_, be_⟩) : p := h
theorem spec_FilterOk_z2 {p : Prop} (h : p := by
 subst eoz1
 exact spec_FilterOk_z3) : p := h
theorem spec_FilterOk_z1 {p : Prop} (h : p := by
 obtain ⟨Aoz1, coz1, eoz1⟩ := Kd.R_slice HO_3.out
 exact spec_FilterOk_z2) : p := h
theorem spec_FilterOk_z0 {p : Prop} (h : p := by
 obtain rfl := Option.some.inj H
 exact spec_FilterOk_z1) : p := h
theorem spec_FilterOk_z13 {p : Prop} (h : p := by
 go_wp2_with (first | ((with_reducible refine gate_callee (f := 75) rfl ?_); refine ca_ 17 Tryd.func75 #[.string (rdOf ByteArray.empty tz1 xz1), .int .u8 43] ?_; (with_reducible refine (spec_l3Has.calls kz1 (rdOf ByteArray.empty tz1 xz1) 43 false _ Az4.out).mono ?_); rintro e w' ⟨rfl, ⟨nd, rfl⟩⟩; refine ⟨_, rfl, ?_⟩; have pz2 : 0 ≤ (xz1 : Int) := dt_; have qz2 : xz1 < (tz1.length : Int) := dt_; obtain ⟨adz2, ez2, hxz2⟩ := Kd.at_string (Kd.R_reads' HO_3.out).2.2 xz1 pz2 qz2; obtain rfl : adz1 = adz2 := (by injection ez2); replace pz2 := eq_true pz2; replace qz2 := eq_true qz2) | (go_at_call 75; (with_reducible refine (spec_l3Has.calls kz1 (rdOf ByteArray.empty tz1 xz1) 35 true _ Az6.out).mono ?_); rintro e w' ⟨rfl, ⟨nd, rfl⟩⟩; have pz3 : 0 ≤ (xz1 : Int) := dt_; have qz3 : xz1 < (tz1.length : Int) := dt_; obtain ⟨adz3, ez3, hxz3⟩ := Kd.at_string (Kd.R_reads' HO_3.out).2.2 xz1 pz3 qz3; obtain rfl : adz1 = adz3 := (by injection ez3); replace pz3 := eq_true pz3; replace qz3 := eq_true qz3))
 go_ret
 exact ⟨er_, be_⟩) : p := h
theorem spec_FilterOk_z12 {p : Prop} (h : p := by
 replace qz1 := eq_true qz1
 exact spec_FilterOk_z13) : p := h
theorem spec_FilterOk_z11 {p : Prop} (h : p := by
 replace pz1 := eq_true pz1
 exact spec_FilterOk_z12) : p := h
theorem spec_FilterOk_z10 {p : Prop} (h : p := by
 cases ez1
 exact spec_FilterOk_z11) : p := h
theorem spec_FilterOk_z9 {p : Prop} (h : p := by
 obtain ⟨adz1, ez1, hxz1⟩ := Kd.at_string (Kd.R_reads' HO_3.out).2.2 xz1 pz1 qz1
 exact spec_FilterOk_z10) : p := h
theorem spec_FilterOk_z8 {p : Prop} (h : p := by
 have qz1 : xz1 < (tz1.length : Int) := dt_
 exact spec_FilterOk_z9) : p := h
theorem spec_FilterOk_z7 {p : Prop} (h : p := by
 have pz1 : 0 ≤ (xz1 : Int) := dt_
 exact spec_FilterOk_z8) : p := h
theorem spec_FilterOk_z6 {p : Prop} (h : p := by
 subst eoz1
 exact spec_FilterOk_z7) : p := h
theorem spec_FilterOk_z5 {p : Prop} (h : p := by
 obtain ⟨Aoz1, coz1, eoz1⟩ := Kd.R_slice HO_3.out
 exact spec_FilterOk_z6) : p := h
theorem spec_FilterOk_z4 {p : Prop} (h : p := by
 obtain rfl := Option.some.inj H
 exact spec_FilterOk_z5) : p := h
theorem spec_FilterOk_z23 {p : Prop} (h : p := by
 go_wp2_with (first | ((with_reducible refine gate_callee (f := 75) rfl ?_); refine ca_ 17 Tryd.func75 #[.string (rdOf ByteArray.empty tz1 xz1), .int .u8 43] ?_; (with_reducible refine (spec_l3Has.calls kz1 (rdOf ByteArray.empty tz1 xz1) 43 true _ Az4.out).mono ?_); rintro e w' ⟨rfl, ⟨nd, rfl⟩⟩; refine ⟨_, rfl, ?_⟩; have pz2 : 0 ≤ (xz1 : Int) := dt_; have qz2 : xz1 < (tz1.length : Int) := dt_; obtain ⟨adz2, ez2, hxz2⟩ := Kd.at_string (Kd.R_reads' HO_3.out).2.2 xz1 pz2 qz2; obtain rfl : adz1 = adz2 := (by injection ez2); replace pz2 := eq_true pz2; replace qz2 := eq_true qz2; have pz3 : 0 ≤ (xz1 : Int) := dt_; have qz3 : xz1 < (tz1.length : Int) := dt_; obtain ⟨adz3, ez3, hxz3⟩ := Kd.at_string (Kd.R_reads' HO_3.out).2.2 xz1 pz3 qz3; obtain rfl : adz1 = adz3 := (by injection ez3); replace pz3 := eq_true pz3; replace qz3 := eq_true qz3) | (go_at_call 75; (with_reducible refine (spec_l3Has.calls kz1 (rdOf ByteArray.empty tz1 xz1) 35 true _ Az6.out).mono ?_); rintro e w' ⟨rfl, ⟨nd, rfl⟩⟩; have pz4 : 0 ≤ (xz1 : Int) := dt_; have qz4 : xz1 < (tz1.length : Int) := dt_; obtain ⟨adz4, ez4, hxz4⟩ := Kd.at_string (Kd.R_reads' HO_3.out).2.2 xz1 pz4 qz4; obtain rfl : adz1 = adz4 := (by injection ez4); replace pz4 := eq_true pz4; replace qz4 := eq_true qz4))
 go_ret
 exact ⟨er_, be_⟩) : p := h
theorem spec_FilterOk_z22 {p : Prop} (h : p := by
 replace qz1 := eq_true qz1
 exact spec_FilterOk_z23) : p := h
theorem spec_FilterOk_z21 {p : Prop} (h : p := by
 replace pz1 := eq_true pz1
 exact spec_FilterOk_z22) : p := h
theorem spec_FilterOk_z20 {p : Prop} (h : p := by
 cases ez1
 exact spec_FilterOk_z21) : p := h
theorem spec_FilterOk_z19 {p : Prop} (h : p := by
 obtain ⟨adz1, ez1, hxz1⟩ := Kd.at_string (Kd.R_reads' HO_3.out).2.2 xz1 pz1 qz1
 exact spec_FilterOk_z20) : p := h
theorem spec_FilterOk_z18 {p : Prop} (h : p := by
 have qz1 : xz1 < (tz1.length : Int) := dt_
 exact spec_FilterOk_z19) : p := h
theorem spec_FilterOk_z17 {p : Prop} (h : p := by
 have pz1 : 0 ≤ (xz1 : Int) := dt_
 exact spec_FilterOk_z18) : p := h
theorem spec_FilterOk_z16 {p : Prop} (h : p := by
 subst eoz1
 exact spec_FilterOk_z17) : p := h
theorem spec_FilterOk_z15 {p : Prop} (h : p := by
 obtain ⟨Aoz1, coz1, eoz1⟩ := Kd.R_slice HO_3.out
 exact spec_FilterOk_z16) : p := h
theorem spec_FilterOk_z14 {p : Prop} (h : p := by
 obtain rfl := Option.some.inj H
 exact spec_FilterOk_z15) : p := h
theorem spec_FilterOk.calls (k : Nat) (a0 : ByteArray) (r : Bool) (w : World) (h : spec_FilterOk.f k a0 = some r) :
  Calls Tryd.prog 67 #[.string a0] w fun e w' => e = .returned (.bool r) ∧ Below w.heap.size w w' := by
 have HB := Aside0.mk (Below.refl w.heap.size w)
 have H : ((spec_Levels.f k a0).bind fun t128 => (spec_FilterOk.l0 k a0 t128 0)) = some r := h
 clear h
 replace H := bo_ H
 obtain ⟨tz1, Az2, H⟩ := H
 (try dsimp only at H)
 have H' := Aside0.mk H
 clear H
 go_enter Tryd.func67, Tryd.ntmps67
 go_wp2_with (first | ((with_reducible refine gate_callee (f := 76) rfl ?_); refine ca_ 6 Tryd.func76 #[.string a0] ?_; (with_reducible refine (spec_Levels.calls k a0 tz1 _ Az2.out).mono ?_); rintro e wz1 ⟨vz1, rfl, hoz1, hb⟩; refine ⟨_, rfl, ?_⟩; have HOz1 := Aside0.mk (Kd.R_lower hoz1 (below_size be_)); replace HB := bw_ hb; clear hb hoz1))
 go_loopg [4] k (fun kq v4 w' => ∃ (x4_1 : Int), v4 = .int .i64 x4_1 ∧ Aside0 (spec_FilterOk.l0 kq a0 tz1 x4_1 = some r) ∧ Aside0 (kq ≤ k) ∧ Aside0 (Kd.R Kd.string 9 w' w.heap.size (fun _ => True) vz1 tz1) ∧ Aside0 (Below w.heap.size w w'))
 case atStart => exact ⟨(0), rs_, H', ⟨Nat.le_refl _⟩, ⟨lR_ HOz1.out⟩, ⟨be_⟩⟩
 case round =>
  clear H'
  obtain ⟨xz1, rfl, HA, HKz1, HO_3, HB⟩ := hrel
  cases gk with
  | zero => exact absurd HA.out (by simp [spec_FilterOk.l0])
  | succ kz1 =>
   have H := HA.out
   clear HA
   simp only [spec_FilterOk.l0] at H
   by_cases cz1 : xz1 < (tz1.length : Int)
   rotate_left
   ·rw [if_neg cz1] at H
    have cz2 : decide (xz1 < (tz1.length : Int)) = false := decide_eq_false cz1
    clear cz1
    replace H := bo_ H
    obtain ⟨tz2, Az4, H⟩ := H
    (try dsimp only at H)
    by_cases cz3 : tz2 = true
    rotate_left
    ·replace cz3 := Bool.eq_false_iff.mpr cz3
     subst cz3
     replace H := bf_ H
     obtain rfl := Option.some.inj H
     obtain ⟨Aoz1, coz1, eoz1⟩ := Kd.R_slice HO_3.out
     subst eoz1
     go_wp2_with (first | ((with_reducible refine gate_callee (f := 74) rfl ?_); refine ca_ 47 Tryd.func74 #[.string a0] ?_; (with_reducible refine (spec_TextOk.calls kz1 a0 false _ Az4.out).mono ?_); rintro e wz2 ⟨rfl, hb⟩; refine ⟨_, rfl, ?_⟩; replace HO_3 := bR_ HO_3 hb; replace HB := bw_ hb; clear hb))
     go_ret
     exact ⟨er_, be_⟩
    subst cz3
    replace H := bt_ H
    by_cases cz4 : a0.toList = ([] : List UInt8)
    rotate_left
    ·rw [if_neg cz4] at H
     have cz5 : (a0.toList == ([] : List UInt8)) = false := beq_eq_false_iff_ne.mpr cz4
     have cz6 : (a0.toList != ([] : List UInt8)) = true := bne_iff_ne.mpr cz4
     exact spec_FilterOk_z0
    rw [if_pos cz4] at H
    have cz5 : (a0.toList == ([] : List UInt8)) = true := beq_iff_eq.mpr cz4
    have cz6 : (a0.toList != ([] : List UInt8)) = false := bne_eq_false_iff_eq.mpr cz4
    clear cz4
    exact spec_FilterOk_z0
   rw [if_pos cz1] at H
   have cz2 : decide (xz1 < (tz1.length : Int)) = true := decide_eq_true cz1
   clear cz1
   by_cases cz3 : 0 ≤ xz1
   rotate_left
   ·rw [if_neg cz3] at H
    exact absurd H (by simp)
   rw [if_pos cz3] at H
   have cz4 : decide (0 ≤ xz1) = true := decide_eq_true cz3
   clear cz3
   replace H := bo_ H
   obtain ⟨tz2, Az4, H⟩ := H
   (try dsimp only at H)
   by_cases cz5 : tz2 = true
   rotate_left
   ·replace cz5 := Bool.eq_false_iff.mpr cz5
    subst cz5
    replace H := bf_ H
    replace H := bo_ H
    obtain ⟨tz3, Az6, H⟩ := H
    (try dsimp only at H)
    by_cases cz6 : tz3 = true
    rotate_left
    ·replace cz6 := Bool.eq_false_iff.mpr cz6
     subst cz6
     replace H := bf_ H
     have H' := Aside0.mk H
     clear H
     obtain ⟨Aoz1, coz1, eoz1⟩ := Kd.R_slice HO_3.out
     subst eoz1
     have pz1 : 0 ≤ (xz1 : Int) := dt_
     have qz1 : xz1 < (tz1.length : Int) := dt_
     obtain ⟨adz1, ez1, hxz1⟩ := Kd.at_string (Kd.R_reads' HO_3.out).2.2 xz1 pz1 qz1
     cases ez1
     replace pz1 := eq_true pz1
     replace qz1 := eq_true qz1
     go_wp2_with (first | ((with_reducible refine gate_callee (f := 75) rfl ?_); refine ca_ 17 Tryd.func75 #[.string (rdOf ByteArray.empty tz1 xz1), .int .u8 43] ?_; (with_reducible refine (spec_l3Has.calls kz1 (rdOf ByteArray.empty tz1 xz1) 43 false _ Az4.out).mono ?_); rintro e w' ⟨rfl, ⟨nd, rfl⟩⟩; refine ⟨_, rfl, ?_⟩; have pz2 : 0 ≤ (xz1 : Int) := dt_; have qz2 : xz1 < (tz1.length : Int) := dt_; obtain ⟨adz2, ez2, hxz2⟩ := Kd.at_string (Kd.R_reads' HO_3.out).2.2 xz1 pz2 qz2; obtain rfl : adz1 = adz2 := (by injection ez2); replace pz2 := eq_true pz2; replace qz2 := eq_true qz2) | (go_at_call 75; (with_reducible refine (spec_l3Has.calls kz1 (rdOf ByteArray.empty tz1 xz1) 35 false _ Az6.out).mono ?_); rintro e w' ⟨rfl, ⟨nd, rfl⟩⟩))
     go_roundg kz1
     case measure => have := HKz1.out; omega
     case rel => exact ⟨(wrap64 (xz1 + 1)), rs_, H', ⟨by have := HKz1.out; omega⟩, ⟨lR_ HO_3.out⟩, ⟨be_⟩⟩
    subst cz6
    replace H := bt_ H
    by_cases cz7 : (rdOf ByteArray.empty tz1 xz1).toList = ([35] : List UInt8)
    rotate_left
    ·rw [if_neg cz7] at H
     have cz8 : ((rdOf ByteArray.empty tz1 xz1).toList == ([35] : List UInt8)) = false := beq_eq_false_iff_ne.mpr cz7
     have cz9 : ((rdOf ByteArray.empty tz1 xz1).toList != ([35] : List UInt8)) = true := bne_iff_ne.mpr cz7
     exact spec_FilterOk_z4
    rw [if_pos cz7] at H
    have cz8 : ((rdOf ByteArray.empty tz1 xz1).toList == ([35] : List UInt8)) = true := beq_iff_eq.mpr cz7
    have cz9 : ((rdOf ByteArray.empty tz1 xz1).toList != ([35] : List UInt8)) = false := bne_eq_false_iff_eq.mpr cz7
    clear cz7
    by_cases cz10 : xz1 < (wrap64 ((tz1.length : Int) - 1))
    ·rw [if_pos cz10] at H
     have cz11 : decide (xz1 < (wrap64 ((tz1.length : Int) - 1))) = true := decide_eq_true cz10
     clear cz10
     exact spec_FilterOk_z4
    rw [if_neg cz10] at H
    have cz11 : decide (xz1 < (wrap64 ((tz1.length : Int) - 1))) = false := decide_eq_false cz10
    clear cz10
    have H' := Aside0.mk H
    clear H
    obtain ⟨Aoz1, coz1, eoz1⟩ := Kd.R_slice HO_3.out
    subst eoz1
    have pz1 : 0 ≤ (xz1 : Int) := dt_
    have qz1 : xz1 < (tz1.length : Int) := dt_
    obtain ⟨adz1, ez1, hxz1⟩ := Kd.at_string (Kd.R_reads' HO_3.out).2.2 xz1 pz1 qz1
    cases ez1
    replace pz1 := eq_true pz1
    replace qz1 := eq_true qz1
    go_wp2_with (first | ((with_reducible refine gate_callee (f := 75) rfl ?_); refine ca_ 17 Tryd.func75 #[.string (rdOf ByteArray.empty tz1 xz1), .int .u8 43] ?_; (with_reducible refine (spec_l3Has.calls kz1 (rdOf ByteArray.empty tz1 xz1) 43 false _ Az4.out).mono ?_); rintro e w' ⟨rfl, ⟨nd, rfl⟩⟩; refine ⟨_, rfl, ?_⟩; have pz2 : 0 ≤ (xz1 : Int) := dt_; have qz2 : xz1 < (tz1.length : Int) := dt_; obtain ⟨adz2, ez2, hxz2⟩ := Kd.at_string (Kd.R_reads' HO_3.out).2.2 xz1 pz2 qz2; obtain rfl : adz1 = adz2 := (by injection ez2); replace pz2 := eq_true pz2; replace qz2 := eq_true qz2) | (go_at_call 75; (with_reducible refine (spec_l3Has.calls kz1 (rdOf ByteArray.empty tz1 xz1) 35 true _ Az6.out).mono ?_); rintro e w' ⟨rfl, ⟨nd, rfl⟩⟩; have pz3 : 0 ≤ (xz1 : Int) := dt_; have qz3 : xz1 < (tz1.length : Int) := dt_; obtain ⟨adz3, ez3, hxz3⟩ := Kd.at_string (Kd.R_reads' HO_3.out).2.2 xz1 pz3 qz3; obtain rfl : adz1 = adz3 := (by injection ez3); replace pz3 := eq_true pz3; replace qz3 := eq_true qz3))
    go_roundg kz1
    case measure => have := HKz1.out; omega
    case rel => exact ⟨(wrap64 (xz1 + 1)), rs_, H', ⟨by have := HKz1.out; omega⟩, ⟨lR_ HO_3.out⟩, ⟨be_⟩⟩
   subst cz5
   replace H := bt_ H
   by_cases cz6 : (rdOf ByteArray.empty tz1 xz1).toList = ([43] : List UInt8)
   rotate_left
   ·rw [if_neg cz6] at H
    have cz7 : ((rdOf ByteArray.empty tz1 xz1).toList == ([43] : List UInt8)) = false := beq_eq_false_iff_ne.mpr cz6
    have cz8 : ((rdOf ByteArray.empty tz1 xz1).toList != ([43] : List UInt8)) = true := bne_iff_ne.mpr cz6
    obtain rfl := Option.some.inj H
    obtain ⟨Aoz1, coz1, eoz1⟩ := Kd.R_slice HO_3.out
    subst eoz1
    have pz1 : 0 ≤ (xz1 : Int) := dt_
    have qz1 : xz1 < (tz1.length : Int) := dt_
    obtain ⟨adz1, ez1, hxz1⟩ := Kd.at_string (Kd.R_reads' HO_3.out).2.2 xz1 pz1 qz1
    cases ez1
    replace pz1 := eq_true pz1
    replace qz1 := eq_true qz1
    go_wp2_with (first | ((with_reducible refine gate_callee (f := 75) rfl ?_); refine ca_ 17 Tryd.func75 #[.string (rdOf ByteArray.empty tz1 xz1), .int .u8 43] ?_; (with_reducible refine (spec_l3Has.calls kz1 (rdOf ByteArray.empty tz1 xz1) 43 true _ Az4.out).mono ?_); rintro e w' ⟨rfl, ⟨nd, rfl⟩⟩; refine ⟨_, rfl, ?_⟩; have pz2 : 0 ≤ (xz1 : Int) := dt_; have qz2 : xz1 < (tz1.length : Int) := dt_; obtain ⟨adz2, ez2, hxz2⟩ := Kd.at_string (Kd.R_reads' HO_3.out).2.2 xz1 pz2 qz2; obtain rfl : adz1 = adz2 := (by injection ez2); replace pz2 := eq_true pz2; replace qz2 := eq_true qz2))
    go_ret
    exact ⟨er_, be_⟩
   rw [if_pos cz6] at H
   have cz7 : ((rdOf ByteArray.empty tz1 xz1).toList == ([43] : List UInt8)) = true := beq_iff_eq.mpr cz6
   have cz8 : ((rdOf ByteArray.empty tz1 xz1).toList != ([43] : List UInt8)) = false := bne_eq_false_iff_eq.mpr cz6
   clear cz6
   replace H := bo_ H
   obtain ⟨tz3, Az6, H⟩ := H
   (try dsimp only at H)
   by_cases cz9 : tz3 = true
   rotate_left
   ·replace cz9 := Bool.eq_false_iff.mpr cz9
    subst cz9
    replace H := bf_ H
    have H' := Aside0.mk H
    clear H
    obtain ⟨Aoz1, coz1, eoz1⟩ := Kd.R_slice HO_3.out
    subst eoz1
    have pz1 : 0 ≤ (xz1 : Int) := dt_
    have qz1 : xz1 < (tz1.length : Int) := dt_
    obtain ⟨adz1, ez1, hxz1⟩ := Kd.at_string (Kd.R_reads' HO_3.out).2.2 xz1 pz1 qz1
    cases ez1
    replace pz1 := eq_true pz1
    replace qz1 := eq_true qz1
    go_wp2_with (first | ((with_reducible refine gate_callee (f := 75) rfl ?_); refine ca_ 17 Tryd.func75 #[.string (rdOf ByteArray.empty tz1 xz1), .int .u8 43] ?_; (with_reducible refine (spec_l3Has.calls kz1 (rdOf ByteArray.empty tz1 xz1) 43 true _ Az4.out).mono ?_); rintro e w' ⟨rfl, ⟨nd, rfl⟩⟩; refine ⟨_, rfl, ?_⟩; have pz2 : 0 ≤ (xz1 : Int) := dt_; have qz2 : xz1 < (tz1.length : Int) := dt_; obtain ⟨adz2, ez2, hxz2⟩ := Kd.at_string (Kd.R_reads' HO_3.out).2.2 xz1 pz2 qz2; obtain rfl : adz1 = adz2 := (by injection ez2); replace pz2 := eq_true pz2; replace qz2 := eq_true qz2; have pz3 : 0 ≤ (xz1 : Int) := dt_; have qz3 : xz1 < (tz1.length : Int) := dt_; obtain ⟨adz3, ez3, hxz3⟩ := Kd.at_string (Kd.R_reads' HO_3.out).2.2 xz1 pz3 qz3; obtain rfl : adz1 = adz3 := (by injection ez3); replace pz3 := eq_true pz3; replace qz3 := eq_true qz3) | (go_at_call 75; (with_reducible refine (spec_l3Has.calls kz1 (rdOf ByteArray.empty tz1 xz1) 35 false _ Az6.out).mono ?_); rintro e w' ⟨rfl, ⟨nd, rfl⟩⟩))
    go_roundg kz1
    case measure => have := HKz1.out; omega
    case rel => exact ⟨(wrap64 (xz1 + 1)), rs_, H', ⟨by have := HKz1.out; omega⟩, ⟨lR_ HO_3.out⟩, ⟨be_⟩⟩
   subst cz9
   replace H := bt_ H
   by_cases cz10 : (rdOf ByteArray.empty tz1 xz1).toList = ([35] : List UInt8)
   rotate_left
   ·rw [if_neg cz10] at H
    have cz11 : ((rdOf ByteArray.empty tz1 xz1).toList == ([35] : List UInt8)) = false := beq_eq_false_iff_ne.mpr cz10
    have cz12 : ((rdOf ByteArray.empty tz1 xz1).toList != ([35] : List UInt8)) = true := bne_iff_ne.mpr cz10
    exact spec_FilterOk_z14
   rw [if_pos cz10] at H
   have cz11 : ((rdOf ByteArray.empty tz1 xz1).toList == ([35] : List UInt8)) = true := beq_iff_eq.mpr cz10
   have cz12 : ((rdOf ByteArray.empty tz1 xz1).toList != ([35] : List UInt8)) = false := bne_eq_false_iff_eq.mpr cz10
   clear cz10
   by_cases cz13 : xz1 < (wrap64 ((tz1.length : Int) - 1))
   ·rw [if_pos cz13] at H
    have cz14 : decide (xz1 < (wrap64 ((tz1.length : Int) - 1))) = true := decide_eq_true cz13
    clear cz13
    exact spec_FilterOk_z14
   rw [if_neg cz13] at H
   have cz14 : decide (xz1 < (wrap64 ((tz1.length : Int) - 1))) = false := decide_eq_false cz13
   clear cz13
   have H' := Aside0.mk H
   clear H
   obtain ⟨Aoz1, coz1, eoz1⟩ := Kd.R_slice HO_3.out
   subst eoz1
   have pz1 : 0 ≤ (xz1 : Int) := dt_
   have qz1 : xz1 < (tz1.length : Int) := dt_
   obtain ⟨adz1, ez1, hxz1⟩ := Kd.at_string (Kd.R_reads' HO_3.out).2.2 xz1 pz1 qz1
   cases ez1
   replace pz1 := eq_true pz1
   replace qz1 := eq_true qz1
   go_wp2_with (first | ((with_reducible refine gate_callee (f := 75) rfl ?_); refine ca_ 17 Tryd.func75 #[.string (rdOf ByteArray.empty tz1 xz1), .int .u8 43] ?_; (with_reducible refine (spec_l3Has.calls kz1 (rdOf ByteArray.empty tz1 xz1) 43 true _ Az4.out).mono ?_); rintro e w' ⟨rfl, ⟨nd, rfl⟩⟩; refine ⟨_, rfl, ?_⟩; have pz2 : 0 ≤ (xz1 : Int) := dt_; have qz2 : xz1 < (tz1.length : Int) := dt_; obtain ⟨adz2, ez2, hxz2⟩ := Kd.at_string (Kd.R_reads' HO_3.out).2.2 xz1 pz2 qz2; obtain rfl : adz1 = adz2 := (by injection ez2); replace pz2 := eq_true pz2; replace qz2 := eq_true qz2; have pz3 : 0 ≤ (xz1 : Int) := dt_; have qz3 : xz1 < (tz1.length : Int) := dt_; obtain ⟨adz3, ez3, hxz3⟩ := Kd.at_string (Kd.R_reads' HO_3.out).2.2 xz1 pz3 qz3; obtain rfl : adz1 = adz3 := (by injection ez3); replace pz3 := eq_true pz3; replace qz3 := eq_true qz3) | (go_at_call 75; (with_reducible refine (spec_l3Has.calls kz1 (rdOf ByteArray.empty tz1 xz1) 35 true _ Az6.out).mono ?_); rintro e w' ⟨rfl, ⟨nd, rfl⟩⟩; have pz4 : 0 ≤ (xz1 : Int) := dt_; have qz4 : xz1 < (tz1.length : Int) := dt_; obtain ⟨adz4, ez4, hxz4⟩ := Kd.at_string (Kd.R_reads' HO_3.out).2.2 xz1 pz4 qz4; obtain rfl : adz1 = adz4 := (by injection ez4); replace pz4 := eq_true pz4; replace qz4 := eq_true qz4))
   go_roundg kz1
   case measure => have := HKz1.out; omega
   case rel => exact ⟨(wrap64 (xz1 + 1)), rs_, H', ⟨by have := HKz1.out; omega⟩, ⟨lR_ HO_3.out⟩, ⟨be_⟩⟩

def spec_l8Level.f (k : Nat) (a0 : ByteArray) : Option (Bool) := (spec_FilterOk.f k a0).bind fun t141 => (if t141 = true then ((spec_l3Has.f k a0 47).bind fun t142 => (if t142 = true then (some (a0.toList == ([] : List UInt8))) else (some true))) else (some (a0.toList == ([] : List UInt8))))
theorem spec_l8Level.calls (k : Nat) (a0 : ByteArray) (r : Bool) (w : World) (h : spec_l8Level.f k a0 = some r) :
  Calls Tryd.prog 66 #[.string a0] w fun e w' => e = .returned (.bool r) ∧ Below w.heap.size w w' := by
 have HB := Aside0.mk (Below.refl w.heap.size w)
 have H : ((spec_FilterOk.f k a0).bind fun t141 => (if t141 = true then ((spec_l3Has.f k a0 47).bind fun t142 => (if t142 = true then (some (a0.toList == ([] : List UInt8))) else (some true))) else (some (a0.toList == ([] : List UInt8))))) = some r := h
 clear h
 replace H := bo_ H
 obtain ⟨tz1, Az2, H⟩ := H
 (try dsimp only at H)
 by_cases cz1 : tz1 = true
 rotate_left
 ·replace cz1 := Bool.eq_false_iff.mpr cz1
  subst cz1
  replace H := bf_ H
  obtain rfl := Option.some.inj H
  go_enter Tryd.func66, Tryd.ntmps66
  go_wp2_with (first | ((with_reducible refine gate_callee (f := 67) rfl ?_); refine ca_ 4 Tryd.func67 #[.string a0] ?_; (with_reducible refine (spec_FilterOk.calls k a0 false _ Az2.out).mono ?_); rintro e wz1 ⟨rfl, hb⟩; refine ⟨_, rfl, ?_⟩; replace HB := bw_ hb; clear hb))
  go_ret
  exact ⟨er_, be_⟩
 subst cz1
 replace H := bt_ H
 replace H := bo_ H
 obtain ⟨tz2, Az4, H⟩ := H
 (try dsimp only at H)
 by_cases cz2 : tz2 = true
 ·subst cz2
  replace H := bt_ H
  obtain rfl := Option.some.inj H
  go_enter Tryd.func66, Tryd.ntmps66
  go_wp2_with (first | ((with_reducible refine gate_callee (f := 67) rfl ?_); refine ca_ 4 Tryd.func67 #[.string a0] ?_; (with_reducible refine (spec_FilterOk.calls k a0 true _ Az2.out).mono ?_); rintro e wz1 ⟨rfl, hb⟩; refine ⟨_, rfl, ?_⟩; replace HB := bw_ hb; clear hb) | (go_at_call 75; (with_reducible refine (spec_l3Has.calls k a0 47 true _ Az4.out).mono ?_); rintro e w' ⟨rfl, ⟨nd, rfl⟩⟩))
  go_ret
  exact ⟨er_, be_⟩
 replace cz2 := Bool.eq_false_iff.mpr cz2
 subst cz2
 replace H := bf_ H
 obtain rfl := Option.some.inj H
 go_enter Tryd.func66, Tryd.ntmps66
 go_wp2_with (first | ((with_reducible refine gate_callee (f := 67) rfl ?_); refine ca_ 4 Tryd.func67 #[.string a0] ?_; (with_reducible refine (spec_FilterOk.calls k a0 true _ Az2.out).mono ?_); rintro e wz1 ⟨rfl, hb⟩; refine ⟨_, rfl, ?_⟩; replace HB := bw_ hb; clear hb) | (go_at_call 75; (with_reducible refine (spec_l3Has.calls k a0 47 false _ Az4.out).mono ?_); rintro e w' ⟨rfl, ⟨nd, rfl⟩⟩))
 go_ret
 exact ⟨er_, be_⟩

end Go.Proofs.YtggokdobijhdhaaDoor.P
