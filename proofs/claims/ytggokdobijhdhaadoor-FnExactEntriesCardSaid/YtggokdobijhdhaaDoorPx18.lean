-- Printed by a program over the kit's print.py (mp.sh), several laws in one namespace.
import Derived.Test.YtggokdobijhdhaaDoorPx0
import Derived.Test.YtggokdobijhdhaaDoorS
import Derived.Test.YtggokdobijhdhaaDoorPx17
import Derived.Test.YtggokdobijhdhaaDoorX12
import Derived.Test.YtggokdobijhdhaaDoorX5
namespace Go.Proofs.YtggokdobijhdhaaDoor.P
open Go.RowKit Go.Proofs.YtggokdobijhdhaaDoor.X Go.Proofs.YtggokdobijhdhaaDoorW.PrintWords Go.Proofs.YtggokdobijhdhaaDoorW.PrintLast Go.Proofs.YtggokdobijhdhaaDoorW.PrintMore
attribute [local go_sem] max2_int min2_int max_two min_two max_three min_three max_four min_four   -- for this text's walks alone
set_option maxHeartbeats 8000000
set_option maxRecDepth 100000
set_option linter.unusedVariables false
set_option linter.unusedSimpArgs false

def impl_levelOk.f (a0 : ByteArray) (a1 : Bool) : Option (Bool) := (strings_ContainsAny.f a0 (⟨#[43, 35]⟩ : ByteArray)).bind fun t295 => (if t295 = true then (if a0.toList = ([43] : List UInt8) then (some true) else (if a0.toList = ([35] : List UInt8) then (some a1) else (some false))) else (some true))
theorem impl_levelOk_z1 {p : Prop} (h : p := by
 go_enter Tryd.func71, Tryd.ntmps71
 go_wp2_with (first | ((with_reducible refine gate_callee (f := 79) rfl ?_); refine ca_ 6 Tryd.func79 #[.string a0, .string (⟨#[43, 35]⟩ : ByteArray)] ?_; (with_reducible refine (strings_ContainsAny.calls a0 (⟨#[43, 35]⟩ : ByteArray) true _ Az2.out).mono ?_); rintro e wz1 ⟨rfl, hb⟩; refine ⟨_, rfl, ?_⟩; replace HB := bw_ hb; clear hb))
 go_ret
 exact ⟨er_, be_⟩) : p := h
theorem impl_levelOk_z0 {p : Prop} (h : p := by
 obtain rfl := Option.some.inj H
 exact impl_levelOk_z1) : p := h
theorem impl_levelOk.calls (a0 : ByteArray) (a1 : Bool) (r : Bool) (w : World) (h : impl_levelOk.f a0 a1 = some r) :
  Calls Tryd.prog 71 #[.string a0, .bool a1] w fun e w' => e = .returned (.bool r) ∧ Below w.heap.size w w' := by
 have HB := Aside0.mk (Below.refl w.heap.size w)
 have H : ((strings_ContainsAny.f a0 (⟨#[43, 35]⟩ : ByteArray)).bind fun t295 => (if t295 = true then (if a0.toList = ([43] : List UInt8) then (some true) else (if a0.toList = ([35] : List UInt8) then (some a1) else (some false))) else (some true))) = some r := h
 clear h
 replace H := bo_ H
 obtain ⟨tz1, Az2, H⟩ := H
 (try dsimp only at H)
 by_cases cz1 : tz1 = true
 rotate_left
 ·replace cz1 := Bool.eq_false_iff.mpr cz1
  subst cz1
  replace H := bf_ H
  obtain rfl := Option.some.inj H
  go_enter Tryd.func71, Tryd.ntmps71
  go_wp2_with (first | ((with_reducible refine gate_callee (f := 79) rfl ?_); refine ca_ 6 Tryd.func79 #[.string a0, .string (⟨#[43, 35]⟩ : ByteArray)] ?_; (with_reducible refine (strings_ContainsAny.calls a0 (⟨#[43, 35]⟩ : ByteArray) false _ Az2.out).mono ?_); rintro e wz1 ⟨rfl, hb⟩; refine ⟨_, rfl, ?_⟩; replace HB := bw_ hb; clear hb))
  go_ret
  exact ⟨er_, be_⟩
 subst cz1
 replace H := bt_ H
 by_cases cz2 : a0.toList = ([43] : List UInt8)
 ·rw [if_pos cz2] at H
  have cz3 : (a0.toList == ([43] : List UInt8)) = true := beq_iff_eq.mpr cz2
  have cz4 : (a0.toList != ([43] : List UInt8)) = false := bne_eq_false_iff_eq.mpr cz2
  clear cz2
  exact impl_levelOk_z0
 rw [if_neg cz2] at H
 have cz3 : (a0.toList == ([43] : List UInt8)) = false := beq_eq_false_iff_ne.mpr cz2
 have cz4 : (a0.toList != ([43] : List UInt8)) = true := bne_iff_ne.mpr cz2
 by_cases cz5 : a0.toList = ([35] : List UInt8)
 rotate_left
 ·rw [if_neg cz5] at H
  have cz6 : (a0.toList == ([35] : List UInt8)) = false := beq_eq_false_iff_ne.mpr cz5
  have cz7 : (a0.toList != ([35] : List UInt8)) = true := bne_iff_ne.mpr cz5
  exact impl_levelOk_z0
 rw [if_pos cz5] at H
 have cz6 : (a0.toList == ([35] : List UInt8)) = true := beq_iff_eq.mpr cz5
 have cz7 : (a0.toList != ([35] : List UInt8)) = false := bne_eq_false_iff_eq.mpr cz5
 clear cz5
 exact impl_levelOk_z0

def impl_FilterOk.l0 : Nat → ByteArray → List ByteArray → List ByteArray → Int → Int → Option (Bool)
 | 0, _, _, _, _, _ => none
 | k + 1, x0, x3, x8, x9, x10 => if x10 < x9 then (if 0 ≤ x10 then (if x10 < (x8.length : Int) then ((impl_levelOk.f (rdOf ByteArray.empty x8 x10) (x10 == (wrap64 ((x3.length : Int) - 1)))).bind fun t300 => (if t300 = true then (impl_FilterOk.l0 k x0 x3 x8 x9 (wrap64 (x10 + 1))) else (some false))) else (none)) else (none)) else ((impl_TextOk.f x0).bind fun t301 => (if t301 = true then (if x0.toList = ([] : List UInt8) then (some false) else (some (decide ((x3.length : Int) ≤ 6)))) else (some false)))
def impl_FilterOk.f (k : Nat) (a0 : ByteArray) : Option (Bool) := (impl_Levels.f a0).bind fun t296 => (impl_FilterOk.l0 k a0 t296 t296 (t296.length : Int) 0)
theorem impl_FilterOk_z1 {p : Prop} (h : p := by
 go_wp2_with (first | ((with_reducible refine gate_callee (f := 78) rfl ?_); refine ca_ 25 Tryd.func78 #[.string a0] ?_; (with_reducible refine (impl_TextOk.calls a0 true _ ?side1 Az4.out).mono ?_); (case side1 => exact Tabs.below HT.out be_); rintro e wz2 ⟨rfl, hb⟩; refine ⟨_, rfl, ?_⟩; replace HO_3 := bR_ HO_3 hb; replace HO_8 := bR_ HO_8 hb; replace HB := bw_ hb; clear hb))
 go_ret
 exact ⟨er_, be_⟩) : p := h
theorem impl_FilterOk_z0 {p : Prop} (h : p := by
 obtain rfl := Option.some.inj H
 exact impl_FilterOk_z1) : p := h
theorem impl_FilterOk.calls (k : Nat) (a0 : ByteArray) (r : Bool) (w : World) (hT : Tabs w) (h : impl_FilterOk.f k a0 = some r) :
  Calls Tryd.prog 69 #[.string a0] w fun e w' => e = .returned (.bool r) ∧ Below w.heap.size w w' := by
 have HT := Aside0.mk hT
 clear hT
 have HB := Aside0.mk (Below.refl w.heap.size w)
 have H : ((impl_Levels.f a0).bind fun t296 => (impl_FilterOk.l0 k a0 t296 t296 (t296.length : Int) 0)) = some r := h
 clear h
 replace H := bo_ H
 obtain ⟨tz1, Az2, H⟩ := H
 (try dsimp only at H)
 have H' := Aside0.mk H
 clear H
 go_enter Tryd.func69, Tryd.ntmps69
 go_wp2_with (first | ((with_reducible refine gate_callee (f := 70) rfl ?_); refine ca_ 7 Tryd.func70 #[.string a0] ?_; (with_reducible refine (impl_Levels.calls a0 tz1 _ ?side1 Az2.out).mono ?_); (case side1 => exact Tabs.below HT.out be_); rintro e wz1 ⟨vz1, rfl, hoz1, hb⟩; refine ⟨_, rfl, ?_⟩; have HOz1 := Aside0.mk (Kd.R_lower hoz1 (below_size be_)); replace HB := bw_ hb; clear hb hoz1; obtain ⟨Aoz1, coz1, eoz1⟩ := Kd.R_slice HOz1.out; subst eoz1))
 go_loopg [10] k (fun kq v10 w' => ∃ (x10_1 : Int), v10 = .int .i64 x10_1 ∧ Aside0 (impl_FilterOk.l0 kq a0 tz1 tz1 (tz1.length : Int) x10_1 = some r) ∧ Aside0 (kq ≤ k) ∧ Aside0 (Kd.R Kd.string 9 w' w.heap.size (fun _ => True) (.slice Aoz1 tz1.length coz1) tz1) ∧ Aside0 (Kd.R Kd.string 9 w' w.heap.size (fun _ => True) (.slice Aoz1 tz1.length coz1) tz1) ∧ Aside0 (Below w.heap.size w w'))
 case atStart => exact ⟨(0), rs_, H', ⟨Nat.le_refl _⟩, ⟨lR_ HOz1.out⟩, ⟨lR_ HOz1.out⟩, ⟨be_⟩⟩
 case round =>
  clear H'
  obtain ⟨xz1, rfl, HA, HKz1, HO_3, HO_8, HB⟩ := hrel
  cases gk with
  | zero => exact absurd HA.out (by simp [impl_FilterOk.l0])
  | succ kz1 =>
   have H := HA.out
   clear HA
   simp only [impl_FilterOk.l0] at H
   by_cases cz1 : xz1 < (tz1.length : Int)
   ·rw [if_pos cz1] at H
    have cz2 : decide (xz1 < (tz1.length : Int)) = true := decide_eq_true cz1
    clear cz1
    by_cases cz3 : 0 ≤ xz1
    rotate_left
    ·rw [if_neg cz3] at H
     exact absurd H (by simp)
    rw [if_pos cz3] at H
    have cz4 : decide (0 ≤ xz1) = true := decide_eq_true cz3
    clear cz3
    by_cases cz5 : xz1 < (tz1.length : Int)
    rotate_left
    ·rw [if_neg cz5] at H
     exact absurd H (by simp)
    rw [if_pos cz5] at H
    have cz6 : decide (xz1 < (tz1.length : Int)) = true := decide_eq_true cz5
    clear cz5
    replace H := bo_ H
    obtain ⟨tz2, Az4, H⟩ := H
    (try dsimp only at H)
    by_cases cz7 : tz2 = true
    rotate_left
    ·replace cz7 := Bool.eq_false_iff.mpr cz7
     subst cz7
     replace H := bf_ H
     obtain rfl := Option.some.inj H
     have pz1 : 0 ≤ (xz1 : Int) := dt_
     have qz1 : xz1 < (tz1.length : Int) := dt_
     obtain ⟨adz1, ez1, hxz1⟩ := Kd.at_string (Kd.R_reads' HO_8.out).2.2 xz1 pz1 qz1
     cases ez1
     replace pz1 := eq_true pz1
     replace qz1 := eq_true qz1
     go_wp2_with (first | ((with_reducible refine gate_callee (f := 71) rfl ?_); refine ca_ 21 Tryd.func71 #[.string (rdOf ByteArray.empty tz1 xz1), .bool (xz1 == (wrap64 ((tz1.length : Int) - 1)))] ?_; (with_reducible refine (impl_levelOk.calls (rdOf ByteArray.empty tz1 xz1) (xz1 == (wrap64 ((tz1.length : Int) - 1))) false _ Az4.out).mono ?_); rintro e wz2 ⟨rfl, hb⟩; refine ⟨_, rfl, ?_⟩; replace HO_3 := bR_ HO_3 hb; replace HO_8 := bR_ HO_8 hb; replace HB := bw_ hb; clear hb))
     go_ret
     exact ⟨er_, be_⟩
    subst cz7
    replace H := bt_ H
    have H' := Aside0.mk H
    clear H
    have pz1 : 0 ≤ (xz1 : Int) := dt_
    have qz1 : xz1 < (tz1.length : Int) := dt_
    obtain ⟨adz1, ez1, hxz1⟩ := Kd.at_string (Kd.R_reads' HO_8.out).2.2 xz1 pz1 qz1
    cases ez1
    replace pz1 := eq_true pz1
    replace qz1 := eq_true qz1
    go_wp2_with (first | ((with_reducible refine gate_callee (f := 71) rfl ?_); refine ca_ 21 Tryd.func71 #[.string (rdOf ByteArray.empty tz1 xz1), .bool (xz1 == (wrap64 ((tz1.length : Int) - 1)))] ?_; (with_reducible refine (impl_levelOk.calls (rdOf ByteArray.empty tz1 xz1) (xz1 == (wrap64 ((tz1.length : Int) - 1))) true _ Az4.out).mono ?_); rintro e wz2 ⟨rfl, hb⟩; refine ⟨_, rfl, ?_⟩; replace HO_3 := bR_ HO_3 hb; replace HO_8 := bR_ HO_8 hb; replace HB := bw_ hb; clear hb))
    go_roundg kz1
    case measure => have := HKz1.out; omega
    case rel => exact ⟨(wrap64 (xz1 + 1)), rs_, H', ⟨by have := HKz1.out; omega⟩, ⟨lR_ HO_3.out⟩, ⟨lR_ HO_8.out⟩, ⟨be_⟩⟩
   rw [if_neg cz1] at H
   have cz2 : decide (xz1 < (tz1.length : Int)) = false := decide_eq_false cz1
   clear cz1
   replace H := bo_ H
   obtain ⟨tz2, Az4, H⟩ := H
   (try dsimp only at H)
   by_cases cz3 : tz2 = true
   rotate_left
   ·replace cz3 := Bool.eq_false_iff.mpr cz3
    subst cz3
    replace H := bf_ H
    obtain rfl := Option.some.inj H
    go_wp2_with (first | ((with_reducible refine gate_callee (f := 78) rfl ?_); refine ca_ 25 Tryd.func78 #[.string a0] ?_; (with_reducible refine (impl_TextOk.calls a0 false _ ?side1 Az4.out).mono ?_); (case side1 => exact Tabs.below HT.out be_); rintro e wz2 ⟨rfl, hb⟩; refine ⟨_, rfl, ?_⟩; replace HO_3 := bR_ HO_3 hb; replace HO_8 := bR_ HO_8 hb; replace HB := bw_ hb; clear hb))
    go_ret
    exact ⟨er_, be_⟩
   subst cz3
   replace H := bt_ H
   by_cases cz4 : a0.toList = ([] : List UInt8)
   rotate_left
   ·rw [if_neg cz4] at H
    have cz5 : (a0.toList == ([] : List UInt8)) = false := beq_eq_false_iff_ne.mpr cz4
    have cz6 : (a0.toList != ([] : List UInt8)) = true := bne_iff_ne.mpr cz4
    exact impl_FilterOk_z0
   rw [if_pos cz4] at H
   have cz5 : (a0.toList == ([] : List UInt8)) = true := beq_iff_eq.mpr cz4
   have cz6 : (a0.toList != ([] : List UInt8)) = false := bne_eq_false_iff_eq.mpr cz4
   clear cz4
   exact impl_FilterOk_z0

end Go.Proofs.YtggokdobijhdhaaDoor.P
