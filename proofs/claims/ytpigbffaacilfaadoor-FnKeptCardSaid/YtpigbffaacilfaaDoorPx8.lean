-- Printed by a program over the kit's print.py (mp.sh), several laws in one namespace.
import Derived.Test.YtpigbffaacilfaaDoorPx0
import Derived.Test.YtpigbffaacilfaaDoorS
import Derived.Test.YtpigbffaacilfaaDoorX12
import Derived.Test.YtpigbffaacilfaaDoorX5
import Derived.Test.YtpigbffaacilfaaDoorX6
namespace Go.Proofs.YtpigbffaacilfaaDoor.P
open Go.RowKit Go.Proofs.YtpigbffaacilfaaDoor.X Go.Proofs.YtpigbffaacilfaaDoorW.PrintWords Go.Proofs.YtpigbffaacilfaaDoorW.PrintLast Go.Proofs.YtpigbffaacilfaaDoorW.PrintMore
attribute [local go_sem] max2_int min2_int max_two min_two max_three min_three max_four min_four   -- for this text's walks alone
set_option linter.unusedVariables false
set_option linter.unusedSimpArgs false

def impl_Levels.f (a0 : ByteArray) : Option (List ByteArray) := (strings_Split.f a0 (⟨#[47]⟩ : ByteArray)).bind fun t208 => (some t208)
set_option maxHeartbeats 8000000 in
set_option maxRecDepth 100000 in
theorem impl_Levels.calls (a0 : ByteArray) (r : List ByteArray) (w : World) (hT : Tabs w) (h : impl_Levels.f a0 = some r) :
    Calls Tryd.prog 52 #[.string a0] w fun e w' => ∃ v0_ : Value, e = .returned (v0_) ∧ Kd.R Kd.string 9 w' w.heap.size (fun _ => True) v0_ r ∧ Below w.heap.size w w' := by
  have HT := Aside0.mk hT
  clear hT
  have HB := Aside0.mk (Below.refl w.heap.size w)
  have H : ((strings_Split.f a0 (⟨#[47]⟩ : ByteArray)).bind fun t208 => (some t208)) = some r := h
  clear h
  replace H := bo_ H
  obtain ⟨tz1, Az2, H⟩ := H
  (try dsimp only at H)
  obtain rfl := Option.some.inj H
  go_enter Tryd.func52, Tryd.ntmps52
  go_wp2_with (first | ((with_reducible refine gate_callee (f := 68) rfl ?_); refine ca_ 4 Tryd.func68 #[.string a0, .string (⟨#[47]⟩ : ByteArray)] ?_; (with_reducible refine (strings_Split.calls a0 (⟨#[47]⟩ : ByteArray) tz1 _ ?side1 Az2.out).mono ?_); (case side1 => exact Tabs.below HT.out be_); rintro e wz1 ⟨vz1, rfl, hoz1, hb⟩; refine ⟨_, rfl, ?_⟩; have HOz1 := Aside0.mk (Kd.R_lower hoz1 (below_size be_)); replace HB := bw_ hb; clear hb hoz1))
  go_ret
  exact ⟨_, er_, lR_ HOz1.out, be_⟩

def impl_TopicOk.f (a0 : ByteArray) : Option (Bool) := (impl_TextOk.f a0).bind fun t211 => (if t211 = true then (if a0.toList = ([] : List UInt8) then (some false) else ((strings_ContainsAny.f a0 (⟨#[43, 35]⟩ : ByteArray)).bind fun t212 => (if t212 = true then (some false) else ((impl_Levels.f a0).bind fun t213 => (some (decide ((t213.length : Int) ≤ 6))))))) else (some false))
set_option maxHeartbeats 8000000 in
set_option maxRecDepth 100000 in
theorem impl_TopicOk.calls (a0 : ByteArray) (r : Bool) (w : World) (hT : Tabs w) (h : impl_TopicOk.f a0 = some r) :
    Calls Tryd.prog 27 #[.string a0] w fun e w' => e = .returned (.bool r) ∧ Below w.heap.size w w' := by
  have HT := Aside0.mk hT
  clear hT
  have HB := Aside0.mk (Below.refl w.heap.size w)
  have H : ((impl_TextOk.f a0).bind fun t211 => (if t211 = true then (if a0.toList = ([] : List UInt8) then (some false) else ((strings_ContainsAny.f a0 (⟨#[43, 35]⟩ : ByteArray)).bind fun t212 => (if t212 = true then (some false) else ((impl_Levels.f a0).bind fun t213 => (some (decide ((t213.length : Int) ≤ 6))))))) else (some false))) = some r := h
  clear h
  replace H := bo_ H
  obtain ⟨tz1, Az2, H⟩ := H
  (try dsimp only at H)
  by_cases cz1 : tz1 = true
  rotate_left
  · replace cz1 := Bool.eq_false_iff.mpr cz1
    subst cz1
    replace H := bf_ H
    obtain rfl := Option.some.inj H
    go_enter Tryd.func27, Tryd.ntmps27
    go_wp2_with (first | ((with_reducible refine gate_callee (f := 50) rfl ?_); refine ca_ 4 Tryd.func50 #[.string a0] ?_; (with_reducible refine (impl_TextOk.calls a0 false _ ?side1 Az2.out).mono ?_); (case side1 => exact Tabs.below HT.out be_); rintro e wz1 ⟨rfl, hb⟩; refine ⟨_, rfl, ?_⟩; replace HB := bw_ hb; clear hb))
    go_ret
    exact ⟨er_, be_⟩
  subst cz1
  replace H := bt_ H
  by_cases cz2 : a0.toList = ([] : List UInt8)
  · rw [if_pos cz2] at H
    have cz3 : (a0.toList == ([] : List UInt8)) = true := beq_iff_eq.mpr cz2
    have cz4 : (a0.toList != ([] : List UInt8)) = false := bne_eq_false_iff_eq.mpr cz2
    clear cz2
    obtain rfl := Option.some.inj H
    go_enter Tryd.func27, Tryd.ntmps27
    go_wp2_with (first | ((with_reducible refine gate_callee (f := 50) rfl ?_); refine ca_ 4 Tryd.func50 #[.string a0] ?_; (with_reducible refine (impl_TextOk.calls a0 true _ ?side1 Az2.out).mono ?_); (case side1 => exact Tabs.below HT.out be_); rintro e wz1 ⟨rfl, hb⟩; refine ⟨_, rfl, ?_⟩; replace HB := bw_ hb; clear hb))
    go_ret
    exact ⟨er_, be_⟩
  rw [if_neg cz2] at H
  have cz3 : (a0.toList == ([] : List UInt8)) = false := beq_eq_false_iff_ne.mpr cz2
  have cz4 : (a0.toList != ([] : List UInt8)) = true := bne_iff_ne.mpr cz2
  replace H := bo_ H
  obtain ⟨tz2, Az4, H⟩ := H
  (try dsimp only at H)
  by_cases cz5 : tz2 = true
  · subst cz5
    replace H := bt_ H
    obtain rfl := Option.some.inj H
    go_enter Tryd.func27, Tryd.ntmps27
    go_wp2_with (first | ((with_reducible refine gate_callee (f := 50) rfl ?_); refine ca_ 4 Tryd.func50 #[.string a0] ?_; (with_reducible refine (impl_TextOk.calls a0 true _ ?side1 Az2.out).mono ?_); (case side1 => exact Tabs.below HT.out be_); rintro e wz1 ⟨rfl, hb⟩; refine ⟨_, rfl, ?_⟩; replace HB := bw_ hb; clear hb) | (go_at_call 51; (with_reducible refine (strings_ContainsAny.calls a0 (⟨#[43, 35]⟩ : ByteArray) true _ Az4.out).mono ?_); rintro e wz2 ⟨rfl, hb⟩; replace HB := bw_ hb; clear hb))
    go_ret
    exact ⟨er_, be_⟩
  replace cz5 := Bool.eq_false_iff.mpr cz5
  subst cz5
  replace H := bf_ H
  replace H := bo_ H
  obtain ⟨tz3, Az6, H⟩ := H
  (try dsimp only at H)
  obtain rfl := Option.some.inj H
  go_enter Tryd.func27, Tryd.ntmps27
  go_wp2_with (first | ((with_reducible refine gate_callee (f := 50) rfl ?_); refine ca_ 4 Tryd.func50 #[.string a0] ?_; (with_reducible refine (impl_TextOk.calls a0 true _ ?side1 Az2.out).mono ?_); (case side1 => exact Tabs.below HT.out be_); rintro e wz1 ⟨rfl, hb⟩; refine ⟨_, rfl, ?_⟩; replace HB := bw_ hb; clear hb) | (go_at_call 51; (with_reducible refine (strings_ContainsAny.calls a0 (⟨#[43, 35]⟩ : ByteArray) false _ Az4.out).mono ?_); rintro e wz2 ⟨rfl, hb⟩; replace HB := bw_ hb; clear hb) | (go_at_call 52; (with_reducible refine (impl_Levels.calls a0 tz3 _ ?side1 Az6.out).mono ?_); (case side1 => exact Tabs.below HT.out be_); rintro e wz3 ⟨vz1, rfl, hoz1, hb⟩; have HOz1 := Aside0.mk (Kd.R_lower hoz1 (below_size be_)); replace HB := bw_ hb; clear hb hoz1; obtain ⟨Aoz1, coz1, eoz1⟩ := Kd.R_slice HOz1.out; subst eoz1))
  go_ret
  exact ⟨er_, be_⟩

def impl_within.f (a0 : Int) (a1 : Int) (a2 : Int) : Option (Bool) := if a0 ≥ a1 then (some (decide (a0 ≤ a2))) else (some false)
set_option maxHeartbeats 8000000 in
set_option maxRecDepth 100000 in
theorem impl_within.calls (a0 : Int) (a1 : Int) (a2 : Int) (r : Bool) (w : World) (h : impl_within.f a0 a1 a2 = some r) :
    Calls Tryd.prog 44 #[.int .i64 a0, .int .i64 a1, .int .i64 a2] w fun e w' => e = .returned (.bool r) ∧ Drawn0 w w' := by
  have H : (if a0 ≥ a1 then (some (decide (a0 ≤ a2))) else (some false)) = some r := h
  clear h
  by_cases cz1 : a0 ≥ a1
  · rw [if_pos cz1] at H
    have cz2 : decide (a1 ≤ a0) = true := decide_eq_true cz1
    clear cz1
    obtain rfl := Option.some.inj H
    go_enter Tryd.func44, Tryd.ntmps44
    go_wp2
    go_ret
    exact ⟨rs_, dr_⟩
  rw [if_neg cz1] at H
  have cz2 : decide (a1 ≤ a0) = false := decide_eq_false cz1
  clear cz1
  obtain rfl := Option.some.inj H
  go_enter Tryd.func44, Tryd.ntmps44
  go_wp2
  go_ret
  exact ⟨rs_, dr_⟩

def impl_isQos.f (a0 : Int) : Option (Bool) := (impl_within.f a0 0 2).bind fun t216 => (some t216)
set_option maxHeartbeats 8000000 in
set_option maxRecDepth 100000 in
theorem impl_isQos.calls (a0 : Int) (r : Bool) (w : World) (h : impl_isQos.f a0 = some r) :
    Calls Tryd.prog 28 #[.int .i64 a0] w fun e w' => e = .returned (.bool r) ∧ Drawn0 w w' := by
  have H : ((impl_within.f a0 0 2).bind fun t216 => (some t216)) = some r := h
  clear h
  replace H := bo_ H
  obtain ⟨tz1, Az2, H⟩ := H
  (try dsimp only at H)
  obtain rfl := Option.some.inj H
  go_enter Tryd.func28, Tryd.ntmps28
  go_wp2_with (first | ((with_reducible refine gate_callee (f := 44) rfl ?_); refine ca_ 4 Tryd.func44 #[.int .i64 a0, .int .i64 0, .int .i64 2] ?_; (with_reducible refine (impl_within.calls a0 0 2 tz1 _ Az2.out).mono ?_); rintro e w' ⟨rfl, ⟨nd, rfl⟩⟩; refine ⟨_, rfl, ?_⟩))
  go_ret
  exact ⟨rs_, dr_⟩

end Go.Proofs.YtpigbffaacilfaaDoor.P
