-- Printed by a program over the kit's print.py (mp.sh), several laws in one namespace.
import Derived.Test.YtkeacohngljhaaaPx0
namespace Go.Proofs.Ytkeacohngljhaaa.P
open Go.RowKit Go.Proofs.YtkeacohngljhaaaW.PrintWords Go.Proofs.YtkeacohngljhaaaW.PrintLast Go.Proofs.YtkeacohngljhaaaW.PrintMore
attribute [local go_sem] max2_int min2_int max_two min_two max_three min_three max_four min_four   -- for this text's walks alone
set_option linter.unusedVariables false
set_option linter.unusedSimpArgs false

/-! ### laws_FnExactConstants: function 3 -/
def laws_FnExactConstants.f  : Option (Bool) := some true
set_option maxHeartbeats 8000000 in
set_option maxRecDepth 100000 in
theorem laws_FnExactConstants.calls  (r : Bool) (w : World) (h : laws_FnExactConstants.f  = some r) :
    Calls Try.prog 3 #[] w fun e w' => e = .returned (.bool r) ∧ Drawn0 w w' := by
  have H : (some true) = some r := h
  clear h
  obtain rfl := Option.some.inj H
  go_enter Try.func3, Try.ntmps3
  go_wp2
  go_ret
  exact ⟨by first | rfl | (simp; done) | (simp [*]; done), by repeat (first | exact Drawn0.refl _ | apply Drawn0.step)⟩

/-- THE ONE PURE STATEMENT of laws_FnExactConstants: yours. -/
def laws_FnExactConstants.Pure : Prop := laws_FnExactConstants.f  = some true
theorem laws_FnExactConstants.walk (P : laws_FnExactConstants.Pure)  (w : World)  :
    Calls Try.prog 3 #[] w fun e w' => e = .returned (.bool true) ∧ Below w.heap.size w w' := by
  have h := P  
  refine (laws_FnExactConstants.calls  true w h).mono ?_
  rintro e w' ⟨rfl, hd⟩
  exact ⟨rfl, hd.below⟩

/-! ### spec_Hidden: function 15 -/
def spec_Hidden.f (a0 : ByteArray) : Option (Bool) := if (a0.size : Int) > 0 then (if 0 < (a0.size : Int) then (some ((bt a0 0) == 36)) else (none)) else (some false)
set_option maxHeartbeats 8000000 in
set_option maxRecDepth 100000 in
theorem spec_Hidden.calls (a0 : ByteArray) (r : Bool) (w : World) (h : spec_Hidden.f a0 = some r) :
    Calls Try.prog 15 #[.string a0] w fun e w' => e = .returned (.bool r) ∧ Drawn0 w w' := by
  have H : (if (a0.size : Int) > 0 then (if 0 < (a0.size : Int) then (some ((bt a0 0) == 36)) else (none)) else (some false)) = some r := h
  clear h
  by_cases c2 : (a0.size : Int) > 0
  · rw [if_pos c2] at H
    have c2b0 : decide (0 < (a0.size : Int)) = true := decide_eq_true c2
    have c2b1 : decide (0 < a0.size) = true := decide_eq_true (by omega)
    clear c2
    by_cases c3 : 0 < (a0.size : Int)
    · rw [if_pos c3] at H
      have c3b0 : decide (0 < (a0.size : Int)) = true := decide_eq_true c3
      have c3b1 : decide (0 < a0.size) = true := decide_eq_true (by omega)
      clear c3
      obtain rfl := Option.some.inj H
      have p4 : 0 ≤ (0 : Int) := (by omega)
      have q4 : 0 < a0.size := (by have : (0 : Int) < (a0.size : Int) := of_decide_eq_true (by first | (with_reducible assumption) | assumption); omega)
      have hx4 : ∀ h : 0 < a0.size, ((a0[0]'h).toNat : Int) = bt a0 0 := bt_at a0 0
      clear p4
      have qi4 : (0 < (a0.size : Int)) = True := eq_true (of_decide_eq_true (by first | (with_reducible assumption) | assumption))
      replace q4 := eq_true q4
      go_enter Try.func15, Try.ntmps15
      go_wp2
      go_ret
      exact ⟨by first | rfl | (simp; done) | (simp [*]; done), by repeat (first | exact Drawn0.refl _ | apply Drawn0.step)⟩
    · rw [if_neg c3] at H
      exact absurd H (by simp)
  · rw [if_neg c2] at H
    have c2b0 : decide (0 < (a0.size : Int)) = false := decide_eq_false c2
    have c2b1 : decide (0 < a0.size) = false := decide_eq_false (by omega)
    clear c2
    obtain rfl := Option.some.inj H
    go_enter Try.func15, Try.ntmps15
    go_wp2
    go_ret
    exact ⟨by first | rfl | (simp; done) | (simp [*]; done), by repeat (first | exact Drawn0.refl _ | apply Drawn0.step)⟩

/-! ### stringslite_HasPrefix: function 50 -/
def stringslite_HasPrefix.f (a0 : ByteArray) (a1 : ByteArray) : Option (Bool) := if (a0.size : Int) ≥ (a1.size : Int) then (if 0 ≤ (a1.size : Int) then (if (a1.size : Int) ≤ (a0.size : Int) then (some ((a0.extract 0 ((a1.size : Int) : Int).toNat).toList == a1.toList)) else (none)) else (none)) else (some false)
set_option maxHeartbeats 8000000 in
set_option maxRecDepth 100000 in
theorem stringslite_HasPrefix.calls (a0 : ByteArray) (a1 : ByteArray) (r : Bool) (w : World) (h : stringslite_HasPrefix.f a0 a1 = some r) :
    Calls Try.prog 50 #[.string a0, .string a1] w fun e w' => e = .returned (.bool r) ∧ Drawn0 w w' := by
  have H : (if (a0.size : Int) ≥ (a1.size : Int) then (if 0 ≤ (a1.size : Int) then (if (a1.size : Int) ≤ (a0.size : Int) then (some ((a0.extract 0 ((a1.size : Int) : Int).toNat).toList == a1.toList)) else (none)) else (none)) else (some false)) = some r := h
  clear h
  by_cases c3 : (a0.size : Int) ≥ (a1.size : Int)
  · rw [if_pos c3] at H
    have c3b0 : decide ((a1.size : Int) ≤ (a0.size : Int)) = true := decide_eq_true c3
    have c3b1 : decide (a1.size ≤ a0.size) = true := decide_eq_true (Int.ofNat_le.mp c3)
    clear c3
    by_cases c4 : 0 ≤ (a1.size : Int)
    · rw [if_pos c4] at H
      have c4b0 := eq_true c4
      have c4b1 : decide (0 ≤ (a1.size : Int)) = true := decide_eq_true c4
      clear c4
      by_cases c5 : (a1.size : Int) ≤ (a0.size : Int)
      · rw [if_pos c5] at H
        have c5b0 := eq_true c5
        have c5b1 : decide ((a1.size : Int) ≤ (a0.size : Int)) = true := decide_eq_true c5
        clear c5
        obtain rfl := Option.some.inj H
        go_enter Try.func50, Try.ntmps50
        go_wp2
        go_ret
        exact ⟨by first | rfl | (simp; done) | (simp [*]; done), by repeat (first | exact Drawn0.refl _ | apply Drawn0.step)⟩
      · rw [if_neg c5] at H
        exact absurd H (by simp)
    · rw [if_neg c4] at H
      exact absurd H (by simp)
  · rw [if_neg c3] at H
    have c3b0 : decide ((a1.size : Int) ≤ (a0.size : Int)) = false := decide_eq_false c3
    have c3b1 : decide (a1.size ≤ a0.size) = false := decide_eq_false (fun h => c3 (Int.ofNat_le.mpr h))
    clear c3
    obtain rfl := Option.some.inj H
    go_enter Try.func50, Try.ntmps50
    go_wp2
    go_ret
    exact ⟨by first | rfl | (simp; done) | (simp [*]; done), by repeat (first | exact Drawn0.refl _ | apply Drawn0.step)⟩

/-! ### strings_HasPrefix: function 43 -/
def strings_HasPrefix.f (a0 : ByteArray) (a1 : ByteArray) : Option (Bool) := (stringslite_HasPrefix.f a0 a1).bind fun t101 => (some t101)
set_option maxHeartbeats 8000000 in
set_option maxRecDepth 100000 in
theorem strings_HasPrefix.calls (a0 : ByteArray) (a1 : ByteArray) (r : Bool) (w : World) (h : strings_HasPrefix.f a0 a1 = some r) :
    Calls Try.prog 43 #[.string a0, .string a1] w fun e w' => e = .returned (.bool r) ∧ Drawn0 w w' := by
  have H : ((stringslite_HasPrefix.f a0 a1).bind fun t101 => (some t101)) = some r := h
  clear h
  replace H := Option.bind_eq_some_iff.mp H
  obtain ⟨t101, A30, H⟩ := H
  replace H : (some t101) = some r := H
  have A3 := Aside0.mk A30
  clear A30
  obtain rfl := Option.some.inj H
  go_enter Try.func43, Try.ntmps43
  go_wp2_with (first | ((with_reducible refine gate_callee (f := 50) rfl ?_); refine goesL_ (some 7) rfl rfl Try.func50 (by kernel_rfl) rfl #[.string a0, .string a1] rfl (by (try simp only [List.map_toArray, List.map_cons, List.map_nil]); first | done | rfl | (simp only [List.length_drop, List.length_take]; rfl)) ?_; (with_reducible refine (stringslite_HasPrefix.calls a0 a1 t101 _ A3.out).mono ?_); rintro e w' ⟨rfl, ⟨nd, rfl⟩⟩; refine ⟨_, rfl, ?_⟩))
  go_ret
  exact ⟨by first | rfl | (simp; done) | (simp [*]; done), by repeat (first | exact Drawn0.refl _ | apply Drawn0.step)⟩

/-! ### impl_Hidden: function 16 -/
def impl_Hidden.f (a0 : ByteArray) : Option (Bool) := (strings_HasPrefix.f a0 (⟨#[36]⟩ : ByteArray)).bind fun t102 => (some t102)
set_option maxHeartbeats 8000000 in
set_option maxRecDepth 100000 in
theorem impl_Hidden.calls (a0 : ByteArray) (r : Bool) (w : World) (h : impl_Hidden.f a0 = some r) :
    Calls Try.prog 16 #[.string a0] w fun e w' => e = .returned (.bool r) ∧ Drawn0 w w' := by
  have H : ((strings_HasPrefix.f a0 (⟨#[36]⟩ : ByteArray)).bind fun t102 => (some t102)) = some r := h
  clear h
  replace H := Option.bind_eq_some_iff.mp H
  obtain ⟨t102, A20, H⟩ := H
  replace H : (some t102) = some r := H
  have A2 := Aside0.mk A20
  clear A20
  obtain rfl := Option.some.inj H
  go_enter Try.func16, Try.ntmps16
  go_wp2_with (first | ((with_reducible refine gate_callee (f := 43) rfl ?_); refine goesL_ (some 4) rfl rfl Try.func43 (by kernel_rfl) rfl #[.string a0, .string (⟨#[36]⟩ : ByteArray)] rfl (by (try simp only [List.map_toArray, List.map_cons, List.map_nil]); first | done | rfl | (simp only [List.length_drop, List.length_take]; rfl)) ?_; (with_reducible refine (strings_HasPrefix.calls a0 (⟨#[36]⟩ : ByteArray) t102 _ A2.out).mono ?_); rintro e w' ⟨rfl, ⟨nd, rfl⟩⟩; refine ⟨_, rfl, ?_⟩))
  go_ret
  exact ⟨by first | rfl | (simp; done) | (simp [*]; done), by repeat (first | exact Drawn0.refl _ | apply Drawn0.step)⟩

/-! ### laws_FnExactHidden: function 4 -/
def laws_FnExactHidden.f (a0 : ByteArray) : Option (Bool) := if (a0.size : Int) > 1048576 then (some true) else ((spec_Hidden.f a0).bind fun t103 => ((impl_Hidden.f a0).bind fun t104 => (if (t104 != t103) = true then (some false) else (some true))))
set_option maxHeartbeats 8000000 in
set_option maxRecDepth 100000 in
theorem laws_FnExactHidden.calls (a0 : ByteArray) (r : Bool) (w : World) (h : laws_FnExactHidden.f a0 = some r) :
    Calls Try.prog 4 #[.string a0] w fun e w' => e = .returned (.bool r) ∧ Drawn0 w w' := by
  have H : (if (a0.size : Int) > 1048576 then (some true) else ((spec_Hidden.f a0).bind fun t103 => ((impl_Hidden.f a0).bind fun t104 => (if (t104 != t103) = true then (some false) else (some true))))) = some r := h
  clear h
  by_cases c2 : (a0.size : Int) > 1048576
  · rw [if_pos c2] at H
    have c2b0 : decide (1048576 < (a0.size : Int)) = true := decide_eq_true c2
    have c2b1 : decide (1048576 < a0.size) = true := decide_eq_true (by omega)
    clear c2
    obtain rfl := Option.some.inj H
    go_enter Try.func4, Try.ntmps4
    go_wp2
    go_ret
    exact ⟨by first | rfl | (simp; done) | (simp [*]; done), by repeat (first | exact Drawn0.refl _ | apply Drawn0.step)⟩
  · rw [if_neg c2] at H
    have c2b0 : decide (1048576 < (a0.size : Int)) = false := decide_eq_false c2
    have c2b1 : decide (1048576 < a0.size) = false := decide_eq_false (by omega)
    clear c2
    replace H := Option.bind_eq_some_iff.mp H
    obtain ⟨t103, A30, H⟩ := H
    replace H : ((impl_Hidden.f a0).bind fun t104 => (if (t104 != t103) = true then (some false) else (some true))) = some r := H
    have A3 := Aside0.mk A30
    clear A30
    replace H := Option.bind_eq_some_iff.mp H
    obtain ⟨t104, A40, H⟩ := H
    replace H : (if (t104 != t103) = true then (some false) else (some true)) = some r := H
    have A4 := Aside0.mk A40
    clear A40
    by_cases c5 : (t104 != t103) = true
    · rw [if_pos c5] at H
      have c5b0 : (t104 != t103) = true := c5
      (try (have c5b1 : decide (t104 = t103) = false := by simpa using c5))
      (try (have c5b2 : (t104 == t103) = false := by simpa using c5))
      (try (have c5b3 : ¬ (t104 = t103) := by simpa using c5))
      clear c5
      obtain rfl := Option.some.inj H
      go_enter Try.func4, Try.ntmps4
      go_wp2_with (first | ((with_reducible refine gate_callee (f := 15) rfl ?_); refine goesL_ (some 9) rfl rfl Try.func15 (by kernel_rfl) rfl #[.string a0] rfl (by (try simp only [List.map_toArray, List.map_cons, List.map_nil]); first | done | rfl | (simp only [List.length_drop, List.length_take]; rfl)) ?_; (with_reducible refine (spec_Hidden.calls a0 t103 _ A3.out).mono ?_); rintro e w' ⟨rfl, ⟨nd, rfl⟩⟩; refine ⟨_, rfl, ?_⟩) | ((with_reducible refine gate_callee (f := 16) rfl ?_); refine goesL_ (some 11) rfl rfl Try.func16 (by kernel_rfl) rfl #[.string a0] rfl (by (try simp only [List.map_toArray, List.map_cons, List.map_nil]); first | done | rfl | (simp only [List.length_drop, List.length_take]; rfl)) ?_; (with_reducible refine (impl_Hidden.calls a0 t104 _ A4.out).mono ?_); rintro e w' ⟨rfl, ⟨nd, rfl⟩⟩; refine ⟨_, rfl, ?_⟩))
      go_ret
      exact ⟨by first | rfl | (simp; done) | (simp [*]; done), by repeat (first | exact Drawn0.refl _ | apply Drawn0.step)⟩
    · rw [if_neg c5] at H
      have c5b0 : (t104 != t103) = false := by simpa using c5
      (try (have c5b1 : decide (t104 = t103) = true := by simpa using c5))
      (try (have c5b2 : (t104 == t103) = true := by simpa using c5))
      clear c5
      obtain rfl := Option.some.inj H
      go_enter Try.func4, Try.ntmps4
      go_wp2_with (first | ((with_reducible refine gate_callee (f := 15) rfl ?_); refine goesL_ (some 9) rfl rfl Try.func15 (by kernel_rfl) rfl #[.string a0] rfl (by (try simp only [List.map_toArray, List.map_cons, List.map_nil]); first | done | rfl | (simp only [List.length_drop, List.length_take]; rfl)) ?_; (with_reducible refine (spec_Hidden.calls a0 t103 _ A3.out).mono ?_); rintro e w' ⟨rfl, ⟨nd, rfl⟩⟩; refine ⟨_, rfl, ?_⟩) | ((with_reducible refine gate_callee (f := 16) rfl ?_); refine goesL_ (some 11) rfl rfl Try.func16 (by kernel_rfl) rfl #[.string a0] rfl (by (try simp only [List.map_toArray, List.map_cons, List.map_nil]); first | done | rfl | (simp only [List.length_drop, List.length_take]; rfl)) ?_; (with_reducible refine (impl_Hidden.calls a0 t104 _ A4.out).mono ?_); rintro e w' ⟨rfl, ⟨nd, rfl⟩⟩; refine ⟨_, rfl, ?_⟩))
      go_ret
      exact ⟨by first | rfl | (simp; done) | (simp [*]; done), by repeat (first | exact Drawn0.refl _ | apply Drawn0.step)⟩

/-- THE ONE PURE STATEMENT of laws_FnExactHidden: yours. -/
def laws_FnExactHidden.Pure : Prop := ∀ (a0 : ByteArray), a0.size ≤ 140737488351232 → laws_FnExactHidden.f a0 = some true
theorem laws_FnExactHidden.walk (P : laws_FnExactHidden.Pure) (a0 : ByteArray) (w : World) (w0 : a0.size ≤ 140737488351232) :
    Calls Try.prog 4 #[.string a0] w fun e w' => e = .returned (.bool true) ∧ Below w.heap.size w w' := by
  have h := P a0 w0
  refine (laws_FnExactHidden.calls a0 true w h).mono ?_
  rintro e w' ⟨rfl, hd⟩
  exact ⟨rfl, hd.below⟩

/-! ### spec_l1In: function 44 -/
def spec_l1In.f (a0 : Int) (a1 : Int) (a2 : Int) : Option (Bool) := if a0 ≥ a1 then (some (decide (a0 ≤ a2))) else (some false)
set_option maxHeartbeats 8000000 in
set_option maxRecDepth 100000 in
theorem spec_l1In.calls (a0 : Int) (a1 : Int) (a2 : Int) (r : Bool) (w : World) (h : spec_l1In.f a0 a1 a2 = some r) :
    Calls Try.prog 44 #[.int .i64 a0, .int .i64 a1, .int .i64 a2] w fun e w' => e = .returned (.bool r) ∧ Drawn0 w w' := by
  have H : (if a0 ≥ a1 then (some (decide (a0 ≤ a2))) else (some false)) = some r := h
  clear h
  by_cases c4 : a0 ≥ a1
  · rw [if_pos c4] at H
    have c4b0 : decide (a1 ≤ a0) = true := decide_eq_true c4
    clear c4
    obtain rfl := Option.some.inj H
    go_enter Try.func44, Try.ntmps44
    go_wp2
    go_ret
    exact ⟨by first | rfl | (simp; done) | (simp [*]; done), by repeat (first | exact Drawn0.refl _ | apply Drawn0.step)⟩
  · rw [if_neg c4] at H
    have c4b0 : decide (a1 ≤ a0) = false := decide_eq_false c4
    clear c4
    obtain rfl := Option.some.inj H
    go_enter Try.func44, Try.ntmps44
    go_wp2
    go_ret
    exact ⟨by first | rfl | (simp; done) | (simp [*]; done), by repeat (first | exact Drawn0.refl _ | apply Drawn0.step)⟩

/-! ### spec_TypeName: function 17 -/
def spec_TypeName.f (a0 : Int) : Option (ByteArray) := (some (([(⟨#[99, 111, 110, 110, 101, 99, 116]⟩ : ByteArray), (⟨#[99, 111, 110, 110, 97, 99, 107]⟩ : ByteArray), (⟨#[112, 117, 98, 108, 105, 115, 104]⟩ : ByteArray), (⟨#[112, 117, 98, 97, 99, 107]⟩ : ByteArray), (⟨#[112, 117, 98, 114, 101, 99]⟩ : ByteArray), (⟨#[112, 117, 98, 114, 101, 108]⟩ : ByteArray), (⟨#[112, 117, 98, 99, 111, 109, 112]⟩ : ByteArray), (⟨#[115, 117, 98, 115, 99, 114, 105, 98, 101]⟩ : ByteArray), (⟨#[115, 117, 98, 97, 99, 107]⟩ : ByteArray), (⟨#[117, 110, 115, 117, 98, 115, 99, 114, 105, 98, 101]⟩ : ByteArray), (⟨#[117, 110, 115, 117, 98, 97, 99, 107]⟩ : ByteArray), (⟨#[112, 105, 110, 103, 114, 101, 113]⟩ : ByteArray), (⟨#[112, 105, 110, 103, 114, 101, 115, 112]⟩ : ByteArray), (⟨#[100, 105, 115, 99, 111, 110, 110, 101, 99, 116]⟩ : ByteArray)] : List ByteArray) : List ByteArray)).bind fun y105 => ((spec_l1In.f a0 1 14).bind fun t108 => (if t108 = true then (if 0 ≤ (wrap64 (a0 - 1)) then (if (wrap64 (a0 - 1)) < (y105.length : Int) then (some (rdOf ByteArray.empty y105 (wrap64 (a0 - 1)))) else (none)) else (none)) else (some (⟨#[]⟩ : ByteArray))))
set_option maxHeartbeats 8000000 in
set_option maxRecDepth 100000 in
theorem spec_TypeName.calls (a0 : Int) (r : ByteArray) (w : World) (h : spec_TypeName.f a0 = some r) :
    Calls Try.prog 17 #[.int .i64 a0] w fun e w' => e = .returned (.string r) ∧ Below w.heap.size w w' := by
  have HB := Aside0.mk (Below.refl w.heap.size w)
  have H : ((some (([(⟨#[99, 111, 110, 110, 101, 99, 116]⟩ : ByteArray), (⟨#[99, 111, 110, 110, 97, 99, 107]⟩ : ByteArray), (⟨#[112, 117, 98, 108, 105, 115, 104]⟩ : ByteArray), (⟨#[112, 117, 98, 97, 99, 107]⟩ : ByteArray), (⟨#[112, 117, 98, 114, 101, 99]⟩ : ByteArray), (⟨#[112, 117, 98, 114, 101, 108]⟩ : ByteArray), (⟨#[112, 117, 98, 99, 111, 109, 112]⟩ : ByteArray), (⟨#[115, 117, 98, 115, 99, 114, 105, 98, 101]⟩ : ByteArray), (⟨#[115, 117, 98, 97, 99, 107]⟩ : ByteArray), (⟨#[117, 110, 115, 117, 98, 115, 99, 114, 105, 98, 101]⟩ : ByteArray), (⟨#[117, 110, 115, 117, 98, 97, 99, 107]⟩ : ByteArray), (⟨#[112, 105, 110, 103, 114, 101, 113]⟩ : ByteArray), (⟨#[112, 105, 110, 103, 114, 101, 115, 112]⟩ : ByteArray), (⟨#[100, 105, 115, 99, 111, 110, 110, 101, 99, 116]⟩ : ByteArray)] : List ByteArray) : List ByteArray)).bind fun y105 => ((spec_l1In.f a0 1 14).bind fun t108 => (if t108 = true then (if 0 ≤ (wrap64 (a0 - 1)) then (if (wrap64 (a0 - 1)) < (y105.length : Int) then (some (rdOf ByteArray.empty y105 (wrap64 (a0 - 1)))) else (none)) else (none)) else (some (⟨#[]⟩ : ByteArray))))) = some r := h
  clear h
  obtain ⟨y105, hy105⟩ : ∃ y_ : List ByteArray, y_ = (([(⟨#[99, 111, 110, 110, 101, 99, 116]⟩ : ByteArray), (⟨#[99, 111, 110, 110, 97, 99, 107]⟩ : ByteArray), (⟨#[112, 117, 98, 108, 105, 115, 104]⟩ : ByteArray), (⟨#[112, 117, 98, 97, 99, 107]⟩ : ByteArray), (⟨#[112, 117, 98, 114, 101, 99]⟩ : ByteArray), (⟨#[112, 117, 98, 114, 101, 108]⟩ : ByteArray), (⟨#[112, 117, 98, 99, 111, 109, 112]⟩ : ByteArray), (⟨#[115, 117, 98, 115, 99, 114, 105, 98, 101]⟩ : ByteArray), (⟨#[115, 117, 98, 97, 99, 107]⟩ : ByteArray), (⟨#[117, 110, 115, 117, 98, 115, 99, 114, 105, 98, 101]⟩ : ByteArray), (⟨#[117, 110, 115, 117, 98, 97, 99, 107]⟩ : ByteArray), (⟨#[112, 105, 110, 103, 114, 101, 113]⟩ : ByteArray), (⟨#[112, 105, 110, 103, 114, 101, 115, 112]⟩ : ByteArray), (⟨#[100, 105, 115, 99, 111, 110, 110, 101, 99, 116]⟩ : ByteArray)] : List ByteArray)) := ⟨_, rfl⟩
  replace H : ((spec_l1In.f a0 1 14).bind fun t108 => (if t108 = true then (if 0 ≤ (wrap64 (a0 - 1)) then (if (wrap64 (a0 - 1)) < (y105.length : Int) then (some (rdOf ByteArray.empty y105 (wrap64 (a0 - 1)))) else (none)) else (none)) else (some (⟨#[]⟩ : ByteArray)))) = some r := by first | (rw [hy105]; with_reducible exact H) | (have H2_ := (Option.bind_some _ _).symm.trans H; rw [hy105]; with_reducible exact H2_) | (have H2_ := (Option.bind_some _ _).symm.trans H; with_reducible exact H2_) | with_reducible exact H | (rw [hy105]; exact H) | exact H
  have Ny105 := Aside0.mk hy105
  clear hy105
  replace H := Option.bind_eq_some_iff.mp H
  obtain ⟨t108, A20, H⟩ := H
  replace H : (if t108 = true then (if 0 ≤ (wrap64 (a0 - 1)) then (if (wrap64 (a0 - 1)) < (y105.length : Int) then (some (rdOf ByteArray.empty y105 (wrap64 (a0 - 1)))) else (none)) else (none)) else (some (⟨#[]⟩ : ByteArray))) = some r := H
  have A2 := Aside0.mk A20
  clear A20
  by_cases c3 : t108 = true
  · subst c3
    have H1 : (if 0 ≤ (wrap64 (a0 - 1)) then (if (wrap64 (a0 - 1)) < (y105.length : Int) then (some (rdOf ByteArray.empty y105 (wrap64 (a0 - 1)))) else (none)) else (none)) = some r := by rw [if_pos rfl] at H; exact H
    clear H
    have H := H1
    clear H1
    obtain ⟨ji4, hji4⟩ : ∃ j_ : Int, (wrap64 (a0 - 1)) = j_ := ⟨_, rfl⟩
    replace H : (if 0 ≤ (ji4) then (if (ji4) < (y105.length : Int) then (some (rdOf ByteArray.empty y105 (ji4))) else (none)) else (none)) = some r := by first | (rw [hji4] at H; exact H) | (simp only [hji4] at H ⊢; exact H)
    (try rw [hji4] at A2)
    have hji4w : (IntKind.i64.wrap (a0 - 1)) = ji4 := (i64_w _).trans hji4
    by_cases c5 : 0 ≤ (ji4)
    · rw [if_pos c5] at H
      have c5b0 : decide (0 ≤ (ji4)) = true := decide_eq_true c5
      clear c5
      by_cases c6 : (ji4) < (y105.length : Int)
      · rw [if_pos c6] at H
        have c6b0 : decide ((ji4) < (y105.length : Int)) = true := decide_eq_true c6
        clear c6
        obtain rfl := Option.some.inj H
        go_enter Try.func17, Try.ntmps17
        go_wp2_with (first | ((with_reducible refine gate_dst (N := 4) rfl ?_); refine Kd.R_lit Kd.string _ 9 ?hg (N := 4) ?hd (xs := ([(⟨#[99, 111, 110, 110, 101, 99, 116]⟩ : ByteArray), (⟨#[99, 111, 110, 110, 97, 99, 107]⟩ : ByteArray), (⟨#[112, 117, 98, 108, 105, 115, 104]⟩ : ByteArray), (⟨#[112, 117, 98, 97, 99, 107]⟩ : ByteArray), (⟨#[112, 117, 98, 114, 101, 99]⟩ : ByteArray), (⟨#[112, 117, 98, 114, 101, 108]⟩ : ByteArray), (⟨#[112, 117, 98, 99, 111, 109, 112]⟩ : ByteArray), (⟨#[115, 117, 98, 115, 99, 114, 105, 98, 101]⟩ : ByteArray), (⟨#[115, 117, 98, 97, 99, 107]⟩ : ByteArray), (⟨#[117, 110, 115, 117, 98, 115, 99, 114, 105, 98, 101]⟩ : ByteArray), (⟨#[117, 110, 115, 117, 98, 97, 99, 107]⟩ : ByteArray), (⟨#[112, 105, 110, 103, 114, 101, 113]⟩ : ByteArray), (⟨#[112, 105, 110, 103, 114, 101, 115, 112]⟩ : ByteArray), (⟨#[100, 105, 115, 99, 111, 110, 110, 101, 99, 116]⟩ : ByteArray)] : List ByteArray)) (inner := [.string (⟨#[99, 111, 110, 110, 101, 99, 116]⟩ : ByteArray), .string (⟨#[99, 111, 110, 110, 97, 99, 107]⟩ : ByteArray), .string (⟨#[112, 117, 98, 108, 105, 115, 104]⟩ : ByteArray), .string (⟨#[112, 117, 98, 97, 99, 107]⟩ : ByteArray), .string (⟨#[112, 117, 98, 114, 101, 99]⟩ : ByteArray), .string (⟨#[112, 117, 98, 114, 101, 108]⟩ : ByteArray), .string (⟨#[112, 117, 98, 99, 111, 109, 112]⟩ : ByteArray), .string (⟨#[115, 117, 98, 115, 99, 114, 105, 98, 101]⟩ : ByteArray), .string (⟨#[115, 117, 98, 97, 99, 107]⟩ : ByteArray), .string (⟨#[117, 110, 115, 117, 98, 115, 99, 114, 105, 98, 101]⟩ : ByteArray), .string (⟨#[117, 110, 115, 117, 98, 97, 99, 107]⟩ : ByteArray), .string (⟨#[112, 105, 110, 103, 114, 101, 113]⟩ : ByteArray), .string (⟨#[112, 105, 110, 103, 114, 101, 115, 112]⟩ : ByteArray), .string (⟨#[100, 105, 115, 99, 111, 110, 110, 101, 99, 116]⟩ : ByteArray)]) (ok := fun _ => True) (okp := fun _ => True) ?hr ?hp (fun _ hk => hk) trivial (Below.refl _ _) (Nat.le_refl _) (by simp) ?_; (case hd => rfl); (case hg => rfl); (case hr => first | (go_simp; done) | (go_simp; rfl)); (case hp => exact (Reps.one (show Kd.M Kd.string _ _ _ (⟨#[99, 111, 110, 110, 101, 99, 116]⟩ : ByteArray) [.string (⟨#[99, 111, 110, 110, 101, 99, 116]⟩ : ByteArray)] from rfl) (Reps.one (show Kd.M Kd.string _ _ _ (⟨#[99, 111, 110, 110, 97, 99, 107]⟩ : ByteArray) [.string (⟨#[99, 111, 110, 110, 97, 99, 107]⟩ : ByteArray)] from rfl) (Reps.one (show Kd.M Kd.string _ _ _ (⟨#[112, 117, 98, 108, 105, 115, 104]⟩ : ByteArray) [.string (⟨#[112, 117, 98, 108, 105, 115, 104]⟩ : ByteArray)] from rfl) (Reps.one (show Kd.M Kd.string _ _ _ (⟨#[112, 117, 98, 97, 99, 107]⟩ : ByteArray) [.string (⟨#[112, 117, 98, 97, 99, 107]⟩ : ByteArray)] from rfl) (Reps.one (show Kd.M Kd.string _ _ _ (⟨#[112, 117, 98, 114, 101, 99]⟩ : ByteArray) [.string (⟨#[112, 117, 98, 114, 101, 99]⟩ : ByteArray)] from rfl) (Reps.one (show Kd.M Kd.string _ _ _ (⟨#[112, 117, 98, 114, 101, 108]⟩ : ByteArray) [.string (⟨#[112, 117, 98, 114, 101, 108]⟩ : ByteArray)] from rfl) (Reps.one (show Kd.M Kd.string _ _ _ (⟨#[112, 117, 98, 99, 111, 109, 112]⟩ : ByteArray) [.string (⟨#[112, 117, 98, 99, 111, 109, 112]⟩ : ByteArray)] from rfl) (Reps.one (show Kd.M Kd.string _ _ _ (⟨#[115, 117, 98, 115, 99, 114, 105, 98, 101]⟩ : ByteArray) [.string (⟨#[115, 117, 98, 115, 99, 114, 105, 98, 101]⟩ : ByteArray)] from rfl) (Reps.one (show Kd.M Kd.string _ _ _ (⟨#[115, 117, 98, 97, 99, 107]⟩ : ByteArray) [.string (⟨#[115, 117, 98, 97, 99, 107]⟩ : ByteArray)] from rfl) (Reps.one (show Kd.M Kd.string _ _ _ (⟨#[117, 110, 115, 117, 98, 115, 99, 114, 105, 98, 101]⟩ : ByteArray) [.string (⟨#[117, 110, 115, 117, 98, 115, 99, 114, 105, 98, 101]⟩ : ByteArray)] from rfl) (Reps.one (show Kd.M Kd.string _ _ _ (⟨#[117, 110, 115, 117, 98, 97, 99, 107]⟩ : ByteArray) [.string (⟨#[117, 110, 115, 117, 98, 97, 99, 107]⟩ : ByteArray)] from rfl) (Reps.one (show Kd.M Kd.string _ _ _ (⟨#[112, 105, 110, 103, 114, 101, 113]⟩ : ByteArray) [.string (⟨#[112, 105, 110, 103, 114, 101, 113]⟩ : ByteArray)] from rfl) (Reps.one (show Kd.M Kd.string _ _ _ (⟨#[112, 105, 110, 103, 114, 101, 115, 112]⟩ : ByteArray) [.string (⟨#[112, 105, 110, 103, 114, 101, 115, 112]⟩ : ByteArray)] from rfl) (Reps.one (show Kd.M Kd.string _ _ _ (⟨#[100, 105, 115, 99, 111, 110, 110, 101, 99, 116]⟩ : ByteArray) [.string (⟨#[100, 105, 115, 99, 111, 110, 110, 101, 99, 116]⟩ : ByteArray)] from rfl) (Reps.none _ _)))))))))))))))); intro v106 w7 ho8 hb hg_ hnew_; clear hg_ hnew_; (first | rw [← Ny105.out] at ho8 | (simp only [Int.reduceToNat] at ho8; rw [← Ny105.out] at ho8)); have n0_ := Aside0.mk (Kd.R_lower ho8 (below_size (by repeat (first | (with_reducible first | exact HB.out | apply below_alloc | apply pw_below_drewN | apply below_drew1) | exact HB.out)))); have n1_ := Aside0.mk (below_step (by repeat (first | (with_reducible first | exact HB.out | apply below_alloc | apply pw_below_drewN | apply below_drew1) | exact HB.out)) hb); clear HB; have HO107 := n0_; have HB := n1_; clear n0_ n1_; clear hb ho8) | ((with_reducible refine gate_callee (f := 44) rfl ?_); refine goesL_ (some 6) rfl rfl Try.func44 (by kernel_rfl) rfl #[.int .i64 a0, .int .i64 1, .int .i64 14] rfl (by (try simp only [List.map_toArray, List.map_cons, List.map_nil]); first | done | rfl | (simp only [List.length_drop, List.length_take]; rfl)) ?_; (with_reducible refine (spec_l1In.calls a0 1 14 true _ A2.out).mono ?_); rintro e w' ⟨rfl, ⟨nd, rfl⟩⟩; refine ⟨_, rfl, ?_⟩; obtain ⟨Ao9, co9, eo9⟩ := Kd.R_slice HO107.out; subst eo9; have p109 : 0 ≤ ((ji4) : Int) := of_decide_eq_true (by first | (with_reducible assumption) | assumption); have q109 : (ji4) < (y105.length : Int) := of_decide_eq_true (by first | (with_reducible assumption) | assumption); obtain ⟨ad109, e109, hx109_0⟩ := Kd.at_string (Kd.R_reads' HO107.out).2.2 (ji4) p109 q109; cases e109; replace p109 := eq_true p109; replace q109 := eq_true q109))
        go_ret
        exact ⟨by first | rfl | (simp [errW_none, errW_some] <;> rfl) | (simp only [← hji4]; first | rfl | (simp [errW_none, errW_some] <;> rfl)) | (simp [*, errW_none, errW_some] <;> rfl), by repeat (first | (with_reducible first | exact HB.out | apply below_alloc | apply pw_below_drewN | apply below_drew1) | exact HB.out)⟩
      · rw [if_neg c6] at H
        exact absurd H (by simp)
    · rw [if_neg c5] at H
      exact absurd H (by simp)
  · replace c3 := Bool.eq_false_iff.mpr c3
    subst c3
    have H1 : (some (⟨#[]⟩ : ByteArray)) = some r := by rw [if_neg (show ¬ (false = true) by decide)] at H; exact H
    clear H
    have H := H1
    clear H1
    obtain rfl := Option.some.inj H
    go_enter Try.func17, Try.ntmps17
    go_wp2_with (first | ((with_reducible refine gate_dst (N := 4) rfl ?_); refine Kd.R_lit Kd.string _ 9 ?hg (N := 4) ?hd (xs := ([(⟨#[99, 111, 110, 110, 101, 99, 116]⟩ : ByteArray), (⟨#[99, 111, 110, 110, 97, 99, 107]⟩ : ByteArray), (⟨#[112, 117, 98, 108, 105, 115, 104]⟩ : ByteArray), (⟨#[112, 117, 98, 97, 99, 107]⟩ : ByteArray), (⟨#[112, 117, 98, 114, 101, 99]⟩ : ByteArray), (⟨#[112, 117, 98, 114, 101, 108]⟩ : ByteArray), (⟨#[112, 117, 98, 99, 111, 109, 112]⟩ : ByteArray), (⟨#[115, 117, 98, 115, 99, 114, 105, 98, 101]⟩ : ByteArray), (⟨#[115, 117, 98, 97, 99, 107]⟩ : ByteArray), (⟨#[117, 110, 115, 117, 98, 115, 99, 114, 105, 98, 101]⟩ : ByteArray), (⟨#[117, 110, 115, 117, 98, 97, 99, 107]⟩ : ByteArray), (⟨#[112, 105, 110, 103, 114, 101, 113]⟩ : ByteArray), (⟨#[112, 105, 110, 103, 114, 101, 115, 112]⟩ : ByteArray), (⟨#[100, 105, 115, 99, 111, 110, 110, 101, 99, 116]⟩ : ByteArray)] : List ByteArray)) (inner := [.string (⟨#[99, 111, 110, 110, 101, 99, 116]⟩ : ByteArray), .string (⟨#[99, 111, 110, 110, 97, 99, 107]⟩ : ByteArray), .string (⟨#[112, 117, 98, 108, 105, 115, 104]⟩ : ByteArray), .string (⟨#[112, 117, 98, 97, 99, 107]⟩ : ByteArray), .string (⟨#[112, 117, 98, 114, 101, 99]⟩ : ByteArray), .string (⟨#[112, 117, 98, 114, 101, 108]⟩ : ByteArray), .string (⟨#[112, 117, 98, 99, 111, 109, 112]⟩ : ByteArray), .string (⟨#[115, 117, 98, 115, 99, 114, 105, 98, 101]⟩ : ByteArray), .string (⟨#[115, 117, 98, 97, 99, 107]⟩ : ByteArray), .string (⟨#[117, 110, 115, 117, 98, 115, 99, 114, 105, 98, 101]⟩ : ByteArray), .string (⟨#[117, 110, 115, 117, 98, 97, 99, 107]⟩ : ByteArray), .string (⟨#[112, 105, 110, 103, 114, 101, 113]⟩ : ByteArray), .string (⟨#[112, 105, 110, 103, 114, 101, 115, 112]⟩ : ByteArray), .string (⟨#[100, 105, 115, 99, 111, 110, 110, 101, 99, 116]⟩ : ByteArray)]) (ok := fun _ => True) (okp := fun _ => True) ?hr ?hp (fun _ hk => hk) trivial (Below.refl _ _) (Nat.le_refl _) (by simp) ?_; (case hd => rfl); (case hg => rfl); (case hr => first | (go_simp; done) | (go_simp; rfl)); (case hp => exact (Reps.one (show Kd.M Kd.string _ _ _ (⟨#[99, 111, 110, 110, 101, 99, 116]⟩ : ByteArray) [.string (⟨#[99, 111, 110, 110, 101, 99, 116]⟩ : ByteArray)] from rfl) (Reps.one (show Kd.M Kd.string _ _ _ (⟨#[99, 111, 110, 110, 97, 99, 107]⟩ : ByteArray) [.string (⟨#[99, 111, 110, 110, 97, 99, 107]⟩ : ByteArray)] from rfl) (Reps.one (show Kd.M Kd.string _ _ _ (⟨#[112, 117, 98, 108, 105, 115, 104]⟩ : ByteArray) [.string (⟨#[112, 117, 98, 108, 105, 115, 104]⟩ : ByteArray)] from rfl) (Reps.one (show Kd.M Kd.string _ _ _ (⟨#[112, 117, 98, 97, 99, 107]⟩ : ByteArray) [.string (⟨#[112, 117, 98, 97, 99, 107]⟩ : ByteArray)] from rfl) (Reps.one (show Kd.M Kd.string _ _ _ (⟨#[112, 117, 98, 114, 101, 99]⟩ : ByteArray) [.string (⟨#[112, 117, 98, 114, 101, 99]⟩ : ByteArray)] from rfl) (Reps.one (show Kd.M Kd.string _ _ _ (⟨#[112, 117, 98, 114, 101, 108]⟩ : ByteArray) [.string (⟨#[112, 117, 98, 114, 101, 108]⟩ : ByteArray)] from rfl) (Reps.one (show Kd.M Kd.string _ _ _ (⟨#[112, 117, 98, 99, 111, 109, 112]⟩ : ByteArray) [.string (⟨#[112, 117, 98, 99, 111, 109, 112]⟩ : ByteArray)] from rfl) (Reps.one (show Kd.M Kd.string _ _ _ (⟨#[115, 117, 98, 115, 99, 114, 105, 98, 101]⟩ : ByteArray) [.string (⟨#[115, 117, 98, 115, 99, 114, 105, 98, 101]⟩ : ByteArray)] from rfl) (Reps.one (show Kd.M Kd.string _ _ _ (⟨#[115, 117, 98, 97, 99, 107]⟩ : ByteArray) [.string (⟨#[115, 117, 98, 97, 99, 107]⟩ : ByteArray)] from rfl) (Reps.one (show Kd.M Kd.string _ _ _ (⟨#[117, 110, 115, 117, 98, 115, 99, 114, 105, 98, 101]⟩ : ByteArray) [.string (⟨#[117, 110, 115, 117, 98, 115, 99, 114, 105, 98, 101]⟩ : ByteArray)] from rfl) (Reps.one (show Kd.M Kd.string _ _ _ (⟨#[117, 110, 115, 117, 98, 97, 99, 107]⟩ : ByteArray) [.string (⟨#[117, 110, 115, 117, 98, 97, 99, 107]⟩ : ByteArray)] from rfl) (Reps.one (show Kd.M Kd.string _ _ _ (⟨#[112, 105, 110, 103, 114, 101, 113]⟩ : ByteArray) [.string (⟨#[112, 105, 110, 103, 114, 101, 113]⟩ : ByteArray)] from rfl) (Reps.one (show Kd.M Kd.string _ _ _ (⟨#[112, 105, 110, 103, 114, 101, 115, 112]⟩ : ByteArray) [.string (⟨#[112, 105, 110, 103, 114, 101, 115, 112]⟩ : ByteArray)] from rfl) (Reps.one (show Kd.M Kd.string _ _ _ (⟨#[100, 105, 115, 99, 111, 110, 110, 101, 99, 116]⟩ : ByteArray) [.string (⟨#[100, 105, 115, 99, 111, 110, 110, 101, 99, 116]⟩ : ByteArray)] from rfl) (Reps.none _ _)))))))))))))))); intro v106 w10 ho11 hb hg_ hnew_; clear hg_ hnew_; (first | rw [← Ny105.out] at ho11 | (simp only [Int.reduceToNat] at ho11; rw [← Ny105.out] at ho11)); have n0_ := Aside0.mk (Kd.R_lower ho11 (below_size (by repeat (first | (with_reducible first | exact HB.out | apply below_alloc | apply pw_below_drewN | apply below_drew1) | exact HB.out)))); have n1_ := Aside0.mk (below_step (by repeat (first | (with_reducible first | exact HB.out | apply below_alloc | apply pw_below_drewN | apply below_drew1) | exact HB.out)) hb); clear HB; have HO107 := n0_; have HB := n1_; clear n0_ n1_; clear hb ho11) | ((with_reducible refine gate_callee (f := 44) rfl ?_); refine goesL_ (some 6) rfl rfl Try.func44 (by kernel_rfl) rfl #[.int .i64 a0, .int .i64 1, .int .i64 14] rfl (by (try simp only [List.map_toArray, List.map_cons, List.map_nil]); first | done | rfl | (simp only [List.length_drop, List.length_take]; rfl)) ?_; (with_reducible refine (spec_l1In.calls a0 1 14 false _ A2.out).mono ?_); rintro e w' ⟨rfl, ⟨nd, rfl⟩⟩; refine ⟨_, rfl, ?_⟩))
    go_ret
    exact ⟨by first | rfl | (simp [errW_none, errW_some] <;> rfl) | (simp [*, errW_none, errW_some] <;> rfl), by repeat (first | (with_reducible first | exact HB.out | apply below_alloc | apply pw_below_drewN | apply below_drew1) | exact HB.out)⟩

/-! ### impl_within: function 45 -/
def impl_within.f (a0 : Int) (a1 : Int) (a2 : Int) : Option (Bool) := if a0 ≥ a1 then (some (decide (a0 ≤ a2))) else (some false)
set_option maxHeartbeats 8000000 in
set_option maxRecDepth 100000 in
theorem impl_within.calls (a0 : Int) (a1 : Int) (a2 : Int) (r : Bool) (w : World) (h : impl_within.f a0 a1 a2 = some r) :
    Calls Try.prog 45 #[.int .i64 a0, .int .i64 a1, .int .i64 a2] w fun e w' => e = .returned (.bool r) ∧ Drawn0 w w' := by
  have H : (if a0 ≥ a1 then (some (decide (a0 ≤ a2))) else (some false)) = some r := h
  clear h
  by_cases c4 : a0 ≥ a1
  · rw [if_pos c4] at H
    have c4b0 : decide (a1 ≤ a0) = true := decide_eq_true c4
    clear c4
    obtain rfl := Option.some.inj H
    go_enter Try.func45, Try.ntmps45
    go_wp2
    go_ret
    exact ⟨by first | rfl | (simp; done) | (simp [*]; done), by repeat (first | exact Drawn0.refl _ | apply Drawn0.step)⟩
  · rw [if_neg c4] at H
    have c4b0 : decide (a1 ≤ a0) = false := decide_eq_false c4
    clear c4
    obtain rfl := Option.some.inj H
    go_enter Try.func45, Try.ntmps45
    go_wp2
    go_ret
    exact ⟨by first | rfl | (simp; done) | (simp [*]; done), by repeat (first | exact Drawn0.refl _ | apply Drawn0.step)⟩

/-! ### impl_TypeName: function 18 -/
def impl_TypeName.f (a0 : Int) : Option (ByteArray) := (impl_within.f a0 1 14).bind fun t110 => (if t110 = true then ((some (([(⟨#[99, 111, 110, 110, 101, 99, 116]⟩ : ByteArray), (⟨#[99, 111, 110, 110, 97, 99, 107]⟩ : ByteArray), (⟨#[112, 117, 98, 108, 105, 115, 104]⟩ : ByteArray), (⟨#[112, 117, 98, 97, 99, 107]⟩ : ByteArray), (⟨#[112, 117, 98, 114, 101, 99]⟩ : ByteArray), (⟨#[112, 117, 98, 114, 101, 108]⟩ : ByteArray), (⟨#[112, 117, 98, 99, 111, 109, 112]⟩ : ByteArray), (⟨#[115, 117, 98, 115, 99, 114, 105, 98, 101]⟩ : ByteArray), (⟨#[115, 117, 98, 97, 99, 107]⟩ : ByteArray), (⟨#[117, 110, 115, 117, 98, 115, 99, 114, 105, 98, 101]⟩ : ByteArray), (⟨#[117, 110, 115, 117, 98, 97, 99, 107]⟩ : ByteArray), (⟨#[112, 105, 110, 103, 114, 101, 113]⟩ : ByteArray), (⟨#[112, 105, 110, 103, 114, 101, 115, 112]⟩ : ByteArray), (⟨#[100, 105, 115, 99, 111, 110, 110, 101, 99, 116]⟩ : ByteArray)] : List ByteArray) : List ByteArray)).bind fun y111 => (if 0 ≤ (wrap64 (a0 - 1)) then (if (wrap64 (a0 - 1)) < (y111.length : Int) then (some (rdOf ByteArray.empty y111 (wrap64 (a0 - 1)))) else (none)) else (none))) else (some (⟨#[]⟩ : ByteArray)))
set_option maxHeartbeats 8000000 in
set_option maxRecDepth 100000 in
theorem impl_TypeName.calls (a0 : Int) (r : ByteArray) (w : World) (h : impl_TypeName.f a0 = some r) :
    Calls Try.prog 18 #[.int .i64 a0] w fun e w' => e = .returned (.string r) ∧ Below w.heap.size w w' := by
  have HB := Aside0.mk (Below.refl w.heap.size w)
  have H : ((impl_within.f a0 1 14).bind fun t110 => (if t110 = true then ((some (([(⟨#[99, 111, 110, 110, 101, 99, 116]⟩ : ByteArray), (⟨#[99, 111, 110, 110, 97, 99, 107]⟩ : ByteArray), (⟨#[112, 117, 98, 108, 105, 115, 104]⟩ : ByteArray), (⟨#[112, 117, 98, 97, 99, 107]⟩ : ByteArray), (⟨#[112, 117, 98, 114, 101, 99]⟩ : ByteArray), (⟨#[112, 117, 98, 114, 101, 108]⟩ : ByteArray), (⟨#[112, 117, 98, 99, 111, 109, 112]⟩ : ByteArray), (⟨#[115, 117, 98, 115, 99, 114, 105, 98, 101]⟩ : ByteArray), (⟨#[115, 117, 98, 97, 99, 107]⟩ : ByteArray), (⟨#[117, 110, 115, 117, 98, 115, 99, 114, 105, 98, 101]⟩ : ByteArray), (⟨#[117, 110, 115, 117, 98, 97, 99, 107]⟩ : ByteArray), (⟨#[112, 105, 110, 103, 114, 101, 113]⟩ : ByteArray), (⟨#[112, 105, 110, 103, 114, 101, 115, 112]⟩ : ByteArray), (⟨#[100, 105, 115, 99, 111, 110, 110, 101, 99, 116]⟩ : ByteArray)] : List ByteArray) : List ByteArray)).bind fun y111 => (if 0 ≤ (wrap64 (a0 - 1)) then (if (wrap64 (a0 - 1)) < (y111.length : Int) then (some (rdOf ByteArray.empty y111 (wrap64 (a0 - 1)))) else (none)) else (none))) else (some (⟨#[]⟩ : ByteArray)))) = some r := h
  clear h
  replace H := Option.bind_eq_some_iff.mp H
  obtain ⟨t110, A20, H⟩ := H
  replace H : (if t110 = true then ((some (([(⟨#[99, 111, 110, 110, 101, 99, 116]⟩ : ByteArray), (⟨#[99, 111, 110, 110, 97, 99, 107]⟩ : ByteArray), (⟨#[112, 117, 98, 108, 105, 115, 104]⟩ : ByteArray), (⟨#[112, 117, 98, 97, 99, 107]⟩ : ByteArray), (⟨#[112, 117, 98, 114, 101, 99]⟩ : ByteArray), (⟨#[112, 117, 98, 114, 101, 108]⟩ : ByteArray), (⟨#[112, 117, 98, 99, 111, 109, 112]⟩ : ByteArray), (⟨#[115, 117, 98, 115, 99, 114, 105, 98, 101]⟩ : ByteArray), (⟨#[115, 117, 98, 97, 99, 107]⟩ : ByteArray), (⟨#[117, 110, 115, 117, 98, 115, 99, 114, 105, 98, 101]⟩ : ByteArray), (⟨#[117, 110, 115, 117, 98, 97, 99, 107]⟩ : ByteArray), (⟨#[112, 105, 110, 103, 114, 101, 113]⟩ : ByteArray), (⟨#[112, 105, 110, 103, 114, 101, 115, 112]⟩ : ByteArray), (⟨#[100, 105, 115, 99, 111, 110, 110, 101, 99, 116]⟩ : ByteArray)] : List ByteArray) : List ByteArray)).bind fun y111 => (if 0 ≤ (wrap64 (a0 - 1)) then (if (wrap64 (a0 - 1)) < (y111.length : Int) then (some (rdOf ByteArray.empty y111 (wrap64 (a0 - 1)))) else (none)) else (none))) else (some (⟨#[]⟩ : ByteArray))) = some r := H
  have A2 := Aside0.mk A20
  clear A20
  by_cases c3 : t110 = true
  · subst c3
    have H1 : ((some (([(⟨#[99, 111, 110, 110, 101, 99, 116]⟩ : ByteArray), (⟨#[99, 111, 110, 110, 97, 99, 107]⟩ : ByteArray), (⟨#[112, 117, 98, 108, 105, 115, 104]⟩ : ByteArray), (⟨#[112, 117, 98, 97, 99, 107]⟩ : ByteArray), (⟨#[112, 117, 98, 114, 101, 99]⟩ : ByteArray), (⟨#[112, 117, 98, 114, 101, 108]⟩ : ByteArray), (⟨#[112, 117, 98, 99, 111, 109, 112]⟩ : ByteArray), (⟨#[115, 117, 98, 115, 99, 114, 105, 98, 101]⟩ : ByteArray), (⟨#[115, 117, 98, 97, 99, 107]⟩ : ByteArray), (⟨#[117, 110, 115, 117, 98, 115, 99, 114, 105, 98, 101]⟩ : ByteArray), (⟨#[117, 110, 115, 117, 98, 97, 99, 107]⟩ : ByteArray), (⟨#[112, 105, 110, 103, 114, 101, 113]⟩ : ByteArray), (⟨#[112, 105, 110, 103, 114, 101, 115, 112]⟩ : ByteArray), (⟨#[100, 105, 115, 99, 111, 110, 110, 101, 99, 116]⟩ : ByteArray)] : List ByteArray) : List ByteArray)).bind fun y111 => (if 0 ≤ (wrap64 (a0 - 1)) then (if (wrap64 (a0 - 1)) < (y111.length : Int) then (some (rdOf ByteArray.empty y111 (wrap64 (a0 - 1)))) else (none)) else (none))) = some r := by rw [if_pos rfl] at H; exact H
    clear H
    have H := H1
    clear H1
    obtain ⟨y111, hy111⟩ : ∃ y_ : List ByteArray, y_ = (([(⟨#[99, 111, 110, 110, 101, 99, 116]⟩ : ByteArray), (⟨#[99, 111, 110, 110, 97, 99, 107]⟩ : ByteArray), (⟨#[112, 117, 98, 108, 105, 115, 104]⟩ : ByteArray), (⟨#[112, 117, 98, 97, 99, 107]⟩ : ByteArray), (⟨#[112, 117, 98, 114, 101, 99]⟩ : ByteArray), (⟨#[112, 117, 98, 114, 101, 108]⟩ : ByteArray), (⟨#[112, 117, 98, 99, 111, 109, 112]⟩ : ByteArray), (⟨#[115, 117, 98, 115, 99, 114, 105, 98, 101]⟩ : ByteArray), (⟨#[115, 117, 98, 97, 99, 107]⟩ : ByteArray), (⟨#[117, 110, 115, 117, 98, 115, 99, 114, 105, 98, 101]⟩ : ByteArray), (⟨#[117, 110, 115, 117, 98, 97, 99, 107]⟩ : ByteArray), (⟨#[112, 105, 110, 103, 114, 101, 113]⟩ : ByteArray), (⟨#[112, 105, 110, 103, 114, 101, 115, 112]⟩ : ByteArray), (⟨#[100, 105, 115, 99, 111, 110, 110, 101, 99, 116]⟩ : ByteArray)] : List ByteArray)) := ⟨_, rfl⟩
    replace H : (if 0 ≤ (wrap64 (a0 - 1)) then (if (wrap64 (a0 - 1)) < (y111.length : Int) then (some (rdOf ByteArray.empty y111 (wrap64 (a0 - 1)))) else (none)) else (none)) = some r := by first | (rw [hy111]; with_reducible exact H) | (have H2_ := (Option.bind_some _ _).symm.trans H; rw [hy111]; with_reducible exact H2_) | (have H2_ := (Option.bind_some _ _).symm.trans H; with_reducible exact H2_) | with_reducible exact H | (rw [hy111]; exact H) | exact H
    have Ny111 := Aside0.mk hy111
    clear hy111
    obtain ⟨ji4, hji4⟩ : ∃ j_ : Int, (wrap64 (a0 - 1)) = j_ := ⟨_, rfl⟩
    replace H : (if 0 ≤ (ji4) then (if (ji4) < (y111.length : Int) then (some (rdOf ByteArray.empty y111 (ji4))) else (none)) else (none)) = some r := by first | (rw [hji4] at H; exact H) | (simp only [hji4] at H ⊢; exact H)
    (try rw [hji4] at A2)
    have hji4w : (IntKind.i64.wrap (a0 - 1)) = ji4 := (i64_w _).trans hji4
    by_cases c5 : 0 ≤ (ji4)
    · rw [if_pos c5] at H
      have c5b0 : decide (0 ≤ (ji4)) = true := decide_eq_true c5
      clear c5
      by_cases c6 : (ji4) < (y111.length : Int)
      · rw [if_pos c6] at H
        have c6b0 : decide ((ji4) < (y111.length : Int)) = true := decide_eq_true c6
        clear c6
        obtain rfl := Option.some.inj H
        go_enter Try.func18, Try.ntmps18
        go_wp2_with (first | ((with_reducible refine gate_callee (f := 45) rfl ?_); refine goesL_ (some 4) rfl rfl Try.func45 (by kernel_rfl) rfl #[.int .i64 a0, .int .i64 1, .int .i64 14] rfl (by (try simp only [List.map_toArray, List.map_cons, List.map_nil]); first | done | rfl | (simp only [List.length_drop, List.length_take]; rfl)) ?_; (with_reducible refine (impl_within.calls a0 1 14 true _ A2.out).mono ?_); rintro e w' ⟨rfl, ⟨nd, rfl⟩⟩; refine ⟨_, rfl, ?_⟩) | ((with_reducible refine gate_dst (N := 6) rfl ?_); refine Kd.R_lit Kd.string _ 9 ?hg (N := 6) ?hd (xs := ([(⟨#[99, 111, 110, 110, 101, 99, 116]⟩ : ByteArray), (⟨#[99, 111, 110, 110, 97, 99, 107]⟩ : ByteArray), (⟨#[112, 117, 98, 108, 105, 115, 104]⟩ : ByteArray), (⟨#[112, 117, 98, 97, 99, 107]⟩ : ByteArray), (⟨#[112, 117, 98, 114, 101, 99]⟩ : ByteArray), (⟨#[112, 117, 98, 114, 101, 108]⟩ : ByteArray), (⟨#[112, 117, 98, 99, 111, 109, 112]⟩ : ByteArray), (⟨#[115, 117, 98, 115, 99, 114, 105, 98, 101]⟩ : ByteArray), (⟨#[115, 117, 98, 97, 99, 107]⟩ : ByteArray), (⟨#[117, 110, 115, 117, 98, 115, 99, 114, 105, 98, 101]⟩ : ByteArray), (⟨#[117, 110, 115, 117, 98, 97, 99, 107]⟩ : ByteArray), (⟨#[112, 105, 110, 103, 114, 101, 113]⟩ : ByteArray), (⟨#[112, 105, 110, 103, 114, 101, 115, 112]⟩ : ByteArray), (⟨#[100, 105, 115, 99, 111, 110, 110, 101, 99, 116]⟩ : ByteArray)] : List ByteArray)) (inner := [.string (⟨#[99, 111, 110, 110, 101, 99, 116]⟩ : ByteArray), .string (⟨#[99, 111, 110, 110, 97, 99, 107]⟩ : ByteArray), .string (⟨#[112, 117, 98, 108, 105, 115, 104]⟩ : ByteArray), .string (⟨#[112, 117, 98, 97, 99, 107]⟩ : ByteArray), .string (⟨#[112, 117, 98, 114, 101, 99]⟩ : ByteArray), .string (⟨#[112, 117, 98, 114, 101, 108]⟩ : ByteArray), .string (⟨#[112, 117, 98, 99, 111, 109, 112]⟩ : ByteArray), .string (⟨#[115, 117, 98, 115, 99, 114, 105, 98, 101]⟩ : ByteArray), .string (⟨#[115, 117, 98, 97, 99, 107]⟩ : ByteArray), .string (⟨#[117, 110, 115, 117, 98, 115, 99, 114, 105, 98, 101]⟩ : ByteArray), .string (⟨#[117, 110, 115, 117, 98, 97, 99, 107]⟩ : ByteArray), .string (⟨#[112, 105, 110, 103, 114, 101, 113]⟩ : ByteArray), .string (⟨#[112, 105, 110, 103, 114, 101, 115, 112]⟩ : ByteArray), .string (⟨#[100, 105, 115, 99, 111, 110, 110, 101, 99, 116]⟩ : ByteArray)]) (ok := fun _ => True) (okp := fun _ => True) ?hr ?hp (fun _ hk => hk) trivial (Below.refl _ _) (Nat.le_refl _) (by simp) ?_; (case hd => rfl); (case hg => rfl); (case hr => first | (go_simp; done) | (go_simp; rfl)); (case hp => exact (Reps.one (show Kd.M Kd.string _ _ _ (⟨#[99, 111, 110, 110, 101, 99, 116]⟩ : ByteArray) [.string (⟨#[99, 111, 110, 110, 101, 99, 116]⟩ : ByteArray)] from rfl) (Reps.one (show Kd.M Kd.string _ _ _ (⟨#[99, 111, 110, 110, 97, 99, 107]⟩ : ByteArray) [.string (⟨#[99, 111, 110, 110, 97, 99, 107]⟩ : ByteArray)] from rfl) (Reps.one (show Kd.M Kd.string _ _ _ (⟨#[112, 117, 98, 108, 105, 115, 104]⟩ : ByteArray) [.string (⟨#[112, 117, 98, 108, 105, 115, 104]⟩ : ByteArray)] from rfl) (Reps.one (show Kd.M Kd.string _ _ _ (⟨#[112, 117, 98, 97, 99, 107]⟩ : ByteArray) [.string (⟨#[112, 117, 98, 97, 99, 107]⟩ : ByteArray)] from rfl) (Reps.one (show Kd.M Kd.string _ _ _ (⟨#[112, 117, 98, 114, 101, 99]⟩ : ByteArray) [.string (⟨#[112, 117, 98, 114, 101, 99]⟩ : ByteArray)] from rfl) (Reps.one (show Kd.M Kd.string _ _ _ (⟨#[112, 117, 98, 114, 101, 108]⟩ : ByteArray) [.string (⟨#[112, 117, 98, 114, 101, 108]⟩ : ByteArray)] from rfl) (Reps.one (show Kd.M Kd.string _ _ _ (⟨#[112, 117, 98, 99, 111, 109, 112]⟩ : ByteArray) [.string (⟨#[112, 117, 98, 99, 111, 109, 112]⟩ : ByteArray)] from rfl) (Reps.one (show Kd.M Kd.string _ _ _ (⟨#[115, 117, 98, 115, 99, 114, 105, 98, 101]⟩ : ByteArray) [.string (⟨#[115, 117, 98, 115, 99, 114, 105, 98, 101]⟩ : ByteArray)] from rfl) (Reps.one (show Kd.M Kd.string _ _ _ (⟨#[115, 117, 98, 97, 99, 107]⟩ : ByteArray) [.string (⟨#[115, 117, 98, 97, 99, 107]⟩ : ByteArray)] from rfl) (Reps.one (show Kd.M Kd.string _ _ _ (⟨#[117, 110, 115, 117, 98, 115, 99, 114, 105, 98, 101]⟩ : ByteArray) [.string (⟨#[117, 110, 115, 117, 98, 115, 99, 114, 105, 98, 101]⟩ : ByteArray)] from rfl) (Reps.one (show Kd.M Kd.string _ _ _ (⟨#[117, 110, 115, 117, 98, 97, 99, 107]⟩ : ByteArray) [.string (⟨#[117, 110, 115, 117, 98, 97, 99, 107]⟩ : ByteArray)] from rfl) (Reps.one (show Kd.M Kd.string _ _ _ (⟨#[112, 105, 110, 103, 114, 101, 113]⟩ : ByteArray) [.string (⟨#[112, 105, 110, 103, 114, 101, 113]⟩ : ByteArray)] from rfl) (Reps.one (show Kd.M Kd.string _ _ _ (⟨#[112, 105, 110, 103, 114, 101, 115, 112]⟩ : ByteArray) [.string (⟨#[112, 105, 110, 103, 114, 101, 115, 112]⟩ : ByteArray)] from rfl) (Reps.one (show Kd.M Kd.string _ _ _ (⟨#[100, 105, 115, 99, 111, 110, 110, 101, 99, 116]⟩ : ByteArray) [.string (⟨#[100, 105, 115, 99, 111, 110, 110, 101, 99, 116]⟩ : ByteArray)] from rfl) (Reps.none _ _)))))))))))))))); intro v112 w7 ho8 hb hg_ hnew_; clear hg_ hnew_; (first | rw [← Ny111.out] at ho8 | (simp only [Int.reduceToNat] at ho8; rw [← Ny111.out] at ho8)); have n0_ := Aside0.mk (Kd.R_lower ho8 (below_size (by repeat (first | (with_reducible first | exact HB.out | apply below_alloc | apply pw_below_drewN | apply below_drew1) | exact HB.out)))); have n1_ := Aside0.mk (below_step (by repeat (first | (with_reducible first | exact HB.out | apply below_alloc | apply pw_below_drewN | apply below_drew1) | exact HB.out)) hb); clear HB; have HO113 := n0_; have HB := n1_; clear n0_ n1_; clear hb ho8; obtain ⟨Ao9, co9, eo9⟩ := Kd.R_slice HO113.out; subst eo9; have p114 : 0 ≤ ((ji4) : Int) := of_decide_eq_true (by first | (with_reducible assumption) | assumption); have q114 : (ji4) < (y111.length : Int) := of_decide_eq_true (by first | (with_reducible assumption) | assumption); obtain ⟨ad114, e114, hx114_0⟩ := Kd.at_string (Kd.R_reads' HO113.out).2.2 (ji4) p114 q114; cases e114; replace p114 := eq_true p114; replace q114 := eq_true q114))
        go_ret
        exact ⟨by first | rfl | (simp [errW_none, errW_some] <;> rfl) | (simp only [← hji4]; first | rfl | (simp [errW_none, errW_some] <;> rfl)) | (simp [*, errW_none, errW_some] <;> rfl), by repeat (first | (with_reducible first | exact HB.out | apply below_alloc | apply pw_below_drewN | apply below_drew1) | exact HB.out)⟩
      · rw [if_neg c6] at H
        exact absurd H (by simp)
    · rw [if_neg c5] at H
      exact absurd H (by simp)
  · replace c3 := Bool.eq_false_iff.mpr c3
    subst c3
    have H1 : (some (⟨#[]⟩ : ByteArray)) = some r := by rw [if_neg (show ¬ (false = true) by decide)] at H; exact H
    clear H
    have H := H1
    clear H1
    obtain rfl := Option.some.inj H
    go_enter Try.func18, Try.ntmps18
    go_wp2_with (first | ((with_reducible refine gate_callee (f := 45) rfl ?_); refine goesL_ (some 4) rfl rfl Try.func45 (by kernel_rfl) rfl #[.int .i64 a0, .int .i64 1, .int .i64 14] rfl (by (try simp only [List.map_toArray, List.map_cons, List.map_nil]); first | done | rfl | (simp only [List.length_drop, List.length_take]; rfl)) ?_; (with_reducible refine (impl_within.calls a0 1 14 false _ A2.out).mono ?_); rintro e w' ⟨rfl, ⟨nd, rfl⟩⟩; refine ⟨_, rfl, ?_⟩))
    go_ret
    exact ⟨by first | rfl | (simp [errW_none, errW_some] <;> rfl) | (simp [*, errW_none, errW_some] <;> rfl), by repeat (first | (with_reducible first | exact HB.out | apply below_alloc | apply pw_below_drewN | apply below_drew1) | exact HB.out)⟩

end Go.Proofs.Ytkeacohngljhaaa.P
