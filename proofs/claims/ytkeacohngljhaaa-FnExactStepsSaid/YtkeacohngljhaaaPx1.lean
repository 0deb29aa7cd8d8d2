-- Printed by a program over the kit's print.py (mp.sh), several laws in one namespace.
import Derived.Test.YtkeacohngljhaaaPx0
namespace Go.Proofs.Ytkeacohngljhaaa.P
open Go.RowKit Go.Proofs.YtkeacohngljhaaaW.PrintWords Go.Proofs.YtkeacohngljhaaaW.PrintLast Go.Proofs.YtkeacohngljhaaaW.PrintMore
attribute [local go_sem] max2_int min2_int max_two min_two max_three min_three max_four min_four   -- for this text's walks alone
set_option linter.unusedVariables false
set_option linter.unusedSimpArgs false

/-! ### laws_FnExactConstants: function 3 -/
def laws_FnExactConstants.f  : Option (Bool) := some true
set_option maxHeartbeats 8000000 in
set_option maxRecDepth 100000 in
theorem laws_FnExactConstants.calls  (r : Bool) (w : World) (h : laws_FnExactConstants.f  = some r) :
    Calls Try.prog 3 #[] w fun e w' => e = .returned (.bool r) ∧ Drawn0 w w' := by
  have H : (some true) = some r := h
  clear h
  obtain rfl := Option.some.inj H
  go_enter Try.func3, Try.ntmps3
  go_wp2
  go_ret
  exact ⟨by first | rfl | (simp; done) | (simp [*]; done), by repeat (first | exact Drawn0.refl _ | apply Drawn0.step)⟩

/-- THE ONE PURE STATEMENT of laws_FnExactConstants: yours. -/
def laws_FnExactConstants.Pure : Prop := laws_FnExactConstants.f  = some true
theorem laws_FnExactConstants.walk (P : laws_FnExactConstants.Pure)  (w : World)  :
    Calls Try.prog 3 #[] w fun e w' => e = .returned (.bool true) ∧ Below w.heap.size w w' := by
  have h := P  
  refine (laws_FnExactConstants.calls  true w h).mono ?_
  rintro e w' ⟨rfl, hd⟩
  exact ⟨rfl, hd.below⟩

/-! ### spec_Hidden: function 15 -/
def spec_Hidden.f (a0 : ByteArray) : Option (Bool) := if (a0.size : Int) > 0 then (if 0 < (a0.size : Int) then (some ((bt a0 0) == 36)) else (none)) else (some false)
set_option maxHeartbeats 8000000 in
set_option maxRecDepth 100000 in
theorem spec_Hidden.calls (a0 : ByteArray) (r : Bool) (w : World) (h : spec_Hidden.f a0 = some r) :
    Calls Try.prog 15 #[.string a0] w fun e w' => e = .returned (.bool r) ∧ Drawn0 w w' := by
  have H : (if (a0.size : Int) > 0 then (if 0 < (a0.size : Int) then (some ((bt a0 0) == 36)) else (none)) else (some false)) = some r := h
  clear h
  by_cases c2 : (a0.size : Int) > 0
  · rw [if_pos c2] at H
    have c2b0 : decide (0 < (a0.size : Int)) = true := decide_eq_true c2
    have c2b1 : decide (0 < a0.size) = true := decide_eq_true (by omega)
    clear c2
    by_cases c3 : 0 < (a0.size : Int)
    · rw [if_pos c3] at H
      have c3b0 : decide (0 < (a0.size : Int)) = true := decide_eq_true c3
      have c3b1 : decide (0 < a0.size) = true := decide_eq_true (by omega)
      clear c3
      obtain rfl := Option.some.inj H
      have p4 : 0 ≤ (0 : Int) := (by omega)
      have q4 : 0 < a0.size := (by have : (0 : Int) < (a0.size : Int) := of_decide_eq_true (by first | (with_reducible assumption) | assumption); omega)
      have hx4 : ∀ h : 0 < a0.size, ((a0[0]'h).toNat : Int) = bt a0 0 := bt_at a0 0
      clear p4
      have qi4 : (0 < (a0.size : Int)) = True := eq_true (of_decide_eq_true (by first | (with_reducible assumption) | assumption))
      replace q4 := eq_true q4
      go_enter Try.func15, Try.ntmps15
      go_wp2
      go_ret
      exact ⟨by first | rfl | (simp; done) | (simp [*]; done), by repeat (first | exact Drawn0.refl _ | apply Drawn0.step)⟩
    · rw [if_neg c3] at H
      exact absurd H (by simp)
  · rw [if_neg c2] at H
    have c2b0 : decide (0 < (a0.size : Int)) = false := decide_eq_false c2
    have c2b1 : decide (0 < a0.size) = false := decide_eq_false (by omega)
    clear c2
    obtain rfl := Option.some.inj H
    go_enter Try.func15, Try.ntmps15
    go_wp2
    go_ret
    exact ⟨by first | rfl | (simp; done) | (simp [*]; done), by repeat (first | exact Drawn0.refl _ | apply Drawn0.step)⟩

/-! ### stringslite_HasPrefix: function 50 -/
def stringslite_HasPrefix.f (a0 : ByteArray) (a1 : ByteArray) : Option (Bool) := if (a0.size : Int) ≥ (a1.size : Int) then (if 0 ≤ (a1.size : Int) then (if (a1.size : Int) ≤ (a0.size : Int) then (some ((a0.extract 0 ((a1.size : Int) : Int).toNat).toList == a1.toList)) else (none)) else (none)) else (some false)
set_option maxHeartbeats 8000000 in
set_option maxRecDepth 100000 in
theorem stringslite_HasPrefix.calls (a0 : ByteArray) (a1 : ByteArray) (r : Bool) (w : World) (h : stringslite_HasPrefix.f a0 a1 = some r) :
    Calls Try.prog 50 #[.string a0, .string a1] w fun e w' => e = .returned (.bool r) ∧ Drawn0 w w' := by
  have H : (if (a0.size : Int) ≥ (a1.size : Int) then (if 0 ≤ (a1.size : Int) then (if (a1.size : Int) ≤ (a0.size : Int) then (some ((a0.extract 0 ((a1.size : Int) : Int).toNat).toList == a1.toList)) else (none)) else (none)) else (some false)) = some r := h
  clear h
  by_cases c3 : (a0.size : Int) ≥ (a1.size : Int)
  · rw [if_pos c3] at H
    have c3b0 : decide ((a1.size : Int) ≤ (a0.size : Int)) = true := decide_eq_true c3
    have c3b1 : decide (a1.size ≤ a0.size) = true := decide_eq_true (Int.ofNat_le.mp c3)
    clear c3
    by_cases c4 : 0 ≤ (a1.size : Int)
    · rw [if_pos c4] at H
      have c4b0 := eq_true c4
      have c4b1 : decide (0 ≤ (a1.size : Int)) = true := decide_eq_true c4
      clear c4
      by_cases c5 : (a1.size : Int) ≤ (a0.size : Int)
      · rw [if_pos c5] at H
        have c5b0 := eq_true c5
        have c5b1 : decide ((a1.size : Int) ≤ (a0.size : Int)) = true := decide_eq_true c5
        clear c5
        obtain rfl := Option.some.inj H
        go_enter Try.func50, Try.ntmps50
        go_wp2
        go_ret
        exact ⟨by first | rfl | (simp; done) | (simp [*]; done), by repeat (first | exact Drawn0.refl _ | apply Drawn0.step)⟩
      · rw [if_neg c5] at H
        exact absurd H (by simp)
    · rw [if_neg c4] at H
      exact absurd H (by simp)
  · rw [if_neg c3] at H
    have c3b0 : decide ((a1.size : Int) ≤ (a0.size : Int)) = false := decide_eq_false c3
    have c3b1 : decide (a1.size ≤ a0.size) = false := decide_eq_false (fun h => c3 (Int.ofNat_le.mpr h))
    clear c3
    obtain rfl := Option.some.inj H
    go_enter Try.func50, Try.ntmps50
    go_wp2
    go_ret
    exact ⟨by first | rfl | (simp; done) | (simp [*]; done), by repeat (first | exact Drawn0.refl _ | apply Drawn0.step)⟩

/-! ### strings_HasPrefix: function 43 -/
def strings_HasPrefix.f (a0 : ByteArray) (a1 : ByteArray) : Option (Bool) := (stringslite_HasPrefix.f a0 a1).bind fun t101 => (some t101)
set_option maxHeartbeats 8000000 in
set_option maxRecDepth 100000 in
theorem strings_HasPrefix.calls (a0 : ByteArray) (a1 : ByteArray) (r : Bool) (w : World) (h : strings_HasPrefix.f a0 a1 = some r) :
    Calls Try.prog 43 #[.string a0, .string a1] w fun e w' => e = .returned (.bool r) ∧ Drawn0 w w' := by
  have H : ((stringslite_HasPrefix.f a0 a1).bind fun t101 => (some t101)) = some r := h
  clear h
  replace H := Option.bind_eq_some_iff.mp H
  obtain ⟨t101, A30, H⟩ := H
  replace H : (some t101) = some r := H
  have A3 := Aside0.mk A30
  clear A30
  obtain rfl := Option.some.inj H
  go_enter Try.func43, Try.ntmps43
  go_wp2_with (first | ((with_reducible refine gate_callee (f := 50) rfl ?_); refine goesL_ (some 7) rfl rfl Try.func50 (by kernel_rfl) rfl #[.string a0, .string a1] rfl (by (try simp only [List.map_toArray, List.map_cons, List.map_nil]); first | done | rfl | (simp only [List.length_drop, List.length_take]; rfl)) ?_; (with_reducible refine (stringslite_HasPrefix.calls a0 a1 t101 _ A3.out).mono ?_); rintro e w' ⟨rfl, ⟨nd, rfl⟩⟩; refine ⟨_, rfl, ?_⟩))
  go_ret
  exact ⟨by first | rfl | (simp; done) | (simp [*]; done), by repeat (first | exact Drawn0.refl _ | apply Drawn0.step)⟩

/-! ### impl_Hidden: function 16 -/
def impl_Hidden.f (a0 : ByteArray) : Option (Bool) := (strings_HasPrefix.f a0 (⟨#[36]⟩ : ByteArray)).bind fun t102 => (some t102)
set_option maxHeartbeats 8000000 in
set_option maxRecDepth 100000 in
theorem impl_Hidden.calls (a0 : ByteArray) (r : Bool) (w : World) (h : impl_Hidden.f a0 = some r) :
    Calls Try.prog 16 #[.string a0] w fun e w' => e = .returned (.bool r) ∧ Drawn0 w w' := by
  have H : ((strings_HasPrefix.f a0 (⟨#[36]⟩ : ByteArray)).bind fun t102 => (some t102)) = some r := h
  clear h
  replace H := Option.bind_eq_some_iff.mp H
  obtain ⟨t102, A20, H⟩ := H
  replace H : (some t102) = some r := H
  have A2 := Aside0.mk A20
  clear A20
  obtain rfl := Option.some.inj H
  go_enter Try.func16, Try.ntmps16
  go_wp2_with (first | ((with_reducible refine gate_callee (f := 43) rfl ?_); refine goesL_ (some 4) rfl rfl Try.func43 (by kernel_rfl) rfl #[.string a0, .string (⟨#[36]⟩ : ByteArray)] rfl (by (try simp only [List.map_toArray, List.map_cons, List.map_nil]); first | done | rfl | (simp only [List.length_drop, List.length_take]; rfl)) ?_; (with_reducible refine (strings_HasPrefix.calls a0 (⟨#[36]⟩ : ByteArray) t102 _ A2.out).mono ?_); rintro e w' ⟨rfl, ⟨nd, rfl⟩⟩; refine ⟨_, rfl, ?_⟩))
  go_ret
  exact ⟨by first | rfl | (simp; done) | (simp [*]; done), by repeat (first | exact Drawn0.refl _ | apply Drawn0.step)⟩

/-! ### laws_FnExactHidden: function 4 -/
def laws_FnExactHidden.f (a0 : ByteArray) : Option (Bool) := if (a0.size : Int) > 1048576 then (some true) else ((spec_Hidden.f a0).bind fun t103 => ((impl_Hidden.f a0).bind fun t104 => (if (t104 != t103) = true then (some false) else (some true))))
set_option maxHeartbeats 8000000 in
set_option maxRecDepth 100000 in
theorem laws_FnExactHidden.calls (a0 : ByteArray) (r : Bool) (w : World) (h : laws_FnExactHidden.f a0 = some r) :
    Calls Try.prog 4 #[.string a0] w fun e w' => e = .returned (.bool r) ∧ Drawn0 w w' := by
  have H : (if (a0.size : Int) > 1048576 then (some true) else ((spec_Hidden.f a0).bind fun t103 => ((impl_Hidden.f a0).bind fun t104 => (if (t104 != t103) = true then (some false) else (some true))))) = some r := h
  clear h
  by_cases c2 : (a0.size : Int) > 1048576
  · rw [if_pos c2] at H
    have c2b0 : decide (1048576 < (a0.size : Int)) = true := decide_eq_true c2
    have c2b1 : decide (1048576 < a0.size) = true := decide_eq_true (by omega)
    clear c2
    obtain rfl := Option.some.inj H
    go_enter Try.func4, Try.ntmps4
    go_wp2
    go_ret
    exact ⟨by first | rfl | (simp; done) | (simp [*]; done), by repeat (first | exact Drawn0.refl _ | apply Drawn0.step)⟩
  · rw [if_neg c2] at H
    have c2b0 : decide (1048576 < (a0.size : Int)) = false := decide_eq_false c2
    have c2b1 : decide (1048576 < a0.size) = false := decide_eq_false (by omega)
    clear c2
    replace H := Option.bind_eq_some_iff.mp H
    obtain ⟨t103, A30, H⟩ := H
    replace H : ((impl_Hidden.f a0).bind fun t104 => (if (t104 != t103) = true then (some false) else (some true))) = some r := H
    have A3 := Aside0.mk A30
    clear A30
    replace H := Option.bind_eq_some_iff.mp H
    obtain ⟨t104, A40, H⟩ := H
    replace H : (if (t104 != t103) = true then (some false) else (some true)) = some r := H
    have A4 := Aside0.mk A40
    clear A40
    by_cases c5 : (t104 != t103) = true
    · rw [if_pos c5] at H
      have c5b0 : (t104 != t103) = true := c5
      (try (have c5b1 : decide (t104 = t103) = false := by simpa using c5))
      (try (have c5b2 : (t104 == t103) = false := by simpa using c5))
      (try (have c5b3 : ¬ (t104 = t103) := by simpa using c5))
      clear c5
      obtain rfl := Option.some.inj H
      go_enter Try.func4, Try.ntmps4
      go_wp2_with (first | ((with_reducible refine gate_callee (f := 15) rfl ?_); refine goesL_ (some 9) rfl rfl Try.func15 (by kernel_rfl) rfl #[.string a0] rfl (by (try simp only [List.map_toArray, List.map_cons, List.map_nil]); first | done | rfl | (simp only [List.length_drop, List.length_take]; rfl)) ?_; (with_reducible refine (spec_Hidden.calls a0 t103 _ A3.out).mono ?_); rintro e w' ⟨rfl, ⟨nd, rfl⟩⟩; refine ⟨_, rfl, ?_⟩) | ((with_reducible refine gate_callee (f := 16) rfl ?_); refine goesL_ (some 11) rfl rfl Try.func16 (by kernel_rfl) rfl #[.string a0] rfl (by (try simp only [List.map_toArray, List.map_cons, List.map_nil]); first | done | rfl | (simp only [List.length_drop, List.length_take]; rfl)) ?_; (with_reducible refine (impl_Hidden.calls a0 t104 _ A4.out).mono ?_); rintro e w' ⟨rfl, ⟨nd, rfl⟩⟩; refine ⟨_, rfl, ?_⟩))
      go_ret
      exact ⟨by first | rfl | (simp; done) | (simp [*]; done), by repeat (first | exact Drawn0.refl _ | apply Drawn0.step)⟩
    · rw [if_neg c5] at H
      have c5b0 : (t104 != t103) = false := by simpa using c5
      (try (have c5b1 : decide (t104 = t103) = true := by simpa using c5))
      (try (have c5b2 : (t104 == t103) = true := by simpa using c5))
      clear c5
      obtain rfl := Option.some.inj H
      go_enter Try.func4, Try.ntmps4
      go_wp2_with (first | ((with_reducible refine gate_callee (f := 15) rfl ?_); refine goesL_ (some 9) rfl rfl Try.func15 (by kernel_rfl) rfl #[.string a0] rfl (by (try simp only [List.map_toArray, List.map_cons, List.map_nil]); first | done | rfl | (simp only [List.length_drop, List.length_take]; rfl)) ?_; (with_reducible refine (spec_Hidden.calls a0 t103 _ A3.out).mono ?_); rintro e w' ⟨rfl, ⟨nd, rfl⟩⟩; refine ⟨_, rfl, ?_⟩) | ((with_reducible refine gate_callee (f := 16) rfl ?_); refine goesL_ (some 11) rfl rfl Try.func16 (by kernel_rfl) rfl #[.string a0] rfl (by (try simp only [List.map_toArray, List.map_cons, List.map_nil]); first | done | rfl | (simp only [List.length_drop, List.length_take]; rfl)) ?_; (with_reducible refine (impl_Hidden.calls a0 t104 _ A4.out).mono ?_); rintro e w' ⟨rfl, ⟨nd, rfl⟩⟩; refine ⟨_, rfl, ?_⟩))
      go_ret
      exact ⟨by first | rfl | (simp; done) | (simp [*]; done), by repeat (first | exact Drawn0.refl _ | apply Drawn0.step)⟩

/-- THE ONE PURE STATEMENT of laws_FnExactHidden: yours. -/
def laws_FnExactHidden.Pure : Prop := ∀ (a0 : ByteArray), a0.size ≤ 140737488351232 → laws_FnExactHidden.f a0 = some true
theorem laws_FnExactHidden.walk (P : laws_FnExactHidden.Pure) (a0 : ByteArray) (w : World) (w0 : a0.size ≤ 140737488351232) :
    Calls Try.prog 4 #[.string a0] w fun e w' => e = .returned (.bool true) ∧ Below w.heap.size w w' := by
  have h := P a0 w0
  refine (laws_FnExactHidden.calls a0 true w h).mono ?_
  rintro e w' ⟨rfl, hd⟩
  exact ⟨rfl, hd.below⟩

/-! ### spec_l1In: function 44 -/
def spec_l1In.f (a0 : Int) (a1 : Int) (a2 : Int) : Option (Bool) := if a0 ≥ a1 then (some (decide (a0 ≤ a2))) else (some false)
set_option maxHeartbeats 8000000 in
set_option maxRecDepth 100000 in
theorem spec_l1In.calls (a0 : Int) (a1 : Int) (a2 : Int) (r : Bool) (w : World) (h : spec_l1In.f a0 a1 a2 = some r) :
    Calls Try.prog 44 #[.int .i64 a0, .int .i64 a1, .int .i64 a2] w fun e w' => e = .returned (.bool r) ∧ Drawn0 w w' := by
  have H : (if a0 ≥ a1 then (some (decide (a0 ≤ a2))) else (some false)) = some r := h
  clear h
  by_cases c4 : a0 ≥ a1
  · rw [if_pos c4] at H
    have c4b0 : decide (a1 ≤ a0) = true := decide_eq_true c4
    clear c4
    obtain rfl := Option.some.inj H
    go_enter Try.func44, Try.ntmps44
    go_wp2
    go_ret
    exact ⟨by first | rfl | (simp; done) | (simp [*]; done), by repeat (first | exact Drawn0.refl _ | apply Drawn0.step)⟩
  · rw [if_neg c4] at H
    have c4b0 : decide (a1 ≤ a0) = false := decide_eq_false c4
    clear c4
    obtain rfl := Option.some.inj H
    go_enter Try.func44, Try.ntmps44
    go_wp2
    go_ret
    exact ⟨by first | rfl | (simp; done) | (simp [*]; done), by repeat (first | exact Drawn0.refl _ | apply Drawn0.step)⟩

/-! ### spec_TypeName: function 17 -/
def spec_TypeName.f (a0 : Int) : Option (ByteArray) := (some (([(⟨#[99, 111, 110, 110, 101, 99, 116]⟩ : ByteArray), (⟨#[99, 111, 110, 110, 97, 99, 107]⟩ : ByteArray), (⟨#[112, 117, 98, 108, 105, 115, 104]⟩ : ByteArray), (⟨#[112, 117, 98, 97, 99, 107]⟩ : ByteArray), (⟨#[112, 117, 98, 114, 101, 99]⟩ : ByteArray), (⟨#[112, 117, 98, 114, 101, 108]⟩ : ByteArray), (⟨#[112, 117, 98, 99, 111, 109, 112]⟩ : ByteArray), (⟨#[115, 117, 98, 115, 99, 114, 105, 98, 101]⟩ : ByteArray), (⟨#[115, 117, 98, 97, 99, 107]⟩ : ByteArray), (⟨#[117, 110, 115, 117, 98, 115, 99, 114, 105, 98, 101]⟩ : ByteArray), (⟨#[117, 110, 115, 117, 98, 97, 99, 107]⟩ : ByteArray), (⟨#[112, 105, 110, 103, 114, 101, 113]⟩ : ByteArray), (⟨#[112, 105, 110, 103, 114, 101, 115, 112]⟩ : ByteArray), (⟨#[100, 105, 115, 99, 111, 110, 110, 101, 99, 116]⟩ : ByteArray)] : List ByteArray) : List ByteArray)).bind fun y105 => ((spec_l1In.f a0 1 14).bind fun t108 => (if t108 = true then (if 0 ≤ (wrap64 (a0 - 1)) then (if (wrap64 (a0 - 1)) < (y105.length : Int) then (some (rdOf ByteArray.empty y105 (wrap64 (a0 - 1)))) else (none)) else (none)) else (some (⟨#[]⟩ : ByteArray))))
set_option maxHeartbeats 8000000 in
set_option maxRecDepth 100000 in
theorem spec_TypeName.calls (a0 : Int) (r : ByteArray) (w : World) (h : spec_TypeName.f a0 = some r) :
    Calls Try.prog 17 #[.int .i64 a0] w fun e w' => e = .returned (.string r) ∧ Below w.heap.size w w' := by
  have HB := Aside0.mk (Below.refl w.heap.size w)
  have H : ((some (([(⟨#[99, 111, 110, 110, 101, 99, 116]⟩ : ByteArray), (⟨#[99, 111, 110, 110, 97, 99, 107]⟩ : ByteArray), (⟨#[112, 117, 98, 108, 105, 115, 104]⟩ : ByteArray), (⟨#[112, 117, 98, 97, 99, 107]⟩ : ByteArray), (⟨#[112, 117, 98, 114, 101, 99]⟩ : ByteArray), (⟨#[112, 117, 98, 114, 101, 108]⟩ : ByteArray), (⟨#[112, 117, 98, 99, 111, 109, 112]⟩ : ByteArray), (⟨#[115, 117, 98, 115, 99, 114, 105, 98, 101]⟩ : ByteArray), (⟨#[115, 117, 98, 97, 99, 107]⟩ : ByteArray), (⟨#[117, 110, 115, 117, 98, 115, 99, 114, 105, 98, 101]⟩ : ByteArray), (⟨#[117, 110, 115, 117, 98, 97, 99, 107]⟩ : ByteArray), (⟨#[112, 105, 110, 103, 114, 101, 113]⟩ : ByteArray), (⟨#[112, 105, 110, 103, 114, 101, 115, 112]⟩ : ByteArray), (⟨#[100, 105, 115, 99, 111, 110, 110, 101, 99, 116]⟩ : ByteArray)] : List ByteArray) : List ByteArray)).bind fun y105 => ((spec_l1In.f a0 1 14).bind fun t108 => (if t108 = true then (if 0 ≤ (wrap64 (a0 - 1)) then (if (wrap64 (a0 - 1)) < (y105.length : Int) then (some (rdOf ByteArray.empty y105 (wrap64 (a0 - 1)))) else (none)) else (none)) else (some (⟨#[]⟩ : ByteArray))))) = some r := h
  clear h
  obtain ⟨y105, hy105⟩ : ∃ y_ : List ByteArray, y_ = (([(⟨#[99, 111, 110, 110, 101, 99, 116]⟩ : ByteArray), (⟨#[99, 111, 110, 110, 97, 99, 107]⟩ : ByteArray), (⟨#[112, 117, 98, 108, 105, 115, 104]⟩ : ByteArray), (⟨#[112, 117, 98, 97, 99, 107]⟩ : ByteArray), (⟨#[112, 117, 98, 114, 101, 99]⟩ : ByteArray), (⟨#[112, 117, 98, 114, 101, 108]⟩ : ByteArray), (⟨#[112, 117, 98, 99, 111, 109, 112]⟩ : ByteArray), (⟨#[115, 117, 98, 115, 99, 114, 105, 98, 101]⟩ : ByteArray), (⟨#[115, 117, 98, 97, 99, 107]⟩ : ByteArray), (⟨#[117, 110, 115, 117, 98, 115, 99, 114, 105, 98, 101]⟩ : ByteArray), (⟨#[117, 110, 115, 117, 98, 97, 99, 107]⟩ : ByteArray), (⟨#[112, 105, 110, 103, 114, 101, 113]⟩ : ByteArray), (⟨#[112, 105, 110, 103, 114, 101, 115, 112]⟩ : ByteArray), (⟨#[100, 105, 115, 99, 111, 110, 110, 101, 99, 116]⟩ : ByteArray)] : List ByteArray)) := ⟨_, rfl⟩
  replace H : ((spec_l1In.f a0 1 14).bind fun t108 => (if t108 = true then (if 0 ≤ (wrap64 (a0 - 1)) then (if (wrap64 (a0 - 1)) < (y105.length : Int) then (some (rdOf ByteArray.empty y105 (wrap64 (a0 - 1)))) else (none)) else (none)) else (some (⟨#[]⟩ : ByteArray)))) = some r := by first | (rw [hy105]; with_reducible exact H) | (have H2_ := (Option.bind_some _ _).symm.trans H; rw [hy105]; with_reducible exact H2_) | (have H2_ := (Option.bind_some _ _).symm.trans H; with_reducible exact H2_) | with_reducible exact H | (rw [hy105]; exact H) | exact H
  have Ny105 := Aside0.mk hy105
  clear hy105
  replace H := Option.bind_eq_some_iff.mp H
  obtain ⟨t108, A20, H⟩ := H
  replace H : (if t108 = true then (if 0 ≤ (wrap64 (a0 - 1)) then (if (wrap64 (a0 - 1)) < (y105.length : Int) then (some (rdOf ByteArray.empty y105 (wrap64 (a0 - 1)))) else (none)) else (none)) else (some (⟨#[]⟩ : ByteArray))) = some r := H
  have A2 := Aside0.mk A20
  clear A20
  by_cases c3 : t108 = true
  · subst c3
    have H1 : (if 0 ≤ (wrap64 (a0 - 1)) then (if (wrap64 (a0 - 1)) < (y105.length : Int) then (some (rdOf ByteArray.empty y105 (wrap64 (a0 - 1)))) else (none)) else (none)) = some r := by rw [if_pos rfl] at H; exact H
    clear H
    have H := H1
    clear H1
    obtain ⟨ji4, hji4⟩ : ∃ j_ : Int, (wrap64 (a0 - 1)) = j_ := ⟨_, rfl⟩
    replace H : (if 0 ≤ (ji4) then (if (ji4) < (y105.length : Int) then (some (rdOf ByteArray.empty y105 (ji4))) else (none)) else (none)) = some r := by first | (rw [hji4] at H; exact H) | (simp only [hji4] at H ⊢; exact H)
    (try rw [hji4] at A2)
    have hji4w : (IntKind.i64.wrap (a0 - 1)) = ji4 := (i64_w _).trans hji4
    by_cases c5 : 0 ≤ (ji4)
    · rw [if_pos c5] at H
      have c5b0 : decide (0 ≤ (ji4)) = true := decide_eq_true c5
      clear c5
      by_cases c6 : (ji4) < (y105.length : Int)
      · rw [if_pos c6] at H
        have c6b0 : decide ((ji4) < (y105.length : Int)) = true := decide_eq_true c6
        clear c6
        obtain rfl := Option.some.inj H
        go_enter Try.func17, Try.ntmps17
        go_wp2_with (first | ((with_reducible refine gate_dst (N := 4) rfl ?_); refine Kd.R_lit Kd.string _ 9 ?hg (N := 4) ?hd (xs := ([(⟨#[99, 111, 110, 110, 101, 99, 116]⟩ : ByteArray), (⟨#[99, 111, 110, 110, 97, 99, 107]⟩ : ByteArray), (⟨#[112, 117, 98, 108, 105, 115, 104]⟩ : ByteArray), (⟨#[112, 117, 98, 97, 99, 107]⟩ : ByteArray), (⟨#[112, 117, 98, 114, 101, 99]⟩ : ByteArray), (⟨#[112, 117, 98, 114, 101, 108]⟩ : ByteArray), (⟨#[112, 117, 98, 99, 111, 109, 112]⟩ : ByteArray), (⟨#[115, 117, 98, 115, 99, 114, 105, 98, 101]⟩ : ByteArray), (⟨#[115, 117, 98, 97, 99, 107]⟩ : ByteArray), (⟨#[117, 110, 115, 117, 98, 115, 99, 114, 105, 98, 101]⟩ : ByteArray), (⟨#[117, 110, 115, 117, 98, 97, 99, 107]⟩ : ByteArray), (⟨#[112, 105, 110, 103, 114, 101, 113]⟩ : ByteArray), (⟨#[112, 105, 110, 103, 114, 101, 115, 112]⟩ : ByteArray), (⟨#[100, 105, 115, 99, 111, 110, 110, 101, 99, 116]⟩ : ByteArray)] : List ByteArray)) (inner := [.string (⟨#[99, 111, 110, 110, 101, 99, 116]⟩ : ByteArray), .string (⟨#[99, 111, 110, 110, 97, 99, 107]⟩ : ByteArray), .string (⟨#[112, 117, 98, 108, 105, 115, 104]⟩ : ByteArray), .string (⟨#[112, 117, 98, 97, 99, 107]⟩ : ByteArray), .string (⟨#[112, 117, 98, 114, 101, 99]⟩ : ByteArray), .string (⟨#[112, 117, 98, 114, 101, 108]⟩ : ByteArray), .string (⟨#[112, 117, 98, 99, 111, 109, 112]⟩ : ByteArray), .string (⟨#[115, 117, 98, 115, 99, 114, 105, 98, 101]⟩ : ByteArray), .string (⟨#[115, 117, 98, 97, 99, 107]⟩ : ByteArray), .string (⟨#[117, 110, 115, 117, 98, 115, 99, 114, 105, 98, 101]⟩ : ByteArray), .string (⟨#[117, 110, 115, 117, 98, 97, 99, 107]⟩ : ByteArray), .string (⟨#[112, 105, 110, 103, 114, 101, 113]⟩ : ByteArray), .string (⟨#[112, 105, 110, 103, 114, 101, 115, 112]⟩ : ByteArray), .string (⟨#[100, 105, 115, 99, 111, 110, 110, 101, 99, 116]⟩ : ByteArray)]) (ok := fun _ => True) (okp := fun _ => True) ?hr ?hp (fun _ hk => hk) trivial (Below.refl _ _) (Nat.le_refl _) (by simp) ?_; (case hd => rfl); (case hg => rfl); (case hr => first | (go_simp; done) | (go_simp; rfl)); (case hp => exact (Reps.one (show Kd.M Kd.string _ _ _ (⟨#[99, 111, 110, 110, 101, 99, 116]⟩ : ByteArray) [.string (⟨#[99, 111, 110, 110, 101, 99, 116]⟩ : ByteArray)] from rfl) (Reps.one (show Kd.M Kd.string _ _ _ (⟨#[99, 111, 110, 110, 97, 99, 107]⟩ : ByteArray) [.string (⟨#[99, 111, 110, 110, 97, 99, 107]⟩ : ByteArray)] from rfl) (Reps.one (show Kd.M Kd.string _ _ _ (⟨#[112, 117, 98, 108, 105, 115, 104]⟩ : ByteArray) [.string (⟨#[112, 117, 98, 108, 105, 115, 104]⟩ : ByteArray)] from rfl) (Reps.one (show Kd.M Kd.string _ _ _ (⟨#[112, 117, 98, 97, 99, 107]⟩ : ByteArray) [.string (⟨#[112, 117, 98, 97, 99, 107]⟩ : ByteArray)] from rfl) (Reps.one (show Kd.M Kd.string _ _ _ (⟨#[112, 117, 98, 114, 101, 99]⟩ : ByteArray) [.string (⟨#[112, 117, 98, 114, 101, 99]⟩ : ByteArray)] from rfl) (Reps.one (show Kd.M Kd.string _ _ _ (⟨#[112, 117, 98, 114, 101, 108]⟩ : ByteArray) [.string (⟨#[112, 117, 98, 114, 101, 108]⟩ : ByteArray)] from rfl) (Reps.one (show Kd.M Kd.string _ _ _ (⟨#[112, 117, 98, 99, 111, 109, 112]⟩ : ByteArray) [.string (⟨#[112, 117, 98, 99, 111, 109, 112]⟩ : ByteArray)] from rfl) (Reps.one (show Kd.M Kd.string _ _ _ (⟨#[115, 117, 98, 115, 99, 114, 105, 98, 101]⟩ : ByteArray) [.string (⟨#[115, 117, 98, 115, 99, 114, 105, 98, 101]⟩ : ByteArray)] from rfl) (Reps.one (show Kd.M Kd.string _ _ _ (⟨#[115, 117, 98, 97, 99, 107]⟩ : ByteArray) [.string (⟨#[115, 117, 98, 97, 99, 107]⟩ : ByteArray)] from rfl) (Reps.one (show Kd.M Kd.string _ _ _ (⟨#[117, 110, 115, 117, 98, 115, 99, 114, 105, 98, 101]⟩ : ByteArray) [.string (⟨#[117, 110, 115, 117, 98, 115, 99, 114, 105, 98, 101]⟩ : ByteArray)] from rfl) (Reps.one (show Kd.M Kd.string _ _ _ (⟨#[117, 110, 115, 117, 98, 97, 99, 107]⟩ : ByteArray) [.string (⟨#[117, 110, 115, 117, 98, 97, 99, 107]⟩ : ByteArray)] from rfl) (Reps.one (show Kd.M Kd.string _ _ _ (⟨#[112, 105, 110, 103, 114, 101, 113]⟩ : ByteArray) [.string (⟨#[112, 105, 110, 103, 114, 101, 113]⟩ : ByteArray)] from rfl) (Reps.one (show Kd.M Kd.string _ _ _ (⟨#[112, 105, 110, 103, 114, 101, 115, 112]⟩ : ByteArray) [.string (⟨#[112, 105, 110, 103, 114, 101, 115, 112]⟩ : ByteArray)] from rfl) (Reps.one (show Kd.M Kd.string _ _ _ (⟨#[100, 105, 115, 99, 111, 110, 110, 101, 99, 116]⟩ : ByteArray) [.string (⟨#[100, 105, 115, 99, 111, 110, 110, 101, 99, 116]⟩ : ByteArray)] from rfl) (Reps.none _ _)))))))))))))))); intro v106 w7 ho8 hb hg_ hnew_; clear hg_ hnew_; (first | rw [← Ny105.out] at ho8 | (simp only [Int.reduceToNat] at ho8; rw [← Ny105.out] at ho8)); have n0_ := Aside0.mk (Kd.R_lower ho8 (below_size (by repeat (first | (with_reducible first | exact HB.out | apply below_alloc | apply pw_below_drewN | apply below_drew1) | exact HB.out)))); have n1_ := Aside0.mk (below_step (by repeat (first | (with_reducible first | exact HB.out | apply below_alloc | apply pw_below_drewN | apply below_drew1) | exact HB.out)) hb); clear HB; have HO107 := n0_; have HB := n1_; clear n0_ n1_; clear hb ho8) | ((with_reducible refine gate_callee (f := 44) rfl ?_); refine goesL_ (some 6) rfl rfl Try.func44 (by kernel_rfl) rfl #[.int .i64 a0, .int .i64 1, .int .i64 14] rfl (by (try simp only [List.map_toArray, List.map_cons, List.map_nil]); first | done | rfl | (simp only [List.length_drop, List.length_take]; rfl)) ?_; (with_reducible refine (spec_l1In.calls a0 1 14 true _ A2.out).mono ?_); rintro e w' ⟨rfl, ⟨nd, rfl⟩⟩; refine ⟨_, rfl, ?_⟩; obtain ⟨Ao9, co9, eo9⟩ := Kd.R_slice HO107.out; subst eo9; have p109 : 0 ≤ ((ji4) : Int) := of_decide_eq_true (by first | (with_reducible assumption) | assumption); have q109 : (ji4) < (y105.length : Int) := of_decide_eq_true (by first | (with_reducible assumption) | assumption); obtain ⟨ad109, e109, hx109_0⟩ := Kd.at_string (Kd.R_reads' HO107.out).2.2 (ji4) p109 q109; cases e109; replace p109 := eq_true p109; replace q109 := eq_true q109))
        go_ret
        exact ⟨by first | rfl | (simp [errW_none, errW_some] <;> rfl) | (simp only [← hji4]; first | rfl | (simp [errW_none, errW_some] <;> rfl)) | (simp [*, errW_none, errW_some] <;> rfl), by repeat (first | (with_reducible first | exact HB.out | apply below_alloc | apply pw_below_drewN | apply below_drew1) | exact HB.out)⟩
      · rw [if_neg c6] at H
        exact absurd H (by simp)
    · rw [if_neg c5] at H
      exact absurd H (by simp)
  · replace c3 := Bool.eq_false_iff.mpr c3
    subst c3
    have H1 : (some (⟨#[]⟩ : ByteArray)) = some r := by rw [if_neg (show ¬ (false = true) by decide)] at H; exact H
    clear H
    have H := H1
    clear H1
    obtain rfl := Option.some.inj H
    go_enter Try.func17, Try.ntmps17
    go_wp2_with (first | ((with_reducible refine gate_dst (N := 4) rfl ?_); refine Kd.R_lit Kd.string _ 9 ?hg (N := 4) ?hd (xs := ([(⟨#[99, 111, 110, 110, 101, 99, 116]⟩ : ByteArray), (⟨#[99, 111, 110, 110, 97, 99, 107]⟩ : ByteArray), (⟨#[112, 117, 98, 108, 105, 115, 104]⟩ : ByteArray), (⟨#[112, 117, 98, 97, 99, 107]⟩ : ByteArray), (⟨#[112, 117, 98, 114, 101, 99]⟩ : ByteArray), (⟨#[112, 117, 98, 114, 101, 108]⟩ : ByteArray), (⟨#[112, 117, 98, 99, 111, 109, 112]⟩ : ByteArray), (⟨#[115, 117, 98, 115, 99, 114, 105, 98, 101]⟩ : ByteArray), (⟨#[115, 117, 98, 97, 99, 107]⟩ : ByteArray), (⟨#[117, 110, 115, 117, 98, 115, 99, 114, 105, 98, 101]⟩ : ByteArray), (⟨#[117, 110, 115, 117, 98, 97, 99, 107]⟩ : ByteArray), (⟨#[112, 105, 110, 103, 114, 101, 113]⟩ : ByteArray), (⟨#[112, 105, 110, 103, 114, 101, 115, 112]⟩ : ByteArray), (⟨#[100, 105, 115, 99, 111, 110, 110, 101, 99, 116]⟩ : ByteArray)] : List ByteArray)) (inner := [.string (⟨#[99, 111, 110, 110, 101, 99, 116]⟩ : ByteArray), .string (⟨#[99, 111, 110, 110, 97, 99, 107]⟩ : ByteArray), .string (⟨#[112, 117, 98, 108, 105, 115, 104]⟩ : ByteArray), .string (⟨#[112, 117, 98, 97, 99, 107]⟩ : ByteArray), .string (⟨#[112, 117, 98, 114, 101, 99]⟩ : ByteArray), .string (⟨#[112, 117, 98, 114, 101, 108]⟩ : ByteArray), .string (⟨#[112, 117, 98, 99, 111, 109, 112]⟩ : ByteArray), .string (⟨#[115, 117, 98, 115, 99, 114, 105, 98, 101]⟩ : ByteArray), .string (⟨#[115, 117, 98, 97, 99, 107]⟩ : ByteArray), .string (⟨#[117, 110, 115, 117, 98, 115, 99, 114, 105, 98, 101]⟩ : ByteArray), .string (⟨#[117, 110, 115, 117, 98, 97, 99, 107]⟩ : ByteArray), .string (⟨#[112, 105, 110, 103, 114, 101, 113]⟩ : ByteArray), .string (⟨#[112, 105, 110, 103, 114, 101, 115, 112]⟩ : ByteArray), .string (⟨#[100, 105, 115, 99, 111, 110, 110, 101, 99, 116]⟩ : ByteArray)]) (ok := fun _ => True) (okp := fun _ => True) ?hr ?hp (fun _ hk => hk) trivial (Below.refl _ _) (Nat.le_refl _) (by simp) ?_; (case hd => rfl); (case hg => rfl); (case hr => first | (go_simp; done) | (go_simp; rfl)); (case hp => exact (Reps.one (show Kd.M Kd.string _ _ _ (⟨#[99, 111, 110, 110, 101, 99, 116]⟩ : ByteArray) [.string (⟨#[99, 111, 110, 110, 101, 99, 116]⟩ : ByteArray)] from rfl) (Reps.one (show Kd.M Kd.string _ _ _ (⟨#[99, 111, 110, 110, 97, 99, 107]⟩ : ByteArray) [.string (⟨#[99, 111, 110, 110, 97, 99, 107]⟩ : ByteArray)] from rfl) (Reps.one (show Kd.M Kd.string _ _ _ (⟨#[112, 117, 98, 108, 105, 115, 104]⟩ : ByteArray) [.string (⟨#[112, 117, 98, 108, 105, 115, 104]⟩ : ByteArray)] from rfl) (Reps.one (show Kd.M Kd.string _ _ _ (⟨#[112, 117, 98, 97, 99, 107]⟩ : ByteArray) [.string (⟨#[112, 117, 98, 97, 99, 107]⟩ : ByteArray)] from rfl) (Reps.one (show Kd.M Kd.string _ _ _ (⟨#[112, 117, 98, 114, 101, 99]⟩ : ByteArray) [.string (⟨#[112, 117, 98, 114, 101, 99]⟩ : ByteArray)] from rfl) (Reps.one (show Kd.M Kd.string _ _ _ (⟨#[112, 117, 98, 114, 101, 108]⟩ : ByteArray) [.string (⟨#[112, 117, 98, 114, 101, 108]⟩ : ByteArray)] from rfl) (Reps.one (show Kd.M Kd.string _ _ _ (⟨#[112, 117, 98, 99, 111, 109, 112]⟩ : ByteArray) [.string (⟨#[112, 117, 98, 99, 111, 109, 112]⟩ : ByteArray)] from rfl) (Reps.one (show Kd.M Kd.string _ _ _ (⟨#[115, 117, 98, 115, 99, 114, 105, 98, 101]⟩ : ByteArray) [.string (⟨#[115, 117, 98, 115, 99, 114, 105, 98, 101]⟩ : ByteArray)] from rfl) (Reps.one (show Kd.M Kd.string _ _ _ (⟨#[115, 117, 98, 97, 99, 107]⟩ : ByteArray) [.string (⟨#[115, 117, 98, 97, 99, 107]⟩ : ByteArray)] from rfl) (Reps.one (show Kd.M Kd.string _ _ _ (⟨#[117, 110, 115, 117, 98, 115, 99, 114, 105, 98, 101]⟩ : ByteArray) [.string (⟨#[117, 110, 115, 117, 98, 115, 99, 114, 105, 98, 101]⟩ : ByteArray)] from rfl) (Reps.one (show Kd.M Kd.string _ _ _ (⟨#[117, 110, 115, 117, 98, 97, 99, 107]⟩ : ByteArray) [.string (⟨#[117, 110, 115, 117, 98, 97, 99, 107]⟩ : ByteArray)] from rfl) (Reps.one (show Kd.M Kd.string _ _ _ (⟨#[112, 105, 110, 103, 114, 101, 113]⟩ : ByteArray) [.string (⟨#[112, 105, 110, 103, 114, 101, 113]⟩ : ByteArray)] from rfl) (Reps.one (show Kd.M Kd.string _ _ _ (⟨#[112, 105, 110, 103, 114, 101, 115, 112]⟩ : ByteArray) [.string (⟨#[112, 105, 110, 103, 114, 101, 115, 112]⟩ : ByteArray)] from rfl) (Reps.one (show Kd.M Kd.string _ _ _ (⟨#[100, 105, 115, 99, 111, 110, 110, 101, 99, 116]⟩ : ByteArray) [.string (⟨#[100, 105, 115, 99, 111, 110, 110, 101, 99, 116]⟩ : ByteArray)] from rfl) (Reps.none _ _)))))))))))))))); intro v106 w10 ho11 hb hg_ hnew_; clear hg_ hnew_; (first | rw [← Ny105.out] at ho11 | (simp only [Int.reduceToNat] at ho11; rw [← Ny105.out] at ho11)); have n0_ := Aside0.mk (Kd.R_lower ho11 (below_size (by repeat (first | (with_reducible first | exact HB.out | apply below_alloc | apply pw_below_drewN | apply below_drew1) | exact HB.out)))); have n1_ := Aside0.mk (below_step (by repeat (first | (with_reducible first | exact HB.out | apply below_alloc | apply pw_below_drewN | apply below_drew1) | exact HB.out)) hb); clear HB; have HO107 := n0_; have HB := n1_; clear n0_ n1_; clear hb ho11) | ((with_reducible refine gate_callee (f := 44) rfl ?_); refine goesL_ (some 6) rfl rfl Try.func44 (by kernel_rfl) rfl #[.int .i64 a0, .int .i64 1, .int .i64 14] rfl (by (try simp only [List.map_toArray, List.map_cons, List.map_nil]); first | done | rfl | (simp only [List.length_drop, List.length_take]; rfl)) ?_; (with_reducible refine (spec_l1In.calls a0 1 14 false _ A2.out).mono ?_); rintro e w' ⟨rfl, ⟨nd, rfl⟩⟩; refine ⟨_, rfl, ?_⟩))
    go_ret
    exact ⟨by first | rfl | (simp [errW_none, errW_some] <;> rfl) | (simp [*, errW_none, errW_some] <;> rfl), by repeat (first | (with_reducible first | exact HB.out | apply below_alloc | apply pw_below_drewN | apply below_drew1) | exact HB.out)⟩

/-! ### impl_within: function 45 -/
def impl_within.f (a0 : Int) (a1 : Int) (a2 : Int) : Option (Bool) := if a0 ≥ a1 then (some (decide (a0 ≤ a2))) else (some false)
set_option maxHeartbeats 8000000 in
set_option maxRecDepth 100000 in
theorem impl_within.calls (a0 : Int) (a1 : Int) (a2 : Int) (r : Bool) (w : World) (h : impl_within.f a0 a1 a2 = some r) :
    Calls Try.prog 45 #[.int .i64 a0, .int .i64 a1, .int .i64 a2] w fun e w' => e = .returned (.bool r) ∧ Drawn0 w w' := by
  have H : (if a0 ≥ a1 then (some (decide (a0 ≤ a2))) else (some false)) = some r := h
  clear h
  by_cases c4 : a0 ≥ a1
  · rw [if_pos c4] at H
    have c4b0 : decide (a1 ≤ a0) = true := decide_eq_true c4
    clear c4
    obtain rfl := Option.some.inj H
    go_enter Try.func45, Try.ntmps45
    go_wp2
    go_ret
    exact ⟨by first | rfl | (simp; done) | (simp [*]; done), by repeat (first | exact Drawn0.refl _ | apply Drawn0.step)⟩
  · rw [if_neg c4] at H
    have c4b0 : decide (a1 ≤ a0) = false := decide_eq_false c4
    clear c4
    obtain rfl := Option.some.inj H
    go_enter Try.func45, Try.ntmps45
    go_wp2
    go_ret
    exact ⟨by first | rfl | (simp; done) | (simp [*]; done), by repeat (first | exact Drawn0.refl _ | apply Drawn0.step)⟩

/-! ### impl_TypeName: function 18 -/
def impl_TypeName.f (a0 : Int) : Option (ByteArray) := (impl_within.f a0 1 14).bind fun t110 => (if t110 = true then ((some (([(⟨#[99, 111, 110, 110, 101, 99, 116]⟩ : ByteArray), (⟨#[99, 111, 110, 110, 97, 99, 107]⟩ : ByteArray), (⟨#[112, 117, 98, 108, 105, 115, 104]⟩ : ByteArray), (⟨#[112, 117, 98, 97, 99, 107]⟩ : ByteArray), (⟨#[112, 117, 98, 114, 101, 99]⟩ : ByteArray), (⟨#[112, 117, 98, 114, 101, 108]⟩ : ByteArray), (⟨#[112, 117, 98, 99, 111, 109, 112]⟩ : ByteArray), (⟨#[115, 117, 98, 115, 99, 114, 105, 98, 101]⟩ : ByteArray), (⟨#[115, 117, 98, 97, 99, 107]⟩ : ByteArray), (⟨#[117, 110, 115, 117, 98, 115, 99, 114, 105, 98, 101]⟩ : ByteArray), (⟨#[117, 110, 115, 117, 98, 97, 99, 107]⟩ : ByteArray), (⟨#[112, 105, 110, 103, 114, 101, 113]⟩ : ByteArray), (⟨#[112, 105, 110, 103, 114, 101, 115, 112]⟩ : ByteArray), (⟨#[100, 105, 115, 99, 111, 110, 110, 101, 99, 116]⟩ : ByteArray)] : List ByteArray) : List ByteArray)).bind fun y111 => (if 0 ≤ (wrap64 (a0 - 1)) then (if (wrap64 (a0 - 1)) < (y111.length : Int) then (some (rdOf ByteArray.empty y111 (wrap64 (a0 - 1)))) else (none)) else (none))) else (some (⟨#[]⟩ : ByteArray)))
set_option maxHeartbeats 8000000 in
set_option maxRecDepth 100000 in
theorem impl_TypeName.calls (a0 : Int) (r : ByteArray) (w : World) (h : impl_TypeName.f a0 = some r) :
    Calls Try.prog 18 #[.int .i64 a0] w fun e w' => e = .returned (.string r) ∧ Below w.heap.size w w' := by
  have HB := Aside0.mk (Below.refl w.heap.size w)
  have H : ((impl_within.f a0 1 14).bind fun t110 => (if t110 = true then ((some (([(⟨#[99, 111, 110, 110, 101, 99, 116]⟩ : ByteArray), (⟨#[99, 111, 110, 110, 97, 99, 107]⟩ : ByteArray), (⟨#[112, 117, 98, 108, 105, 115, 104]⟩ : ByteArray), (⟨#[112, 117, 98, 97, 99, 107]⟩ : ByteArray), (⟨#[112, 117, 98, 114, 101, 99]⟩ : ByteArray), (⟨#[112, 117, 98, 114, 101, 108]⟩ : ByteArray), (⟨#[112, 117, 98, 99, 111, 109, 112]⟩ : ByteArray), (⟨#[115, 117, 98, 115, 99, 114, 105, 98, 101]⟩ : ByteArray), (⟨#[115, 117, 98, 97, 99, 107]⟩ : ByteArray), (⟨#[117, 110, 115, 117, 98, 115, 99, 114, 105, 98, 101]⟩ : ByteArray), (⟨#[117, 110, 115, 117, 98, 97, 99, 107]⟩ : ByteArray), (⟨#[112, 105, 110, 103, 114, 101, 113]⟩ : ByteArray), (⟨#[112, 105, 110, 103, 114, 101, 115, 112]⟩ : ByteArray), (⟨#[100, 105, 115, 99, 111, 110, 110, 101, 99, 116]⟩ : ByteArray)] : List ByteArray) : List ByteArray)).bind fun y111 => (if 0 ≤ (wrap64 (a0 - 1)) then (if (wrap64 (a0 - 1)) < (y111.length : Int) then (some (rdOf ByteArray.empty y111 (wrap64 (a0 - 1)))) else (none)) else (none))) else (some (⟨#[]⟩ : ByteArray)))) = some r := h
  clear h
  replace H := Option.bind_eq_some_iff.mp H
  obtain ⟨t110, A20, H⟩ := H
  replace H : (if t110 = true then ((some (([(⟨#[99, 111, 110, 110, 101, 99, 116]⟩ : ByteArray), (⟨#[99, 111, 110, 110, 97, 99, 107]⟩ : ByteArray), (⟨#[112, 117, 98, 108, 105, 115, 104]⟩ : ByteArray), (⟨#[112, 117, 98, 97, 99, 107]⟩ : ByteArray), (⟨#[112, 117, 98, 114, 101, 99]⟩ : ByteArray), (⟨#[112, 117, 98, 114, 101, 108]⟩ : ByteArray), (⟨#[112, 117, 98, 99, 111, 109, 112]⟩ : ByteArray), (⟨#[115, 117, 98, 115, 99, 114, 105, 98, 101]⟩ : ByteArray), (⟨#[115, 117, 98, 97, 99, 107]⟩ : ByteArray), (⟨#[117, 110, 115, 117, 98, 115, 99, 114, 105, 98, 101]⟩ : ByteArray), (⟨#[117, 110, 115, 117, 98, 97, 99, 107]⟩ : ByteArray), (⟨#[112, 105, 110, 103, 114, 101, 113]⟩ : ByteArray), (⟨#[112, 105, 110, 103, 114, 101, 115, 112]⟩ : ByteArray), (⟨#[100, 105, 115, 99, 111, 110, 110, 101, 99, 116]⟩ : ByteArray)] : List ByteArray) : List ByteArray)).bind fun y111 => (if 0 ≤ (wrap64 (a0 - 1)) then (if (wrap64 (a0 - 1)) < (y111.length : Int) then (some (rdOf ByteArray.empty y111 (wrap64 (a0 - 1)))) else (none)) else (none))) else (some (⟨#[]⟩ : ByteArray))) = some r := H
  have A2 := Aside0.mk A20
  clear A20
  by_cases c3 : t110 = true
  · subst c3
    have H1 : ((some (([(⟨#[99, 111, 110, 110, 101, 99, 116]⟩ : ByteArray), (⟨#[99, 111, 110, 110, 97, 99, 107]⟩ : ByteArray), (⟨#[112, 117, 98, 108, 105, 115, 104]⟩ : ByteArray), (⟨#[112, 117, 98, 97, 99, 107]⟩ : ByteArray), (⟨#[112, 117, 98, 114, 101, 99]⟩ : ByteArray), (⟨#[112, 117, 98, 114, 101, 108]⟩ : ByteArray), (⟨#[112, 117, 98, 99, 111, 109, 112]⟩ : ByteArray), (⟨#[115, 117, 98, 115, 99, 114, 105, 98, 101]⟩ : ByteArray), (⟨#[115, 117, 98, 97, 99, 107]⟩ : ByteArray), (⟨#[117, 110, 115, 117, 98, 115, 99, 114, 105, 98, 101]⟩ : ByteArray), (⟨#[117, 110, 115, 117, 98, 97, 99, 107]⟩ : ByteArray), (⟨#[112, 105, 110, 103, 114, 101, 113]⟩ : ByteArray), (⟨#[112, 105, 110, 103, 114, 101, 115, 112]⟩ : ByteArray), (⟨#[100, 105, 115, 99, 111, 110, 110, 101, 99, 116]⟩ : ByteArray)] : List ByteArray) : List ByteArray)).bind fun y111 => (if 0 ≤ (wrap64 (a0 - 1)) then (if (wrap64 (a0 - 1)) < (y111.length : Int) then (some (rdOf ByteArray.empty y111 (wrap64 (a0 - 1)))) else (none)) else (none))) = some r := by rw [if_pos rfl] at H; exact H
    clear H
    have H := H1
    clear H1
    obtain ⟨y111, hy111⟩ : ∃ y_ : List ByteArray, y_ = (([(⟨#[99, 111, 110, 110, 101, 99, 116]⟩ : ByteArray), (⟨#[99, 111, 110, 110, 97, 99, 107]⟩ : ByteArray), (⟨#[112, 117, 98, 108, 105, 115, 104]⟩ : ByteArray), (⟨#[112, 117, 98, 97, 99, 107]⟩ : ByteArray), (⟨#[112, 117, 98, 114, 101, 99]⟩ : ByteArray), (⟨#[112, 117, 98, 114, 101, 108]⟩ : ByteArray), (⟨#[112, 117, 98, 99, 111, 109, 112]⟩ : ByteArray), (⟨#[115, 117, 98, 115, 99, 114, 105, 98, 101]⟩ : ByteArray), (⟨#[115, 117, 98, 97, 99, 107]⟩ : ByteArray), (⟨#[117, 110, 115, 117, 98, 115, 99, 114, 105, 98, 101]⟩ : ByteArray), (⟨#[117, 110, 115, 117, 98, 97, 99, 107]⟩ : ByteArray), (⟨#[112, 105, 110, 103, 114, 101, 113]⟩ : ByteArray), (⟨#[112, 105, 110, 103, 114, 101, 115, 112]⟩ : ByteArray), (⟨#[100, 105, 115, 99, 111, 110, 110, 101, 99, 116]⟩ : ByteArray)] : List ByteArray)) := ⟨_, rfl⟩
    replace H : (if 0 ≤ (wrap64 (a0 - 1)) then (if (wrap64 (a0 - 1)) < (y111.length : Int) then (some (rdOf ByteArray.empty y111 (wrap64 (a0 - 1)))) else (none)) else (none)) = some r := by first | (rw [hy111]; with_reducible exact H) | (have H2_ := (Option.bind_some _ _).symm.trans H; rw [hy111]; with_reducible exact H2_) | (have H2_ := (Option.bind_some _ _).symm.trans H; with_reducible exact H2_) | with_reducible exact H | (rw [hy111]; exact H) | exact H
    have Ny111 := Aside0.mk hy111
    clear hy111
    obtain ⟨ji4, hji4⟩ : ∃ j_ : Int, (wrap64 (a0 - 1)) = j_ := ⟨_, rfl⟩
    replace H : (if 0 ≤ (ji4) then (if (ji4) < (y111.length : Int) then (some (rdOf ByteArray.empty y111 (ji4))) else (none)) else (none)) = some r := by first | (rw [hji4] at H; exact H) | (simp only [hji4] at H ⊢; exact H)
    (try rw [hji4] at A2)
    have hji4w : (IntKind.i64.wrap (a0 - 1)) = ji4 := (i64_w _).trans hji4
    by_cases c5 : 0 ≤ (ji4)
    · rw [if_pos c5] at H
      have c5b0 : decide (0 ≤ (ji4)) = true := decide_eq_true c5
      clear c5
      by_cases c6 : (ji4) < (y111.length : Int)
      · rw [if_pos c6] at H
        have c6b0 : decide ((ji4) < (y111.length : Int)) = true := decide_eq_true c6
        clear c6
        obtain rfl := Option.some.inj H
        go_enter Try.func18, Try.ntmps18
        go_wp2_with (first | ((with_reducible refine gate_callee (f := 45) rfl ?_); refine goesL_ (some 4) rfl rfl Try.func45 (by kernel_rfl) rfl #[.int .i64 a0, .int .i64 1, .int .i64 14] rfl (by (try simp only [List.map_toArray, List.map_cons, List.map_nil]); first | done | rfl | (simp only [List.length_drop, List.length_take]; rfl)) ?_; (with_reducible refine (impl_within.calls a0 1 14 true _ A2.out).mono ?_); rintro e w' ⟨rfl, ⟨nd, rfl⟩⟩; refine ⟨_, rfl, ?_⟩) | ((with_reducible refine gate_dst (N := 6) rfl ?_); refine Kd.R_lit Kd.string _ 9 ?hg (N := 6) ?hd (xs := ([(⟨#[99, 111, 110, 110, 101, 99, 116]⟩ : ByteArray), (⟨#[99, 111, 110, 110, 97, 99, 107]⟩ : ByteArray), (⟨#[112, 117, 98, 108, 105, 115, 104]⟩ : ByteArray), (⟨#[112, 117, 98, 97, 99, 107]⟩ : ByteArray), (⟨#[112, 117, 98, 114, 101, 99]⟩ : ByteArray), (⟨#[112, 117, 98, 114, 101, 108]⟩ : ByteArray), (⟨#[112, 117, 98, 99, 111, 109, 112]⟩ : ByteArray), (⟨#[115, 117, 98, 115, 99, 114, 105, 98, 101]⟩ : ByteArray), (⟨#[115, 117, 98, 97, 99, 107]⟩ : ByteArray), (⟨#[117, 110, 115, 117, 98, 115, 99, 114, 105, 98, 101]⟩ : ByteArray), (⟨#[117, 110, 115, 117, 98, 97, 99, 107]⟩ : ByteArray), (⟨#[112, 105, 110, 103, 114, 101, 113]⟩ : ByteArray), (⟨#[112, 105, 110, 103, 114, 101, 115, 112]⟩ : ByteArray), (⟨#[100, 105, 115, 99, 111, 110, 110, 101, 99, 116]⟩ : ByteArray)] : List ByteArray)) (inner := [.string (⟨#[99, 111, 110, 110, 101, 99, 116]⟩ : ByteArray), .string (⟨#[99, 111, 110, 110, 97, 99, 107]⟩ : ByteArray), .string (⟨#[112, 117, 98, 108, 105, 115, 104]⟩ : ByteArray), .string (⟨#[112, 117, 98, 97, 99, 107]⟩ : ByteArray), .string (⟨#[112, 117, 98, 114, 101, 99]⟩ : ByteArray), .string (⟨#[112, 117, 98, 114, 101, 108]⟩ : ByteArray), .string (⟨#[112, 117, 98, 99, 111, 109, 112]⟩ : ByteArray), .string (⟨#[115, 117, 98, 115, 99, 114, 105, 98, 101]⟩ : ByteArray), .string (⟨#[115, 117, 98, 97, 99, 107]⟩ : ByteArray), .string (⟨#[117, 110, 115, 117, 98, 115, 99, 114, 105, 98, 101]⟩ : ByteArray), .string (⟨#[117, 110, 115, 117, 98, 97, 99, 107]⟩ : ByteArray), .string (⟨#[112, 105, 110, 103, 114, 101, 113]⟩ : ByteArray), .string (⟨#[112, 105, 110, 103, 114, 101, 115, 112]⟩ : ByteArray), .string (⟨#[100, 105, 115, 99, 111, 110, 110, 101, 99, 116]⟩ : ByteArray)]) (ok := fun _ => True) (okp := fun _ => True) ?hr ?hp (fun _ hk => hk) trivial (Below.refl _ _) (Nat.le_refl _) (by simp) ?_; (case hd => rfl); (case hg => rfl); (case hr => first | (go_simp; done) | (go_simp; rfl)); (case hp => exact (Reps.one (show Kd.M Kd.string _ _ _ (⟨#[99, 111, 110, 110, 101, 99, 116]⟩ : ByteArray) [.string (⟨#[99, 111, 110, 110, 101, 99, 116]⟩ : ByteArray)] from rfl) (Reps.one (show Kd.M Kd.string _ _ _ (⟨#[99, 111, 110, 110, 97, 99, 107]⟩ : ByteArray) [.string (⟨#[99, 111, 110, 110, 97, 99, 107]⟩ : ByteArray)] from rfl) (Reps.one (show Kd.M Kd.string _ _ _ (⟨#[112, 117, 98, 108, 105, 115, 104]⟩ : ByteArray) [.string (⟨#[112, 117, 98, 108, 105, 115, 104]⟩ : ByteArray)] from rfl) (Reps.one (show Kd.M Kd.string _ _ _ (⟨#[112, 117, 98, 97, 99, 107]⟩ : ByteArray) [.string (⟨#[112, 117, 98, 97, 99, 107]⟩ : ByteArray)] from rfl) (Reps.one (show Kd.M Kd.string _ _ _ (⟨#[112, 117, 98, 114, 101, 99]⟩ : ByteArray) [.string (⟨#[112, 117, 98, 114, 101, 99]⟩ : ByteArray)] from rfl) (Reps.one (show Kd.M Kd.string _ _ _ (⟨#[112, 117, 98, 114, 101, 108]⟩ : ByteArray) [.string (⟨#[112, 117, 98, 114, 101, 108]⟩ : ByteArray)] from rfl) (Reps.one (show Kd.M Kd.string _ _ _ (⟨#[112, 117, 98, 99, 111, 109, 112]⟩ : ByteArray) [.string (⟨#[112, 117, 98, 99, 111, 109, 112]⟩ : ByteArray)] from rfl) (Reps.one (show Kd.M Kd.string _ _ _ (⟨#[115, 117, 98, 115, 99, 114, 105, 98, 101]⟩ : ByteArray) [.string (⟨#[115, 117, 98, 115, 99, 114, 105, 98, 101]⟩ : ByteArray)] from rfl) (Reps.one (show Kd.M Kd.string _ _ _ (⟨#[115, 117, 98, 97, 99, 107]⟩ : ByteArray) [.string (⟨#[115, 117, 98, 97, 99, 107]⟩ : ByteArray)] from rfl) (Reps.one (show Kd.M Kd.string _ _ _ (⟨#[117, 110, 115, 117, 98, 115, 99, 114, 105, 98, 101]⟩ : ByteArray) [.string (⟨#[117, 110, 115, 117, 98, 115, 99, 114, 105, 98, 101]⟩ : ByteArray)] from rfl) (Reps.one (show Kd.M Kd.string _ _ _ (⟨#[117, 110, 115, 117, 98, 97, 99, 107]⟩ : ByteArray) [.string (⟨#[117, 110, 115, 117, 98, 97, 99, 107]⟩ : ByteArray)] from rfl) (Reps.one (show Kd.M Kd.string _ _ _ (⟨#[112, 105, 110, 103, 114, 101, 113]⟩ : ByteArray) [.string (⟨#[112, 105, 110, 103, 114, 101, 113]⟩ : ByteArray)] from rfl) (Reps.one (show Kd.M Kd.string _ _ _ (⟨#[112, 105, 110, 103, 114, 101, 115, 112]⟩ : ByteArray) [.string (⟨#[112, 105, 110, 103, 114, 101, 115, 112]⟩ : ByteArray)] from rfl) (Reps.one (show Kd.M Kd.string _ _ _ (⟨#[100, 105, 115, 99, 111, 110, 110, 101, 99, 116]⟩ : ByteArray) [.string (⟨#[100, 105, 115, 99, 111, 110, 110, 101, 99, 116]⟩ : ByteArray)] from rfl) (Reps.none _ _)))))))))))))))); intro v112 w7 ho8 hb hg_ hnew_; clear hg_ hnew_; (first | rw [← Ny111.out] at ho8 | (simp only [Int.reduceToNat] at ho8; rw [← Ny111.out] at ho8)); have n0_ := Aside0.mk (Kd.R_lower ho8 (below_size (by repeat (first | (with_reducible first | exact HB.out | apply below_alloc | apply pw_below_drewN | apply below_drew1) | exact HB.out)))); have n1_ := Aside0.mk (below_step (by repeat (first | (with_reducible first | exact HB.out | apply below_alloc | apply pw_below_drewN | apply below_drew1) | exact HB.out)) hb); clear HB; have HO113 := n0_; have HB := n1_; clear n0_ n1_; clear hb ho8; obtain ⟨Ao9, co9, eo9⟩ := Kd.R_slice HO113.out; subst eo9; have p114 : 0 ≤ ((ji4) : Int) := of_decide_eq_true (by first | (with_reducible assumption) | assumption); have q114 : (ji4) < (y111.length : Int) := of_decide_eq_true (by first | (with_reducible assumption) | assumption); obtain ⟨ad114, e114, hx114_0⟩ := Kd.at_string (Kd.R_reads' HO113.out).2.2 (ji4) p114 q114; cases e114; replace p114 := eq_true p114; replace q114 := eq_true q114))
        go_ret
        exact ⟨by first | rfl | (simp [errW_none, errW_some] <;> rfl) | (simp only [← hji4]; first | rfl | (simp [errW_none, errW_some] <;> rfl)) | (simp [*, errW_none, errW_some] <;> rfl), by repeat (first | (with_reducible first | exact HB.out | apply below_alloc | apply pw_below_drewN | apply below_drew1) | exact HB.out)⟩
      · rw [if_neg c6] at H
        exact absurd H (by simp)
    · rw [if_neg c5] at H
      exact absurd H (by simp)
  · replace c3 := Bool.eq_false_iff.mpr c3
    subst c3
    have H1 : (some (⟨#[]⟩ : ByteArray)) = some r := by rw [if_neg (show ¬ (false = true) by decide)] at H; exact H
    clear H
    have H := H1
    clear H1
    obtain rfl := Option.some.inj H
    go_enter Try.func18, Try.ntmps18
    go_wp2_with (first | ((with_reducible refine gate_callee (f := 45) rfl ?_); refine goesL_ (some 4) rfl rfl Try.func45 (by kernel_rfl) rfl #[.int .i64 a0, .int .i64 1, .int .i64 14] rfl (by (try simp only [List.map_toArray, List.map_cons, List.map_nil]); first | done | rfl | (simp only [List.length_drop, List.length_take]; rfl)) ?_; (with_reducible refine (impl_within.calls a0 1 14 false _ A2.out).mono ?_); rintro e w' ⟨rfl, ⟨nd, rfl⟩⟩; refine ⟨_, rfl, ?_⟩))
    go_ret
    exact ⟨by first | rfl | (simp [errW_none, errW_some] <;> rfl) | (simp [*, errW_none, errW_some] <;> rfl), by repeat (first | (with_reducible first | exact HB.out | apply below_alloc | apply pw_below_drewN | apply below_drew1) | exact HB.out)⟩

/-! ### laws_FnExactTypeName: function 5 -/
def laws_FnExactTypeName.f (a0 : Int) : Option (Bool) := (spec_TypeName.f a0).bind fun t115 => ((impl_TypeName.f a0).bind fun t116 => (if t116.toList = t115.toList then (some true) else (some false)))
set_option maxHeartbeats 8000000 in
set_option maxRecDepth 100000 in
theorem laws_FnExactTypeName.calls (a0 : Int) (r : Bool) (w : World) (h : laws_FnExactTypeName.f a0 = some r) :
    Calls Try.prog 5 #[.int .i64 a0] w fun e w' => e = .returned (.bool r) ∧ Below w.heap.size w w' := by
  have HB := Aside0.mk (Below.refl w.heap.size w)
  have H : ((spec_TypeName.f a0).bind fun t115 => ((impl_TypeName.f a0).bind fun t116 => (if t116.toList = t115.toList then (some true) else (some false)))) = some r := h
  clear h
  replace H := Option.bind_eq_some_iff.mp H
  obtain ⟨t115, A20, H⟩ := H
  replace H : ((impl_TypeName.f a0).bind fun t116 => (if t116.toList = t115.toList then (some true) else (some false))) = some r := H
  have A2 := Aside0.mk A20
  clear A20
  replace H := Option.bind_eq_some_iff.mp H
  obtain ⟨t116, A30, H⟩ := H
  replace H : (if t116.toList = t115.toList then (some true) else (some false)) = some r := H
  have A3 := Aside0.mk A30
  clear A30
  by_cases c4 : t116.toList = t115.toList
  · rw [if_pos c4] at H
    have c4b0 : (t116.toList == t115.toList) = true := beq_iff_eq.mpr c4
    have c4b1 : (t116.toList != t115.toList) = false := bne_eq_false_iff_eq.mpr c4
    clear c4
    obtain rfl := Option.some.inj H
    go_enter Try.func5, Try.ntmps5
    go_wp2_with (first | ((with_reducible refine gate_callee (f := 17) rfl ?_); refine goesL_ (some 6) rfl rfl Try.func17 (by kernel_rfl) rfl #[.int .i64 a0] rfl (by (try simp only [List.map_toArray, List.map_cons, List.map_nil]); first | done | rfl | (simp only [List.length_drop, List.length_take]; rfl)) ?_; (with_reducible refine (spec_TypeName.calls a0 t115 _ A2.out).mono ?_); rintro e w5 ⟨rfl, hb⟩; refine ⟨_, rfl, ?_⟩; have n0_ := Aside0.mk (below_step (by repeat (first | (with_reducible first | exact HB.out | apply below_alloc | apply pw_below_drewN | apply below_drew1) | exact HB.out)) hb); clear HB; have HB := n0_; clear n0_; (try clear hb); (try clear hb2); (try clear hk); (try clear hi)) | ((with_reducible refine gate_callee (f := 18) rfl ?_); refine goesL_ (some 8) rfl rfl Try.func18 (by kernel_rfl) rfl #[.int .i64 a0] rfl (by (try simp only [List.map_toArray, List.map_cons, List.map_nil]); first | done | rfl | (simp only [List.length_drop, List.length_take]; rfl)) ?_; (with_reducible refine (impl_TypeName.calls a0 t116 _ A3.out).mono ?_); rintro e w6 ⟨rfl, hb⟩; refine ⟨_, rfl, ?_⟩; have n0_ := Aside0.mk (below_step (by repeat (first | (with_reducible first | exact HB.out | apply below_alloc | apply pw_below_drewN | apply below_drew1) | exact HB.out)) hb); clear HB; have HB := n0_; clear n0_; (try clear hb); (try clear hb2); (try clear hk); (try clear hi)))
    go_ret
    exact ⟨by first | rfl | (simp [errW_none, errW_some] <;> rfl) | (simp [*, errW_none, errW_some] <;> rfl), by repeat (first | (with_reducible first | exact HB.out | apply below_alloc | apply pw_below_drewN | apply below_drew1) | exact HB.out)⟩
  · rw [if_neg c4] at H
    have c4b0 : (t116.toList == t115.toList) = false := beq_eq_false_iff_ne.mpr c4
    have c4b1 : (t116.toList != t115.toList) = true := bne_iff_ne.mpr c4
    obtain rfl := Option.some.inj H
    go_enter Try.func5, Try.ntmps5
    go_wp2_with (first | ((with_reducible refine gate_callee (f := 17) rfl ?_); refine goesL_ (some 6) rfl rfl Try.func17 (by kernel_rfl) rfl #[.int .i64 a0] rfl (by (try simp only [List.map_toArray, List.map_cons, List.map_nil]); first | done | rfl | (simp only [List.length_drop, List.length_take]; rfl)) ?_; (with_reducible refine (spec_TypeName.calls a0 t115 _ A2.out).mono ?_); rintro e w7 ⟨rfl, hb⟩; refine ⟨_, rfl, ?_⟩; have n0_ := Aside0.mk (below_step (by repeat (first | (with_reducible first | exact HB.out | apply below_alloc | apply pw_below_drewN | apply below_drew1) | exact HB.out)) hb); clear HB; have HB := n0_; clear n0_; (try clear hb); (try clear hb2); (try clear hk); (try clear hi)) | ((with_reducible refine gate_callee (f := 18) rfl ?_); refine goesL_ (some 8) rfl rfl Try.func18 (by kernel_rfl) rfl #[.int .i64 a0] rfl (by (try simp only [List.map_toArray, List.map_cons, List.map_nil]); first | done | rfl | (simp only [List.length_drop, List.length_take]; rfl)) ?_; (with_reducible refine (impl_TypeName.calls a0 t116 _ A3.out).mono ?_); rintro e w8 ⟨rfl, hb⟩; refine ⟨_, rfl, ?_⟩; have n0_ := Aside0.mk (below_step (by repeat (first | (with_reducible first | exact HB.out | apply below_alloc | apply pw_below_drewN | apply below_drew1) | exact HB.out)) hb); clear HB; have HB := n0_; clear n0_; (try clear hb); (try clear hb2); (try clear hk); (try clear hi)))
    go_ret
    exact ⟨by first | rfl | (simp [errW_none, errW_some] <;> rfl) | (simp [*, errW_none, errW_some] <;> rfl), by repeat (first | (with_reducible first | exact HB.out | apply below_alloc | apply pw_below_drewN | apply below_drew1) | exact HB.out)⟩

/-- THE ONE PURE STATEMENT of laws_FnExactTypeName: yours. -/
def laws_FnExactTypeName.Pure : Prop := ∀ (a0 : Int), (Lit.int .i64 a0).wf = true → laws_FnExactTypeName.f a0 = some true
theorem laws_FnExactTypeName.walk (P : laws_FnExactTypeName.Pure) (a0 : Int) (w : World) (w0 : (Lit.int .i64 a0).wf = true) :
    Calls Try.prog 5 #[.int .i64 a0] w fun e w' => e = .returned (.bool true) ∧ Below w.heap.size w w' := by
  have h := P a0 w0
  refine (laws_FnExactTypeName.calls a0 true w h).mono ?_
  rintro e w' ⟨rfl, hd⟩
  exact ⟨rfl, hd⟩

/-! ### spec_Steps: function 19 -/
def spec_Steps.j0 : Nat → Int → Int → Bool → Option (Int)
  | 0, _, _, _ => none
  | k + 1, x0, x1, x12 => if x12 = true then (some (-1)) else (if x1 > x0 then (some (wrap64 (x1 - x0))) else (some (wrap64 ((wrap64 (x1 - x0)) + 65535))))
def spec_Steps.f (k : Nat) (a0 : Int) (a1 : Int) : Option (Int) := (spec_l1In.f a0 0 65535).bind fun t117 => (if t117 = true then ((spec_l1In.f a1 1 65535).bind fun t118 => (spec_Steps.j0 k a0 a1 (!t118))) else (spec_Steps.j0 k a0 a1 true))
theorem spec_Steps.mono_l : ∀ k, (∀ y0 y1 y2, LeO (spec_Steps.j0 k y0 y1 y2) (spec_Steps.j0 (k + 1) y0 y1 y2))
  | 0 => fun _ _ _ r h => by simp [spec_Steps.j0] at h
  | k + 1 => by
    have ih0 := spec_Steps.mono_l k
    · intro y0 y1 y2
      unfold spec_Steps.j0
      repeat' first
      | (with_reducible exact ih0 _ _ _)
      | (with_reducible exact LeO.refl _)
      | (with_reducible exact LeO.none _)
      | (with_reducible refine LeO.ite ?_ ?_)
      | (with_reducible refine LeO.bind ?_ (fun _ => ?_))
      | exact ih0 _ _ _
      | exact LeO.none _
      | refine LeO.ite ?_ ?_
      | refine LeO.bind ?_ (fun _ => ?_)
theorem spec_Steps.mono : ∀ a0 a1 k, LeO (spec_Steps.f k a0 a1) (spec_Steps.f (k + 1) a0 a1) := by
  intro a0 a1 k
  have ih0 := spec_Steps.mono_l k
  unfold spec_Steps.f
  repeat' first
      | (with_reducible exact ih0 _ _ _)
      | (with_reducible exact LeO.refl _)
      | (with_reducible exact LeO.none _)
      | (with_reducible refine LeO.ite ?_ ?_)
      | (with_reducible refine LeO.bind ?_ (fun _ => ?_))
      | exact ih0 _ _ _
      | exact LeO.none _
      | refine LeO.ite ?_ ?_
      | refine LeO.bind ?_ (fun _ => ?_)
set_option maxHeartbeats 8000000 in
set_option maxRecDepth 100000 in
theorem spec_Steps.calls (k : Nat) (a0 : Int) (a1 : Int) (r : Int) (w : World) (h : spec_Steps.f k a0 a1 = some r) :
    Calls Try.prog 19 #[.int .i64 a0, .int .i64 a1] w fun e w' => e = .returned (.int .i64 r) ∧ Drawn0 w w' := by
  have H : ((spec_l1In.f a0 0 65535).bind fun t117 => (if t117 = true then ((spec_l1In.f a1 1 65535).bind fun t118 => (spec_Steps.j0 k a0 a1 (!t118))) else (spec_Steps.j0 k a0 a1 true))) = some r := h
  clear h
  have HC3 := Aside0.mk H
  clear H
  go_enter Try.func19, Try.ntmps19
  go_upto_region 1 with (fail)
  go_cut [12] (fun v12 wc => ∃ (kq : Nat) (x12_2 : Bool), v12 = .bool x12_2 ∧ Aside0 (spec_Steps.j0 kq a0 a1 x12_2 = some r) ∧ Aside0 (kq ≤ k) ∧ Drawn0 w wc)
  case first =>
    have H := HC3.out
    clear HC3
    replace H := Option.bind_eq_some_iff.mp H
    obtain ⟨t117, A40, H⟩ := H
    replace H : (if t117 = true then ((spec_l1In.f a1 1 65535).bind fun t118 => (spec_Steps.j0 k a0 a1 (!t118))) else (spec_Steps.j0 k a0 a1 true)) = some r := H
    have A4 := Aside0.mk A40
    clear A40
    by_cases c5 : t117 = true
    · subst c5
      have H1 : ((spec_l1In.f a1 1 65535).bind fun t118 => (spec_Steps.j0 k a0 a1 (!t118))) = some r := by rw [if_pos rfl] at H; exact H
      clear H
      have H := H1
      clear H1
      replace H := Option.bind_eq_some_iff.mp H
      obtain ⟨t118, A60, H⟩ := H
      replace H : (spec_Steps.j0 k a0 a1 (!t118)) = some r := H
      have A6 := Aside0.mk A60
      clear A60
      have H' := Aside0.mk H
      clear H
      go_wp2_with (first | ((with_reducible refine gate_callee (f := 44) rfl ?_); refine goesL_ (some 6) rfl rfl Try.func44 (by kernel_rfl) rfl #[.int .i64 a0, .int .i64 0, .int .i64 65535] rfl (by (try simp only [List.map_toArray, List.map_cons, List.map_nil]); first | done | rfl | (simp only [List.length_drop, List.length_take]; rfl)) ?_; (with_reducible refine (spec_l1In.calls a0 0 65535 true _ A4.out).mono ?_); rintro e w' ⟨rfl, ⟨nd, rfl⟩⟩; refine ⟨_, rfl, ?_⟩) | (go_at_call 44; (with_reducible refine (spec_l1In.calls a1 1 65535 t118 _ A6.out).mono ?_); rintro e w' ⟨rfl, ⟨nd, rfl⟩⟩))
      go_meet
      case rel => exact ⟨_, (!t118), (by first | rfl | (simp; done) | (simp [*]; done)), H', ⟨by first | omega | exact Nat.le_refl _⟩, by repeat (first | exact Drawn0.refl _ | apply Drawn0.step)⟩
    · replace c5 := Bool.eq_false_iff.mpr c5
      subst c5
      have H1 : (spec_Steps.j0 k a0 a1 true) = some r := by rw [if_neg (show ¬ (false = true) by decide)] at H; exact H
      clear H
      have H := H1
      clear H1
      have H' := Aside0.mk H
      clear H
      go_wp2_with (first | ((with_reducible refine gate_callee (f := 44) rfl ?_); refine goesL_ (some 6) rfl rfl Try.func44 (by kernel_rfl) rfl #[.int .i64 a0, .int .i64 0, .int .i64 65535] rfl (by (try simp only [List.map_toArray, List.map_cons, List.map_nil]); first | done | rfl | (simp only [List.length_drop, List.length_take]; rfl)) ?_; (with_reducible refine (spec_l1In.calls a0 0 65535 false _ A4.out).mono ?_); rintro e w' ⟨rfl, ⟨nd, rfl⟩⟩; refine ⟨_, rfl, ?_⟩))
      go_meet
      case rel => exact ⟨_, (true), (by first | rfl | (simp; done) | (simp [*]; done)), H', ⟨by first | omega | exact Nat.le_refl _⟩, by repeat (first | exact Drawn0.refl _ | apply Drawn0.step)⟩
  case rest =>
    clear HC3
    try clear c1
    try clear p2
    try clear c4
    try clear c5
    obtain ⟨kq, x12_2, rfl, HA, HJ2, ⟨mc2, rfl⟩⟩ := hcut
    cases kq with
    | zero => exact absurd HA.out (by simp [spec_Steps.j0])
    | succ kj2 =>
      have H := HA.out
      clear HA
      simp only [spec_Steps.j0] at H
      by_cases c7 : x12_2 = true
      · subst c7
        have H1 : (some (-1)) = some r := by rw [if_pos rfl] at H; exact H
        clear H
        have H := H1
        clear H1
        obtain rfl := Option.some.inj H
        go_wp2
        go_ret
        exact ⟨by first | rfl | (simp; done) | (simp [*]; done), by repeat (first | exact Drawn0.refl _ | apply Drawn0.step)⟩
      · replace c7 := Bool.eq_false_iff.mpr c7
        subst c7
        have H1 : (if a1 > a0 then (some (wrap64 (a1 - a0))) else (some (wrap64 ((wrap64 (a1 - a0)) + 65535)))) = some r := by rw [if_neg (show ¬ (false = true) by decide)] at H; exact H
        clear H
        have H := H1
        clear H1
        by_cases c8 : a1 > a0
        · rw [if_pos c8] at H
          have c8b0 : decide (a0 < a1) = true := decide_eq_true c8
          clear c8
          obtain rfl := Option.some.inj H
          go_wp2
          go_ret
          exact ⟨by first | rfl | (simp; done) | (simp [*]; done), by repeat (first | exact Drawn0.refl _ | apply Drawn0.step)⟩
        · rw [if_neg c8] at H
          have c8b0 : decide (a0 < a1) = false := decide_eq_false c8
          clear c8
          obtain rfl := Option.some.inj H
          go_wp2
          go_ret
          exact ⟨by first | rfl | (simp; done) | (simp [*]; done), by repeat (first | exact Drawn0.refl _ | apply Drawn0.step)⟩

/-! ### impl_isWord: function 46 -/
def impl_isWord.f (a0 : Int) : Option (Bool) := (impl_within.f a0 0 65535).bind fun t119 => (some t119)
set_option maxHeartbeats 8000000 in
set_option maxRecDepth 100000 in
theorem impl_isWord.calls (a0 : Int) (r : Bool) (w : World) (h : impl_isWord.f a0 = some r) :
    Calls Try.prog 46 #[.int .i64 a0] w fun e w' => e = .returned (.bool r) ∧ Drawn0 w w' := by
  have H : ((impl_within.f a0 0 65535).bind fun t119 => (some t119)) = some r := h
  clear h
  replace H := Option.bind_eq_some_iff.mp H
  obtain ⟨t119, A20, H⟩ := H
  replace H : (some t119) = some r := H
  have A2 := Aside0.mk A20
  clear A20
  obtain rfl := Option.some.inj H
  go_enter Try.func46, Try.ntmps46
  go_wp2_with (first | ((with_reducible refine gate_callee (f := 45) rfl ?_); refine goesL_ (some 4) rfl rfl Try.func45 (by kernel_rfl) rfl #[.int .i64 a0, .int .i64 0, .int .i64 65535] rfl (by (try simp only [List.map_toArray, List.map_cons, List.map_nil]); first | done | rfl | (simp only [List.length_drop, List.length_take]; rfl)) ?_; (with_reducible refine (impl_within.calls a0 0 65535 t119 _ A2.out).mono ?_); rintro e w' ⟨rfl, ⟨nd, rfl⟩⟩; refine ⟨_, rfl, ?_⟩))
  go_ret
  exact ⟨by first | rfl | (simp; done) | (simp [*]; done), by repeat (first | exact Drawn0.refl _ | apply Drawn0.step)⟩

/-! ### impl_isId: function 47 -/
def impl_isId.f (a0 : Int) : Option (Bool) := (impl_within.f a0 1 65535).bind fun t120 => (some t120)
set_option maxHeartbeats 8000000 in
set_option maxRecDepth 100000 in
theorem impl_isId.calls (a0 : Int) (r : Bool) (w : World) (h : impl_isId.f a0 = some r) :
    Calls Try.prog 47 #[.int .i64 a0] w fun e w' => e = .returned (.bool r) ∧ Drawn0 w w' := by
  have H : ((impl_within.f a0 1 65535).bind fun t120 => (some t120)) = some r := h
  clear h
  replace H := Option.bind_eq_some_iff.mp H
  obtain ⟨t120, A20, H⟩ := H
  replace H : (some t120) = some r := H
  have A2 := Aside0.mk A20
  clear A20
  obtain rfl := Option.some.inj H
  go_enter Try.func47, Try.ntmps47
  go_wp2_with (first | ((with_reducible refine gate_callee (f := 45) rfl ?_); refine goesL_ (some 4) rfl rfl Try.func45 (by kernel_rfl) rfl #[.int .i64 a0, .int .i64 1, .int .i64 65535] rfl (by (try simp only [List.map_toArray, List.map_cons, List.map_nil]); first | done | rfl | (simp only [List.length_drop, List.length_take]; rfl)) ?_; (with_reducible refine (impl_within.calls a0 1 65535 t120 _ A2.out).mono ?_); rintro e w' ⟨rfl, ⟨nd, rfl⟩⟩; refine ⟨_, rfl, ?_⟩))
  go_ret
  exact ⟨by first | rfl | (simp; done) | (simp [*]; done), by repeat (first | exact Drawn0.refl _ | apply Drawn0.step)⟩

/-! ### impl_Steps: function 20 -/
def impl_Steps.j0 : Nat → Int → Int → Bool → Option (Int)
  | 0, _, _, _ => none
  | k + 1, x0, x1, x12 => if x12 = true then (some (-1)) else (if x0 < x1 then (some (wrap64 (x1 - x0))) else (some (wrap64 ((wrap64 (x1 - x0)) + 65535))))
def impl_Steps.f (k : Nat) (a0 : Int) (a1 : Int) : Option (Int) := (impl_isWord.f a0).bind fun t121 => (if t121 = true then ((impl_isId.f a1).bind fun t122 => (impl_Steps.j0 k a0 a1 (!t122))) else (impl_Steps.j0 k a0 a1 true))
theorem impl_Steps.mono_l : ∀ k, (∀ y0 y1 y2, LeO (impl_Steps.j0 k y0 y1 y2) (impl_Steps.j0 (k + 1) y0 y1 y2))
  | 0 => fun _ _ _ r h => by simp [impl_Steps.j0] at h
  | k + 1 => by
    have ih0 := impl_Steps.mono_l k
    · intro y0 y1 y2
      unfold impl_Steps.j0
      repeat' first
      | (with_reducible exact ih0 _ _ _)
      | (with_reducible exact LeO.refl _)
      | (with_reducible exact LeO.none _)
      | (with_reducible refine LeO.ite ?_ ?_)
      | (with_reducible refine LeO.bind ?_ (fun _ => ?_))
      | exact ih0 _ _ _
      | exact LeO.none _
      | refine LeO.ite ?_ ?_
      | refine LeO.bind ?_ (fun _ => ?_)
theorem impl_Steps.mono : ∀ a0 a1 k, LeO (impl_Steps.f k a0 a1) (impl_Steps.f (k + 1) a0 a1) := by
  intro a0 a1 k
  have ih0 := impl_Steps.mono_l k
  unfold impl_Steps.f
  repeat' first
      | (with_reducible exact ih0 _ _ _)
      | (with_reducible exact LeO.refl _)
      | (with_reducible exact LeO.none _)
      | (with_reducible refine LeO.ite ?_ ?_)
      | (with_reducible refine LeO.bind ?_ (fun _ => ?_))
      | exact ih0 _ _ _
      | exact LeO.none _
      | refine LeO.ite ?_ ?_
      | refine LeO.bind ?_ (fun _ => ?_)
set_option maxHeartbeats 8000000 in
set_option maxRecDepth 100000 in
theorem impl_Steps.calls (k : Nat) (a0 : Int) (a1 : Int) (r : Int) (w : World) (h : impl_Steps.f k a0 a1 = some r) :
    Calls Try.prog 20 #[.int .i64 a0, .int .i64 a1] w fun e w' => e = .returned (.int .i64 r) ∧ Drawn0 w w' := by
  have H : ((impl_isWord.f a0).bind fun t121 => (if t121 = true then ((impl_isId.f a1).bind fun t122 => (impl_Steps.j0 k a0 a1 (!t122))) else (impl_Steps.j0 k a0 a1 true))) = some r := h
  clear h
  have HC3 := Aside0.mk H
  clear H
  go_enter Try.func20, Try.ntmps20
  go_upto_region 1 with (fail)
  go_cut [12] (fun v12 wc => ∃ (kq : Nat) (x12_2 : Bool), v12 = .bool x12_2 ∧ Aside0 (impl_Steps.j0 kq a0 a1 x12_2 = some r) ∧ Aside0 (kq ≤ k) ∧ Drawn0 w wc)
  case first =>
    have H := HC3.out
    clear HC3
    replace H := Option.bind_eq_some_iff.mp H
    obtain ⟨t121, A40, H⟩ := H
    replace H : (if t121 = true then ((impl_isId.f a1).bind fun t122 => (impl_Steps.j0 k a0 a1 (!t122))) else (impl_Steps.j0 k a0 a1 true)) = some r := H
    have A4 := Aside0.mk A40
    clear A40
    by_cases c5 : t121 = true
    · subst c5
      have H1 : ((impl_isId.f a1).bind fun t122 => (impl_Steps.j0 k a0 a1 (!t122))) = some r := by rw [if_pos rfl] at H; exact H
      clear H
      have H := H1
      clear H1
      replace H := Option.bind_eq_some_iff.mp H
      obtain ⟨t122, A60, H⟩ := H
      replace H : (impl_Steps.j0 k a0 a1 (!t122)) = some r := H
      have A6 := Aside0.mk A60
      clear A60
      have H' := Aside0.mk H
      clear H
      go_wp2_with (first | ((with_reducible refine gate_callee (f := 46) rfl ?_); refine goesL_ (some 6) rfl rfl Try.func46 (by kernel_rfl) rfl #[.int .i64 a0] rfl (by (try simp only [List.map_toArray, List.map_cons, List.map_nil]); first | done | rfl | (simp only [List.length_drop, List.length_take]; rfl)) ?_; (with_reducible refine (impl_isWord.calls a0 true _ A4.out).mono ?_); rintro e w' ⟨rfl, ⟨nd, rfl⟩⟩; refine ⟨_, rfl, ?_⟩) | (go_at_call 47; (with_reducible refine (impl_isId.calls a1 t122 _ A6.out).mono ?_); rintro e w' ⟨rfl, ⟨nd, rfl⟩⟩))
      go_meet
      case rel => exact ⟨_, (!t122), (by first | rfl | (simp; done) | (simp [*]; done)), H', ⟨by first | omega | exact Nat.le_refl _⟩, by repeat (first | exact Drawn0.refl _ | apply Drawn0.step)⟩
    · replace c5 := Bool.eq_false_iff.mpr c5
      subst c5
      have H1 : (impl_Steps.j0 k a0 a1 true) = some r := by rw [if_neg (show ¬ (false = true) by decide)] at H; exact H
      clear H
      have H := H1
      clear H1
      have H' := Aside0.mk H
      clear H
      go_wp2_with (first | ((with_reducible refine gate_callee (f := 46) rfl ?_); refine goesL_ (some 6) rfl rfl Try.func46 (by kernel_rfl) rfl #[.int .i64 a0] rfl (by (try simp only [List.map_toArray, List.map_cons, List.map_nil]); first | done | rfl | (simp only [List.length_drop, List.length_take]; rfl)) ?_; (with_reducible refine (impl_isWord.calls a0 false _ A4.out).mono ?_); rintro e w' ⟨rfl, ⟨nd, rfl⟩⟩; refine ⟨_, rfl, ?_⟩))
      go_meet
      case rel => exact ⟨_, (true), (by first | rfl | (simp; done) | (simp [*]; done)), H', ⟨by first | omega | exact Nat.le_refl _⟩, by repeat (first | exact Drawn0.refl _ | apply Drawn0.step)⟩
  case rest =>
    clear HC3
    try clear c2
    try clear p2
    try clear c4
    try clear c5
    obtain ⟨kq, x12_2, rfl, HA, HJ2, ⟨mc2, rfl⟩⟩ := hcut
    cases kq with
    | zero => exact absurd HA.out (by simp [impl_Steps.j0])
    | succ kj2 =>
      have H := HA.out
      clear HA
      simp only [impl_Steps.j0] at H
      by_cases c7 : x12_2 = true
      · subst c7
        have H1 : (some (-1)) = some r := by rw [if_pos rfl] at H; exact H
        clear H
        have H := H1
        clear H1
        obtain rfl := Option.some.inj H
        go_wp2
        go_ret
        exact ⟨by first | rfl | (simp; done) | (simp [*]; done), by repeat (first | exact Drawn0.refl _ | apply Drawn0.step)⟩
      · replace c7 := Bool.eq_false_iff.mpr c7
        subst c7
        have H1 : (if a0 < a1 then (some (wrap64 (a1 - a0))) else (some (wrap64 ((wrap64 (a1 - a0)) + 65535)))) = some r := by rw [if_neg (show ¬ (false = true) by decide)] at H; exact H
        clear H
        have H := H1
        clear H1
        by_cases c8 : a0 < a1
        · rw [if_pos c8] at H
          have c8b0 : decide (a0 < a1) = true := decide_eq_true c8
          clear c8
          obtain rfl := Option.some.inj H
          go_wp2
          go_ret
          exact ⟨by first | rfl | (simp; done) | (simp [*]; done), by repeat (first | exact Drawn0.refl _ | apply Drawn0.step)⟩
        · rw [if_neg c8] at H
          have c8b0 : decide (a0 < a1) = false := decide_eq_false c8
          clear c8
          obtain rfl := Option.some.inj H
          go_wp2
          go_ret
          exact ⟨by first | rfl | (simp; done) | (simp [*]; done), by repeat (first | exact Drawn0.refl _ | apply Drawn0.step)⟩

/-! ### laws_FnExactSteps: function 6 -/
def laws_FnExactSteps.f (k : Nat) (a0 : Int) (a1 : Int) : Option (Bool) := (spec_Steps.f k a0 a1).bind fun t123 => ((impl_Steps.f k a0 a1).bind fun t124 => (if t124 = t123 then (some true) else (some false)))
theorem laws_FnExactSteps.mono : ∀ a0 a1 k, LeO (laws_FnExactSteps.f k a0 a1) (laws_FnExactSteps.f (k + 1) a0 a1) := by
  intro a0 a1 k
  unfold laws_FnExactSteps.f
  repeat' first
      | (with_reducible exact impl_Steps.mono _ _ _)
      | (with_reducible exact spec_Steps.mono _ _ _)
      | (with_reducible exact LeO.refl _)
      | (with_reducible exact LeO.none _)
      | (with_reducible refine LeO.ite ?_ ?_)
      | (with_reducible refine LeO.bind ?_ (fun _ => ?_))
      | exact impl_Steps.mono _ _ _
      | exact spec_Steps.mono _ _ _
      | exact LeO.none _
      | refine LeO.ite ?_ ?_
      | refine LeO.bind ?_ (fun _ => ?_)
set_option maxHeartbeats 8000000 in
set_option maxRecDepth 100000 in
theorem laws_FnExactSteps.calls (k : Nat) (a0 : Int) (a1 : Int) (r : Bool) (w : World) (h : laws_FnExactSteps.f k a0 a1 = some r) :
    Calls Try.prog 6 #[.int .i64 a0, .int .i64 a1] w fun e w' => e = .returned (.bool r) ∧ Drawn0 w w' := by
  have H : ((spec_Steps.f k a0 a1).bind fun t123 => ((impl_Steps.f k a0 a1).bind fun t124 => (if t124 = t123 then (some true) else (some false)))) = some r := h
  clear h
  replace H := Option.bind_eq_some_iff.mp H
  obtain ⟨t123, A30, H⟩ := H
  replace H : ((impl_Steps.f k a0 a1).bind fun t124 => (if t124 = t123 then (some true) else (some false))) = some r := H
  have A3 := Aside0.mk A30
  clear A30
  replace H := Option.bind_eq_some_iff.mp H
  obtain ⟨t124, A40, H⟩ := H
  replace H : (if t124 = t123 then (some true) else (some false)) = some r := H
  have A4 := Aside0.mk A40
  clear A40
  by_cases c5 : t124 = t123
  · rw [if_pos c5] at H
    have c5b0 : (t124 == t123) = true := beq_iff_eq.mpr c5
    have c5b1 : (t124 != t123) = false := bne_eq_false_iff_eq.mpr c5
    clear c5
    obtain rfl := Option.some.inj H
    go_enter Try.func6, Try.ntmps6
    go_wp2_with (first | ((with_reducible refine gate_callee (f := 19) rfl ?_); refine goesL_ (some 9) rfl rfl Try.func19 (by kernel_rfl) rfl #[.int .i64 a0, .int .i64 a1] rfl (by (try simp only [List.map_toArray, List.map_cons, List.map_nil]); first | done | rfl | (simp only [List.length_drop, List.length_take]; rfl)) ?_; (with_reducible refine (spec_Steps.calls k a0 a1 t123 _ A3.out).mono ?_); rintro e w' ⟨rfl, ⟨nd, rfl⟩⟩; refine ⟨_, rfl, ?_⟩) | ((with_reducible refine gate_callee (f := 20) rfl ?_); refine goesL_ (some 12) rfl rfl Try.func20 (by kernel_rfl) rfl #[.int .i64 a0, .int .i64 a1] rfl (by (try simp only [List.map_toArray, List.map_cons, List.map_nil]); first | done | rfl | (simp only [List.length_drop, List.length_take]; rfl)) ?_; (with_reducible refine (impl_Steps.calls k a0 a1 t124 _ A4.out).mono ?_); rintro e w' ⟨rfl, ⟨nd, rfl⟩⟩; refine ⟨_, rfl, ?_⟩))
    go_ret
    exact ⟨by first | rfl | (simp; done) | (simp [*]; done), by repeat (first | exact Drawn0.refl _ | apply Drawn0.step)⟩
  · rw [if_neg c5] at H
    have c5b0 : (t124 == t123) = false := beq_eq_false_iff_ne.mpr c5
    have c5b1 : (t124 != t123) = true := bne_iff_ne.mpr c5
    obtain rfl := Option.some.inj H
    go_enter Try.func6, Try.ntmps6
    go_wp2_with (first | ((with_reducible refine gate_callee (f := 19) rfl ?_); refine goesL_ (some 9) rfl rfl Try.func19 (by kernel_rfl) rfl #[.int .i64 a0, .int .i64 a1] rfl (by (try simp only [List.map_toArray, List.map_cons, List.map_nil]); first | done | rfl | (simp only [List.length_drop, List.length_take]; rfl)) ?_; (with_reducible refine (spec_Steps.calls k a0 a1 t123 _ A3.out).mono ?_); rintro e w' ⟨rfl, ⟨nd, rfl⟩⟩; refine ⟨_, rfl, ?_⟩) | ((with_reducible refine gate_callee (f := 20) rfl ?_); refine goesL_ (some 12) rfl rfl Try.func20 (by kernel_rfl) rfl #[.int .i64 a0, .int .i64 a1] rfl (by (try simp only [List.map_toArray, List.map_cons, List.map_nil]); first | done | rfl | (simp only [List.length_drop, List.length_take]; rfl)) ?_; (with_reducible refine (impl_Steps.calls k a0 a1 t124 _ A4.out).mono ?_); rintro e w' ⟨rfl, ⟨nd, rfl⟩⟩; refine ⟨_, rfl, ?_⟩))
    go_ret
    exact ⟨by first | rfl | (simp; done) | (simp [*]; done), by repeat (first | exact Drawn0.refl _ | apply Drawn0.step)⟩

/-- THE ONE PURE STATEMENT of laws_FnExactSteps: yours. -/
def laws_FnExactSteps.Pure : Prop := ∀ (a0 : Int) (a1 : Int), (Lit.int .i64 a0).wf = true → (Lit.int .i64 a1).wf = true → ∃ k, laws_FnExactSteps.f k a0 a1 = some true
theorem laws_FnExactSteps.walk (P : laws_FnExactSteps.Pure) (a0 : Int) (a1 : Int) (w : World) (w0 : (Lit.int .i64 a0).wf = true) (w1 : (Lit.int .i64 a1).wf = true) :
    Calls Try.prog 6 #[.int .i64 a0, .int .i64 a1] w fun e w' => e = .returned (.bool true) ∧ Below w.heap.size w w' := by
  obtain ⟨k, h⟩ := P a0 a1 w0 w1
  refine (laws_FnExactSteps.calls k a0 a1 true w h).mono ?_
  rintro e w' ⟨rfl, hd⟩
  exact ⟨rfl, hd.below⟩

/-! ### spec_GetWord: function 21 -/
def spec_GetWord.f (l0 : List Int) (a1 : Int) : Option (Int × Int × Bool) := if a1 < 0 then (some (0, 0, false)) else (if a1 > (wrap64 ((l0.length : Int) - 2)) then (some (0, 0, false)) else (if 0 ≤ a1 then (if a1 < (l0.length : Int) then (if 0 ≤ (wrap64 (a1 + 1)) then (if (wrap64 (a1 + 1)) < (l0.length : Int) then (some (wrap64 ((wrap64 ((wrap64 (rd l0 a1)) * 256)) + (wrap64 (rd l0 (wrap64 (a1 + 1))))), wrap64 (a1 + 2), true)) else (none)) else (none)) else (none)) else (none)))
set_option maxHeartbeats 8000000 in
set_option maxRecDepth 100000 in
theorem spec_GetWord.calls (A0 : Option Addr) (c0 : Nat) (l0 : List Int) (a1 : Int) (r1 : Int) (r2 : Int) (r3 : Bool) (w : World) (hr0 : Kd.C (Kd.int .u8) w A0 l0.length l0) (hc0 : l0.length ≤ c0) (h : spec_GetWord.f l0 a1 = some (r1, r2, r3)) :
    Calls Try.prog 21 #[.slice A0 l0.length c0, .int .i64 a1] w fun e w' => e = .returned (.tuple #[.int .i64 r1, .int .i64 r2, .bool r3]) ∧ Drawn0 w w' := by
  have HR0 := Aside0.mk hr0
  have HC0 := Aside0.mk hc0
  clear hr0 hc0
  have H : (if a1 < 0 then (some (0, 0, false)) else (if a1 > (wrap64 ((l0.length : Int) - 2)) then (some (0, 0, false)) else (if 0 ≤ a1 then (if a1 < (l0.length : Int) then (if 0 ≤ (wrap64 (a1 + 1)) then (if (wrap64 (a1 + 1)) < (l0.length : Int) then (some (wrap64 ((wrap64 ((wrap64 (rd l0 a1)) * 256)) + (wrap64 (rd l0 (wrap64 (a1 + 1))))), wrap64 (a1 + 2), true)) else (none)) else (none)) else (none)) else (none)))) = some (r1, r2, r3) := h
  clear h
  by_cases c3 : a1 < 0
  · rw [if_pos c3] at H
    have c3b0 : decide (a1 < 0) = true := decide_eq_true c3
    clear c3
    simp only [Option.some.injEq, Prod.mk.injEq] at H
    obtain ⟨rfl, rfl, rfl⟩ := H
    go_enter Try.func21, Try.ntmps21
    go_wp2
    repeat (go_quiet (fail); try go_wp2)
    go_ret3
    exact ⟨by first | rfl | (simp; done) | (simp [*]; done), by repeat (first | exact Drawn0.refl _ | apply Drawn0.step)⟩
  · rw [if_neg c3] at H
    have c3b0 : decide (a1 < 0) = false := decide_eq_false c3
    clear c3
    by_cases c4 : a1 > (wrap64 ((l0.length : Int) - 2))
    · rw [if_pos c4] at H
      have c4b0 : decide ((wrap64 ((l0.length : Int) - 2)) < a1) = true := decide_eq_true c4
      clear c4
      simp only [Option.some.injEq, Prod.mk.injEq] at H
      obtain ⟨rfl, rfl, rfl⟩ := H
      go_enter Try.func21, Try.ntmps21
      go_wp2
      repeat (go_quiet (fail); try go_wp2)
      go_ret3
      exact ⟨by first | rfl | (simp; done) | (simp [*]; done), by repeat (first | exact Drawn0.refl _ | apply Drawn0.step)⟩
    · rw [if_neg c4] at H
      have c4b0 : decide ((wrap64 ((l0.length : Int) - 2)) < a1) = false := decide_eq_false c4
      clear c4
      by_cases c5 : 0 ≤ a1
      · rw [if_pos c5] at H
        have c5b0 : decide (0 ≤ a1) = true := decide_eq_true c5
        clear c5
        by_cases c6 : a1 < (l0.length : Int)
        · rw [if_pos c6] at H
          have c6b0 : decide (a1 < (l0.length : Int)) = true := decide_eq_true c6
          clear c6
          obtain ⟨ji7, hji7⟩ : ∃ j_ : Int, (wrap64 (a1 + 1)) = j_ := ⟨_, rfl⟩
          replace H : (if 0 ≤ (ji7) then (if (ji7) < (l0.length : Int) then (some (wrap64 ((wrap64 ((wrap64 (rd l0 a1)) * 256)) + (wrap64 (rd l0 (ji7)))), wrap64 (a1 + 2), true)) else (none)) else (none)) = some (r1, r2, r3) := by first | (rw [hji7] at H; exact H) | (simp only [hji7] at H ⊢; exact H)
          have hji7w : (IntKind.i64.wrap (a1 + 1)) = ji7 := (i64_w _).trans hji7
          by_cases c8 : 0 ≤ (ji7)
          · rw [if_pos c8] at H
            have c8b0 : decide (0 ≤ (ji7)) = true := decide_eq_true c8
            clear c8
            by_cases c9 : (ji7) < (l0.length : Int)
            · rw [if_pos c9] at H
              have c9b0 : decide ((ji7) < (l0.length : Int)) = true := decide_eq_true c9
              clear c9
              simp only [Option.some.injEq, Prod.mk.injEq] at H
              obtain ⟨rfl, rfl, rfl⟩ := H
              have p125 : 0 ≤ (a1 : Int) := of_decide_eq_true (by first | (with_reducible assumption) | assumption)
              have q125 : a1 < (l0.length : Int) := of_decide_eq_true (by first | (with_reducible assumption) | assumption)
              obtain ⟨ad125, e125, hx125_0⟩ := Kd.at_int HR0.out a1 p125 q125
              cases e125
              replace p125 := eq_true p125
              replace q125 := eq_true q125
              have p126 : 0 ≤ ((ji7) : Int) := of_decide_eq_true (by first | (with_reducible assumption) | assumption)
              have q126 : (ji7) < (l0.length : Int) := of_decide_eq_true (by first | (with_reducible assumption) | assumption)
              obtain ⟨ad126, e126, hx126_0⟩ := Kd.at_int HR0.out (ji7) p126 q126
              obtain rfl : ad125 = ad126 := (by injection e126)
              replace p126 := eq_true p126
              replace q126 := eq_true q126
              go_enter Try.func21, Try.ntmps21
              go_wp2
              repeat (go_quiet (fail); try go_wp2)
              go_ret3
              exact ⟨by first | rfl | (simp; done) | (simp only [← hji7] <;> (first | rfl | simp)) | (simp [*]; done), by repeat (first | exact Drawn0.refl _ | apply Drawn0.step)⟩
            · rw [if_neg c9] at H
              exact absurd H (by simp)
          · rw [if_neg c8] at H
            exact absurd H (by simp)
        · rw [if_neg c6] at H
          exact absurd H (by simp)
      · rw [if_neg c5] at H
        exact absurd H (by simp)

end Go.Proofs.Ytkeacohngljhaaa.P
