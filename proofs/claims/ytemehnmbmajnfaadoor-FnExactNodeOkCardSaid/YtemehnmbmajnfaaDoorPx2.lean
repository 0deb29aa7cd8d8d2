-- Printed by a program over the kit's print.py (mp.sh), several laws in one namespace.
import Derived.Test.YtemehnmbmajnfaaDoorPx0
import Derived.Test.YtemehnmbmajnfaaDoorS
namespace Go.Proofs.YtemehnmbmajnfaaDoor.P
open Go.RowKit Go.Proofs.YtemehnmbmajnfaaDoor.X Go.Proofs.YtemehnmbmajnfaaDoorW.PrintWords Go.Proofs.YtemehnmbmajnfaaDoorW.PrintLast Go.Proofs.YtemehnmbmajnfaaDoorW.PrintMore
attribute [local go_sem] max2_int min2_int max_two min_two max_three min_three max_four min_four   -- for this text's walks alone
set_option linter.unusedVariables false
set_option linter.unusedSimpArgs false

/-! ### spec_l1In: function 42 -/
def spec_l1In.f (a0 : Int) (a1 : Int) (a2 : Int) : Option (Bool) := if a0 ≥ a1 then (some (decide (a0 ≤ a2))) else (some false)
set_option maxHeartbeats 8000000 in
set_option maxRecDepth 100000 in
theorem spec_l1In.calls (a0 : Int) (a1 : Int) (a2 : Int) (r : Bool) (w : World) (h : spec_l1In.f a0 a1 a2 = some r) :
    Calls Tryd.prog 42 #[.int .i64 a0, .int .i64 a1, .int .i64 a2] w fun e w' => e = .returned (.bool r) ∧ Drawn0 w w' := by
  have H : (if a0 ≥ a1 then (some (decide (a0 ≤ a2))) else (some false)) = some r := h
  clear h
  by_cases cz1 : a0 ≥ a1
  · rw [if_pos cz1] at H
    have c4b0 : decide (a1 ≤ a0) = true := decide_eq_true cz1
    clear cz1
    obtain rfl := Option.some.inj H
    go_enter Tryd.func42, Tryd.ntmps42
    go_wp2
    go_ret
    exact ⟨by first | rfl | (simp; done) | (simp [*]; done), by repeat (first | exact Drawn0.refl _ | apply Drawn0.step)⟩
  rw [if_neg cz1] at H
  have c4b0 : decide (a1 ≤ a0) = false := decide_eq_false cz1
  clear cz1
  obtain rfl := Option.some.inj H
  go_enter Tryd.func42, Tryd.ntmps42
  go_wp2
  go_ret
  exact ⟨by first | rfl | (simp; done) | (simp [*]; done), by repeat (first | exact Drawn0.refl _ | apply Drawn0.step)⟩

end Go.Proofs.YtemehnmbmajnfaaDoor.P
