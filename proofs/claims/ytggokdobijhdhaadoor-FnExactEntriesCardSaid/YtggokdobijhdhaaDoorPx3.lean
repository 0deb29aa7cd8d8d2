-- Printed by a program over the kit's print.py (mp.sh), several laws in one namespace.
import Derived.Test.YtggokdobijhdhaaDoorPx0
import Derived.Test.YtggokdobijhdhaaDoorS
import Derived.Test.YtggokdobijhdhaaDoorM1
namespace Go.Proofs.YtggokdobijhdhaaDoor.P
open Go.RowKit Go.Proofs.YtggokdobijhdhaaDoor.X Go.Proofs.YtggokdobijhdhaaDoorW.PrintWords Go.Proofs.YtggokdobijhdhaaDoorW.PrintLast Go.Proofs.YtggokdobijhdhaaDoorW.PrintMore
attribute [local go_sem] max2_int min2_int max_two min_two max_three min_three max_four min_four   -- for this text's walks alone
set_option maxHeartbeats 8000000
set_option maxRecDepth 100000
set_option linter.unusedVariables false
set_option linter.unusedSimpArgs false

def spec_l1In.f (a0 : Int) (a1 : Int) (a2 : Int) : Option (Bool) := if a0 ≥ a1 then (some (decide (a0 ≤ a2))) else (some false)
theorem spec_l1In.calls (a0 : Int) (a1 : Int) (a2 : Int) (r : Bool) (w : World) (h : spec_l1In.f a0 a1 a2 = some r) :
  Calls Tryd.prog 41 #[.int .i64 a0, .int .i64 a1, .int .i64 a2] w fun e w' => e = .returned (.bool r) ∧ Drawn0 w w' := by
 have H : (if a0 ≥ a1 then (some (decide (a0 ≤ a2))) else (some false)) = some r := h
 clear h
 by_cases cz1 : a0 ≥ a1
 ·rw [if_pos cz1] at H
  have cz2 : decide (a1 ≤ a0) = true := decide_eq_true cz1
  clear cz1
  obtain rfl := Option.some.inj H
  go_enter Tryd.func41, Tryd.ntmps41
  go_wp2
  go_ret
  exact ⟨rs_, dr_⟩
 rw [if_neg cz1] at H
 have cz2 : decide (a1 ≤ a0) = false := decide_eq_false cz1
 clear cz1
 obtain rfl := Option.some.inj H
 go_enter Tryd.func41, Tryd.ntmps41
 go_wp2
 go_ret
 exact ⟨rs_, dr_⟩

end Go.Proofs.YtggokdobijhdhaaDoor.P
