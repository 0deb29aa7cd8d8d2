-- Printed by a program over the kit's print.py (mp.sh), several laws in one namespace.
import Derived.Test.YtggokdobijhdhaaDoorPx0
import Derived.Test.YtggokdobijhdhaaDoorS
import Derived.Test.YtggokdobijhdhaaDoorPx3
import Derived.Test.YtggokdobijhdhaaDoorPx12
import Derived.Test.YtggokdobijhdhaaDoorPx13
import Derived.Test.YtggokdobijhdhaaDoorPx24
import Derived.Test.YtggokdobijhdhaaDoorPx27
namespace Go.Proofs.YtggokdobijhdhaaDoor.P
open Go.RowKit Go.Proofs.YtggokdobijhdhaaDoor.X Go.Proofs.YtggokdobijhdhaaDoorW.PrintWords Go.Proofs.YtggokdobijhdhaaDoorW.PrintLast Go.Proofs.YtggokdobijhdhaaDoorW.PrintMore
attribute [local go_sem] max2_int min2_int max_two min_two max_three min_three max_four min_four   -- for this text's walks alone
set_option maxHeartbeats 8000000
set_option maxRecDepth 100000
set_option linter.unusedVariables false
set_option linter.unusedSimpArgs false

def spec_l1Same.f (l0 : List Int) (l1 : List Int) : Option (Bool) := some ((strOfNums l0).toList == (strOfNums l1).toList)
theorem spec_l1Same.calls (A0 : Option Addr) (c0 : Nat) (l0 : List Int) (A1 : Option Addr) (c1 : Nat) (l1 : List Int) (r : Bool) (w : World) (hr0 : Kd.C (Kd.int .u8) w A0 l0.length l0) (hc0 : l0.length ≤ c0) (hr1 : Kd.C (Kd.int .u8) w A1 l1.length l1) (hc1 : l1.length ≤ c1) (h : spec_l1Same.f l0 l1 = some r) :
  Calls Tryd.prog 47 #[.slice A0 l0.length c0, .slice A1 l1.length c1] w fun e w' => e = .returned (.bool r) ∧ Drawn0 w w' := by
 have HRz1 := Aside0.mk hr0
 have HCz1 := Aside0.mk hc0
 clear hr0 hc0
 have HRz2 := Aside0.mk hr1
 have HCz2 := Aside0.mk hc1
 clear hr1 hc1
 have H : (some ((strOfNums l0).toList == (strOfNums l1).toList)) = some r := h
 clear h
 obtain rfl := Option.some.inj H
 have hcvz1 := Kd.C_string (P := Tryd.prog) (A := A0) (c := c0) Tryd.underlying75 Tryd.underlying5 Tryd.underlying9 HRz1.out
 have hcvz2 := Kd.C_string (P := Tryd.prog) (A := A1) (c := c1) Tryd.underlying75 Tryd.underlying5 Tryd.underlying9 HRz2.out
 go_enter Tryd.func47, Tryd.ntmps47
 go_wp2
 go_ret
 exact ⟨rs_, dr_⟩

end Go.Proofs.YtggokdobijhdhaaDoor.P
