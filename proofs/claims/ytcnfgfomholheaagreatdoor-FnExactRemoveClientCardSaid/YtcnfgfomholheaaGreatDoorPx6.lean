-- Printed by a program over the kit's print.py (mp.sh), several laws in one namespace.
import Derived.Test.YtcnfgfomholheaaGreatDoorPx0
import Derived.Test.YtcnfgfomholheaaGreatDoorPx1
import Derived.Test.YtcnfgfomholheaaGreatDoorPx2
import Derived.Test.YtcnfgfomholheaaGreatDoorPx5
namespace Go.Proofs.YtcnfgfomholheaaGreatDoor.P
open Go.RowKit Go.Proofs.YtcnfgfomholheaaGreatDoor.X Go.Proofs.YtcnfgfomholheaaGreatDoorW.PrintWords Go.Proofs.YtcnfgfomholheaaGreatDoorW.PrintLast Go.Proofs.YtcnfgfomholheaaGreatDoorW.PrintMore
attribute [local go_sem] max2_int min2_int max_two min_two max_three min_three max_four min_four   -- for this text's walks alone
set_option linter.unusedVariables false
set_option linter.unusedSimpArgs false

/-! ### strings_HasPrefix: function 195 -/
/-! ### impl_Hidden: function 151 -/
/-! ### impl_fits: function 152 -/
mutual
def impl_fits.l0 : Nat → List ByteArray → List ByteArray → List ByteArray → Int → Int → Option (Bool)
  | 0, _, _, _, _, _ => none
  | k + 1, x0, x1, x7, x8, x9 => if x9 < x8 then (if 0 ≤ x9 then (if x9 < (x7.length : Int) then (if (rdOf ByteArray.empty x7 x9).toList = ([35] : List UInt8) then (some true) else (if x9 = (x1.length : Int) then (some false) else (if (rdOf ByteArray.empty x7 x9).toList = ([43] : List UInt8) then (if x9 < (x1.length : Int) then (impl_fits.j1 k x0 x1 x9 (rdOf ByteArray.empty x7 x9) x7 x8 x9 ((rdOf ByteArray.empty x1 x9).toList == ([35] : List UInt8))) else (none)) else (impl_fits.j1 k x0 x1 x9 (rdOf ByteArray.empty x7 x9) x7 x8 x9 false)))) else (none)) else (none)) else (some ((x0.length : Int) == (x1.length : Int)))
def impl_fits.j1 : Nat → List ByteArray → List ByteArray → Int → ByteArray → List ByteArray → Int → Int → Bool → Option (Bool)
  | 0, _, _, _, _, _, _, _, _ => none
  | k + 1, x0, x1, x5, x6, x7, x8, x9, x22 => if x22 = true then (some false) else (if x6.toList = ([43] : List UInt8) then (impl_fits.l0 k x0 x1 x7 x8 (wrap64 (x9 + 1))) else (if 0 ≤ x5 then (if x5 < (x1.length : Int) then (if x6.toList = (rdOf ByteArray.empty x1 x5).toList then (impl_fits.l0 k x0 x1 x7 x8 (wrap64 (x9 + 1))) else (some false)) else (none)) else (none)))
end
/-! ### impl_Match: function 80 -/
/-! ### spec_l4Loose: function 182 -/
end Go.Proofs.YtcnfgfomholheaaGreatDoor.P
