/- laws_toNode and laws_toNodeS call each other: told by mutual recursion on the rounds, and walked by induction on them, out of two printed halves (a program of this work, mutual.py). -/
import Derived.Test.YtggokdobijhdhaaDoorPx0
import Derived.Test.YtggokdobijhdhaaDoorS
import Derived.Test.YtggokdobijhdhaaDoorPx12
namespace Go.Proofs.YtggokdobijhdhaaDoor.X
open Go.RowKit Go.Proofs.YtggokdobijhdhaaDoor.X Go.Proofs.YtggokdobijhdhaaDoor.P Go.Proofs.YtggokdobijhdhaaDoorW.PrintWords Go.Proofs.YtggokdobijhdhaaDoorW.PrintLast Go.Proofs.YtggokdobijhdhaaDoorW.PrintMore
set_option maxHeartbeats 8000000
set_option maxRecDepth 100000
set_option linter.unusedVariables false
set_option linter.unusedSimpArgs false
theorem info33 : (Tryd.prog.info? 33).map (fun i => (i.zero, i.size, i.bytes)) = some (some (.agg #[(.slice none 0 0), (.slice none 0 0), (.slice none 0 0)]), 3, 72) := by kernel_rfl
mutual
def laws_toNodeS.l0 : Nat → List (S26) → List (S33) → Int → Option ((List (S33)))
 | 0, _, _, _ => none
 | k + 1, x0, x3, x4 => if x4 < (x0.length : Int) then (if 0 ≤ x4 then ((laws_toNode.f k ((rd_T26 x0 x4).f0) ((rd_T26 x0 x4).f1) ((rd_T26 x0 x4).f2)).bind fun bt236 => (if x4 < (x3.length : Int) then (laws_toNodeS.l0 k x0 (x3.set (x4 : Int).toNat (⟨bt236.1, bt236.2.1, bt236.2.2⟩ : S33)) (wrap64 (x4 + 1))) else (none))) else (none)) else (some x3)
def laws_toNodeS.f : Nat → List (S26) → Option ((List (S33)))
 | 0, _ => none
 | k + 1, l0 => if 0 ≤ (l0.length : Int) then (if ((l0.length : Int) : Int).toNat ≤ 3909374676536 then (laws_toNodeS.l0 k l0 (List.replicate ((l0.length : Int) : Int).toNat z33) 0) else (none)) else (none)
def laws_toNode.f : Nat → List ByteArray → List (S26) → List (S83) → Option (List ByteArray × (List (S33)) × (List (S86)))
 | 0, _, _, _ => none
 | k + 1, l0_0, l0_1, l0_2 => (laws_toStringS.f k l0_0).bind fun t253 => ((laws_toNodeS.f k l0_1).bind fun t256 => ((laws_toSubS.f k l0_2).bind fun t259 => (some (t253, t256, t259))))
end
theorem laws_toNodeS.f_succ (k : Nat) (l0 : List (S26)) : laws_toNodeS.f (k + 1) l0 = (if 0 ≤ (l0.length : Int) then (if ((l0.length : Int) : Int).toNat ≤ 3909374676536 then (laws_toNodeS.l0 k l0 (List.replicate ((l0.length : Int) : Int).toNat z33) 0) else (none)) else (none)) := by rw [laws_toNodeS.f]
theorem laws_toNode.f_succ (k : Nat) (l0_0 : List ByteArray) (l0_1 : List (S26)) (l0_2 : List (S83)) : laws_toNode.f (k + 1) l0_0 l0_1 l0_2 = ((laws_toStringS.f k l0_0).bind fun t253 => ((laws_toNodeS.f k l0_1).bind fun t256 => ((laws_toSubS.f k l0_2).bind fun t259 => (some (t253, t256, t259))))) := by rw [laws_toNode.f]
end Go.Proofs.YtggokdobijhdhaaDoor.X
