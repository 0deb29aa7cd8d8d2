/- Boxes that are written whole; slices.EqualFunc over what is kept; impl.SameRoot; the law FnExactSameRoot's walk: what each Go function answers is what the plain function answers. -/
import Derived.Laws.Cover1
import Derived.Test.YtggokdobijhdhaaDoorL5
import Derived.Test.YtggokdobijhdhaaDoorPx0
import Derived.Test.YtggokdobijhdhaaDoorPx12
import Derived.Test.YtggokdobijhdhaaDoorPx13
import Derived.Test.YtggokdobijhdhaaDoorPx24
import Derived.Test.YtggokdobijhdhaaDoorPx27
import Derived.Test.YtggokdobijhdhaaDoorPx3
import Derived.Test.YtggokdobijhdhaaDoorS
import Derived.Test.YtggokdobijhdhaaDoorX1
import Derived.Test.YtggokdobijhdhaaDoorL5
import Derived.Test.YtggokdobijhdhaaDoorS
import Derived.Test.YtggokdobijhdhaaDoorX1
namespace Go.Proofs.YtggokdobijhdhaaDoor.P
open Go.RowKit Go.Proofs.YtggokdobijhdhaaDoor.X Go.Proofs.YtggokdobijhdhaaDoorW.PrintWords Go.Proofs.YtggokdobijhdhaaDoorW.PrintLast Go.Proofs.YtggokdobijhdhaaDoorW.PrintMore
set_option linter.unusedVariables false
set_option linter.unusedSimpArgs false
theorem b5_ {w : World} {g ty : Nat} {x0 x1 x2 x3 x4 : Value} (E : Aside0 (w.heap[g]? = some (.cells #[x0, x1, x2, x3, x4] ty (0, 0)))) : w.cell? ⟨g, 0, none⟩ = some x0 ∧ w.cell? ⟨g, 1, none⟩ = some x1 ∧ w.cell? ⟨g, 2, none⟩ = some x2 ∧ w.cell? ⟨g, 3, none⟩ = some x3 ∧ w.cell? ⟨g, 4, none⟩ = some x4 := ⟨bc_ E 0, bc_ E 1, bc_ E 2, bc_ E 3, bc_ E 4⟩
theorem if_then {α : Type} {c : Prop} [Decidable c] {x : Option α} {r : α} (h : (if c then x else none) = some r) : c ∧ x = some r := by
  by_cases q : c
  · rw [if_pos q] at h; exact ⟨q, h⟩
  · rw [if_neg q] at h; cases h
end Go.Proofs.YtggokdobijhdhaaDoor.P
