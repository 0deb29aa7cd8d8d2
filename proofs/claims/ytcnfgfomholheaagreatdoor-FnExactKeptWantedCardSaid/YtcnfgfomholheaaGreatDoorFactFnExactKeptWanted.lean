/- The closed facts of the row of FnExactKeptWanted, each a lemma of its own. Laid out by a program of this work (split_card.py). -/
import Derived.Test.YtcnfgfomholheaaGreatDoorRows
import Derived.Test.YtcnfgfomholheaaGreatDoorCards
import Derived.Test.YtcnfgfomholheaaGreatDoorTie
import Derived.SevenTiedAt
import Derived.WalkKit
import Derived.ProofKit
import Derived.Carry
import Derived.SizedLaws
namespace Go.Proofs.YtcnfgfomholheaaGreatDoor.fnExactKeptWanted
open Go.ChangeShapes Go.WideShapes Go.ChangeAt Go.RowKit
set_option linter.unusedVariables false
set_option maxHeartbeats 0 in
theorem closed:joinedFacts Tryz.pinned.checked.prog 11 Tryz.f11 (OpenSpec.ofChange Rows.fnExactKeptWantedSpec).bare Rows.fnExactKeptWantedRow=true:=by
 unfold joinedFacts
 repeat (with_reducible refine Bool.and_eq_true_iff.2 ⟨?_,?_⟩)
 all_goals (as_aux_lemma=>kernel_rfl)
end Go.Proofs.YtcnfgfomholheaaGreatDoor.fnExactKeptWanted
