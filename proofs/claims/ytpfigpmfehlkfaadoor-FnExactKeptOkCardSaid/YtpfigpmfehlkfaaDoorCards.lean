/-
  DERIVED. GIVEN WITH THE SEED: THE CARDS: each row of YtpfigpmfehlkfaaDoorRows.lean that lists a variable, with what it lists TIED to the program's text (the seventh form; the later family's looks); each row that meets fmt, with fmt's text TOLD by the authors' own Lean function (tested against real Go, not proved from fmt's source: count such statements apart). THE CARD IS WHAT COUNTS. Prove the row's statement (the work); the ties are given (YtpfigpmfehlkfaaDoorTie.lean); close each card by the builder's one call (the guide's Derived/Test/ToyasCard.lean, 'card_holds'). Laid BY PROGRAM, IN A SANDBOX (cutbox-door.mjs). By AI agents, Wed Nov 11 2026. No macro, syntax, notation, axiom, sorry.
-/
import Derived.Test.YtpfigpmfehlkfaaDoorRows
import GoSem.ClaimSeven
namespace Go.Proofs.YtpfigpmfehlkfaaDoor
namespace Rows

/-- THE TIED CARD OF 'laws.FnExactKeptOk'. -/
def fnExactKeptOkCard : Claim7 := { stood := { row := fnExactKeptOkRow, standIns := [], harness := (true, "f1d9243b6b87b3efba9ea6561b9588ffb729638b1c08a0a09f8b944b93ad671f"), looks := false }, kinds := [], alts := [], laidByText := true, laidKinds := [.data, .pinned], laidTests := true, laidLooks := .later }
def FnExactKeptOkCardSaid : Prop := Claim7.holds Tryd.pinned (.plain (OpenSpec.ofChange fnExactKeptOkSpec)) fnExactKeptOkCard

/-- THE TIED CARD OF 'laws.FnExactKeptFor'. -/
def fnExactKeptForCard : Claim7 := { stood := { row := fnExactKeptForRow, standIns := [], harness := (true, "f1d9243b6b87b3efba9ea6561b9588ffb729638b1c08a0a09f8b944b93ad671f"), looks := false }, kinds := [], alts := [], laidByText := true, laidKinds := [.data, .pinned], laidTests := true, laidLooks := .later }
def FnExactKeptForCardSaid : Prop := Claim7.holds Tryd.pinned (.plain (OpenSpec.ofChange fnExactKeptForSpec)) fnExactKeptForCard

/-- THE TIED CARD OF 'laws.FnExactSetKept'. -/
def fnExactSetKeptCard : Claim7 := { stood := { row := fnExactSetKeptRow, standIns := [], harness := (true, "f1d9243b6b87b3efba9ea6561b9588ffb729638b1c08a0a09f8b944b93ad671f"), looks := false }, kinds := [], alts := [], laidByText := true, laidKinds := [.data, .pinned], laidTests := true, laidLooks := .later }
def FnExactSetKeptCardSaid : Prop := Claim7.holds Tryd.pinned (.plain (OpenSpec.ofChange fnExactSetKeptSpec)) fnExactSetKeptCard

/-- THE TIED CARD OF 'laws.FnKept'. -/
def fnKeptCard : Claim7 := { stood := { row := fnKeptRow, standIns := [], harness := (true, "f1d9243b6b87b3efba9ea6561b9588ffb729638b1c08a0a09f8b944b93ad671f"), looks := false }, kinds := [], alts := [], laidByText := true, laidKinds := [.data, .pinned], laidTests := true, laidLooks := .later }
def FnKeptCardSaid : Prop := Claim7.holds Tryd.pinned (.plain (OpenSpec.ofChange fnKeptSpec)) fnKeptCard

/-- THE SECOND FORM's CARD OF 'laws.FnExactKeptOk'. -/
def fnExactKeptOkUptoCard : Claim7 := { stood := { row := fnExactKeptOkUptoRow, standIns := [], harness := (true, "f1d9243b6b87b3efba9ea6561b9588ffb729638b1c08a0a09f8b944b93ad671f"), looks := false }, kinds := [], alts := [], laidByText := true, laidKinds := [.data, .pinned], laidTests := true, laidLooks := .later }
def FnExactKeptOkUptoCardSaid : Prop := Claim7.holds Tryd.pinned (.plain (OpenSpec.upto fnExactKeptOkSpec)) fnExactKeptOkUptoCard

/-- THE SECOND FORM's CARD OF 'laws.FnExactKeptFor'. -/
def fnExactKeptForUptoCard : Claim7 := { stood := { row := fnExactKeptForUptoRow, standIns := [], harness := (true, "f1d9243b6b87b3efba9ea6561b9588ffb729638b1c08a0a09f8b944b93ad671f"), looks := false }, kinds := [], alts := [], laidByText := true, laidKinds := [.data, .pinned], laidTests := true, laidLooks := .later }
def FnExactKeptForUptoCardSaid : Prop := Claim7.holds Tryd.pinned (.plain (OpenSpec.upto fnExactKeptForSpec)) fnExactKeptForUptoCard

/-- THE SECOND FORM's CARD OF 'laws.FnExactSetKept'. -/
def fnExactSetKeptUptoCard : Claim7 := { stood := { row := fnExactSetKeptUptoRow, standIns := [], harness := (true, "f1d9243b6b87b3efba9ea6561b9588ffb729638b1c08a0a09f8b944b93ad671f"), looks := false }, kinds := [], alts := [], laidByText := true, laidKinds := [.data, .pinned], laidTests := true, laidLooks := .later }
def FnExactSetKeptUptoCardSaid : Prop := Claim7.holds Tryd.pinned (.plain (OpenSpec.upto fnExactSetKeptSpec)) fnExactSetKeptUptoCard

/-- THE SECOND FORM's CARD OF 'laws.FnKept'. -/
def fnKeptUptoCard : Claim7 := { stood := { row := fnKeptUptoRow, standIns := [], harness := (true, "f1d9243b6b87b3efba9ea6561b9588ffb729638b1c08a0a09f8b944b93ad671f"), looks := false }, kinds := [], alts := [], laidByText := true, laidKinds := [.data, .pinned], laidTests := true, laidLooks := .later }
def FnKeptUptoCardSaid : Prop := Claim7.holds Tryd.pinned (.plain (OpenSpec.upto fnKeptSpec)) fnKeptUptoCard
end Rows
end Go.Proofs.YtpfigpmfehlkfaaDoor
