/-
  DERIVED. GIVEN WITH THE SEED: THE CARDS: each row of YtlmpcichjmidmaaDoorRows.lean that lists a variable, with what it lists TIED to the program's text (the seventh form; the later family's looks); each row that meets fmt, with fmt's text TOLD by the authors' own Lean function (tested against real Go, not proved from fmt's source: count such statements apart). THE CARD IS WHAT COUNTS. Prove the row's statement (the work); the ties are given (YtlmpcichjmidmaaDoorTie.lean); close each card by the builder's one call (the guide's Derived/Test/ToyasCard.lean, 'card_holds'). Laid BY PROGRAM, IN A SANDBOX (cutbox-door.mjs). By AI agents, Wed Nov 11 2026. No macro, syntax, notation, axiom, sorry.
-/
import Derived.Test.YtlmpcichjmidmaaDoorRows
import GoSem.ClaimSeven
namespace Go.Proofs.YtlmpcichjmidmaaDoor
namespace Rows

/-- THE TIED CARD OF 'laws.FnExactTextOk'. -/
def fnExactTextOkCard : Claim7 := { stood := { row := fnExactTextOkRow, standIns := [], harness := (true, "d7d7b76eddea54c86df18562e15f0dc1cdb367e5b544b41cfc71e09d3f807766"), looks := false }, kinds := [], alts := [], laidByText := true, laidKinds := [.data, .pinned], laidTests := true, laidLooks := .later }
def FnExactTextOkCardSaid : Prop := Claim7.holds Tryd.pinned (.plain (OpenSpec.ofChange fnExactTextOkSpec)) fnExactTextOkCard

/-- THE TIED CARD OF 'laws.FnExactRuneAt'. -/
def fnExactRuneAtCard : Claim7 := { stood := { row := fnExactRuneAtRow, standIns := [], harness := (true, "d7d7b76eddea54c86df18562e15f0dc1cdb367e5b544b41cfc71e09d3f807766"), looks := false }, kinds := [], alts := [], laidByText := true, laidKinds := [.data, .pinned], laidTests := true, laidLooks := .later }
def FnExactRuneAtCardSaid : Prop := Claim7.holds Tryd.pinned (.plain (OpenSpec.ofChange fnExactRuneAtSpec)) fnExactRuneAtCard

/-- THE TIED CARD OF 'laws.FnExactCountRunes'. -/
def fnExactCountRunesCard : Claim7 := { stood := { row := fnExactCountRunesRow, standIns := [], harness := (true, "d7d7b76eddea54c86df18562e15f0dc1cdb367e5b544b41cfc71e09d3f807766"), looks := false }, kinds := [], alts := [], laidByText := true, laidKinds := [.data, .pinned], laidTests := true, laidLooks := .later }
def FnExactCountRunesCardSaid : Prop := Claim7.holds Tryd.pinned (.plain (OpenSpec.ofChange fnExactCountRunesSpec)) fnExactCountRunesCard

/-- THE TIED CARD OF 'laws.FnExactPutText'. -/
def fnExactPutTextCard : Claim7 := { stood := { row := fnExactPutTextRow, standIns := [], harness := (true, "d7d7b76eddea54c86df18562e15f0dc1cdb367e5b544b41cfc71e09d3f807766"), looks := false }, kinds := [], alts := [], laidByText := true, laidKinds := [.data, .pinned], laidTests := true, laidLooks := .later }
def FnExactPutTextCardSaid : Prop := Claim7.holds Tryd.pinned (.plain (OpenSpec.ofChange fnExactPutTextSpec)) fnExactPutTextCard

/-- THE TIED CARD OF 'laws.FnExactGetText'. -/
def fnExactGetTextCard : Claim7 := { stood := { row := fnExactGetTextRow, standIns := [], harness := (true, "d7d7b76eddea54c86df18562e15f0dc1cdb367e5b544b41cfc71e09d3f807766"), looks := false }, kinds := [], alts := [], laidByText := true, laidKinds := [.data, .pinned], laidTests := true, laidLooks := .later }
def FnExactGetTextCardSaid : Prop := Claim7.holds Tryd.pinned (.plain (OpenSpec.ofChange fnExactGetTextSpec)) fnExactGetTextCard

/-- THE TIED CARD OF 'laws.FnTexts'. -/
def fnTextsCard : Claim7 := { stood := { row := fnTextsRow, standIns := [], harness := (true, "d7d7b76eddea54c86df18562e15f0dc1cdb367e5b544b41cfc71e09d3f807766"), looks := false }, kinds := [], alts := [], laidByText := true, laidKinds := [.data, .pinned], laidTests := true, laidLooks := .later }
def FnTextsCardSaid : Prop := Claim7.holds Tryd.pinned (.plain (OpenSpec.ofChange fnTextsSpec)) fnTextsCard

/-- THE TIED CARD OF 'laws.FnRunes'. -/
def fnRunesCard : Claim7 := { stood := { row := fnRunesRow, standIns := [], harness := (true, "d7d7b76eddea54c86df18562e15f0dc1cdb367e5b544b41cfc71e09d3f807766"), looks := false }, kinds := [], alts := [], laidByText := true, laidKinds := [.data, .pinned], laidTests := true, laidLooks := .later }
def FnRunesCardSaid : Prop := Claim7.holds Tryd.pinned (.plain (OpenSpec.ofChange fnRunesSpec)) fnRunesCard

/-- THE TIED CARD OF 'laws.FnTextsRead'. -/
def fnTextsReadCard : Claim7 := { stood := { row := fnTextsReadRow, standIns := [], harness := (true, "d7d7b76eddea54c86df18562e15f0dc1cdb367e5b544b41cfc71e09d3f807766"), looks := false }, kinds := [], alts := [], laidByText := true, laidKinds := [.data, .pinned], laidTests := true, laidLooks := .later }
def FnTextsReadCardSaid : Prop := Claim7.holds Tryd.pinned (.plain (OpenSpec.ofChange fnTextsReadSpec)) fnTextsReadCard

/-- THE TIED CARD OF 'laws.FnExactLevels'. -/
def fnExactLevelsCard : Claim7 := { stood := { row := fnExactLevelsRow, standIns := [], harness := (true, "d7d7b76eddea54c86df18562e15f0dc1cdb367e5b544b41cfc71e09d3f807766"), looks := false }, kinds := [], alts := [], laidByText := true, laidKinds := [.data, .pinned], laidTests := true, laidLooks := .later }
def FnExactLevelsCardSaid : Prop := Claim7.holds Tryd.pinned (.plain (OpenSpec.ofChange fnExactLevelsSpec)) fnExactLevelsCard

/-- THE SECOND FORM's CARD OF 'laws.FnExactTextOk'. -/
def fnExactTextOkUptoCard : Claim7 := { stood := { row := fnExactTextOkUptoRow, standIns := [], harness := (true, "d7d7b76eddea54c86df18562e15f0dc1cdb367e5b544b41cfc71e09d3f807766"), looks := false }, kinds := [], alts := [], laidByText := true, laidKinds := [.data, .pinned], laidTests := true, laidLooks := .later }
def FnExactTextOkUptoCardSaid : Prop := Claim7.holds Tryd.pinned (.plain (OpenSpec.upto fnExactTextOkSpec)) fnExactTextOkUptoCard

/-- THE SECOND FORM's CARD OF 'laws.FnExactRuneAt'. -/
def fnExactRuneAtUptoCard : Claim7 := { stood := { row := fnExactRuneAtUptoRow, standIns := [], harness := (true, "d7d7b76eddea54c86df18562e15f0dc1cdb367e5b544b41cfc71e09d3f807766"), looks := false }, kinds := [], alts := [], laidByText := true, laidKinds := [.data, .pinned], laidTests := true, laidLooks := .later }
def FnExactRuneAtUptoCardSaid : Prop := Claim7.holds Tryd.pinned (.plain (OpenSpec.upto fnExactRuneAtSpec)) fnExactRuneAtUptoCard

/-- THE SECOND FORM's CARD OF 'laws.FnExactCountRunes'. -/
def fnExactCountRunesUptoCard : Claim7 := { stood := { row := fnExactCountRunesUptoRow, standIns := [], harness := (true, "d7d7b76eddea54c86df18562e15f0dc1cdb367e5b544b41cfc71e09d3f807766"), looks := false }, kinds := [], alts := [], laidByText := true, laidKinds := [.data, .pinned], laidTests := true, laidLooks := .later }
def FnExactCountRunesUptoCardSaid : Prop := Claim7.holds Tryd.pinned (.plain (OpenSpec.upto fnExactCountRunesSpec)) fnExactCountRunesUptoCard

/-- THE SECOND FORM's CARD OF 'laws.FnExactPutText'. -/
def fnExactPutTextUptoCard : Claim7 := { stood := { row := fnExactPutTextUptoRow, standIns := [], harness := (true, "d7d7b76eddea54c86df18562e15f0dc1cdb367e5b544b41cfc71e09d3f807766"), looks := false }, kinds := [], alts := [], laidByText := true, laidKinds := [.data, .pinned], laidTests := true, laidLooks := .later }
def FnExactPutTextUptoCardSaid : Prop := Claim7.holds Tryd.pinned (.plain (OpenSpec.upto fnExactPutTextSpec)) fnExactPutTextUptoCard

/-- THE SECOND FORM's CARD OF 'laws.FnExactGetText'. -/
def fnExactGetTextUptoCard : Claim7 := { stood := { row := fnExactGetTextUptoRow, standIns := [], harness := (true, "d7d7b76eddea54c86df18562e15f0dc1cdb367e5b544b41cfc71e09d3f807766"), looks := false }, kinds := [], alts := [], laidByText := true, laidKinds := [.data, .pinned], laidTests := true, laidLooks := .later }
def FnExactGetTextUptoCardSaid : Prop := Claim7.holds Tryd.pinned (.plain (OpenSpec.upto fnExactGetTextSpec)) fnExactGetTextUptoCard

/-- THE SECOND FORM's CARD OF 'laws.FnTexts'. -/
def fnTextsUptoCard : Claim7 := { stood := { row := fnTextsUptoRow, standIns := [], harness := (true, "d7d7b76eddea54c86df18562e15f0dc1cdb367e5b544b41cfc71e09d3f807766"), looks := false }, kinds := [], alts := [], laidByText := true, laidKinds := [.data, .pinned], laidTests := true, laidLooks := .later }
def FnTextsUptoCardSaid : Prop := Claim7.holds Tryd.pinned (.plain (OpenSpec.upto fnTextsSpec)) fnTextsUptoCard

/-- THE SECOND FORM's CARD OF 'laws.FnRunes'. -/
def fnRunesUptoCard : Claim7 := { stood := { row := fnRunesUptoRow, standIns := [], harness := (true, "d7d7b76eddea54c86df18562e15f0dc1cdb367e5b544b41cfc71e09d3f807766"), looks := false }, kinds := [], alts := [], laidByText := true, laidKinds := [.data, .pinned], laidTests := true, laidLooks := .later }
def FnRunesUptoCardSaid : Prop := Claim7.holds Tryd.pinned (.plain (OpenSpec.upto fnRunesSpec)) fnRunesUptoCard

/-- THE SECOND FORM's CARD OF 'laws.FnTextsRead'. -/
def fnTextsReadUptoCard : Claim7 := { stood := { row := fnTextsReadUptoRow, standIns := [], harness := (true, "d7d7b76eddea54c86df18562e15f0dc1cdb367e5b544b41cfc71e09d3f807766"), looks := false }, kinds := [], alts := [], laidByText := true, laidKinds := [.data, .pinned], laidTests := true, laidLooks := .later }
def FnTextsReadUptoCardSaid : Prop := Claim7.holds Tryd.pinned (.plain (OpenSpec.upto fnTextsReadSpec)) fnTextsReadUptoCard

/-- THE SECOND FORM's CARD OF 'laws.FnExactLevels'. -/
def fnExactLevelsUptoCard : Claim7 := { stood := { row := fnExactLevelsUptoRow, standIns := [], harness := (true, "d7d7b76eddea54c86df18562e15f0dc1cdb367e5b544b41cfc71e09d3f807766"), looks := false }, kinds := [], alts := [], laidByText := true, laidKinds := [.data, .pinned], laidTests := true, laidLooks := .later }
def FnExactLevelsUptoCardSaid : Prop := Claim7.holds Tryd.pinned (.plain (OpenSpec.upto fnExactLevelsSpec)) fnExactLevelsUptoCard
end Rows
end Go.Proofs.YtlmpcichjmidmaaDoor
