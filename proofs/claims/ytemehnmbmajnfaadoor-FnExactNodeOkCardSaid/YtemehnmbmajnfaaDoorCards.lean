/-
  DERIVED. GIVEN WITH THE SEED: THE CARDS: each row of YtemehnmbmajnfaaDoorRows.lean that lists a variable, with what it lists TIED to the program's text (the seventh form; the later family's looks); each row that meets fmt, with fmt's text TOLD by the authors' own Lean function (tested against real Go, not proved from fmt's source: count such statements apart). THE CARD IS WHAT COUNTS. Prove the row's statement (the work); the ties are given (YtemehnmbmajnfaaDoorTie.lean); close each card by the builder's one call (the guide's Derived/Test/ToyasCard.lean, 'card_holds'). Laid BY PROGRAM, IN A SANDBOX (cutbox-door.mjs). By AI agents, Wed Nov 11 2026. No macro, syntax, notation, axiom, sorry.
-/
import Derived.Test.YtemehnmbmajnfaaDoorRows
import GoSem.ClaimSeven
namespace Go.Proofs.YtemehnmbmajnfaaDoor
namespace Rows

/-- THE TIED CARD OF 'laws.FnExactNodeOk'. -/
def fnExactNodeOkCard : Claim7 := { stood := { row := fnExactNodeOkRow, standIns := [], harness := (true, "6665a6240d2f443b41cedb0ad35d764b227b0097dc548e2ec6a8004bafc0d7f5"), looks := false }, kinds := [], alts := [], laidByText := true, laidKinds := [.data, .pinned], laidTests := true, laidLooks := .later }
def FnExactNodeOkCardSaid : Prop := Claim7.holds Tryd.pinned (.plain (OpenSpec.ofChange fnExactNodeOkSpec)) fnExactNodeOkCard

/-- THE TIED CARD OF 'laws.FnExactEntries'. -/
def fnExactEntriesCard : Claim7 := { stood := { row := fnExactEntriesRow, standIns := [], harness := (true, "6665a6240d2f443b41cedb0ad35d764b227b0097dc548e2ec6a8004bafc0d7f5"), looks := false }, kinds := [], alts := [], laidByText := true, laidKinds := [.data, .pinned], laidTests := true, laidLooks := .later }
def FnExactEntriesCardSaid : Prop := Claim7.holds Tryd.pinned (.plain (OpenSpec.ofChange fnExactEntriesSpec)) fnExactEntriesCard

/-- THE TIED CARD OF 'laws.FnExactRootOk'. -/
def fnExactRootOkCard : Claim7 := { stood := { row := fnExactRootOkRow, standIns := [], harness := (true, "6665a6240d2f443b41cedb0ad35d764b227b0097dc548e2ec6a8004bafc0d7f5"), looks := false }, kinds := [], alts := [], laidByText := true, laidKinds := [.data, .pinned], laidTests := true, laidLooks := .later }
def FnExactRootOkCardSaid : Prop := Claim7.holds Tryd.pinned (.plain (OpenSpec.ofChange fnExactRootOkSpec)) fnExactRootOkCard

/-- THE SECOND FORM's CARD OF 'laws.FnExactNodeOk'. -/
def fnExactNodeOkUptoCard : Claim7 := { stood := { row := fnExactNodeOkUptoRow, standIns := [], harness := (true, "6665a6240d2f443b41cedb0ad35d764b227b0097dc548e2ec6a8004bafc0d7f5"), looks := false }, kinds := [], alts := [], laidByText := true, laidKinds := [.data, .pinned], laidTests := true, laidLooks := .later }
def FnExactNodeOkUptoCardSaid : Prop := Claim7.holds Tryd.pinned (.plain (OpenSpec.upto fnExactNodeOkSpec)) fnExactNodeOkUptoCard

/-- THE SECOND FORM's CARD OF 'laws.FnExactEntries'. -/
def fnExactEntriesUptoCard : Claim7 := { stood := { row := fnExactEntriesUptoRow, standIns := [], harness := (true, "6665a6240d2f443b41cedb0ad35d764b227b0097dc548e2ec6a8004bafc0d7f5"), looks := false }, kinds := [], alts := [], laidByText := true, laidKinds := [.data, .pinned], laidTests := true, laidLooks := .later }
def FnExactEntriesUptoCardSaid : Prop := Claim7.holds Tryd.pinned (.plain (OpenSpec.upto fnExactEntriesSpec)) fnExactEntriesUptoCard

/-- THE SECOND FORM's CARD OF 'laws.FnExactRootOk'. -/
def fnExactRootOkUptoCard : Claim7 := { stood := { row := fnExactRootOkUptoRow, standIns := [], harness := (true, "6665a6240d2f443b41cedb0ad35d764b227b0097dc548e2ec6a8004bafc0d7f5"), looks := false }, kinds := [], alts := [], laidByText := true, laidKinds := [.data, .pinned], laidTests := true, laidLooks := .later }
def FnExactRootOkUptoCardSaid : Prop := Claim7.holds Tryd.pinned (.plain (OpenSpec.upto fnExactRootOkSpec)) fnExactRootOkUptoCard
end Rows
end Go.Proofs.YtemehnmbmajnfaaDoor
