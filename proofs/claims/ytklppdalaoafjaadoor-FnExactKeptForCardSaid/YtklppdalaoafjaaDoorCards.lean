/-
  DERIVED. GIVEN WITH THE SEED: THE CARDS: each row of YtklppdalaoafjaaDoorRows.lean that lists a variable, with what it lists TIED to the program's text (the seventh form; the later family's looks); each row that meets fmt, with fmt's text TOLD by the authors' own Lean function (tested against real Go, not proved from fmt's source: count such statements apart). THE CARD IS WHAT COUNTS. Prove the row's statement (the work); the ties are given (YtklppdalaoafjaaDoorTie.lean); close each card by the builder's one call (the guide's Derived/Test/ToyasCard.lean, 'card_holds'). Laid BY PROGRAM, IN A SANDBOX (cutbox-door.mjs). By AI agents, Wed Nov 11 2026. No macro, syntax, notation, axiom, sorry.
-/
import Derived.Test.YtklppdalaoafjaaDoorRows
import GoSem.ClaimSeven
namespace Go.Proofs.YtklppdalaoafjaaDoor
namespace Rows

/-- THE TIED CARD OF 'laws.FnExactKeptFor'. -/
def fnExactKeptForCard : Claim7 := { stood := { row := fnExactKeptForRow, standIns := [], harness := (true, "37ca1673d4d1f42d065bc3004d400d783f1e4c8ff8c6393bf729fcab578396bf"), looks := false }, kinds := [], alts := [], laidByText := true, laidKinds := [.data, .pinned], laidTests := true, laidLooks := .later }
def FnExactKeptForCardSaid : Prop := Claim7.holds Tryd.pinned (.plain (OpenSpec.ofChange fnExactKeptForSpec)) fnExactKeptForCard

/-- THE SECOND FORM's CARD OF 'laws.FnExactKeptFor'. -/
def fnExactKeptForUptoCard : Claim7 := { stood := { row := fnExactKeptForUptoRow, standIns := [], harness := (true, "37ca1673d4d1f42d065bc3004d400d783f1e4c8ff8c6393bf729fcab578396bf"), looks := false }, kinds := [], alts := [], laidByText := true, laidKinds := [.data, .pinned], laidTests := true, laidLooks := .later }
def FnExactKeptForUptoCardSaid : Prop := Claim7.holds Tryd.pinned (.plain (OpenSpec.upto fnExactKeptForSpec)) fnExactKeptForUptoCard
end Rows
end Go.Proofs.YtklppdalaoafjaaDoor
