/-
  DERIVED. GIVEN WITH THE SEED: THE CARDS: each row of YtnflbiafmddpgaaGreatDoorRows.lean that lists a variable, with what it lists TIED to the program's text (the seventh form; the later family's looks); each row that meets fmt, with fmt's text TOLD by the authors' own Lean function (tested against real Go, not proved from fmt's source: count such statements apart). THE CARD IS WHAT COUNTS. Prove the row's statement (the work); the ties are given (YtnflbiafmddpgaaGreatDoorTie.lean); close each card by the builder's one call (the guide's Derived/Test/ToyasCard.lean, 'card_holds'). Laid BY PROGRAM, IN A SANDBOX (cutbox-door.mjs). By AI agents, Wed Nov 11 2026. No macro, syntax, notation, axiom, sorry.
-/
import Derived.Test.YtnflbiafmddpgaaGreatDoorRows
import GoSem.ClaimSeven
namespace Go.Proofs.YtnflbiafmddpgaaGreatDoor
namespace Rows

/-- THE TIED CARD OF 'laws.FnExactWriteAll'. -/
def fnExactWriteAllCard : Claim7 := { stood := { row := fnExactWriteAllRow, standIns := [], harness := (true, "72c0862338a70a67dd298b53271259dcdc2c147961a726711c1991753749d154"), looks := false }, kinds := [], alts := [], laidByText := true, laidKinds := [.data, .pinned], laidTests := true, laidLooks := .later }
def FnExactWriteAllCardSaid : Prop := Claim7.holds Tryz.pinned (.plain (OpenSpec.ofChange fnExactWriteAllSpec)) fnExactWriteAllCard

/-- THE SECOND FORM's CARD OF 'laws.FnExactWriteAll'. -/
def fnExactWriteAllUptoCard : Claim7 := { stood := { row := fnExactWriteAllUptoRow, standIns := [], harness := (true, "72c0862338a70a67dd298b53271259dcdc2c147961a726711c1991753749d154"), looks := false }, kinds := [], alts := [], laidByText := true, laidKinds := [.data, .pinned], laidTests := true, laidLooks := .later }
def FnExactWriteAllUptoCardSaid : Prop := Claim7.holds Tryz.pinned (.plain (OpenSpec.upto fnExactWriteAllSpec)) fnExactWriteAllUptoCard
end Rows
end Go.Proofs.YtnflbiafmddpgaaGreatDoor
