/-
  DERIVED. GIVEN WITH THE SEED: THE CARDS: each row of YtpigbffaacilfaaDoorRows.lean that lists a variable, with what it lists TIED to the program's text (the seventh form; the later family's looks); each row that meets fmt, with fmt's text TOLD by the authors' own Lean function (tested against real Go, not proved from fmt's source: count such statements apart). THE CARD IS WHAT COUNTS. Prove the row's statement (the work); the ties are given (YtpigbffaacilfaaDoorTie.lean); close each card by the builder's one call (the guide's Derived/Test/ToyasCard.lean, 'card_holds'). Laid BY PROGRAM, IN A SANDBOX (cutbox-door.mjs). By AI agents, Wed Nov 11 2026. No macro, syntax, notation, axiom, sorry.
-/
import Derived.Test.YtpigbffaacilfaaDoorRows
import GoSem.ClaimSeven
namespace Go.Proofs.YtpigbffaacilfaaDoor
namespace Rows

/-- THE TIED CARD OF 'laws.FnExactSetKept'. -/
def fnExactSetKeptCard : Claim7 := { stood := { row := fnExactSetKeptRow, standIns := [], harness := (true, "3d9cb7cf8a3e8ee3243b2a35b4b870c2af0c2247dccb600694bd29a1995fc4f8"), looks := false }, kinds := [], alts := [], laidByText := true, laidKinds := [.data, .pinned], laidTests := true, laidLooks := .later }
def FnExactSetKeptCardSaid : Prop := Claim7.holds Tryd.pinned (.plain (OpenSpec.ofChange fnExactSetKeptSpec)) fnExactSetKeptCard

/-- THE TIED CARD OF 'laws.FnKept'. -/
def fnKeptCard : Claim7 := { stood := { row := fnKeptRow, standIns := [], harness := (true, "3d9cb7cf8a3e8ee3243b2a35b4b870c2af0c2247dccb600694bd29a1995fc4f8"), looks := false }, kinds := [], alts := [], laidByText := true, laidKinds := [.data, .pinned], laidTests := true, laidLooks := .later }
def FnKeptCardSaid : Prop := Claim7.holds Tryd.pinned (.plain (OpenSpec.ofChange fnKeptSpec)) fnKeptCard

/-- THE SECOND FORM's CARD OF 'laws.FnExactSetKept'. -/
def fnExactSetKeptUptoCard : Claim7 := { stood := { row := fnExactSetKeptUptoRow, standIns := [], harness := (true, "3d9cb7cf8a3e8ee3243b2a35b4b870c2af0c2247dccb600694bd29a1995fc4f8"), looks := false }, kinds := [], alts := [], laidByText := true, laidKinds := [.data, .pinned], laidTests := true, laidLooks := .later }
def FnExactSetKeptUptoCardSaid : Prop := Claim7.holds Tryd.pinned (.plain (OpenSpec.upto fnExactSetKeptSpec)) fnExactSetKeptUptoCard

/-- THE SECOND FORM's CARD OF 'laws.FnKept'. -/
def fnKeptUptoCard : Claim7 := { stood := { row := fnKeptUptoRow, standIns := [], harness := (true, "3d9cb7cf8a3e8ee3243b2a35b4b870c2af0c2247dccb600694bd29a1995fc4f8"), looks := false }, kinds := [], alts := [], laidByText := true, laidKinds := [.data, .pinned], laidTests := true, laidLooks := .later }
def FnKeptUptoCardSaid : Prop := Claim7.holds Tryd.pinned (.plain (OpenSpec.upto fnKeptSpec)) fnKeptUptoCard
end Rows
end Go.Proofs.YtpigbffaacilfaaDoor
