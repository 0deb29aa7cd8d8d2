/-
  DERIVED. GIVEN WITH THE SEED: THE CARDS: each row of YtnflbiafmddpgaaDoorRows.lean that lists a variable, with what it lists TIED to the program's text (the seventh form; the later family's looks); each row that meets fmt, with fmt's text TOLD by the authors' own Lean function (tested against real Go, not proved from fmt's source: count such statements apart). THE CARD IS WHAT COUNTS. Prove the row's statement (the work); the ties are given (YtnflbiafmddpgaaDoorTie.lean); close each card by the builder's one call (the guide's Derived/Test/ToyasCard.lean, 'card_holds'). Laid BY PROGRAM, IN A SANDBOX (cutbox-door.mjs). By AI agents, Wed Nov 11 2026. No macro, syntax, notation, axiom, sorry.
-/
import Derived.Test.YtnflbiafmddpgaaDoorRows
import GoSem.ClaimSeven
namespace Go.Proofs.YtnflbiafmddpgaaDoor
namespace Rows

/-- THE TIED CARD OF 'laws.FnExactWithId'. -/
def fnExactWithIdCard : Claim7 := { stood := { row := fnExactWithIdRow, standIns := [], harness := (true, "6b487fd9bcc7e6928ea3539a40416801bc797d7c72919486e0368d04bc900b06"), looks := false }, kinds := [], alts := [], laidByText := true, laidKinds := [.data, .pinned], laidTests := true, laidLooks := .later }
def FnExactWithIdCardSaid : Prop := Claim7.holds Tryd.pinned (.plain (OpenSpec.ofChange fnExactWithIdSpec)) fnExactWithIdCard

/-- THE TIED CARD OF 'laws.FnExactPacketOk'. -/
def fnExactPacketOkCard : Claim7 := { stood := { row := fnExactPacketOkRow, standIns := [], harness := (true, "6b487fd9bcc7e6928ea3539a40416801bc797d7c72919486e0368d04bc900b06"), looks := false }, kinds := [], alts := [], laidByText := true, laidKinds := [.data, .pinned], laidTests := true, laidLooks := .later }
def FnExactPacketOkCardSaid : Prop := Claim7.holds Tryd.pinned (.plain (OpenSpec.ofChange fnExactPacketOkSpec)) fnExactPacketOkCard

/-- THE TIED CARD OF 'laws.FnPackets'. -/
def fnPacketsCard : Claim7 := { stood := { row := fnPacketsRow, standIns := [], harness := (true, "6b487fd9bcc7e6928ea3539a40416801bc797d7c72919486e0368d04bc900b06"), looks := false }, kinds := [], alts := [], laidByText := true, laidKinds := [.data, .pinned], laidTests := true, laidLooks := .later }
def FnPacketsCardSaid : Prop := Claim7.holds Tryd.pinned (.plain (OpenSpec.ofChange fnPacketsSpec)) fnPacketsCard

/-- THE TIED CARD OF 'laws.FnExactPutPacket'. -/
def fnExactPutPacketCard : Claim7 := { stood := { row := fnExactPutPacketRow, standIns := [], harness := (true, "6b487fd9bcc7e6928ea3539a40416801bc797d7c72919486e0368d04bc900b06"), looks := false }, kinds := [], alts := [], laidByText := true, laidKinds := [.data, .pinned], laidTests := true, laidLooks := .later }
def FnExactPutPacketCardSaid : Prop := Claim7.holds Tryd.pinned (.plain (OpenSpec.ofChange fnExactPutPacketSpec)) fnExactPutPacketCard

/-- THE SECOND FORM's CARD OF 'laws.FnExactWithId'. -/
def fnExactWithIdUptoCard : Claim7 := { stood := { row := fnExactWithIdUptoRow, standIns := [], harness := (true, "6b487fd9bcc7e6928ea3539a40416801bc797d7c72919486e0368d04bc900b06"), looks := false }, kinds := [], alts := [], laidByText := true, laidKinds := [.data, .pinned], laidTests := true, laidLooks := .later }
def FnExactWithIdUptoCardSaid : Prop := Claim7.holds Tryd.pinned (.plain (OpenSpec.upto fnExactWithIdSpec)) fnExactWithIdUptoCard

/-- THE SECOND FORM's CARD OF 'laws.FnExactPacketOk'. -/
def fnExactPacketOkUptoCard : Claim7 := { stood := { row := fnExactPacketOkUptoRow, standIns := [], harness := (true, "6b487fd9bcc7e6928ea3539a40416801bc797d7c72919486e0368d04bc900b06"), looks := false }, kinds := [], alts := [], laidByText := true, laidKinds := [.data, .pinned], laidTests := true, laidLooks := .later }
def FnExactPacketOkUptoCardSaid : Prop := Claim7.holds Tryd.pinned (.plain (OpenSpec.upto fnExactPacketOkSpec)) fnExactPacketOkUptoCard

/-- THE SECOND FORM's CARD OF 'laws.FnPackets'. -/
def fnPacketsUptoCard : Claim7 := { stood := { row := fnPacketsUptoRow, standIns := [], harness := (true, "6b487fd9bcc7e6928ea3539a40416801bc797d7c72919486e0368d04bc900b06"), looks := false }, kinds := [], alts := [], laidByText := true, laidKinds := [.data, .pinned], laidTests := true, laidLooks := .later }
def FnPacketsUptoCardSaid : Prop := Claim7.holds Tryd.pinned (.plain (OpenSpec.upto fnPacketsSpec)) fnPacketsUptoCard

/-- THE SECOND FORM's CARD OF 'laws.FnExactPutPacket'. -/
def fnExactPutPacketUptoCard : Claim7 := { stood := { row := fnExactPutPacketUptoRow, standIns := [], harness := (true, "6b487fd9bcc7e6928ea3539a40416801bc797d7c72919486e0368d04bc900b06"), looks := false }, kinds := [], alts := [], laidByText := true, laidKinds := [.data, .pinned], laidTests := true, laidLooks := .later }
def FnExactPutPacketUptoCardSaid : Prop := Claim7.holds Tryd.pinned (.plain (OpenSpec.upto fnExactPutPacketSpec)) fnExactPutPacketUptoCard
end Rows
end Go.Proofs.YtnflbiafmddpgaaDoor
