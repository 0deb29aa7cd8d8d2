/-
  DERIVED. GIVEN WITH THE SEED: THE CARDS: each row of YtggokdobijhdhaaDoorRows.lean that lists a variable, with what it lists TIED to the program's text (the seventh form; the later family's looks); each row that meets fmt, with fmt's text TOLD by the authors' own Lean function (tested against real Go, not proved from fmt's source: count such statements apart). THE CARD IS WHAT COUNTS. Prove the row's statement (the work); the ties are given (YtggokdobijhdhaaDoorTie.lean); close each card by the builder's one call (the guide's Derived/Test/ToyasCard.lean, 'card_holds'). Laid BY PROGRAM, IN A SANDBOX (cutbox-door.mjs). By AI agents, Wed Nov 11 2026. No macro, syntax, notation, axiom, sorry.
-/
import Derived.Test.YtggokdobijhdhaaDoorRows
import GoSem.ClaimSeven
namespace Go.Proofs.YtggokdobijhdhaaDoor
namespace Rows

/-- THE TIED CARD OF 'laws.FnExactEntries'. -/
def fnExactEntriesCard : Claim7 := { stood := { row := fnExactEntriesRow, standIns := [], harness := (true, "0bd658446a8fa88927745d0140a238a7600528b682f548d255fc8fd7e2bbda8b"), looks := false }, kinds := [], alts := [], laidByText := true, laidKinds := [.data, .pinned], laidTests := true, laidLooks := .later }
def FnExactEntriesCardSaid : Prop := Claim7.holds Tryd.pinned (.plain (OpenSpec.ofChange fnExactEntriesSpec)) fnExactEntriesCard

/-- THE TIED CARD OF 'laws.FnExactRootOk'. -/
def fnExactRootOkCard : Claim7 := { stood := { row := fnExactRootOkRow, standIns := [], harness := (true, "0bd658446a8fa88927745d0140a238a7600528b682f548d255fc8fd7e2bbda8b"), looks := false }, kinds := [], alts := [], laidByText := true, laidKinds := [.data, .pinned], laidTests := true, laidLooks := .later }
def FnExactRootOkCardSaid : Prop := Claim7.holds Tryd.pinned (.plain (OpenSpec.ofChange fnExactRootOkSpec)) fnExactRootOkCard

/-- THE TIED CARD OF 'laws.FnExactSameRoot'. -/
def fnExactSameRootCard : Claim7 := { stood := { row := fnExactSameRootRow, standIns := [], harness := (true, "0bd658446a8fa88927745d0140a238a7600528b682f548d255fc8fd7e2bbda8b"), looks := false }, kinds := [], alts := [], laidByText := true, laidKinds := [.data, .pinned], laidTests := true, laidLooks := .later }
def FnExactSameRootCardSaid : Prop := Claim7.holds Tryd.pinned (.plain (OpenSpec.ofChange fnExactSameRootSpec)) fnExactSameRootCard

/-- THE SECOND FORM's CARD OF 'laws.FnExactEntries'. -/
def fnExactEntriesUptoCard : Claim7 := { stood := { row := fnExactEntriesUptoRow, standIns := [], harness := (true, "0bd658446a8fa88927745d0140a238a7600528b682f548d255fc8fd7e2bbda8b"), looks := false }, kinds := [], alts := [], laidByText := true, laidKinds := [.data, .pinned], laidTests := true, laidLooks := .later }
def FnExactEntriesUptoCardSaid : Prop := Claim7.holds Tryd.pinned (.plain (OpenSpec.upto fnExactEntriesSpec)) fnExactEntriesUptoCard

/-- THE SECOND FORM's CARD OF 'laws.FnExactRootOk'. -/
def fnExactRootOkUptoCard : Claim7 := { stood := { row := fnExactRootOkUptoRow, standIns := [], harness := (true, "0bd658446a8fa88927745d0140a238a7600528b682f548d255fc8fd7e2bbda8b"), looks := false }, kinds := [], alts := [], laidByText := true, laidKinds := [.data, .pinned], laidTests := true, laidLooks := .later }
def FnExactRootOkUptoCardSaid : Prop := Claim7.holds Tryd.pinned (.plain (OpenSpec.upto fnExactRootOkSpec)) fnExactRootOkUptoCard

/-- THE SECOND FORM's CARD OF 'laws.FnExactSameRoot'. -/
def fnExactSameRootUptoCard : Claim7 := { stood := { row := fnExactSameRootUptoRow, standIns := [], harness := (true, "0bd658446a8fa88927745d0140a238a7600528b682f548d255fc8fd7e2bbda8b"), looks := false }, kinds := [], alts := [], laidByText := true, laidKinds := [.data, .pinned], laidTests := true, laidLooks := .later }
def FnExactSameRootUptoCardSaid : Prop := Claim7.holds Tryd.pinned (.plain (OpenSpec.upto fnExactSameRootSpec)) fnExactSameRootUptoCard
end Rows
end Go.Proofs.YtggokdobijhdhaaDoor
