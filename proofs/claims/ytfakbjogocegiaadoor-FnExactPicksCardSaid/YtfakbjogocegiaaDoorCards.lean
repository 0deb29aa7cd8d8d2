/-
  DERIVED. GIVEN WITH THE SEED: THE CARDS: each row of YtfakbjogocegiaaDoorRows.lean that lists a variable, with what it lists TIED to the program's text (the seventh form; the later family's looks); each row that meets fmt, with fmt's text TOLD by the authors' own Lean function (tested against real Go, not proved from fmt's source: count such statements apart). THE CARD IS WHAT COUNTS. Prove the row's statement (the work); the ties are given (YtfakbjogocegiaaDoorTie.lean); close each card by the builder's one call (the guide's Derived/Test/ToyasCard.lean, 'card_holds'). Laid BY PROGRAM, IN A SANDBOX (cutbox-door.mjs). By AI agents, Wed Nov 11 2026. No macro, syntax, notation, axiom, sorry.
-/
import Derived.Test.YtfakbjogocegiaaDoorRows
import GoSem.ClaimSeven
namespace Go.Proofs.YtfakbjogocegiaaDoor
namespace Rows

/-- THE TIED CARD OF 'laws.FnExactTopicOk'. -/
def fnExactTopicOkCard : Claim7 := { stood := { row := fnExactTopicOkRow, standIns := [], harness := (true, "735f653127c8004f6302a1bbc4d3a63a3e673469c96c9b62447ac75851138a7f"), looks := false }, kinds := [], alts := [], laidByText := true, laidKinds := [.data, .pinned], laidTests := true, laidLooks := .later }
def FnExactTopicOkCardSaid : Prop := Claim7.holds Tryd.pinned (.plain (OpenSpec.ofChange fnExactTopicOkSpec)) fnExactTopicOkCard

/-- THE TIED CARD OF 'laws.FnExactFilterOk'. -/
def fnExactFilterOkCard : Claim7 := { stood := { row := fnExactFilterOkRow, standIns := [], harness := (true, "735f653127c8004f6302a1bbc4d3a63a3e673469c96c9b62447ac75851138a7f"), looks := false }, kinds := [], alts := [], laidByText := true, laidKinds := [.data, .pinned], laidTests := true, laidLooks := .later }
def FnExactFilterOkCardSaid : Prop := Claim7.holds Tryd.pinned (.plain (OpenSpec.ofChange fnExactFilterOkSpec)) fnExactFilterOkCard

/-- THE TIED CARD OF 'laws.FnExactWild'. -/
def fnExactWildCard : Claim7 := { stood := { row := fnExactWildRow, standIns := [], harness := (true, "735f653127c8004f6302a1bbc4d3a63a3e673469c96c9b62447ac75851138a7f"), looks := false }, kinds := [], alts := [], laidByText := true, laidKinds := [.data, .pinned], laidTests := true, laidLooks := .later }
def FnExactWildCardSaid : Prop := Claim7.holds Tryd.pinned (.plain (OpenSpec.ofChange fnExactWildSpec)) fnExactWildCard

/-- THE TIED CARD OF 'laws.FnExactCovers'. -/
def fnExactCoversCard : Claim7 := { stood := { row := fnExactCoversRow, standIns := [], harness := (true, "735f653127c8004f6302a1bbc4d3a63a3e673469c96c9b62447ac75851138a7f"), looks := false }, kinds := [], alts := [], laidByText := true, laidKinds := [.data, .pinned], laidTests := true, laidLooks := .later }
def FnExactCoversCardSaid : Prop := Claim7.holds Tryd.pinned (.plain (OpenSpec.ofChange fnExactCoversSpec)) fnExactCoversCard

/-- THE TIED CARD OF 'laws.FnExactMatch'. -/
def fnExactMatchCard : Claim7 := { stood := { row := fnExactMatchRow, standIns := [], harness := (true, "735f653127c8004f6302a1bbc4d3a63a3e673469c96c9b62447ac75851138a7f"), looks := false }, kinds := [], alts := [], laidByText := true, laidKinds := [.data, .pinned], laidTests := true, laidLooks := .later }
def FnExactMatchCardSaid : Prop := Claim7.holds Tryd.pinned (.plain (OpenSpec.ofChange fnExactMatchSpec)) fnExactMatchCard

/-- THE TIED CARD OF 'laws.FnMatches'. -/
def fnMatchesCard : Claim7 := { stood := { row := fnMatchesRow, standIns := [], harness := (true, "735f653127c8004f6302a1bbc4d3a63a3e673469c96c9b62447ac75851138a7f"), looks := false }, kinds := [], alts := [], laidByText := true, laidKinds := [.data, .pinned], laidTests := true, laidLooks := .later }
def FnMatchesCardSaid : Prop := Claim7.holds Tryd.pinned (.plain (OpenSpec.ofChange fnMatchesSpec)) fnMatchesCard

/-- THE TIED CARD OF 'laws.FnCovers'. -/
def fnCoversCard : Claim7 := { stood := { row := fnCoversRow, standIns := [], harness := (true, "735f653127c8004f6302a1bbc4d3a63a3e673469c96c9b62447ac75851138a7f"), looks := false }, kinds := [], alts := [], laidByText := true, laidKinds := [.data, .pinned], laidTests := true, laidLooks := .later }
def FnCoversCardSaid : Prop := Claim7.holds Tryd.pinned (.plain (OpenSpec.ofChange fnCoversSpec)) fnCoversCard

/-- THE TIED CARD OF 'laws.FnLevels'. -/
def fnLevelsCard : Claim7 := { stood := { row := fnLevelsRow, standIns := [], harness := (true, "735f653127c8004f6302a1bbc4d3a63a3e673469c96c9b62447ac75851138a7f"), looks := false }, kinds := [], alts := [], laidByText := true, laidKinds := [.data, .pinned], laidTests := true, laidLooks := .later }
def FnLevelsCardSaid : Prop := Claim7.holds Tryd.pinned (.plain (OpenSpec.ofChange fnLevelsSpec)) fnLevelsCard

/-- THE TIED CARD OF 'laws.FnPicks'. -/
def fnPicksCard : Claim7 := { stood := { row := fnPicksRow, standIns := [], harness := (true, "735f653127c8004f6302a1bbc4d3a63a3e673469c96c9b62447ac75851138a7f"), looks := false }, kinds := [], alts := [], laidByText := true, laidKinds := [.data, .pinned], laidTests := true, laidLooks := .later }
def FnPicksCardSaid : Prop := Claim7.holds Tryd.pinned (.plain (OpenSpec.ofChange fnPicksSpec)) fnPicksCard

/-- THE TIED CARD OF 'laws.FnExactPicks'. -/
def fnExactPicksCard : Claim7 := { stood := { row := fnExactPicksRow, standIns := [], harness := (true, "735f653127c8004f6302a1bbc4d3a63a3e673469c96c9b62447ac75851138a7f"), looks := false }, kinds := [], alts := [], laidByText := true, laidKinds := [.data, .pinned], laidTests := true, laidLooks := .later }
def FnExactPicksCardSaid : Prop := Claim7.holds Tryd.pinned (.plain (OpenSpec.ofChange fnExactPicksSpec)) fnExactPicksCard

/-- THE SECOND FORM's CARD OF 'laws.FnExactTopicOk'. -/
def fnExactTopicOkUptoCard : Claim7 := { stood := { row := fnExactTopicOkUptoRow, standIns := [], harness := (true, "735f653127c8004f6302a1bbc4d3a63a3e673469c96c9b62447ac75851138a7f"), looks := false }, kinds := [], alts := [], laidByText := true, laidKinds := [.data, .pinned], laidTests := true, laidLooks := .later }
def FnExactTopicOkUptoCardSaid : Prop := Claim7.holds Tryd.pinned (.plain (OpenSpec.upto fnExactTopicOkSpec)) fnExactTopicOkUptoCard

/-- THE SECOND FORM's CARD OF 'laws.FnExactFilterOk'. -/
def fnExactFilterOkUptoCard : Claim7 := { stood := { row := fnExactFilterOkUptoRow, standIns := [], harness := (true, "735f653127c8004f6302a1bbc4d3a63a3e673469c96c9b62447ac75851138a7f"), looks := false }, kinds := [], alts := [], laidByText := true, laidKinds := [.data, .pinned], laidTests := true, laidLooks := .later }
def FnExactFilterOkUptoCardSaid : Prop := Claim7.holds Tryd.pinned (.plain (OpenSpec.upto fnExactFilterOkSpec)) fnExactFilterOkUptoCard

/-- THE SECOND FORM's CARD OF 'laws.FnExactWild'. -/
def fnExactWildUptoCard : Claim7 := { stood := { row := fnExactWildUptoRow, standIns := [], harness := (true, "735f653127c8004f6302a1bbc4d3a63a3e673469c96c9b62447ac75851138a7f"), looks := false }, kinds := [], alts := [], laidByText := true, laidKinds := [.data, .pinned], laidTests := true, laidLooks := .later }
def FnExactWildUptoCardSaid : Prop := Claim7.holds Tryd.pinned (.plain (OpenSpec.upto fnExactWildSpec)) fnExactWildUptoCard

/-- THE SECOND FORM's CARD OF 'laws.FnExactCovers'. -/
def fnExactCoversUptoCard : Claim7 := { stood := { row := fnExactCoversUptoRow, standIns := [], harness := (true, "735f653127c8004f6302a1bbc4d3a63a3e673469c96c9b62447ac75851138a7f"), looks := false }, kinds := [], alts := [], laidByText := true, laidKinds := [.data, .pinned], laidTests := true, laidLooks := .later }
def FnExactCoversUptoCardSaid : Prop := Claim7.holds Tryd.pinned (.plain (OpenSpec.upto fnExactCoversSpec)) fnExactCoversUptoCard

/-- THE SECOND FORM's CARD OF 'laws.FnExactMatch'. -/
def fnExactMatchUptoCard : Claim7 := { stood := { row := fnExactMatchUptoRow, standIns := [], harness := (true, "735f653127c8004f6302a1bbc4d3a63a3e673469c96c9b62447ac75851138a7f"), looks := false }, kinds := [], alts := [], laidByText := true, laidKinds := [.data, .pinned], laidTests := true, laidLooks := .later }
def FnExactMatchUptoCardSaid : Prop := Claim7.holds Tryd.pinned (.plain (OpenSpec.upto fnExactMatchSpec)) fnExactMatchUptoCard

/-- THE SECOND FORM's CARD OF 'laws.FnMatches'. -/
def fnMatchesUptoCard : Claim7 := { stood := { row := fnMatchesUptoRow, standIns := [], harness := (true, "735f653127c8004f6302a1bbc4d3a63a3e673469c96c9b62447ac75851138a7f"), looks := false }, kinds := [], alts := [], laidByText := true, laidKinds := [.data, .pinned], laidTests := true, laidLooks := .later }
def FnMatchesUptoCardSaid : Prop := Claim7.holds Tryd.pinned (.plain (OpenSpec.upto fnMatchesSpec)) fnMatchesUptoCard

/-- THE SECOND FORM's CARD OF 'laws.FnCovers'. -/
def fnCoversUptoCard : Claim7 := { stood := { row := fnCoversUptoRow, standIns := [], harness := (true, "735f653127c8004f6302a1bbc4d3a63a3e673469c96c9b62447ac75851138a7f"), looks := false }, kinds := [], alts := [], laidByText := true, laidKinds := [.data, .pinned], laidTests := true, laidLooks := .later }
def FnCoversUptoCardSaid : Prop := Claim7.holds Tryd.pinned (.plain (OpenSpec.upto fnCoversSpec)) fnCoversUptoCard

/-- THE SECOND FORM's CARD OF 'laws.FnLevels'. -/
def fnLevelsUptoCard : Claim7 := { stood := { row := fnLevelsUptoRow, standIns := [], harness := (true, "735f653127c8004f6302a1bbc4d3a63a3e673469c96c9b62447ac75851138a7f"), looks := false }, kinds := [], alts := [], laidByText := true, laidKinds := [.data, .pinned], laidTests := true, laidLooks := .later }
def FnLevelsUptoCardSaid : Prop := Claim7.holds Tryd.pinned (.plain (OpenSpec.upto fnLevelsSpec)) fnLevelsUptoCard

/-- THE SECOND FORM's CARD OF 'laws.FnPicks'. -/
def fnPicksUptoCard : Claim7 := { stood := { row := fnPicksUptoRow, standIns := [], harness := (true, "735f653127c8004f6302a1bbc4d3a63a3e673469c96c9b62447ac75851138a7f"), looks := false }, kinds := [], alts := [], laidByText := true, laidKinds := [.data, .pinned], laidTests := true, laidLooks := .later }
def FnPicksUptoCardSaid : Prop := Claim7.holds Tryd.pinned (.plain (OpenSpec.upto fnPicksSpec)) fnPicksUptoCard

/-- THE SECOND FORM's CARD OF 'laws.FnExactPicks'. -/
def fnExactPicksUptoCard : Claim7 := { stood := { row := fnExactPicksUptoRow, standIns := [], harness := (true, "735f653127c8004f6302a1bbc4d3a63a3e673469c96c9b62447ac75851138a7f"), looks := false }, kinds := [], alts := [], laidByText := true, laidKinds := [.data, .pinned], laidTests := true, laidLooks := .later }
def FnExactPicksUptoCardSaid : Prop := Claim7.holds Tryd.pinned (.plain (OpenSpec.upto fnExactPicksSpec)) fnExactPicksUptoCard
end Rows
end Go.Proofs.YtfakbjogocegiaaDoor
