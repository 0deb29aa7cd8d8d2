/-
  DERIVED. GIVEN WITH THE SEED: THE CARDS: each row of YtcnfgfomholheaaGreatDoorRows.lean that lists a variable, with what it lists TIED to the program's text (the seventh form; the later family's looks); each row that meets fmt, with fmt's text TOLD by the authors' own Lean function (tested against real Go, not proved from fmt's source: count such statements apart). THE CARD IS WHAT COUNTS. Prove the row's statement (the work); the ties are given (YtcnfgfomholheaaGreatDoorTie.lean); close each card by the builder's one call (the guide's Derived/Test/ToyasCard.lean, 'card_holds'). Laid BY PROGRAM, IN A SANDBOX (cutbox-door.mjs). By AI agents, Wed Nov 11 2026. No macro, syntax, notation, axiom, sorry.
-/
import Derived.Test.YtcnfgfomholheaaGreatDoorRows
import GoSem.ClaimSeven
namespace Go.Proofs.YtcnfgfomholheaaGreatDoor
namespace Rows

/-- THE TIED CARD OF 'laws.FnExactRemoveClient'. -/
def fnExactRemoveClientCard : Claim7 := { stood := { row := fnExactRemoveClientRow, standIns := [], harness := (true, "673b0d85f216fdc5e13a61dd2f59d84d6401209a2163e660de76d8526451744c"), looks := false }, kinds := [], alts := [], laidByText := true, laidKinds := [.data, .pinned], laidTests := true, laidLooks := .later }
def FnExactRemoveClientCardSaid : Prop := Claim7.holds Tryz.pinned (.plain (OpenSpec.ofChange fnExactRemoveClientSpec)) fnExactRemoveClientCard

/-- THE TIED CARD OF 'laws.FnExactRemove'. -/
def fnExactRemoveCard : Claim7 := { stood := { row := fnExactRemoveRow, standIns := [], harness := (true, "673b0d85f216fdc5e13a61dd2f59d84d6401209a2163e660de76d8526451744c"), looks := false }, kinds := [], alts := [], laidByText := true, laidKinds := [.data, .pinned], laidTests := true, laidLooks := .later }
def FnExactRemoveCardSaid : Prop := Claim7.holds Tryz.pinned (.plain (OpenSpec.ofChange fnExactRemoveSpec)) fnExactRemoveCard

/-- THE TIED CARD OF 'laws.FnExactInsert'. -/
def fnExactInsertCard : Claim7 := { stood := { row := fnExactInsertRow, standIns := [], harness := (true, "673b0d85f216fdc5e13a61dd2f59d84d6401209a2163e660de76d8526451744c"), looks := false }, kinds := [], alts := [], laidByText := true, laidKinds := [.data, .pinned], laidTests := true, laidLooks := .later }
def FnExactInsertCardSaid : Prop := Claim7.holds Tryz.pinned (.plain (OpenSpec.ofChange fnExactInsertSpec)) fnExactInsertCard

/-- THE TIED CARD OF 'laws.FnExactLookup'. -/
def fnExactLookupCard : Claim7 := { stood := { row := fnExactLookupRow, standIns := [], harness := (true, "673b0d85f216fdc5e13a61dd2f59d84d6401209a2163e660de76d8526451744c"), looks := false }, kinds := [], alts := [], laidByText := true, laidKinds := [.data, .pinned], laidTests := true, laidLooks := .later }
def FnExactLookupCardSaid : Prop := Claim7.holds Tryz.pinned (.plain (OpenSpec.ofChange fnExactLookupSpec)) fnExactLookupCard

/-- THE TIED CARD OF 'laws.FnExactRootDrop'. -/
def fnExactRootDropCard : Claim7 := { stood := { row := fnExactRootDropRow, standIns := [], harness := (true, "673b0d85f216fdc5e13a61dd2f59d84d6401209a2163e660de76d8526451744c"), looks := false }, kinds := [], alts := [], laidByText := true, laidKinds := [.data, .pinned], laidTests := true, laidLooks := .later }
def FnExactRootDropCardSaid : Prop := Claim7.holds Tryz.pinned (.plain (OpenSpec.ofChange fnExactRootDropSpec)) fnExactRootDropCard

/-- THE TIED CARD OF 'laws.FnExactRootUnsub'. -/
def fnExactRootUnsubCard : Claim7 := { stood := { row := fnExactRootUnsubRow, standIns := [], harness := (true, "673b0d85f216fdc5e13a61dd2f59d84d6401209a2163e660de76d8526451744c"), looks := false }, kinds := [], alts := [], laidByText := true, laidKinds := [.data, .pinned], laidTests := true, laidLooks := .later }
def FnExactRootUnsubCardSaid : Prop := Claim7.holds Tryz.pinned (.plain (OpenSpec.ofChange fnExactRootUnsubSpec)) fnExactRootUnsubCard

/-- THE TIED CARD OF 'laws.FnExactRootKeep'. -/
def fnExactRootKeepCard : Claim7 := { stood := { row := fnExactRootKeepRow, standIns := [], harness := (true, "673b0d85f216fdc5e13a61dd2f59d84d6401209a2163e660de76d8526451744c"), looks := false }, kinds := [], alts := [], laidByText := true, laidKinds := [.data, .pinned], laidTests := true, laidLooks := .later }
def FnExactRootKeepCardSaid : Prop := Claim7.holds Tryz.pinned (.plain (OpenSpec.ofChange fnExactRootKeepSpec)) fnExactRootKeepCard

/-- THE TIED CARD OF 'laws.FnExactRootSub'. -/
def fnExactRootSubCard : Claim7 := { stood := { row := fnExactRootSubRow, standIns := [], harness := (true, "673b0d85f216fdc5e13a61dd2f59d84d6401209a2163e660de76d8526451744c"), looks := false }, kinds := [], alts := [], laidByText := true, laidKinds := [.data, .pinned], laidTests := true, laidLooks := .later }
def FnExactRootSubCardSaid : Prop := Claim7.holds Tryz.pinned (.plain (OpenSpec.ofChange fnExactRootSubSpec)) fnExactRootSubCard

/-- THE TIED CARD OF 'laws.FnExactKeptWanted'. -/
def fnExactKeptWantedCard : Claim7 := { stood := { row := fnExactKeptWantedRow, standIns := [], harness := (true, "673b0d85f216fdc5e13a61dd2f59d84d6401209a2163e660de76d8526451744c"), looks := false }, kinds := [], alts := [], laidByText := true, laidKinds := [.data, .pinned], laidTests := true, laidLooks := .later }
def FnExactKeptWantedCardSaid : Prop := Claim7.holds Tryz.pinned (.plain (OpenSpec.ofChange fnExactKeptWantedSpec)) fnExactKeptWantedCard

/-- THE TIED CARD OF 'laws.FnGrown'. -/
def fnGrownCard : Claim7 := { stood := { row := fnGrownRow, standIns := [], harness := (true, "673b0d85f216fdc5e13a61dd2f59d84d6401209a2163e660de76d8526451744c"), looks := false }, kinds := [], alts := [], laidByText := true, laidKinds := [.data, .pinned], laidTests := true, laidLooks := .later }
def FnGrownCardSaid : Prop := Claim7.holds Tryz.pinned (.plain (OpenSpec.ofChange fnGrownSpec)) fnGrownCard

/-- THE TIED CARD OF 'laws.FnTrees'. -/
def fnTreesCard : Claim7 := { stood := { row := fnTreesRow, standIns := [], harness := (true, "673b0d85f216fdc5e13a61dd2f59d84d6401209a2163e660de76d8526451744c"), looks := false }, kinds := [], alts := [], laidByText := true, laidKinds := [.data, .pinned], laidTests := true, laidLooks := .later }
def FnTreesCardSaid : Prop := Claim7.holds Tryz.pinned (.plain (OpenSpec.ofChange fnTreesSpec)) fnTreesCard

/-- THE TIED CARD OF 'laws.FnLookups'. -/
def fnLookupsCard : Claim7 := { stood := { row := fnLookupsRow, standIns := [], harness := (true, "673b0d85f216fdc5e13a61dd2f59d84d6401209a2163e660de76d8526451744c"), looks := false }, kinds := [], alts := [], laidByText := true, laidKinds := [.data, .pinned], laidTests := true, laidLooks := .later }
def FnLookupsCardSaid : Prop := Claim7.holds Tryz.pinned (.plain (OpenSpec.ofChange fnLookupsSpec)) fnLookupsCard

/-- THE TIED CARD OF 'laws.FnUnwants'. -/
def fnUnwantsCard : Claim7 := { stood := { row := fnUnwantsRow, standIns := [], harness := (true, "673b0d85f216fdc5e13a61dd2f59d84d6401209a2163e660de76d8526451744c"), looks := false }, kinds := [], alts := [], laidByText := true, laidKinds := [.data, .pinned], laidTests := true, laidLooks := .later }
def FnUnwantsCardSaid : Prop := Claim7.holds Tryz.pinned (.plain (OpenSpec.ofChange fnUnwantsSpec)) fnUnwantsCard

/-- THE TIED CARD OF 'laws.FnRoots'. -/
def fnRootsCard : Claim7 := { stood := { row := fnRootsRow, standIns := [], harness := (true, "673b0d85f216fdc5e13a61dd2f59d84d6401209a2163e660de76d8526451744c"), looks := false }, kinds := [], alts := [], laidByText := true, laidKinds := [.data, .pinned], laidTests := true, laidLooks := .later }
def FnRootsCardSaid : Prop := Claim7.holds Tryz.pinned (.plain (OpenSpec.ofChange fnRootsSpec)) fnRootsCard

/-- THE TIED CARD OF 'laws.FnKeeps'. -/
def fnKeepsCard : Claim7 := { stood := { row := fnKeepsRow, standIns := [], harness := (true, "673b0d85f216fdc5e13a61dd2f59d84d6401209a2163e660de76d8526451744c"), looks := false }, kinds := [], alts := [], laidByText := true, laidKinds := [.data, .pinned], laidTests := true, laidLooks := .later }
def FnKeepsCardSaid : Prop := Claim7.holds Tryz.pinned (.plain (OpenSpec.ofChange fnKeepsSpec)) fnKeepsCard

/-- THE SECOND FORM's CARD OF 'laws.FnExactRemoveClient'. -/
def fnExactRemoveClientUptoCard : Claim7 := { stood := { row := fnExactRemoveClientUptoRow, standIns := [], harness := (true, "673b0d85f216fdc5e13a61dd2f59d84d6401209a2163e660de76d8526451744c"), looks := false }, kinds := [], alts := [], laidByText := true, laidKinds := [.data, .pinned], laidTests := true, laidLooks := .later }
def FnExactRemoveClientUptoCardSaid : Prop := Claim7.holds Tryz.pinned (.plain (OpenSpec.upto fnExactRemoveClientSpec)) fnExactRemoveClientUptoCard

/-- THE SECOND FORM's CARD OF 'laws.FnExactRemove'. -/
def fnExactRemoveUptoCard : Claim7 := { stood := { row := fnExactRemoveUptoRow, standIns := [], harness := (true, "673b0d85f216fdc5e13a61dd2f59d84d6401209a2163e660de76d8526451744c"), looks := false }, kinds := [], alts := [], laidByText := true, laidKinds := [.data, .pinned], laidTests := true, laidLooks := .later }
def FnExactRemoveUptoCardSaid : Prop := Claim7.holds Tryz.pinned (.plain (OpenSpec.upto fnExactRemoveSpec)) fnExactRemoveUptoCard

/-- THE SECOND FORM's CARD OF 'laws.FnExactInsert'. -/
def fnExactInsertUptoCard : Claim7 := { stood := { row := fnExactInsertUptoRow, standIns := [], harness := (true, "673b0d85f216fdc5e13a61dd2f59d84d6401209a2163e660de76d8526451744c"), looks := false }, kinds := [], alts := [], laidByText := true, laidKinds := [.data, .pinned], laidTests := true, laidLooks := .later }
def FnExactInsertUptoCardSaid : Prop := Claim7.holds Tryz.pinned (.plain (OpenSpec.upto fnExactInsertSpec)) fnExactInsertUptoCard

/-- THE SECOND FORM's CARD OF 'laws.FnExactLookup'. -/
def fnExactLookupUptoCard : Claim7 := { stood := { row := fnExactLookupUptoRow, standIns := [], harness := (true, "673b0d85f216fdc5e13a61dd2f59d84d6401209a2163e660de76d8526451744c"), looks := false }, kinds := [], alts := [], laidByText := true, laidKinds := [.data, .pinned], laidTests := true, laidLooks := .later }
def FnExactLookupUptoCardSaid : Prop := Claim7.holds Tryz.pinned (.plain (OpenSpec.upto fnExactLookupSpec)) fnExactLookupUptoCard

/-- THE SECOND FORM's CARD OF 'laws.FnExactRootDrop'. -/
def fnExactRootDropUptoCard : Claim7 := { stood := { row := fnExactRootDropUptoRow, standIns := [], harness := (true, "673b0d85f216fdc5e13a61dd2f59d84d6401209a2163e660de76d8526451744c"), looks := false }, kinds := [], alts := [], laidByText := true, laidKinds := [.data, .pinned], laidTests := true, laidLooks := .later }
def FnExactRootDropUptoCardSaid : Prop := Claim7.holds Tryz.pinned (.plain (OpenSpec.upto fnExactRootDropSpec)) fnExactRootDropUptoCard

/-- THE SECOND FORM's CARD OF 'laws.FnExactRootUnsub'. -/
def fnExactRootUnsubUptoCard : Claim7 := { stood := { row := fnExactRootUnsubUptoRow, standIns := [], harness := (true, "673b0d85f216fdc5e13a61dd2f59d84d6401209a2163e660de76d8526451744c"), looks := false }, kinds := [], alts := [], laidByText := true, laidKinds := [.data, .pinned], laidTests := true, laidLooks := .later }
def FnExactRootUnsubUptoCardSaid : Prop := Claim7.holds Tryz.pinned (.plain (OpenSpec.upto fnExactRootUnsubSpec)) fnExactRootUnsubUptoCard

/-- THE SECOND FORM's CARD OF 'laws.FnExactRootKeep'. -/
def fnExactRootKeepUptoCard : Claim7 := { stood := { row := fnExactRootKeepUptoRow, standIns := [], harness := (true, "673b0d85f216fdc5e13a61dd2f59d84d6401209a2163e660de76d8526451744c"), looks := false }, kinds := [], alts := [], laidByText := true, laidKinds := [.data, .pinned], laidTests := true, laidLooks := .later }
def FnExactRootKeepUptoCardSaid : Prop := Claim7.holds Tryz.pinned (.plain (OpenSpec.upto fnExactRootKeepSpec)) fnExactRootKeepUptoCard

/-- THE SECOND FORM's CARD OF 'laws.FnExactRootSub'. -/
def fnExactRootSubUptoCard : Claim7 := { stood := { row := fnExactRootSubUptoRow, standIns := [], harness := (true, "673b0d85f216fdc5e13a61dd2f59d84d6401209a2163e660de76d8526451744c"), looks := false }, kinds := [], alts := [], laidByText := true, laidKinds := [.data, .pinned], laidTests := true, laidLooks := .later }
def FnExactRootSubUptoCardSaid : Prop := Claim7.holds Tryz.pinned (.plain (OpenSpec.upto fnExactRootSubSpec)) fnExactRootSubUptoCard

/-- THE SECOND FORM's CARD OF 'laws.FnExactKeptWanted'. -/
def fnExactKeptWantedUptoCard : Claim7 := { stood := { row := fnExactKeptWantedUptoRow, standIns := [], harness := (true, "673b0d85f216fdc5e13a61dd2f59d84d6401209a2163e660de76d8526451744c"), looks := false }, kinds := [], alts := [], laidByText := true, laidKinds := [.data, .pinned], laidTests := true, laidLooks := .later }
def FnExactKeptWantedUptoCardSaid : Prop := Claim7.holds Tryz.pinned (.plain (OpenSpec.upto fnExactKeptWantedSpec)) fnExactKeptWantedUptoCard

/-- THE SECOND FORM's CARD OF 'laws.FnGrown'. -/
def fnGrownUptoCard : Claim7 := { stood := { row := fnGrownUptoRow, standIns := [], harness := (true, "673b0d85f216fdc5e13a61dd2f59d84d6401209a2163e660de76d8526451744c"), looks := false }, kinds := [], alts := [], laidByText := true, laidKinds := [.data, .pinned], laidTests := true, laidLooks := .later }
def FnGrownUptoCardSaid : Prop := Claim7.holds Tryz.pinned (.plain (OpenSpec.upto fnGrownSpec)) fnGrownUptoCard

/-- THE SECOND FORM's CARD OF 'laws.FnTrees'. -/
def fnTreesUptoCard : Claim7 := { stood := { row := fnTreesUptoRow, standIns := [], harness := (true, "673b0d85f216fdc5e13a61dd2f59d84d6401209a2163e660de76d8526451744c"), looks := false }, kinds := [], alts := [], laidByText := true, laidKinds := [.data, .pinned], laidTests := true, laidLooks := .later }
def FnTreesUptoCardSaid : Prop := Claim7.holds Tryz.pinned (.plain (OpenSpec.upto fnTreesSpec)) fnTreesUptoCard

/-- THE SECOND FORM's CARD OF 'laws.FnLookups'. -/
def fnLookupsUptoCard : Claim7 := { stood := { row := fnLookupsUptoRow, standIns := [], harness := (true, "673b0d85f216fdc5e13a61dd2f59d84d6401209a2163e660de76d8526451744c"), looks := false }, kinds := [], alts := [], laidByText := true, laidKinds := [.data, .pinned], laidTests := true, laidLooks := .later }
def FnLookupsUptoCardSaid : Prop := Claim7.holds Tryz.pinned (.plain (OpenSpec.upto fnLookupsSpec)) fnLookupsUptoCard

/-- THE SECOND FORM's CARD OF 'laws.FnUnwants'. -/
def fnUnwantsUptoCard : Claim7 := { stood := { row := fnUnwantsUptoRow, standIns := [], harness := (true, "673b0d85f216fdc5e13a61dd2f59d84d6401209a2163e660de76d8526451744c"), looks := false }, kinds := [], alts := [], laidByText := true, laidKinds := [.data, .pinned], laidTests := true, laidLooks := .later }
def FnUnwantsUptoCardSaid : Prop := Claim7.holds Tryz.pinned (.plain (OpenSpec.upto fnUnwantsSpec)) fnUnwantsUptoCard

/-- THE SECOND FORM's CARD OF 'laws.FnRoots'. -/
def fnRootsUptoCard : Claim7 := { stood := { row := fnRootsUptoRow, standIns := [], harness := (true, "673b0d85f216fdc5e13a61dd2f59d84d6401209a2163e660de76d8526451744c"), looks := false }, kinds := [], alts := [], laidByText := true, laidKinds := [.data, .pinned], laidTests := true, laidLooks := .later }
def FnRootsUptoCardSaid : Prop := Claim7.holds Tryz.pinned (.plain (OpenSpec.upto fnRootsSpec)) fnRootsUptoCard

/-- THE SECOND FORM's CARD OF 'laws.FnKeeps'. -/
def fnKeepsUptoCard : Claim7 := { stood := { row := fnKeepsUptoRow, standIns := [], harness := (true, "673b0d85f216fdc5e13a61dd2f59d84d6401209a2163e660de76d8526451744c"), looks := false }, kinds := [], alts := [], laidByText := true, laidKinds := [.data, .pinned], laidTests := true, laidLooks := .later }
def FnKeepsUptoCardSaid : Prop := Claim7.holds Tryz.pinned (.plain (OpenSpec.upto fnKeepsSpec)) fnKeepsUptoCard
end Rows
end Go.Proofs.YtcnfgfomholheaaGreatDoor
