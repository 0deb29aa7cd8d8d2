/-
  NARROWER THAN 'FOR EVERY INPUT', by the rows' own cells (each row's printed sentence says how): FnExactRemoveClient: loops, laid · FnExactRemove: loops, laid · FnExactInsert: loops, laid · FnExactLookup: loops, laid · FnExactRootDrop: loops, laid · FnExactRootUnsub: loops, laid · FnExactRootKeep: loops, laid · FnExactRootSub: loops, laid · FnExactKeptWanted: loops, laid · FnGrown: laid · FnTrees: laid · FnLookups: laid · FnUnwants: laid · FnRoots: laid · FnKeeps: laid.
  DERIVED. THE GIVEN ROWS OF THIS SEAT. 15 by the template 'for every input the law returns true; each argument reads behind the call as it read before'; 0 by the template 'total and deterministic' (their statements: YtcnfgfomholheaaGreatDoorTotals.lean).
  GIVEN WITH THE SEED: the statements are not yours to turn. If you find one false, say at which input.
  Laid BY PROGRAM, IN A SANDBOX (cutbox-rows.mjs): the forced cells as the released guide's own fill.sh prints them over the translation e2b06c0d7230988c… (all of the seat's roots in one cut). By AI agents, Wed Nov 11 2026. No macro, syntax, notation, axiom, sorry.
-/
import Derived.Test.YtcnfgfomholheaaGreatDoorChecked
import GoSem.PinnedTables
import GoSem.Claim
import GoSem.ClaimJoined
import GoSem.ClaimMapViews
import Derived.JoinedTies
import Derived.KernelRfl
namespace Go.Proofs.YtcnfgfomholheaaGreatDoor
/- THE CELL 'sum', in the pinned program and in every row, IS THE sha256 OF THE DUMP (.gsa) THAT YtcnfgfomholheaaGreatDoorProg.lean LOADS. Nothing in Lean hashes anything: it is a label: what it is worth is what the hold of that sum in a sandbox is worth. -/
noncomputable def Tryz.pinned : Pinned := { name := "ytcnfgfomholheaagreatdoor", sum := "e2b06c0d7230988cd798244680c4bdacbba58432b40c1f7de7ea9538b5c2ec29", checked := Tryz.checked }
namespace Rows
def none {H : Type} : Left H := { results := [], args := [] }

/- WHAT THE LISTED PACKAGE-LEVEL VARIABLES READ AS WHEN THE CALL BEGINS. Each datum BY PROGRAM (the guide's laid-datum.mjs) off the statement by which the dump's own 'gosem.cut.vars' lays the variable. In a bare row this is a premise. The card (YtcnfgfomholheaaGreatDoorCards.lean) ties it to the program's text. -/
def laid_unicode_utf8_acceptRanges {H : Type} : DataW H := .agg [.agg [.lit (.int .u8 128), .lit (.int .u8 191)], .agg [.lit (.int .u8 160), .lit (.int .u8 191)], .agg [.lit (.int .u8 128), .lit (.int .u8 159)], .agg [.lit (.int .u8 144), .lit (.int .u8 191)], .agg [.lit (.int .u8 128), .lit (.int .u8 143)], .agg [.lit (.int .u8 0), .lit (.int .u8 0)], .agg [.lit (.int .u8 0), .lit (.int .u8 0)], .agg [.lit (.int .u8 0), .lit (.int .u8 0)], .agg [.lit (.int .u8 0), .lit (.int .u8 0)], .agg [.lit (.int .u8 0), .lit (.int .u8 0)], .agg [.lit (.int .u8 0), .lit (.int .u8 0)], .agg [.lit (.int .u8 0), .lit (.int .u8 0)], .agg [.lit (.int .u8 0), .lit (.int .u8 0)], .agg [.lit (.int .u8 0), .lit (.int .u8 0)], .agg [.lit (.int .u8 0), .lit (.int .u8 0)], .agg [.lit (.int .u8 0), .lit (.int .u8 0)]]
/-- One of Go's own tables, pinned by name: the form's constant. -/
def laid_unicode_utf8_first : DataW Unit := Go.Pinned.utf8First

/-- 'laws.FnExactRemoveClient': WHATEVER THE INPUT: true; the input reads as it did. -/
def fnExactRemoveClientSpec : ChangeSpec := { name := "fnExactRemoveClient", fn := fun _ => fun
  | [d1, d2] => { results := [.lit (.bool true)], args := [d1, d2] }
  | _ => none }
def fnExactRemoveClientRow : OpenClaim := { program := "ytcnfgfomholheaagreatdoor", sum := "e2b06c0d7230988cd798244680c4bdacbba58432b40c1f7de7ea9538b5c2ec29", func := "loop.example/g00480/laws.FnExactRemoveClient", spec := "fnExactRemoveClient", inPlace := ["internal/abi.NoEscape", "internal/bytealg.MakeNoZero", "internal/bytealg.CountString", "internal/bytealg.IndexByteString", "internal/bytealg.IndexString"], unfollowed := true, recurses := true, named := ["unicode/utf8.first", "unicode/utf8.acceptRanges", "internal/bytealg.MaxLen"], loops := true, apart := false, laid := [("unicode/utf8.acceptRanges", laid_unicode_utf8_acceptRanges), ("unicode/utf8.first", laid_unicode_utf8_first)] }
def FnExactRemoveClientSaid : Prop := fnExactRemoveClientRow.holds Tryz.pinned (OpenSpec.ofChange fnExactRemoveClientSpec)

/-- ITS FALSE NEIGHBOUR: 'it returns false'. Refute it at one input. -/
def fnExactRemoveClientWrong : ChangeSpec := { name := "fnExactRemoveClient", fn := fun _ => fun
  | [d1, d2] => { results := [.lit (.bool false)], args := [d1, d2] }
  | _ => none }
def FnExactRemoveClientWrongFalsely : Prop := fnExactRemoveClientRow.holds Tryz.pinned (OpenSpec.ofChange fnExactRemoveClientWrong)

/-- 'laws.FnExactRemove': WHATEVER THE INPUT: true; the input reads as it did. -/
def fnExactRemoveSpec : ChangeSpec := { name := "fnExactRemove", fn := fun _ => fun
  | [d1, d2, d3] => { results := [.lit (.bool true)], args := [d1, d2, d3] }
  | _ => none }
def fnExactRemoveRow : OpenClaim := { program := "ytcnfgfomholheaagreatdoor", sum := "e2b06c0d7230988cd798244680c4bdacbba58432b40c1f7de7ea9538b5c2ec29", func := "loop.example/g00480/laws.FnExactRemove", spec := "fnExactRemove", inPlace := ["internal/abi.NoEscape", "internal/bytealg.MakeNoZero", "internal/bytealg.CountString", "internal/bytealg.IndexByteString", "internal/bytealg.IndexString"], unfollowed := true, recurses := true, named := ["unicode/utf8.first", "unicode/utf8.acceptRanges", "internal/bytealg.MaxLen"], loops := true, apart := false, laid := [("unicode/utf8.acceptRanges", laid_unicode_utf8_acceptRanges), ("unicode/utf8.first", laid_unicode_utf8_first)] }
def FnExactRemoveSaid : Prop := fnExactRemoveRow.holds Tryz.pinned (OpenSpec.ofChange fnExactRemoveSpec)

/-- ITS FALSE NEIGHBOUR: 'it returns false'. Refute it at one input. -/
def fnExactRemoveWrong : ChangeSpec := { name := "fnExactRemove", fn := fun _ => fun
  | [d1, d2, d3] => { results := [.lit (.bool false)], args := [d1, d2, d3] }
  | _ => none }
def FnExactRemoveWrongFalsely : Prop := fnExactRemoveRow.holds Tryz.pinned (OpenSpec.ofChange fnExactRemoveWrong)

/-- 'laws.FnExactInsert': WHATEVER THE INPUT: true; the input reads as it did. -/
def fnExactInsertSpec : ChangeSpec := { name := "fnExactInsert", fn := fun _ => fun
  | [d1, d2, d3] => { results := [.lit (.bool true)], args := [d1, d2, d3] }
  | _ => none }
def fnExactInsertRow : OpenClaim := { program := "ytcnfgfomholheaagreatdoor", sum := "e2b06c0d7230988cd798244680c4bdacbba58432b40c1f7de7ea9538b5c2ec29", func := "loop.example/g00480/laws.FnExactInsert", spec := "fnExactInsert", inPlace := ["internal/abi.NoEscape", "internal/bytealg.MakeNoZero", "internal/bytealg.CountString", "internal/bytealg.IndexByteString", "internal/bytealg.IndexString", "slices.overlaps[loop.example/g00480/impl.Sub]", "slices.overlaps[string]", "slices.overlaps[loop.example/g00480/impl.Node]"], unfollowed := true, recurses := true, named := ["unicode/utf8.first", "unicode/utf8.acceptRanges", "internal/bytealg.MaxLen"], loops := true, apart := false, laid := [("unicode/utf8.acceptRanges", laid_unicode_utf8_acceptRanges), ("unicode/utf8.first", laid_unicode_utf8_first)] }
def FnExactInsertSaid : Prop := fnExactInsertRow.holds Tryz.pinned (OpenSpec.ofChange fnExactInsertSpec)

/-- ITS FALSE NEIGHBOUR: 'it returns false'. Refute it at one input. -/
def fnExactInsertWrong : ChangeSpec := { name := "fnExactInsert", fn := fun _ => fun
  | [d1, d2, d3] => { results := [.lit (.bool false)], args := [d1, d2, d3] }
  | _ => none }
def FnExactInsertWrongFalsely : Prop := fnExactInsertRow.holds Tryz.pinned (OpenSpec.ofChange fnExactInsertWrong)

/-- 'laws.FnExactLookup': WHATEVER THE INPUT: true; the input reads as it did. -/
def fnExactLookupSpec : ChangeSpec := { name := "fnExactLookup", fn := fun _ => fun
  | [d1, d2] => { results := [.lit (.bool true)], args := [d1, d2] }
  | _ => none }
def fnExactLookupRow : OpenClaim := { program := "ytcnfgfomholheaagreatdoor", sum := "e2b06c0d7230988cd798244680c4bdacbba58432b40c1f7de7ea9538b5c2ec29", func := "loop.example/g00480/laws.FnExactLookup", spec := "fnExactLookup", inPlace := ["internal/abi.NoEscape", "internal/bytealg.MakeNoZero", "internal/bytealg.CountString", "internal/bytealg.IndexByteString", "internal/bytealg.IndexString", "slices.overlaps[loop.example/g00480/impl.Sub]"], unfollowed := true, recurses := true, named := ["unicode/utf8.first", "unicode/utf8.acceptRanges", "internal/bytealg.MaxLen"], loops := true, apart := false, laid := [("unicode/utf8.acceptRanges", laid_unicode_utf8_acceptRanges), ("unicode/utf8.first", laid_unicode_utf8_first)] }
def FnExactLookupSaid : Prop := fnExactLookupRow.holds Tryz.pinned (OpenSpec.ofChange fnExactLookupSpec)

/-- ITS FALSE NEIGHBOUR: 'it returns false'. Refute it at one input. -/
def fnExactLookupWrong : ChangeSpec := { name := "fnExactLookup", fn := fun _ => fun
  | [d1, d2] => { results := [.lit (.bool false)], args := [d1, d2] }
  | _ => none }
def FnExactLookupWrongFalsely : Prop := fnExactLookupRow.holds Tryz.pinned (OpenSpec.ofChange fnExactLookupWrong)

/-- 'laws.FnExactRootDrop': WHATEVER THE INPUT: true; the input reads as it did. -/
def fnExactRootDropSpec : ChangeSpec := { name := "fnExactRootDrop", fn := fun _ => fun
  | [d1, d2] => { results := [.lit (.bool true)], args := [d1, d2] }
  | _ => none }
def fnExactRootDropRow : OpenClaim := { program := "ytcnfgfomholheaagreatdoor", sum := "e2b06c0d7230988cd798244680c4bdacbba58432b40c1f7de7ea9538b5c2ec29", func := "loop.example/g00480/laws.FnExactRootDrop", spec := "fnExactRootDrop", inPlace := ["internal/abi.NoEscape", "internal/bytealg.MakeNoZero", "internal/bytealg.CountString", "internal/bytealg.IndexByteString", "internal/bytealg.IndexString"], unfollowed := true, recurses := true, named := ["unicode/utf8.first", "unicode/utf8.acceptRanges", "internal/bytealg.MaxLen"], loops := true, apart := false, laid := [("unicode/utf8.acceptRanges", laid_unicode_utf8_acceptRanges), ("unicode/utf8.first", laid_unicode_utf8_first)] }
def FnExactRootDropSaid : Prop := fnExactRootDropRow.holds Tryz.pinned (OpenSpec.ofChange fnExactRootDropSpec)

/-- ITS FALSE NEIGHBOUR: 'it returns false'. Refute it at one input. -/
def fnExactRootDropWrong : ChangeSpec := { name := "fnExactRootDrop", fn := fun _ => fun
  | [d1, d2] => { results := [.lit (.bool false)], args := [d1, d2] }
  | _ => none }
def FnExactRootDropWrongFalsely : Prop := fnExactRootDropRow.holds Tryz.pinned (OpenSpec.ofChange fnExactRootDropWrong)

/-- 'laws.FnExactRootUnsub': WHATEVER THE INPUT: true; the input reads as it did. -/
def fnExactRootUnsubSpec : ChangeSpec := { name := "fnExactRootUnsub", fn := fun _ => fun
  | [d1, d2, d3] => { results := [.lit (.bool true)], args := [d1, d2, d3] }
  | _ => none }
def fnExactRootUnsubRow : OpenClaim := { program := "ytcnfgfomholheaagreatdoor", sum := "e2b06c0d7230988cd798244680c4bdacbba58432b40c1f7de7ea9538b5c2ec29", func := "loop.example/g00480/laws.FnExactRootUnsub", spec := "fnExactRootUnsub", inPlace := ["internal/abi.NoEscape", "internal/bytealg.MakeNoZero", "internal/bytealg.CountString", "internal/bytealg.IndexByteString", "internal/bytealg.IndexString"], unfollowed := true, recurses := true, named := ["unicode/utf8.first", "unicode/utf8.acceptRanges", "internal/bytealg.MaxLen"], loops := true, apart := false, laid := [("unicode/utf8.acceptRanges", laid_unicode_utf8_acceptRanges), ("unicode/utf8.first", laid_unicode_utf8_first)] }
def FnExactRootUnsubSaid : Prop := fnExactRootUnsubRow.holds Tryz.pinned (OpenSpec.ofChange fnExactRootUnsubSpec)

/-- ITS FALSE NEIGHBOUR: 'it returns false'. Refute it at one input. -/
def fnExactRootUnsubWrong : ChangeSpec := { name := "fnExactRootUnsub", fn := fun _ => fun
  | [d1, d2, d3] => { results := [.lit (.bool false)], args := [d1, d2, d3] }
  | _ => none }
def FnExactRootUnsubWrongFalsely : Prop := fnExactRootUnsubRow.holds Tryz.pinned (OpenSpec.ofChange fnExactRootUnsubWrong)

/-- 'laws.FnExactRootKeep': WHATEVER THE INPUT: true; the input reads as it did. -/
def fnExactRootKeepSpec : ChangeSpec := { name := "fnExactRootKeep", fn := fun _ => fun
  | [d1, d2, d3, d4] => { results := [.lit (.bool true)], args := [d1, d2, d3, d4] }
  | _ => none }
def fnExactRootKeepRow : OpenClaim := { program := "ytcnfgfomholheaagreatdoor", sum := "e2b06c0d7230988cd798244680c4bdacbba58432b40c1f7de7ea9538b5c2ec29", func := "loop.example/g00480/laws.FnExactRootKeep", spec := "fnExactRootKeep", inPlace := ["internal/abi.NoEscape", "internal/bytealg.MakeNoZero", "internal/bytealg.CountString", "internal/bytealg.IndexByteString", "internal/bytealg.IndexString", "slices.overlaps[loop.example/g00480/impl.Kept]"], unfollowed := true, recurses := true, named := ["unicode/utf8.first", "unicode/utf8.acceptRanges", "internal/bytealg.MaxLen"], loops := true, apart := false, laid := [("unicode/utf8.acceptRanges", laid_unicode_utf8_acceptRanges), ("unicode/utf8.first", laid_unicode_utf8_first)] }
def FnExactRootKeepSaid : Prop := fnExactRootKeepRow.holds Tryz.pinned (OpenSpec.ofChange fnExactRootKeepSpec)

/-- ITS FALSE NEIGHBOUR: 'it returns false'. Refute it at one input. -/
def fnExactRootKeepWrong : ChangeSpec := { name := "fnExactRootKeep", fn := fun _ => fun
  | [d1, d2, d3, d4] => { results := [.lit (.bool false)], args := [d1, d2, d3, d4] }
  | _ => none }
def FnExactRootKeepWrongFalsely : Prop := fnExactRootKeepRow.holds Tryz.pinned (OpenSpec.ofChange fnExactRootKeepWrong)

/-- 'laws.FnExactRootSub': WHATEVER THE INPUT: true; the input reads as it did. -/
def fnExactRootSubSpec : ChangeSpec := { name := "fnExactRootSub", fn := fun _ => fun
  | [d1, d2, d3, d4] => { results := [.lit (.bool true)], args := [d1, d2, d3, d4] }
  | _ => none }
def fnExactRootSubRow : OpenClaim := { program := "ytcnfgfomholheaagreatdoor", sum := "e2b06c0d7230988cd798244680c4bdacbba58432b40c1f7de7ea9538b5c2ec29", func := "loop.example/g00480/laws.FnExactRootSub", spec := "fnExactRootSub", inPlace := ["internal/abi.NoEscape", "internal/bytealg.MakeNoZero", "internal/bytealg.CountString", "internal/bytealg.IndexByteString", "internal/bytealg.IndexString", "slices.overlaps[loop.example/g00480/impl.Sub]", "slices.overlaps[string]", "slices.overlaps[loop.example/g00480/impl.Node]"], unfollowed := true, recurses := true, named := ["unicode/utf8.first", "unicode/utf8.acceptRanges", "internal/bytealg.MaxLen"], loops := true, apart := false, laid := [("unicode/utf8.acceptRanges", laid_unicode_utf8_acceptRanges), ("unicode/utf8.first", laid_unicode_utf8_first)] }
def FnExactRootSubSaid : Prop := fnExactRootSubRow.holds Tryz.pinned (OpenSpec.ofChange fnExactRootSubSpec)

/-- ITS FALSE NEIGHBOUR: 'it returns false'. Refute it at one input. -/
def fnExactRootSubWrong : ChangeSpec := { name := "fnExactRootSub", fn := fun _ => fun
  | [d1, d2, d3, d4] => { results := [.lit (.bool false)], args := [d1, d2, d3, d4] }
  | _ => none }
def FnExactRootSubWrongFalsely : Prop := fnExactRootSubRow.holds Tryz.pinned (OpenSpec.ofChange fnExactRootSubWrong)

/-- 'laws.FnExactKeptWanted': WHATEVER THE INPUT: true; the input reads as it did. -/
def fnExactKeptWantedSpec : ChangeSpec := { name := "fnExactKeptWanted", fn := fun _ => fun
  | [d1, d2, d3] => { results := [.lit (.bool true)], args := [d1, d2, d3] }
  | _ => none }
def fnExactKeptWantedRow : OpenClaim := { program := "ytcnfgfomholheaagreatdoor", sum := "e2b06c0d7230988cd798244680c4bdacbba58432b40c1f7de7ea9538b5c2ec29", func := "loop.example/g00480/laws.FnExactKeptWanted", spec := "fnExactKeptWanted", inPlace := ["internal/abi.NoEscape", "internal/bytealg.MakeNoZero", "internal/bytealg.CountString", "internal/bytealg.IndexByteString", "internal/bytealg.IndexString"], recurses := true, named := ["unicode/utf8.first", "unicode/utf8.acceptRanges", "internal/bytealg.MaxLen"], loops := true, apart := false, laid := [("unicode/utf8.acceptRanges", laid_unicode_utf8_acceptRanges), ("unicode/utf8.first", laid_unicode_utf8_first)] }
def FnExactKeptWantedSaid : Prop := fnExactKeptWantedRow.holds Tryz.pinned (OpenSpec.ofChange fnExactKeptWantedSpec)

/-- ITS FALSE NEIGHBOUR: 'it returns false'. Refute it at one input. -/
def fnExactKeptWantedWrong : ChangeSpec := { name := "fnExactKeptWanted", fn := fun _ => fun
  | [d1, d2, d3] => { results := [.lit (.bool false)], args := [d1, d2, d3] }
  | _ => none }
def FnExactKeptWantedWrongFalsely : Prop := fnExactKeptWantedRow.holds Tryz.pinned (OpenSpec.ofChange fnExactKeptWantedWrong)

/-- 'laws.FnGrown': WHATEVER THE INPUT: true; the input reads as it did. -/
def fnGrownSpec : ChangeSpec := { name := "fnGrown", fn := fun _ => fun
  | [d] => { results := [.lit (.bool true)], args := [d] }
  | _ => none }
def fnGrownRow : OpenClaim := { program := "ytcnfgfomholheaagreatdoor", sum := "e2b06c0d7230988cd798244680c4bdacbba58432b40c1f7de7ea9538b5c2ec29", func := "loop.example/g00480/laws.FnGrown", spec := "fnGrown", inPlace := ["internal/abi.NoEscape", "internal/bytealg.MakeNoZero", "internal/bytealg.CountString", "internal/bytealg.IndexByteString", "internal/bytealg.IndexString", "slices.overlaps[loop.example/g00480/impl.Sub]", "slices.overlaps[string]", "slices.overlaps[loop.example/g00480/impl.Node]"], unfollowed := true, recurses := true, named := ["unicode/utf8.first", "unicode/utf8.acceptRanges", "internal/bytealg.MaxLen"], apart := false, laid := [("unicode/utf8.acceptRanges", laid_unicode_utf8_acceptRanges), ("unicode/utf8.first", laid_unicode_utf8_first)] }
def FnGrownSaid : Prop := fnGrownRow.holds Tryz.pinned (OpenSpec.ofChange fnGrownSpec)

/-- ITS FALSE NEIGHBOUR: 'it returns false'. Refute it at one input. -/
def fnGrownWrong : ChangeSpec := { name := "fnGrown", fn := fun _ => fun
  | [d] => { results := [.lit (.bool false)], args := [d] }
  | _ => none }
def FnGrownWrongFalsely : Prop := fnGrownRow.holds Tryz.pinned (OpenSpec.ofChange fnGrownWrong)

/-- 'laws.FnTrees': WHATEVER THE INPUT: true; the input reads as it did. -/
def fnTreesSpec : ChangeSpec := { name := "fnTrees", fn := fun _ => fun
  | [d] => { results := [.lit (.bool true)], args := [d] }
  | _ => none }
def fnTreesRow : OpenClaim := { program := "ytcnfgfomholheaagreatdoor", sum := "e2b06c0d7230988cd798244680c4bdacbba58432b40c1f7de7ea9538b5c2ec29", func := "loop.example/g00480/laws.FnTrees", spec := "fnTrees", inPlace := ["internal/abi.NoEscape", "internal/bytealg.MakeNoZero", "internal/bytealg.CountString", "internal/bytealg.IndexByteString", "internal/bytealg.IndexString", "slices.overlaps[loop.example/g00480/impl.Sub]", "slices.overlaps[string]", "slices.overlaps[loop.example/g00480/impl.Node]"], unfollowed := true, recurses := true, named := ["unicode/utf8.first", "unicode/utf8.acceptRanges", "internal/bytealg.MaxLen"], apart := false, laid := [("unicode/utf8.acceptRanges", laid_unicode_utf8_acceptRanges), ("unicode/utf8.first", laid_unicode_utf8_first)] }
def FnTreesSaid : Prop := fnTreesRow.holds Tryz.pinned (OpenSpec.ofChange fnTreesSpec)

/-- ITS FALSE NEIGHBOUR: 'it returns false'. Refute it at one input. -/
def fnTreesWrong : ChangeSpec := { name := "fnTrees", fn := fun _ => fun
  | [d] => { results := [.lit (.bool false)], args := [d] }
  | _ => none }
def FnTreesWrongFalsely : Prop := fnTreesRow.holds Tryz.pinned (OpenSpec.ofChange fnTreesWrong)

/-- 'laws.FnLookups': WHATEVER THE INPUT: true; the input reads as it did. -/
def fnLookupsSpec : ChangeSpec := { name := "fnLookups", fn := fun _ => fun
  | [d] => { results := [.lit (.bool true)], args := [d] }
  | _ => none }
def fnLookupsRow : OpenClaim := { program := "ytcnfgfomholheaagreatdoor", sum := "e2b06c0d7230988cd798244680c4bdacbba58432b40c1f7de7ea9538b5c2ec29", func := "loop.example/g00480/laws.FnLookups", spec := "fnLookups", inPlace := ["internal/abi.NoEscape", "internal/bytealg.MakeNoZero", "internal/bytealg.CountString", "internal/bytealg.IndexByteString", "internal/bytealg.IndexString", "slices.overlaps[loop.example/g00480/impl.Sub]"], unfollowed := true, recurses := true, named := ["unicode/utf8.first", "unicode/utf8.acceptRanges", "internal/bytealg.MaxLen"], apart := false, laid := [("unicode/utf8.acceptRanges", laid_unicode_utf8_acceptRanges), ("unicode/utf8.first", laid_unicode_utf8_first)] }
def FnLookupsSaid : Prop := fnLookupsRow.holds Tryz.pinned (OpenSpec.ofChange fnLookupsSpec)

/-- ITS FALSE NEIGHBOUR: 'it returns false'. Refute it at one input. -/
def fnLookupsWrong : ChangeSpec := { name := "fnLookups", fn := fun _ => fun
  | [d] => { results := [.lit (.bool false)], args := [d] }
  | _ => none }
def FnLookupsWrongFalsely : Prop := fnLookupsRow.holds Tryz.pinned (OpenSpec.ofChange fnLookupsWrong)

/-- 'laws.FnUnwants': WHATEVER THE INPUT: true; the input reads as it did. -/
def fnUnwantsSpec : ChangeSpec := { name := "fnUnwants", fn := fun _ => fun
  | [d] => { results := [.lit (.bool true)], args := [d] }
  | _ => none }
def fnUnwantsRow : OpenClaim := { program := "ytcnfgfomholheaagreatdoor", sum := "e2b06c0d7230988cd798244680c4bdacbba58432b40c1f7de7ea9538b5c2ec29", func := "loop.example/g00480/laws.FnUnwants", spec := "fnUnwants", inPlace := ["internal/abi.NoEscape", "internal/bytealg.MakeNoZero", "internal/bytealg.CountString", "internal/bytealg.IndexByteString", "internal/bytealg.IndexString"], unfollowed := true, recurses := true, named := ["unicode/utf8.first", "unicode/utf8.acceptRanges", "internal/bytealg.MaxLen"], apart := false, laid := [("unicode/utf8.acceptRanges", laid_unicode_utf8_acceptRanges), ("unicode/utf8.first", laid_unicode_utf8_first)] }
def FnUnwantsSaid : Prop := fnUnwantsRow.holds Tryz.pinned (OpenSpec.ofChange fnUnwantsSpec)

/-- ITS FALSE NEIGHBOUR: 'it returns false'. Refute it at one input. -/
def fnUnwantsWrong : ChangeSpec := { name := "fnUnwants", fn := fun _ => fun
  | [d] => { results := [.lit (.bool false)], args := [d] }
  | _ => none }
def FnUnwantsWrongFalsely : Prop := fnUnwantsRow.holds Tryz.pinned (OpenSpec.ofChange fnUnwantsWrong)

/-- 'laws.FnRoots': WHATEVER THE INPUT: true; the input reads as it did. -/
def fnRootsSpec : ChangeSpec := { name := "fnRoots", fn := fun _ => fun
  | [d] => { results := [.lit (.bool true)], args := [d] }
  | _ => none }
def fnRootsRow : OpenClaim := { program := "ytcnfgfomholheaagreatdoor", sum := "e2b06c0d7230988cd798244680c4bdacbba58432b40c1f7de7ea9538b5c2ec29", func := "loop.example/g00480/laws.FnRoots", spec := "fnRoots", inPlace := ["internal/abi.NoEscape", "internal/bytealg.MakeNoZero", "internal/bytealg.CountString", "internal/bytealg.IndexByteString", "internal/bytealg.IndexString", "slices.overlaps[loop.example/g00480/impl.Sub]", "slices.overlaps[string]", "slices.overlaps[loop.example/g00480/impl.Node]"], unfollowed := true, recurses := true, named := ["unicode/utf8.first", "unicode/utf8.acceptRanges", "internal/bytealg.MaxLen"], apart := false, laid := [("unicode/utf8.acceptRanges", laid_unicode_utf8_acceptRanges), ("unicode/utf8.first", laid_unicode_utf8_first)] }
def FnRootsSaid : Prop := fnRootsRow.holds Tryz.pinned (OpenSpec.ofChange fnRootsSpec)

/-- ITS FALSE NEIGHBOUR: 'it returns false'. Refute it at one input. -/
def fnRootsWrong : ChangeSpec := { name := "fnRoots", fn := fun _ => fun
  | [d] => { results := [.lit (.bool false)], args := [d] }
  | _ => none }
def FnRootsWrongFalsely : Prop := fnRootsRow.holds Tryz.pinned (OpenSpec.ofChange fnRootsWrong)

/-- 'laws.FnKeeps': WHATEVER THE INPUT: true; the input reads as it did. -/
def fnKeepsSpec : ChangeSpec := { name := "fnKeeps", fn := fun _ => fun
  | [d] => { results := [.lit (.bool true)], args := [d] }
  | _ => none }
def fnKeepsRow : OpenClaim := { program := "ytcnfgfomholheaagreatdoor", sum := "e2b06c0d7230988cd798244680c4bdacbba58432b40c1f7de7ea9538b5c2ec29", func := "loop.example/g00480/laws.FnKeeps", spec := "fnKeeps", inPlace := ["internal/abi.NoEscape", "internal/bytealg.MakeNoZero", "internal/bytealg.CountString", "internal/bytealg.IndexByteString", "internal/bytealg.IndexString", "slices.overlaps[loop.example/g00480/impl.Kept]"], unfollowed := true, recurses := true, named := ["unicode/utf8.first", "unicode/utf8.acceptRanges", "internal/bytealg.MaxLen"], apart := false, laid := [("unicode/utf8.acceptRanges", laid_unicode_utf8_acceptRanges), ("unicode/utf8.first", laid_unicode_utf8_first)] }
def FnKeepsSaid : Prop := fnKeepsRow.holds Tryz.pinned (OpenSpec.ofChange fnKeepsSpec)

/-- ITS FALSE NEIGHBOUR: 'it returns false'. Refute it at one input. -/
def fnKeepsWrong : ChangeSpec := { name := "fnKeeps", fn := fun _ => fun
  | [d] => { results := [.lit (.bool false)], args := [d] }
  | _ => none }
def FnKeepsWrongFalsely : Prop := fnKeepsRow.holds Tryz.pinned (OpenSpec.ofChange fnKeepsWrong)

/- THE SECOND FORM. 'bulk': how many values and letters a reading holds, each counted each time it is reached (what is shared counts as often as it is met; a slice's spare places count too). A statement '..UptoSaid' is the law's where the arguments, and the package variables that the reading takes, are together of bulk at most 1048576: NARROWER than '..Said'. Prove '..Said' where nothing that the law and all that it calls make is longer than what came in: it says more and counts as full. Else prove '..UptoSaid'. A law counts once. -/
mutual
def uptoBulk {H : Type} : DataW H → Nat
  | .lit (.string bytes) => bytes.length + 1
  | .lit _ => 1
  | .nil => 1
  | .ptr d => uptoBulk d + 1
  | .slice elems spare => uptoBulkAll elems + uptoBulkAll spare + 1
  | .agg parts => uptoBulkAll parts + 1
  | .iface _ d => uptoBulk d + 1
  | .map entries => uptoBulkEntries entries + 1
  | .held _ => 1
def uptoBulkAll {H : Type} : List (DataW H) → Nat
  | [] => 0
  | d :: r => uptoBulk d + uptoBulkAll r
def uptoBulkEntries {H : Type} : List (Lit × DataW H) → Nat
  | [] => 0
  | x :: r => uptoBulkEntry x + uptoBulkEntries r
def uptoBulkEntry {H : Type} : Lit × DataW H → Nat
  | (.string bytes, d) => bytes.length + uptoBulk d + 1
  | (_, d) => uptoBulk d + 1
 end
def uptoSmall : (H : Type) → List (DataW H) → Bool := fun _ ds => decide (uptoBulkAll ds ≤ 1048576)
def OpenSpec.upto (s : _root_.Go.ChangeSpec) : _root_.Go.OpenSpec := { _root_.Go.OpenSpec.ofChange s with cond := some uptoSmall }

/-- 'laws.FnExactRemoveClient', WHERE WHAT IT READS IS OF BULK AT MOST 1048576: true; the input reads as it did. -/
def fnExactRemoveClientUptoRow : OpenClaim := { program := "ytcnfgfomholheaagreatdoor", sum := "e2b06c0d7230988cd798244680c4bdacbba58432b40c1f7de7ea9538b5c2ec29", func := "loop.example/g00480/laws.FnExactRemoveClient", spec := "fnExactRemoveClient", inPlace := ["internal/abi.NoEscape", "internal/bytealg.MakeNoZero", "internal/bytealg.CountString", "internal/bytealg.IndexByteString", "internal/bytealg.IndexString"], unfollowed := true, recurses := true, named := ["unicode/utf8.first", "unicode/utf8.acceptRanges", "internal/bytealg.MaxLen"], loops := true, apart := false, laid := [("unicode/utf8.acceptRanges", laid_unicode_utf8_acceptRanges), ("unicode/utf8.first", laid_unicode_utf8_first)], narrowed := true }
def FnExactRemoveClientUptoSaid : Prop := fnExactRemoveClientUptoRow.holds Tryz.pinned (OpenSpec.upto fnExactRemoveClientSpec)

/-- 'laws.FnExactRemove', WHERE WHAT IT READS IS OF BULK AT MOST 1048576: true; the input reads as it did. -/
def fnExactRemoveUptoRow : OpenClaim := { program := "ytcnfgfomholheaagreatdoor", sum := "e2b06c0d7230988cd798244680c4bdacbba58432b40c1f7de7ea9538b5c2ec29", func := "loop.example/g00480/laws.FnExactRemove", spec := "fnExactRemove", inPlace := ["internal/abi.NoEscape", "internal/bytealg.MakeNoZero", "internal/bytealg.CountString", "internal/bytealg.IndexByteString", "internal/bytealg.IndexString"], unfollowed := true, recurses := true, named := ["unicode/utf8.first", "unicode/utf8.acceptRanges", "internal/bytealg.MaxLen"], loops := true, apart := false, laid := [("unicode/utf8.acceptRanges", laid_unicode_utf8_acceptRanges), ("unicode/utf8.first", laid_unicode_utf8_first)], narrowed := true }
def FnExactRemoveUptoSaid : Prop := fnExactRemoveUptoRow.holds Tryz.pinned (OpenSpec.upto fnExactRemoveSpec)

/-- 'laws.FnExactInsert', WHERE WHAT IT READS IS OF BULK AT MOST 1048576: true; the input reads as it did. -/
def fnExactInsertUptoRow : OpenClaim := { program := "ytcnfgfomholheaagreatdoor", sum := "e2b06c0d7230988cd798244680c4bdacbba58432b40c1f7de7ea9538b5c2ec29", func := "loop.example/g00480/laws.FnExactInsert", spec := "fnExactInsert", inPlace := ["internal/abi.NoEscape", "internal/bytealg.MakeNoZero", "internal/bytealg.CountString", "internal/bytealg.IndexByteString", "internal/bytealg.IndexString", "slices.overlaps[loop.example/g00480/impl.Sub]", "slices.overlaps[string]", "slices.overlaps[loop.example/g00480/impl.Node]"], unfollowed := true, recurses := true, named := ["unicode/utf8.first", "unicode/utf8.acceptRanges", "internal/bytealg.MaxLen"], loops := true, apart := false, laid := [("unicode/utf8.acceptRanges", laid_unicode_utf8_acceptRanges), ("unicode/utf8.first", laid_unicode_utf8_first)], narrowed := true }
def FnExactInsertUptoSaid : Prop := fnExactInsertUptoRow.holds Tryz.pinned (OpenSpec.upto fnExactInsertSpec)

/-- 'laws.FnExactLookup', WHERE WHAT IT READS IS OF BULK AT MOST 1048576: true; the input reads as it did. -/
def fnExactLookupUptoRow : OpenClaim := { program := "ytcnfgfomholheaagreatdoor", sum := "e2b06c0d7230988cd798244680c4bdacbba58432b40c1f7de7ea9538b5c2ec29", func := "loop.example/g00480/laws.FnExactLookup", spec := "fnExactLookup", inPlace := ["internal/abi.NoEscape", "internal/bytealg.MakeNoZero", "internal/bytealg.CountString", "internal/bytealg.IndexByteString", "internal/bytealg.IndexString", "slices.overlaps[loop.example/g00480/impl.Sub]"], unfollowed := true, recurses := true, named := ["unicode/utf8.first", "unicode/utf8.acceptRanges", "internal/bytealg.MaxLen"], loops := true, apart := false, laid := [("unicode/utf8.acceptRanges", laid_unicode_utf8_acceptRanges), ("unicode/utf8.first", laid_unicode_utf8_first)], narrowed := true }
def FnExactLookupUptoSaid : Prop := fnExactLookupUptoRow.holds Tryz.pinned (OpenSpec.upto fnExactLookupSpec)

/-- 'laws.FnExactRootDrop', WHERE WHAT IT READS IS OF BULK AT MOST 1048576: true; the input reads as it did. -/
def fnExactRootDropUptoRow : OpenClaim := { program := "ytcnfgfomholheaagreatdoor", sum := "e2b06c0d7230988cd798244680c4bdacbba58432b40c1f7de7ea9538b5c2ec29", func := "loop.example/g00480/laws.FnExactRootDrop", spec := "fnExactRootDrop", inPlace := ["internal/abi.NoEscape", "internal/bytealg.MakeNoZero", "internal/bytealg.CountString", "internal/bytealg.IndexByteString", "internal/bytealg.IndexString"], unfollowed := true, recurses := true, named := ["unicode/utf8.first", "unicode/utf8.acceptRanges", "internal/bytealg.MaxLen"], loops := true, apart := false, laid := [("unicode/utf8.acceptRanges", laid_unicode_utf8_acceptRanges), ("unicode/utf8.first", laid_unicode_utf8_first)], narrowed := true }
def FnExactRootDropUptoSaid : Prop := fnExactRootDropUptoRow.holds Tryz.pinned (OpenSpec.upto fnExactRootDropSpec)

/-- 'laws.FnExactRootUnsub', WHERE WHAT IT READS IS OF BULK AT MOST 1048576: true; the input reads as it did. -/
def fnExactRootUnsubUptoRow : OpenClaim := { program := "ytcnfgfomholheaagreatdoor", sum := "e2b06c0d7230988cd798244680c4bdacbba58432b40c1f7de7ea9538b5c2ec29", func := "loop.example/g00480/laws.FnExactRootUnsub", spec := "fnExactRootUnsub", inPlace := ["internal/abi.NoEscape", "internal/bytealg.MakeNoZero", "internal/bytealg.CountString", "internal/bytealg.IndexByteString", "internal/bytealg.IndexString"], unfollowed := true, recurses := true, named := ["unicode/utf8.first", "unicode/utf8.acceptRanges", "internal/bytealg.MaxLen"], loops := true, apart := false, laid := [("unicode/utf8.acceptRanges", laid_unicode_utf8_acceptRanges), ("unicode/utf8.first", laid_unicode_utf8_first)], narrowed := true }
def FnExactRootUnsubUptoSaid : Prop := fnExactRootUnsubUptoRow.holds Tryz.pinned (OpenSpec.upto fnExactRootUnsubSpec)

/-- 'laws.FnExactRootKeep', WHERE WHAT IT READS IS OF BULK AT MOST 1048576: true; the input reads as it did. -/
def fnExactRootKeepUptoRow : OpenClaim := { program := "ytcnfgfomholheaagreatdoor", sum := "e2b06c0d7230988cd798244680c4bdacbba58432b40c1f7de7ea9538b5c2ec29", func := "loop.example/g00480/laws.FnExactRootKeep", spec := "fnExactRootKeep", inPlace := ["internal/abi.NoEscape", "internal/bytealg.MakeNoZero", "internal/bytealg.CountString", "internal/bytealg.IndexByteString", "internal/bytealg.IndexString", "slices.overlaps[loop.example/g00480/impl.Kept]"], unfollowed := true, recurses := true, named := ["unicode/utf8.first", "unicode/utf8.acceptRanges", "internal/bytealg.MaxLen"], loops := true, apart := false, laid := [("unicode/utf8.acceptRanges", laid_unicode_utf8_acceptRanges), ("unicode/utf8.first", laid_unicode_utf8_first)], narrowed := true }
def FnExactRootKeepUptoSaid : Prop := fnExactRootKeepUptoRow.holds Tryz.pinned (OpenSpec.upto fnExactRootKeepSpec)

/-- 'laws.FnExactRootSub', WHERE WHAT IT READS IS OF BULK AT MOST 1048576: true; the input reads as it did. -/
def fnExactRootSubUptoRow : OpenClaim := { program := "ytcnfgfomholheaagreatdoor", sum := "e2b06c0d7230988cd798244680c4bdacbba58432b40c1f7de7ea9538b5c2ec29", func := "loop.example/g00480/laws.FnExactRootSub", spec := "fnExactRootSub", inPlace := ["internal/abi.NoEscape", "internal/bytealg.MakeNoZero", "internal/bytealg.CountString", "internal/bytealg.IndexByteString", "internal/bytealg.IndexString", "slices.overlaps[loop.example/g00480/impl.Sub]", "slices.overlaps[string]", "slices.overlaps[loop.example/g00480/impl.Node]"], unfollowed := true, recurses := true, named := ["unicode/utf8.first", "unicode/utf8.acceptRanges", "internal/bytealg.MaxLen"], loops := true, apart := false, laid := [("unicode/utf8.acceptRanges", laid_unicode_utf8_acceptRanges), ("unicode/utf8.first", laid_unicode_utf8_first)], narrowed := true }
def FnExactRootSubUptoSaid : Prop := fnExactRootSubUptoRow.holds Tryz.pinned (OpenSpec.upto fnExactRootSubSpec)

/-- 'laws.FnExactKeptWanted', WHERE WHAT IT READS IS OF BULK AT MOST 1048576: true; the input reads as it did. -/
def fnExactKeptWantedUptoRow : OpenClaim := { program := "ytcnfgfomholheaagreatdoor", sum := "e2b06c0d7230988cd798244680c4bdacbba58432b40c1f7de7ea9538b5c2ec29", func := "loop.example/g00480/laws.FnExactKeptWanted", spec := "fnExactKeptWanted", inPlace := ["internal/abi.NoEscape", "internal/bytealg.MakeNoZero", "internal/bytealg.CountString", "internal/bytealg.IndexByteString", "internal/bytealg.IndexString"], recurses := true, named := ["unicode/utf8.first", "unicode/utf8.acceptRanges", "internal/bytealg.MaxLen"], loops := true, apart := false, laid := [("unicode/utf8.acceptRanges", laid_unicode_utf8_acceptRanges), ("unicode/utf8.first", laid_unicode_utf8_first)], narrowed := true }
def FnExactKeptWantedUptoSaid : Prop := fnExactKeptWantedUptoRow.holds Tryz.pinned (OpenSpec.upto fnExactKeptWantedSpec)

/-- 'laws.FnGrown', WHERE WHAT IT READS IS OF BULK AT MOST 1048576: true; the input reads as it did. -/
def fnGrownUptoRow : OpenClaim := { program := "ytcnfgfomholheaagreatdoor", sum := "e2b06c0d7230988cd798244680c4bdacbba58432b40c1f7de7ea9538b5c2ec29", func := "loop.example/g00480/laws.FnGrown", spec := "fnGrown", inPlace := ["internal/abi.NoEscape", "internal/bytealg.MakeNoZero", "internal/bytealg.CountString", "internal/bytealg.IndexByteString", "internal/bytealg.IndexString", "slices.overlaps[loop.example/g00480/impl.Sub]", "slices.overlaps[string]", "slices.overlaps[loop.example/g00480/impl.Node]"], unfollowed := true, recurses := true, named := ["unicode/utf8.first", "unicode/utf8.acceptRanges", "internal/bytealg.MaxLen"], apart := false, laid := [("unicode/utf8.acceptRanges", laid_unicode_utf8_acceptRanges), ("unicode/utf8.first", laid_unicode_utf8_first)], narrowed := true }
def FnGrownUptoSaid : Prop := fnGrownUptoRow.holds Tryz.pinned (OpenSpec.upto fnGrownSpec)

/-- 'laws.FnTrees', WHERE WHAT IT READS IS OF BULK AT MOST 1048576: true; the input reads as it did. -/
def fnTreesUptoRow : OpenClaim := { program := "ytcnfgfomholheaagreatdoor", sum := "e2b06c0d7230988cd798244680c4bdacbba58432b40c1f7de7ea9538b5c2ec29", func := "loop.example/g00480/laws.FnTrees", spec := "fnTrees", inPlace := ["internal/abi.NoEscape", "internal/bytealg.MakeNoZero", "internal/bytealg.CountString", "internal/bytealg.IndexByteString", "internal/bytealg.IndexString", "slices.overlaps[loop.example/g00480/impl.Sub]", "slices.overlaps[string]", "slices.overlaps[loop.example/g00480/impl.Node]"], unfollowed := true, recurses := true, named := ["unicode/utf8.first", "unicode/utf8.acceptRanges", "internal/bytealg.MaxLen"], apart := false, laid := [("unicode/utf8.acceptRanges", laid_unicode_utf8_acceptRanges), ("unicode/utf8.first", laid_unicode_utf8_first)], narrowed := true }
def FnTreesUptoSaid : Prop := fnTreesUptoRow.holds Tryz.pinned (OpenSpec.upto fnTreesSpec)

/-- 'laws.FnLookups', WHERE WHAT IT READS IS OF BULK AT MOST 1048576: true; the input reads as it did. -/
def fnLookupsUptoRow : OpenClaim := { program := "ytcnfgfomholheaagreatdoor", sum := "e2b06c0d7230988cd798244680c4bdacbba58432b40c1f7de7ea9538b5c2ec29", func := "loop.example/g00480/laws.FnLookups", spec := "fnLookups", inPlace := ["internal/abi.NoEscape", "internal/bytealg.MakeNoZero", "internal/bytealg.CountString", "internal/bytealg.IndexByteString", "internal/bytealg.IndexString", "slices.overlaps[loop.example/g00480/impl.Sub]"], unfollowed := true, recurses := true, named := ["unicode/utf8.first", "unicode/utf8.acceptRanges", "internal/bytealg.MaxLen"], apart := false, laid := [("unicode/utf8.acceptRanges", laid_unicode_utf8_acceptRanges), ("unicode/utf8.first", laid_unicode_utf8_first)], narrowed := true }
def FnLookupsUptoSaid : Prop := fnLookupsUptoRow.holds Tryz.pinned (OpenSpec.upto fnLookupsSpec)

/-- 'laws.FnUnwants', WHERE WHAT IT READS IS OF BULK AT MOST 1048576: true; the input reads as it did. -/
def fnUnwantsUptoRow : OpenClaim := { program := "ytcnfgfomholheaagreatdoor", sum := "e2b06c0d7230988cd798244680c4bdacbba58432b40c1f7de7ea9538b5c2ec29", func := "loop.example/g00480/laws.FnUnwants", spec := "fnUnwants", inPlace := ["internal/abi.NoEscape", "internal/bytealg.MakeNoZero", "internal/bytealg.CountString", "internal/bytealg.IndexByteString", "internal/bytealg.IndexString"], unfollowed := true, recurses := true, named := ["unicode/utf8.first", "unicode/utf8.acceptRanges", "internal/bytealg.MaxLen"], apart := false, laid := [("unicode/utf8.acceptRanges", laid_unicode_utf8_acceptRanges), ("unicode/utf8.first", laid_unicode_utf8_first)], narrowed := true }
def FnUnwantsUptoSaid : Prop := fnUnwantsUptoRow.holds Tryz.pinned (OpenSpec.upto fnUnwantsSpec)

/-- 'laws.FnRoots', WHERE WHAT IT READS IS OF BULK AT MOST 1048576: true; the input reads as it did. -/
def fnRootsUptoRow : OpenClaim := { program := "ytcnfgfomholheaagreatdoor", sum := "e2b06c0d7230988cd798244680c4bdacbba58432b40c1f7de7ea9538b5c2ec29", func := "loop.example/g00480/laws.FnRoots", spec := "fnRoots", inPlace := ["internal/abi.NoEscape", "internal/bytealg.MakeNoZero", "internal/bytealg.CountString", "internal/bytealg.IndexByteString", "internal/bytealg.IndexString", "slices.overlaps[loop.example/g00480/impl.Sub]", "slices.overlaps[string]", "slices.overlaps[loop.example/g00480/impl.Node]"], unfollowed := true, recurses := true, named := ["unicode/utf8.first", "unicode/utf8.acceptRanges", "internal/bytealg.MaxLen"], apart := false, laid := [("unicode/utf8.acceptRanges", laid_unicode_utf8_acceptRanges), ("unicode/utf8.first", laid_unicode_utf8_first)], narrowed := true }
def FnRootsUptoSaid : Prop := fnRootsUptoRow.holds Tryz.pinned (OpenSpec.upto fnRootsSpec)

/-- 'laws.FnKeeps', WHERE WHAT IT READS IS OF BULK AT MOST 1048576: true; the input reads as it did. -/
def fnKeepsUptoRow : OpenClaim := { program := "ytcnfgfomholheaagreatdoor", sum := "e2b06c0d7230988cd798244680c4bdacbba58432b40c1f7de7ea9538b5c2ec29", func := "loop.example/g00480/laws.FnKeeps", spec := "fnKeeps", inPlace := ["internal/abi.NoEscape", "internal/bytealg.MakeNoZero", "internal/bytealg.CountString", "internal/bytealg.IndexByteString", "internal/bytealg.IndexString", "slices.overlaps[loop.example/g00480/impl.Kept]"], unfollowed := true, recurses := true, named := ["unicode/utf8.first", "unicode/utf8.acceptRanges", "internal/bytealg.MaxLen"], apart := false, laid := [("unicode/utf8.acceptRanges", laid_unicode_utf8_acceptRanges), ("unicode/utf8.first", laid_unicode_utf8_first)], narrowed := true }
def FnKeepsUptoSaid : Prop := fnKeepsUptoRow.holds Tryz.pinned (OpenSpec.upto fnKeepsSpec)

end Rows
end Go.Proofs.YtcnfgfomholheaaGreatDoor
