/-
  No cell of these rows narrows 'for every input' (looked for: loops, veiled, ifaces, maps, wideKeys, modest, calm, conditions, laid).
  DERIVED. THE GIVEN ROWS OF THIS SEAT. 12 by the template 'for every input the law returns true; each argument reads behind the call as it read before'; 0 by the template 'total and deterministic' (their statements: YtkeacohngljhaaaTotals.lean).
  GIVEN WITH THE SEED: the statements are not yours to turn. If you find one false, say at which input.
  Laid BY PROGRAM, IN A SANDBOX (cutbox-rows.mjs): the forced cells as the released guide's own fill.sh prints them over the translation ca1af87c9d7b8ec3… (all of the seat's roots in one cut). By AI agents, Wed Nov 11 2026. No macro, syntax, notation, axiom, sorry.
-/
import Derived.Test.YtkeacohngljhaaaChecked
import GoSem.Claim
import GoSem.ClaimJoined
import GoSem.ClaimMapViews
import Derived.JoinedTies
import Derived.KernelRfl
namespace Go.Proofs.Ytkeacohngljhaaa
/- THE CELL 'sum', in the pinned program and in every row, IS THE sha256 OF THE DUMP (.gsa) THAT YtkeacohngljhaaaProg.lean LOADS. Nothing in Lean hashes anything: it is a label: what it is worth is what the hold of that sum in a sandbox is worth. -/
noncomputable def Try.pinned : Pinned := { name := "ytkeacohngljhaaa", sum := "ca1af87c9d7b8ec345c6bd15e6feb7189de6fe9cf0e4f1f951e73b85dac236de", checked := Try.checked }
namespace Rows
def none {H : Type} : Left H := { results := [], args := [] }

/-- 'laws.FnExactConstants': WHATEVER THE INPUT: true; the input reads as it did. -/
def fnExactConstantsSpec : ChangeSpec := { name := "fnExactConstants", fn := fun _ => fun
  | [] => { results := [.lit (.bool true)], args := [] }
  | _ => none }
def fnExactConstantsRow : OpenClaim := { program := "ytkeacohngljhaaa", sum := "ca1af87c9d7b8ec345c6bd15e6feb7189de6fe9cf0e4f1f951e73b85dac236de", func := "loop.example/g00480/laws.FnExactConstants", spec := "fnExactConstants", apart := false }
def FnExactConstantsSaid : Prop := fnExactConstantsRow.holds Try.pinned (OpenSpec.ofChange fnExactConstantsSpec)

/-- ITS FALSE NEIGHBOUR: 'it returns false'. Refute it at one input. -/
def fnExactConstantsWrong : ChangeSpec := { name := "fnExactConstants", fn := fun _ => fun
  | [] => { results := [.lit (.bool false)], args := [] }
  | _ => none }
def FnExactConstantsWrongFalsely : Prop := fnExactConstantsRow.holds Try.pinned (OpenSpec.ofChange fnExactConstantsWrong)

/-- 'laws.FnExactHidden': WHATEVER THE INPUT: true; the input reads as it did. -/
def fnExactHiddenSpec : ChangeSpec := { name := "fnExactHidden", fn := fun _ => fun
  | [d] => { results := [.lit (.bool true)], args := [d] }
  | _ => none }
def fnExactHiddenRow : OpenClaim := { program := "ytkeacohngljhaaa", sum := "ca1af87c9d7b8ec345c6bd15e6feb7189de6fe9cf0e4f1f951e73b85dac236de", func := "loop.example/g00480/laws.FnExactHidden", spec := "fnExactHidden", apart := false }
def FnExactHiddenSaid : Prop := fnExactHiddenRow.holds Try.pinned (OpenSpec.ofChange fnExactHiddenSpec)

/-- ITS FALSE NEIGHBOUR: 'it returns false'. Refute it at one input. -/
def fnExactHiddenWrong : ChangeSpec := { name := "fnExactHidden", fn := fun _ => fun
  | [d] => { results := [.lit (.bool false)], args := [d] }
  | _ => none }
def FnExactHiddenWrongFalsely : Prop := fnExactHiddenRow.holds Try.pinned (OpenSpec.ofChange fnExactHiddenWrong)

/-- 'laws.FnExactTypeName': WHATEVER THE INPUT: true; the input reads as it did. -/
def fnExactTypeNameSpec : ChangeSpec := { name := "fnExactTypeName", fn := fun _ => fun
  | [d] => { results := [.lit (.bool true)], args := [d] }
  | _ => none }
def fnExactTypeNameRow : OpenClaim := { program := "ytkeacohngljhaaa", sum := "ca1af87c9d7b8ec345c6bd15e6feb7189de6fe9cf0e4f1f951e73b85dac236de", func := "loop.example/g00480/laws.FnExactTypeName", spec := "fnExactTypeName", apart := false }
def FnExactTypeNameSaid : Prop := fnExactTypeNameRow.holds Try.pinned (OpenSpec.ofChange fnExactTypeNameSpec)

/-- ITS FALSE NEIGHBOUR: 'it returns false'. Refute it at one input. -/
def fnExactTypeNameWrong : ChangeSpec := { name := "fnExactTypeName", fn := fun _ => fun
  | [d] => { results := [.lit (.bool false)], args := [d] }
  | _ => none }
def FnExactTypeNameWrongFalsely : Prop := fnExactTypeNameRow.holds Try.pinned (OpenSpec.ofChange fnExactTypeNameWrong)

/-- 'laws.FnExactSteps': WHATEVER THE INPUT: true; the input reads as it did. -/
def fnExactStepsSpec : ChangeSpec := { name := "fnExactSteps", fn := fun _ => fun
  | [d1, d2] => { results := [.lit (.bool true)], args := [d1, d2] }
  | _ => none }
def fnExactStepsRow : OpenClaim := { program := "ytkeacohngljhaaa", sum := "ca1af87c9d7b8ec345c6bd15e6feb7189de6fe9cf0e4f1f951e73b85dac236de", func := "loop.example/g00480/laws.FnExactSteps", spec := "fnExactSteps", apart := false }
def FnExactStepsSaid : Prop := fnExactStepsRow.holds Try.pinned (OpenSpec.ofChange fnExactStepsSpec)

/-- ITS FALSE NEIGHBOUR: 'it returns false'. Refute it at one input. -/
def fnExactStepsWrong : ChangeSpec := { name := "fnExactSteps", fn := fun _ => fun
  | [d1, d2] => { results := [.lit (.bool false)], args := [d1, d2] }
  | _ => none }
def FnExactStepsWrongFalsely : Prop := fnExactStepsRow.holds Try.pinned (OpenSpec.ofChange fnExactStepsWrong)

/-- 'laws.FnExactGetWord': WHATEVER THE INPUT: true; the input reads as it did. -/
def fnExactGetWordSpec : ChangeSpec := { name := "fnExactGetWord", fn := fun _ => fun
  | [d1, d2] => { results := [.lit (.bool true)], args := [d1, d2] }
  | _ => none }
def fnExactGetWordRow : OpenClaim := { program := "ytkeacohngljhaaa", sum := "ca1af87c9d7b8ec345c6bd15e6feb7189de6fe9cf0e4f1f951e73b85dac236de", func := "loop.example/g00480/laws.FnExactGetWord", spec := "fnExactGetWord", apart := false }
def FnExactGetWordSaid : Prop := fnExactGetWordRow.holds Try.pinned (OpenSpec.ofChange fnExactGetWordSpec)

/-- ITS FALSE NEIGHBOUR: 'it returns false'. Refute it at one input. -/
def fnExactGetWordWrong : ChangeSpec := { name := "fnExactGetWord", fn := fun _ => fun
  | [d1, d2] => { results := [.lit (.bool false)], args := [d1, d2] }
  | _ => none }
def FnExactGetWordWrongFalsely : Prop := fnExactGetWordRow.holds Try.pinned (OpenSpec.ofChange fnExactGetWordWrong)

/-- 'laws.FnExactLenSize': WHATEVER THE INPUT: true; the input reads as it did. -/
def fnExactLenSizeSpec : ChangeSpec := { name := "fnExactLenSize", fn := fun _ => fun
  | [d] => { results := [.lit (.bool true)], args := [d] }
  | _ => none }
def fnExactLenSizeRow : OpenClaim := { program := "ytkeacohngljhaaa", sum := "ca1af87c9d7b8ec345c6bd15e6feb7189de6fe9cf0e4f1f951e73b85dac236de", func := "loop.example/g00480/laws.FnExactLenSize", spec := "fnExactLenSize", apart := false }
def FnExactLenSizeSaid : Prop := fnExactLenSizeRow.holds Try.pinned (OpenSpec.ofChange fnExactLenSizeSpec)

/-- ITS FALSE NEIGHBOUR: 'it returns false'. Refute it at one input. -/
def fnExactLenSizeWrong : ChangeSpec := { name := "fnExactLenSize", fn := fun _ => fun
  | [d] => { results := [.lit (.bool false)], args := [d] }
  | _ => none }
def FnExactLenSizeWrongFalsely : Prop := fnExactLenSizeRow.holds Try.pinned (OpenSpec.ofChange fnExactLenSizeWrong)

/-- 'laws.FnExactPutWord': WHATEVER THE INPUT: true; the input reads as it did. -/
def fnExactPutWordSpec : ChangeSpec := { name := "fnExactPutWord", fn := fun _ => fun
  | [d1, d2] => { results := [.lit (.bool true)], args := [d1, d2] }
  | _ => none }
def fnExactPutWordRow : OpenClaim := { program := "ytkeacohngljhaaa", sum := "ca1af87c9d7b8ec345c6bd15e6feb7189de6fe9cf0e4f1f951e73b85dac236de", func := "loop.example/g00480/laws.FnExactPutWord", spec := "fnExactPutWord", apart := false }
def FnExactPutWordSaid : Prop := fnExactPutWordRow.holds Try.pinned (OpenSpec.ofChange fnExactPutWordSpec)

/-- ITS FALSE NEIGHBOUR: 'it returns false'. Refute it at one input. -/
def fnExactPutWordWrong : ChangeSpec := { name := "fnExactPutWord", fn := fun _ => fun
  | [d1, d2] => { results := [.lit (.bool false)], args := [d1, d2] }
  | _ => none }
def FnExactPutWordWrongFalsely : Prop := fnExactPutWordRow.holds Try.pinned (OpenSpec.ofChange fnExactPutWordWrong)

/-- 'laws.FnExactPutBytes': WHATEVER THE INPUT: true; the input reads as it did. -/
def fnExactPutBytesSpec : ChangeSpec := { name := "fnExactPutBytes", fn := fun _ => fun
  | [d1, d2] => { results := [.lit (.bool true)], args := [d1, d2] }
  | _ => none }
def fnExactPutBytesRow : OpenClaim := { program := "ytkeacohngljhaaa", sum := "ca1af87c9d7b8ec345c6bd15e6feb7189de6fe9cf0e4f1f951e73b85dac236de", func := "loop.example/g00480/laws.FnExactPutBytes", spec := "fnExactPutBytes", apart := false }
def FnExactPutBytesSaid : Prop := fnExactPutBytesRow.holds Try.pinned (OpenSpec.ofChange fnExactPutBytesSpec)

/-- ITS FALSE NEIGHBOUR: 'it returns false'. Refute it at one input. -/
def fnExactPutBytesWrong : ChangeSpec := { name := "fnExactPutBytes", fn := fun _ => fun
  | [d1, d2] => { results := [.lit (.bool false)], args := [d1, d2] }
  | _ => none }
def FnExactPutBytesWrongFalsely : Prop := fnExactPutBytesRow.holds Try.pinned (OpenSpec.ofChange fnExactPutBytesWrong)

/-- 'laws.FnExactGetLen': WHATEVER THE INPUT: true; the input reads as it did. -/
def fnExactGetLenSpec : ChangeSpec := { name := "fnExactGetLen", fn := fun _ => fun
  | [d1, d2] => { results := [.lit (.bool true)], args := [d1, d2] }
  | _ => none }
def fnExactGetLenRow : OpenClaim := { program := "ytkeacohngljhaaa", sum := "ca1af87c9d7b8ec345c6bd15e6feb7189de6fe9cf0e4f1f951e73b85dac236de", func := "loop.example/g00480/laws.FnExactGetLen", spec := "fnExactGetLen", apart := false }
def FnExactGetLenSaid : Prop := fnExactGetLenRow.holds Try.pinned (OpenSpec.ofChange fnExactGetLenSpec)

/-- ITS FALSE NEIGHBOUR: 'it returns false'. Refute it at one input. -/
def fnExactGetLenWrong : ChangeSpec := { name := "fnExactGetLen", fn := fun _ => fun
  | [d1, d2] => { results := [.lit (.bool false)], args := [d1, d2] }
  | _ => none }
def FnExactGetLenWrongFalsely : Prop := fnExactGetLenRow.holds Try.pinned (OpenSpec.ofChange fnExactGetLenWrong)

/-- 'laws.FnExactPutLen': WHATEVER THE INPUT: true; the input reads as it did. -/
def fnExactPutLenSpec : ChangeSpec := { name := "fnExactPutLen", fn := fun _ => fun
  | [d1, d2] => { results := [.lit (.bool true)], args := [d1, d2] }
  | _ => none }
def fnExactPutLenRow : OpenClaim := { program := "ytkeacohngljhaaa", sum := "ca1af87c9d7b8ec345c6bd15e6feb7189de6fe9cf0e4f1f951e73b85dac236de", func := "loop.example/g00480/laws.FnExactPutLen", spec := "fnExactPutLen", apart := false }
def FnExactPutLenSaid : Prop := fnExactPutLenRow.holds Try.pinned (OpenSpec.ofChange fnExactPutLenSpec)

/-- ITS FALSE NEIGHBOUR: 'it returns false'. Refute it at one input. -/
def fnExactPutLenWrong : ChangeSpec := { name := "fnExactPutLen", fn := fun _ => fun
  | [d1, d2] => { results := [.lit (.bool false)], args := [d1, d2] }
  | _ => none }
def FnExactPutLenWrongFalsely : Prop := fnExactPutLenRow.holds Try.pinned (OpenSpec.ofChange fnExactPutLenWrong)

/-- 'laws.FnExactGetBytes': WHATEVER THE INPUT: true; the input reads as it did. -/
def fnExactGetBytesSpec : ChangeSpec := { name := "fnExactGetBytes", fn := fun _ => fun
  | [d1, d2] => { results := [.lit (.bool true)], args := [d1, d2] }
  | _ => none }
def fnExactGetBytesRow : OpenClaim := { program := "ytkeacohngljhaaa", sum := "ca1af87c9d7b8ec345c6bd15e6feb7189de6fe9cf0e4f1f951e73b85dac236de", func := "loop.example/g00480/laws.FnExactGetBytes", spec := "fnExactGetBytes", apart := false }
def FnExactGetBytesSaid : Prop := fnExactGetBytesRow.holds Try.pinned (OpenSpec.ofChange fnExactGetBytesSpec)

/-- ITS FALSE NEIGHBOUR: 'it returns false'. Refute it at one input. -/
def fnExactGetBytesWrong : ChangeSpec := { name := "fnExactGetBytes", fn := fun _ => fun
  | [d1, d2] => { results := [.lit (.bool false)], args := [d1, d2] }
  | _ => none }
def FnExactGetBytesWrongFalsely : Prop := fnExactGetBytesRow.holds Try.pinned (OpenSpec.ofChange fnExactGetBytesWrong)

/-- 'laws.FnExactNextId': WHATEVER THE INPUT: true; the input reads as it did. -/
def fnExactNextIdSpec : ChangeSpec := { name := "fnExactNextId", fn := fun _ => fun
  | [d1, d2] => { results := [.lit (.bool true)], args := [d1, d2] }
  | _ => none }
def fnExactNextIdRow : OpenClaim := { program := "ytkeacohngljhaaa", sum := "ca1af87c9d7b8ec345c6bd15e6feb7189de6fe9cf0e4f1f951e73b85dac236de", func := "loop.example/g00480/laws.FnExactNextId", spec := "fnExactNextId", apart := false }
def FnExactNextIdSaid : Prop := fnExactNextIdRow.holds Try.pinned (OpenSpec.ofChange fnExactNextIdSpec)

/-- ITS FALSE NEIGHBOUR: 'it returns false'. Refute it at one input. -/
def fnExactNextIdWrong : ChangeSpec := { name := "fnExactNextId", fn := fun _ => fun
  | [d1, d2] => { results := [.lit (.bool false)], args := [d1, d2] }
  | _ => none }
def FnExactNextIdWrongFalsely : Prop := fnExactNextIdRow.holds Try.pinned (OpenSpec.ofChange fnExactNextIdWrong)

/- THE SECOND FORM. 'bulk': how many values and letters a reading holds, each counted each time it is reached (what is shared counts as often as it is met; a slice's spare places count too). A statement '..UptoSaid' is the law's where the arguments, and the package variables that the reading takes, are together of bulk at most 1048576: NARROWER than '..Said'. Prove '..Said' where nothing that the law and all that it calls make is longer than what came in: it says more and counts as full. Else prove '..UptoSaid'. A law counts once. -/
mutual
def uptoBulk {H : Type} : DataW H → Nat
  | .lit (.string bytes) => bytes.length + 1
  | .lit _ => 1
  | .nil => 1
  | .ptr d => uptoBulk d + 1
  | .slice elems spare => uptoBulkAll elems + uptoBulkAll spare + 1
  | .agg parts => uptoBulkAll parts + 1
  | .iface _ d => uptoBulk d + 1
  | .map entries => uptoBulkEntries entries + 1
  | .held _ => 1
def uptoBulkAll {H : Type} : List (DataW H) → Nat
  | [] => 0
  | d :: r => uptoBulk d + uptoBulkAll r
def uptoBulkEntries {H : Type} : List (Lit × DataW H) → Nat
  | [] => 0
  | x :: r => uptoBulkEntry x + uptoBulkEntries r
def uptoBulkEntry {H : Type} : Lit × DataW H → Nat
  | (.string bytes, d) => bytes.length + uptoBulk d + 1
  | (_, d) => uptoBulk d + 1
 end
def uptoSmall : (H : Type) → List (DataW H) → Bool := fun _ ds => decide (uptoBulkAll ds ≤ 1048576)
def OpenSpec.upto (s : _root_.Go.ChangeSpec) : _root_.Go.OpenSpec := { _root_.Go.OpenSpec.ofChange s with cond := some uptoSmall }

/-- 'laws.FnExactConstants', WHERE WHAT IT READS IS OF BULK AT MOST 1048576: true; the input reads as it did. -/
def fnExactConstantsUptoRow : OpenClaim := { program := "ytkeacohngljhaaa", sum := "ca1af87c9d7b8ec345c6bd15e6feb7189de6fe9cf0e4f1f951e73b85dac236de", func := "loop.example/g00480/laws.FnExactConstants", spec := "fnExactConstants", apart := false, narrowed := true }
def FnExactConstantsUptoSaid : Prop := fnExactConstantsUptoRow.holds Try.pinned (OpenSpec.upto fnExactConstantsSpec)

/-- 'laws.FnExactHidden', WHERE WHAT IT READS IS OF BULK AT MOST 1048576: true; the input reads as it did. -/
def fnExactHiddenUptoRow : OpenClaim := { program := "ytkeacohngljhaaa", sum := "ca1af87c9d7b8ec345c6bd15e6feb7189de6fe9cf0e4f1f951e73b85dac236de", func := "loop.example/g00480/laws.FnExactHidden", spec := "fnExactHidden", apart := false, narrowed := true }
def FnExactHiddenUptoSaid : Prop := fnExactHiddenUptoRow.holds Try.pinned (OpenSpec.upto fnExactHiddenSpec)

/-- 'laws.FnExactTypeName', WHERE WHAT IT READS IS OF BULK AT MOST 1048576: true; the input reads as it did. -/
def fnExactTypeNameUptoRow : OpenClaim := { program := "ytkeacohngljhaaa", sum := "ca1af87c9d7b8ec345c6bd15e6feb7189de6fe9cf0e4f1f951e73b85dac236de", func := "loop.example/g00480/laws.FnExactTypeName", spec := "fnExactTypeName", apart := false, narrowed := true }
def FnExactTypeNameUptoSaid : Prop := fnExactTypeNameUptoRow.holds Try.pinned (OpenSpec.upto fnExactTypeNameSpec)

/-- 'laws.FnExactSteps', WHERE WHAT IT READS IS OF BULK AT MOST 1048576: true; the input reads as it did. -/
def fnExactStepsUptoRow : OpenClaim := { program := "ytkeacohngljhaaa", sum := "ca1af87c9d7b8ec345c6bd15e6feb7189de6fe9cf0e4f1f951e73b85dac236de", func := "loop.example/g00480/laws.FnExactSteps", spec := "fnExactSteps", apart := false, narrowed := true }
def FnExactStepsUptoSaid : Prop := fnExactStepsUptoRow.holds Try.pinned (OpenSpec.upto fnExactStepsSpec)

/-- 'laws.FnExactGetWord', WHERE WHAT IT READS IS OF BULK AT MOST 1048576: true; the input reads as it did. -/
def fnExactGetWordUptoRow : OpenClaim := { program := "ytkeacohngljhaaa", sum := "ca1af87c9d7b8ec345c6bd15e6feb7189de6fe9cf0e4f1f951e73b85dac236de", func := "loop.example/g00480/laws.FnExactGetWord", spec := "fnExactGetWord", apart := false, narrowed := true }
def FnExactGetWordUptoSaid : Prop := fnExactGetWordUptoRow.holds Try.pinned (OpenSpec.upto fnExactGetWordSpec)

/-- 'laws.FnExactLenSize', WHERE WHAT IT READS IS OF BULK AT MOST 1048576: true; the input reads as it did. -/
def fnExactLenSizeUptoRow : OpenClaim := { program := "ytkeacohngljhaaa", sum := "ca1af87c9d7b8ec345c6bd15e6feb7189de6fe9cf0e4f1f951e73b85dac236de", func := "loop.example/g00480/laws.FnExactLenSize", spec := "fnExactLenSize", apart := false, narrowed := true }
def FnExactLenSizeUptoSaid : Prop := fnExactLenSizeUptoRow.holds Try.pinned (OpenSpec.upto fnExactLenSizeSpec)

/-- 'laws.FnExactPutWord', WHERE WHAT IT READS IS OF BULK AT MOST 1048576: true; the input reads as it did. -/
def fnExactPutWordUptoRow : OpenClaim := { program := "ytkeacohngljhaaa", sum := "ca1af87c9d7b8ec345c6bd15e6feb7189de6fe9cf0e4f1f951e73b85dac236de", func := "loop.example/g00480/laws.FnExactPutWord", spec := "fnExactPutWord", apart := false, narrowed := true }
def FnExactPutWordUptoSaid : Prop := fnExactPutWordUptoRow.holds Try.pinned (OpenSpec.upto fnExactPutWordSpec)

/-- 'laws.FnExactPutBytes', WHERE WHAT IT READS IS OF BULK AT MOST 1048576: true; the input reads as it did. -/
def fnExactPutBytesUptoRow : OpenClaim := { program := "ytkeacohngljhaaa", sum := "ca1af87c9d7b8ec345c6bd15e6feb7189de6fe9cf0e4f1f951e73b85dac236de", func := "loop.example/g00480/laws.FnExactPutBytes", spec := "fnExactPutBytes", apart := false, narrowed := true }
def FnExactPutBytesUptoSaid : Prop := fnExactPutBytesUptoRow.holds Try.pinned (OpenSpec.upto fnExactPutBytesSpec)

/-- 'laws.FnExactGetLen', WHERE WHAT IT READS IS OF BULK AT MOST 1048576: true; the input reads as it did. -/
def fnExactGetLenUptoRow : OpenClaim := { program := "ytkeacohngljhaaa", sum := "ca1af87c9d7b8ec345c6bd15e6feb7189de6fe9cf0e4f1f951e73b85dac236de", func := "loop.example/g00480/laws.FnExactGetLen", spec := "fnExactGetLen", apart := false, narrowed := true }
def FnExactGetLenUptoSaid : Prop := fnExactGetLenUptoRow.holds Try.pinned (OpenSpec.upto fnExactGetLenSpec)

/-- 'laws.FnExactPutLen', WHERE WHAT IT READS IS OF BULK AT MOST 1048576: true; the input reads as it did. -/
def fnExactPutLenUptoRow : OpenClaim := { program := "ytkeacohngljhaaa", sum := "ca1af87c9d7b8ec345c6bd15e6feb7189de6fe9cf0e4f1f951e73b85dac236de", func := "loop.example/g00480/laws.FnExactPutLen", spec := "fnExactPutLen", apart := false, narrowed := true }
def FnExactPutLenUptoSaid : Prop := fnExactPutLenUptoRow.holds Try.pinned (OpenSpec.upto fnExactPutLenSpec)

/-- 'laws.FnExactGetBytes', WHERE WHAT IT READS IS OF BULK AT MOST 1048576: true; the input reads as it did. -/
def fnExactGetBytesUptoRow : OpenClaim := { program := "ytkeacohngljhaaa", sum := "ca1af87c9d7b8ec345c6bd15e6feb7189de6fe9cf0e4f1f951e73b85dac236de", func := "loop.example/g00480/laws.FnExactGetBytes", spec := "fnExactGetBytes", apart := false, narrowed := true }
def FnExactGetBytesUptoSaid : Prop := fnExactGetBytesUptoRow.holds Try.pinned (OpenSpec.upto fnExactGetBytesSpec)

/-- 'laws.FnExactNextId', WHERE WHAT IT READS IS OF BULK AT MOST 1048576: true; the input reads as it did. -/
def fnExactNextIdUptoRow : OpenClaim := { program := "ytkeacohngljhaaa", sum := "ca1af87c9d7b8ec345c6bd15e6feb7189de6fe9cf0e4f1f951e73b85dac236de", func := "loop.example/g00480/laws.FnExactNextId", spec := "fnExactNextId", apart := false, narrowed := true }
def FnExactNextIdUptoSaid : Prop := fnExactNextIdUptoRow.holds Try.pinned (OpenSpec.upto fnExactNextIdSpec)

end Rows
end Go.Proofs.Ytkeacohngljhaaa
