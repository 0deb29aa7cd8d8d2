/- A TIED CARD. Proved: the law FnExactPutPacket answers true at every input that its row speaks of, and leaves its arguments as they were; no condition beside the row's own. Laid out by a program of this work, in the form of the kit's printed rows. -/
import Derived.Test.YtnflbiafmddpgaaDoorRows
import Derived.Test.YtnflbiafmddpgaaDoorCards
import Derived.Test.YtnflbiafmddpgaaDoorTie
import Derived.Test.YtnflbiafmddpgaaDoorLaid
import Derived.SevenTiedAt
import Derived.Test.YtnflbiafmddpgaaDoorZR
import Derived.Test.YtnflbiafmddpgaaDoorZq
import Derived.WalkKit
import Derived.ProofKit
import Derived.OpenShut
import Derived.ChangeOld
import Derived.Below
import Derived.Carry
import Derived.SizedLaws
namespace Go.Proofs.YtnflbiafmddpgaaDoor.fnExactPutPacket
open Go.ChangeShapes Go.WideShapes Go.ChangeAt Go.RowKit
set_option linter.unusedVariables false
theorem own : ownKnob Tryd.prog.godebug = none := by kernel_rfl
theorem laidOut : laidOutB Tryd.prog = true := by kernel_rfl
theorem witness_row (os : Os) {H : Type} (enc : TypeId × Value → H) :
    (OpenSpec.ofChange Rows.fnExactPutPacketSpec).preRow enc Tryd.prog Tryd.f6 Rows.fnExactPutPacketRow.domain false Rows.fnExactPutPacketRow.laid ((Laid.world os).forCall (fun _ _ => 0) ⟨#[], #[.agg #[.int .i64 0, .bool false, .int .i64 0, .bool false, .int .i64 0, .string ByteArray.empty, .slice none 0 0, .string ByteArray.empty, .int .i64 0, .bool false, .int .i64 0, .bool false, .string ByteArray.empty, .slice none 0 0, .int .i64 0, .bool false, .bool false, .string ByteArray.empty, .bool false, .slice none 0 0, .int .i64 0, .bool false, .slice none 0 0, .slice none 0 0, .slice none 0 0]], []⟩).memory #[.agg #[.int .i64 0, .bool false, .int .i64 0, .bool false, .int .i64 0, .string ByteArray.empty, .slice none 0 0, .string ByteArray.empty, .int .i64 0, .bool false, .int .i64 0, .bool false, .string ByteArray.empty, .slice none 0 0, .int .i64 0, .bool false, .bool false, .string ByteArray.empty, .bool false, .slice none 0 0, .int .i64 0, .bool false, .slice none 0 0, .slice none 0 0, .slice none 0 0]] := by
  obtain ⟨x, hx⟩ := Option.isSome_iff_exists.1 (show (DataW.whole enc Tryd.prog ((Laid.world os).forCall (fun _ _ => 0) ⟨#[], #[.agg #[.int .i64 0, .bool false, .int .i64 0, .bool false, .int .i64 0, .string ByteArray.empty, .slice none 0 0, .string ByteArray.empty, .int .i64 0, .bool false, .int .i64 0, .bool false, .string ByteArray.empty, .slice none 0 0, .int .i64 0, .bool false, .bool false, .string ByteArray.empty, .bool false, .slice none 0 0, .int .i64 0, .bool false, .slice none 0 0, .slice none 0 0, .slice none 0 0]], []⟩).memory Tryd.f6.params.toList (OpenSpec.ofChange Rows.fnExactPutPacketSpec).vars false (#[.agg #[.int .i64 0, .bool false, .int .i64 0, .bool false, .int .i64 0, .string ByteArray.empty, .slice none 0 0, .string ByteArray.empty, .int .i64 0, .bool false, .int .i64 0, .bool false, .string ByteArray.empty, .slice none 0 0, .int .i64 0, .bool false, .bool false, .string ByteArray.empty, .bool false, .slice none 0 0, .int .i64 0, .bool false, .slice none 0 0, .slice none 0 0, .slice none 0 0]] : Array Value).toList 8).isSome = true by kernel_rfl)
  exact OpenSpec.preRow_of_cond 8 hx rfl (fun k hk => by cases hk) (by kernel_rfl) (Laid.laid_met os _)
set_option maxRecDepth 100000 in
theorem lifted (os : Os) (started : os.Started) (H : Type) (enc : TypeId × Value → H) (F : Stop.Interp) :
    ReturnsInHanded {} Tryd.checked os 6 .any ((OpenSpec.ofChange Rows.fnExactPutPacketSpec).preRow enc Tryd.prog Tryd.f6 Rows.fnExactPutPacketRow.domain false Rows.fnExactPutPacketRow.laid) (((OpenSpec.ofChange Rows.fnExactPutPacketSpec).at F).post enc Tryd.prog Tryd.f6 false true false false) := by
  refine returnsInHanded_of_row (C := Tryd.checked) (s := OpenSpec.ofChange Rows.fnExactPutPacketSpec) own started (by kernel_rfl) Tryd.func6
    (witness_row_atRef (enc := enc) (C := Tryd.checked) false (Laid.world os) #[.agg #[.int .i64 0, .bool false, .int .i64 0, .bool false, .int .i64 0, .string ByteArray.empty, .slice none 0 0, .string ByteArray.empty, .int .i64 0, .bool false, .int .i64 0, .bool false, .string ByteArray.empty, .slice none 0 0, .int .i64 0, .bool false, .bool false, .string ByteArray.empty, .bool false, .slice none 0 0, .int .i64 0, .bool false, .slice none 0 0, .slice none 0 0, .slice none 0 0]] rfl (by kernel_rfl) (by kernel_rfl) (by kernel_rfl) (witness_row os enc)) ?_
  intro W base args ds gs before hval0 hW _ _ hsz0 hL hsh _
  have hT : X.Tabs W := Laid.tabs hL hsh
  have hsz : (DataW.weightsEach Tryd.prog (Tryd.f6.params.toList ++ Rows.fnExactPutPacketSpec.plain.varTypes Tryd.prog) (ds ++ gs)).all (· ≤ reachBytes) = true := hsz0
  have hval : ∀ (j : Nat) t v, Tryd.f6.params[j]? = some t → args[j]? = some v → Value.okWide Tryd.prog W .any base t v := hval0
  have hW' := hW
  obtain ⟨p, q, hA0, hV, rfl, hfz, hnd⟩ := hW
  have hA : DataW.TrodAll enc Tryd.prog W 0 (fun _ => true) true Tryd.f6.params.toList args.toList ds p := hA0
  rw [Tryd.params6] at hA hval hsz
  obtain ⟨v0, vs0, d0, ds0, p0, q0, hargs0, rfl, rfl, h0, r0⟩ := trodAll_cons hA
  obtain ⟨rfl, rfl, rfl⟩ := trodAll_nil r0
  obtain rfl : args = #[v0] := by cases args; simp_all
  obtain ⟨rfl, rfl⟩ := trodVars_none hV
  obtain ⟨cs0, rfl, _⟩ := okWide_struct Tryd.underlying34 (hval 0 34 v0 rfl rfl)
  have k0 := h0
  have lt0 : ∀ x ∈ p0, x.block < W.heap.size := by obtain ⟨m, hm⟩ := k0; exact DataW.trod_lt m _ _ _ hm
  obtain ⟨a0, c0, g0⟩ := Z.opn_arg (j := 0) (t := 34) hsz rfl rfl h0 Q.opn34
  clear hA0 hval0 hsz0 hsz
  refine (Z.call_bool (Q.lawPutPacket a0 g0) hT (vs := [.agg cs0]) ⟨_, _, rfl, ⟨_, rfl, c0⟩, rfl⟩).mono fun e W' ⟨he, bel⟩ => ?_
  subst he
  exact ⟨_, rfl, _, _, _, [], _, [], hW', trodAll_mk1 (shut_bool Tryd.underlying4 _), (trodAll_cons_mk (Below.trod laidOut (by kernel_rfl) (of_decide_eq_true (by kernel_rfl)) k0 bel lt0) trodAll_mk0), rfl, bel.frame _, fun h => by cases h⟩
theorem over : Rows.fnExactPutPacketRow.holds Tryd.pinned (OpenSpec.ofChange Rows.fnExactPutPacketSpec) :=
  OpenClaim.holds_of_cond 6 Tryd.f6 rfl rfl rfl rfl rfl rfl rfl ⟨rfl, rfl, rfl, rfl, rfl⟩ rfl rfl rfl rfl rfl (by kernel_rfl) Tryd.func6 (by kernel_rfl)
    (of_decide_eq_true (by kernel_rfl)) (by unfold Func.isWrapper; first | (rw [if_pos (by decide +kernel)]; kernel_rfl) | (rw [if_neg (by decide +kernel)]; exact ⟨rfl, rfl⟩))
    (fun os started H enc _ F0 => by rw [OpenClaim.pre_eq_preRow]; exact lifted os started H enc F0)
theorem proved : Rows.FnExactPutPacketCardSaid :=
  Claim7.holds_tied_plain_at .later [] [.data, .pinned] true (true, "6b487fd9bcc7e6928ea3539a40416801bc797d7c72919486e0368d04bc900b06") false
    over (fun _ h => by cases h) (by kernel_rfl) (fun _ h => by cases h) fnExactPutPacket_row_tie rfl ⟨rfl, rfl⟩ (by kernel_rfl) rfl
    (fun f fn hf hfn => by
      obtain rfl : f = 6 := Option.some.inj ((show Tryd.prog.funcNamed "loop.example/g00480/laws.FnExactPutPacket" = some 6 by kernel_rfl).symm.trans hf) |>.symm
      obtain rfl : fn = Tryd.f6 := (Option.some.inj (Tryd.func6.symm.trans hfn)).symm
      exact ⟨by kernel_rfl, fun j t ht => by
        rw [Tryd.params6] at ht
        rcases j with _ | j
        · obtain rfl : t = 34 := by simpa using ht.symm
          exact (show Tryd.prog.wantsStandIn 34 = false by kernel_rfl)
        · simp at ht⟩)
    (by kernel_rfl)
#print axioms proved
end Go.Proofs.YtnflbiafmddpgaaDoor.fnExactPutPacket
namespace Go.Proofs.YtnflbiafmddpgaaDoor
/-- The card, under a short name, for the claim. -/
theorem fnExactPutPacket_holds : Rows.FnExactPutPacketCardSaid := fnExactPutPacket.proved
end Go.Proofs.YtnflbiafmddpgaaDoor
