/- A TIED CARD. Proved: the law FnExactWriteAll answers true at every input that its row speaks of, and leaves its arguments as they were; no condition beside the row's own. Laid out by a program of this work, in the form of the kit's printed rows. -/
import Derived.Test.YtnflbiafmddpgaaGreatDoorRows
import Derived.Test.YtnflbiafmddpgaaGreatDoorCards
import Derived.Test.YtnflbiafmddpgaaGreatDoorTie
import Derived.Test.YtnflbiafmddpgaaGreatDoorLaid
import Derived.SevenTiedAt
import Derived.Test.YtnflbiafmddpgaaGreatDoorZR
import Derived.Test.YtnflbiafmddpgaaGreatDoorZq
import Derived.WalkKit
import Derived.ProofKit
import Derived.OpenShut
import Derived.ChangeOld
import Derived.Below
import Derived.Carry
import Derived.SizedLaws
namespace Go.Proofs.YtnflbiafmddpgaaGreatDoor.fnExactWriteAll
open Go.ChangeShapes Go.WideShapes Go.ChangeAt Go.RowKit
set_option linter.unusedVariables false
theorem own : ownKnob Tryz.prog.godebug = none := by kernel_rfl
theorem laidOut : laidOutB Tryz.prog = true := by kernel_rfl
theorem witness_row (os : Os) {H : Type} (enc : TypeId × Value → H) :
    (OpenSpec.ofChange Rows.fnExactWriteAllSpec).preRow enc Tryz.prog Tryz.f3 Rows.fnExactWriteAllRow.domain false Rows.fnExactWriteAllRow.laid ((Laid.world os).forCall (fun _ _ => 0) ⟨#[], #[.slice none 0 0], []⟩).memory #[.slice none 0 0] := by
  obtain ⟨x, hx⟩ := Option.isSome_iff_exists.1 (show (DataW.whole enc Tryz.prog ((Laid.world os).forCall (fun _ _ => 0) ⟨#[], #[.slice none 0 0], []⟩).memory Tryz.f3.params.toList (OpenSpec.ofChange Rows.fnExactWriteAllSpec).vars false (#[.slice none 0 0] : Array Value).toList 8).isSome = true by kernel_rfl)
  exact OpenSpec.preRow_of_cond 8 hx rfl (fun k hk => by cases hk) (by kernel_rfl) (Laid.laid_met os _)
set_option maxRecDepth 100000 in
theorem lifted (os : Os) (started : os.Started) (H : Type) (enc : TypeId × Value → H) (F : Stop.Interp) :
    ReturnsInHanded {} Tryz.checked os 3 .any ((OpenSpec.ofChange Rows.fnExactWriteAllSpec).preRow enc Tryz.prog Tryz.f3 Rows.fnExactWriteAllRow.domain false Rows.fnExactWriteAllRow.laid) (((OpenSpec.ofChange Rows.fnExactWriteAllSpec).at F).post enc Tryz.prog Tryz.f3 false true false false) := by
  refine returnsInHanded_of_row (C := Tryz.checked) (s := OpenSpec.ofChange Rows.fnExactWriteAllSpec) own started (by kernel_rfl) Tryz.func3
    (witness_row_atRef (enc := enc) (C := Tryz.checked) false (Laid.world os) #[.slice none 0 0] rfl (by kernel_rfl) (by kernel_rfl) (by kernel_rfl) (witness_row os enc)) ?_
  intro W base args ds gs before hval0 hW _ _ hsz0 hL hsh _
  have hT : X.Tabs W := Laid.tabs hL hsh
  have hsz : (DataW.weightsEach Tryz.prog (Tryz.f3.params.toList ++ Rows.fnExactWriteAllSpec.plain.varTypes Tryz.prog) (ds ++ gs)).all (· ≤ reachBytes) = true := hsz0
  have hval : ∀ (j : Nat) t v, Tryz.f3.params[j]? = some t → args[j]? = some v → Value.okWide Tryz.prog W .any base t v := hval0
  have hW' := hW
  obtain ⟨p, q, hA0, hV, rfl, hfz, hnd⟩ := hW
  have hA : DataW.TrodAll enc Tryz.prog W 0 (fun _ => true) true Tryz.f3.params.toList args.toList ds p := hA0
  rw [Tryz.params3] at hA hval hsz
  obtain ⟨v0, vs0, d0, ds0, p0, q0, hargs0, rfl, rfl, h0, r0⟩ := trodAll_cons hA
  obtain ⟨rfl, rfl, rfl⟩ := trodAll_nil r0
  obtain rfl : args = #[v0] := by cases args; simp_all
  obtain ⟨rfl, rfl⟩ := trodVars_none hV
  obtain ⟨sa0, sl0, sc0, rfl⟩ := okWide_slice Tryz.underlying22 (hval 0 22 v0 rfl rfl)
  have k0 := h0
  have lt0 : ∀ x ∈ p0, x.block < W.heap.size := by obtain ⟨m, hm⟩ := k0; exact DataW.trod_lt m _ _ _ hm
  obtain ⟨a0, c0, g0⟩ := Z.opn_arg (j := 0) (t := 22) hsz rfl rfl h0 Q.opnR
  obtain ⟨w0, z0, e0, c0, _⟩ := c0
  have e0b : [Value.slice sa0 sl0 sc0] = w0 :: z0 := e0
  obtain ⟨rfl, _⟩ := List.cons.inj e0b
  clear hA0 hval0 hsz0 hsz
  refine (Z.call_bool (Q.lawWriteAll a0 g0.1 g0.2) hT (vs := [.slice sa0 sl0 sc0]) ⟨_, _, rfl, c0, rfl⟩).mono fun e W' ⟨he, bel⟩ => ?_
  subst he
  exact ⟨_, rfl, _, _, _, [], _, [], hW', trodAll_mk1 (shut_bool Tryz.underlying4 _), (trodAll_cons_mk (Below.trod laidOut (by kernel_rfl) (of_decide_eq_true (by kernel_rfl)) k0 bel lt0) trodAll_mk0), rfl, bel.frame _, fun h => by cases h⟩
theorem over : Rows.fnExactWriteAllRow.holds Tryz.pinned (OpenSpec.ofChange Rows.fnExactWriteAllSpec) :=
  OpenClaim.holds_of_cond 3 Tryz.f3 rfl rfl rfl rfl rfl rfl rfl ⟨rfl, rfl, rfl, rfl, rfl⟩ rfl rfl rfl rfl rfl (by kernel_rfl) Tryz.func3 (by kernel_rfl)
    (of_decide_eq_true (by kernel_rfl)) (by unfold Func.isWrapper; first | (rw [if_pos (by decide +kernel)]; kernel_rfl) | (rw [if_neg (by decide +kernel)]; exact ⟨rfl, rfl⟩))
    (fun os started H enc _ F0 => by rw [OpenClaim.pre_eq_preRow]; exact lifted os started H enc F0)
theorem proved : Rows.FnExactWriteAllCardSaid :=
  Claim7.holds_tied_plain_at .later [] [.data, .pinned] true (true, "72c0862338a70a67dd298b53271259dcdc2c147961a726711c1991753749d154") false
    over (fun _ h => by cases h) (by kernel_rfl) (fun _ h => by cases h) fnExactWriteAll_row_tie rfl ⟨rfl, rfl⟩ (by kernel_rfl) rfl
    (fun f fn hf hfn => by
      obtain rfl : f = 3 := Option.some.inj ((show Tryz.prog.funcNamed "loop.example/g00480/laws.FnExactWriteAll" = some 3 by kernel_rfl).symm.trans hf) |>.symm
      obtain rfl : fn = Tryz.f3 := (Option.some.inj (Tryz.func3.symm.trans hfn)).symm
      exact ⟨by kernel_rfl, fun j t ht => by
        rw [Tryz.params3] at ht
        rcases j with _ | j
        · obtain rfl : t = 22 := by simpa using ht.symm
          exact (show Tryz.prog.wantsStandIn 22 = false by kernel_rfl)
        · simp at ht⟩)
    (by kernel_rfl)
#print axioms proved
end Go.Proofs.YtnflbiafmddpgaaGreatDoor.fnExactWriteAll
namespace Go.Proofs.YtnflbiafmddpgaaGreatDoor
/-- The card, under a short name, for the claim. -/
theorem fnExactWriteAll_holds : Rows.FnExactWriteAllCardSaid := fnExactWriteAll.proved
end Go.Proofs.YtnflbiafmddpgaaGreatDoor
