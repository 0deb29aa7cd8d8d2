/- A TIED CARD. Proved: the law FnExactSetKept answers true at every input that its row speaks of, and leaves its arguments as they were; no condition beside the row's own. Laid out by a program of this work (row.py), in the form of the kit's printed rows. -/
import Derived.Test.YtpigbffaacilfaaDoorRows
import Derived.Test.YtpigbffaacilfaaDoorCards
import Derived.Test.YtpigbffaacilfaaDoorTie
import Derived.Test.YtpigbffaacilfaaDoorMgFnExactSetKept
import Derived.SevenTiedAt
import Derived.WalkKit
import Derived.ProofKit
import Derived.OpenShut
import Derived.ChangeOld
import Derived.Below
import Derived.Carry
import Derived.SizedLaws
namespace Go.Proofs.YtpigbffaacilfaaDoor.fnExactSetKept
open Go.ChangeShapes Go.WideShapes Go.ChangeAt Go.RowKit
set_option linter.unusedVariables false
theorem own : ownKnob Tryd.prog.godebug = none := by kernel_rfl
theorem laidOut : laidOutB Tryd.prog = true := by kernel_rfl
theorem witness_row (os : Os) {H : Type} (enc : TypeId × Value → H) :
    (OpenSpec.ofChange Rows.fnExactSetKeptSpec).preRow enc Tryd.prog Tryd.f3 Rows.fnExactSetKeptRow.domain false Rows.fnExactSetKeptRow.laid ((Laid.world os).forCall (fun _ _ => 0) ⟨#[], #[.slice none 0 0, .string ByteArray.empty, .slice none 0 0, .int .i64 0], []⟩).memory #[.slice none 0 0, .string ByteArray.empty, .slice none 0 0, .int .i64 0] := by
  obtain ⟨x, hx⟩ := Option.isSome_iff_exists.1 (show (DataW.whole enc Tryd.prog ((Laid.world os).forCall (fun _ _ => 0) ⟨#[], #[.slice none 0 0, .string ByteArray.empty, .slice none 0 0, .int .i64 0], []⟩).memory Tryd.f3.params.toList (OpenSpec.ofChange Rows.fnExactSetKeptSpec).vars false (#[.slice none 0 0, .string ByteArray.empty, .slice none 0 0, .int .i64 0] : Array Value).toList 8).isSome = true by kernel_rfl)
  exact OpenSpec.preRow_of_cond 8 hx rfl (fun k hk => by cases hk) (by kernel_rfl) (Laid.laid_met os _)
set_option maxRecDepth 100000 in
theorem lifted (os : Os) (started : os.Started) (H : Type) (enc : TypeId × Value → H) (F : Stop.Interp) :
    ReturnsInHanded {} Tryd.checked os 3 .any ((OpenSpec.ofChange Rows.fnExactSetKeptSpec).preRow enc Tryd.prog Tryd.f3 Rows.fnExactSetKeptRow.domain false Rows.fnExactSetKeptRow.laid) (((OpenSpec.ofChange Rows.fnExactSetKeptSpec).at F).post enc Tryd.prog Tryd.f3 false true false false) := by
  refine returnsInHanded_of_row (C := Tryd.checked) (s := OpenSpec.ofChange Rows.fnExactSetKeptSpec) own started (by kernel_rfl) Tryd.func3
    (witness_row_atRef (enc := enc) (C := Tryd.checked) false (Laid.world os) #[.slice none 0 0, .string ByteArray.empty, .slice none 0 0, .int .i64 0] rfl (by kernel_rfl) (by kernel_rfl) (by kernel_rfl) (witness_row os enc)) ?_
  intro W base args ds gs before hval0 hW _ _ hsz0 hL hsh _
  have hT : X.Tabs W := Laid.tabs hL hsh
  have hsz : (DataW.weightsEach Tryd.prog (Tryd.f3.params.toList ++ Rows.fnExactSetKeptSpec.plain.varTypes Tryd.prog) (ds ++ gs)).all (· ≤ reachBytes) = true := hsz0
  have hval : ∀ (j : Nat) t v, Tryd.f3.params[j]? = some t → args[j]? = some v → Value.okWide Tryd.prog W .any base t v := hval0
  have hW' := hW
  obtain ⟨p, q, hA0, hV, rfl, hfz, hnd⟩ := hW
  have hA : DataW.TrodAll enc Tryd.prog W 0 (fun _ => true) true Tryd.f3.params.toList args.toList ds p := hA0
  rw [Tryd.params3] at hA hval hsz
  obtain ⟨v0, vs0, d0, ds0, p0, q0, hargs, rfl, rfl, h0, r0⟩ := trodAll_cons hA
  obtain ⟨v1, vs1, d1, ds1, p1, q1, rfl, rfl, rfl, h1, r1⟩ := trodAll_cons r0
  obtain ⟨v2, vs2, d2, ds2, p2, q2, rfl, rfl, rfl, h2, r2⟩ := trodAll_cons r1
  obtain ⟨v3, vs3, d3, ds3, p3, q3, rfl, rfl, rfl, h3, r3⟩ := trodAll_cons r2
  obtain ⟨rfl, rfl, rfl⟩ := trodAll_nil r3
  obtain rfl : args = #[v0, v1, v2, v3] := by cases args; simp_all
  obtain ⟨rfl, rfl⟩ := trodVars_none hV
  obtain ⟨a0, len0, cap0, rfl⟩ := okWide_slice Tryd.underlying22 (hval 0 22 v0 rfl rfl)
  have k0 := h0
  have lt0 : ∀ x ∈ p0, x.block < W.heap.size := by obtain ⟨m, hm⟩ := k0; exact DataW.trod_lt m _ _ _ hm
  obtain ⟨l0, ⟨A0, c0, e0, hc0, hr0⟩, g0⟩ := O.opens_arg (j := 0) (t := 22) hsz rfl rfl h0 (O.opens_slice Tryd.underlying22 (by kernel_rfl) (by kernel_rfl) (O.opens_iso (f := fun x : P.S43 => (x.f0, x.f1, x.f2)) (fun (x : ByteArray × (List Int) × Int) => (⟨x.1, x.2.1, x.2.2⟩ : P.S43)) (fun _ => rfl) (O.opens_struct Tryd.underlying43 (O.opensF_cons (by kernel_rfl) (O.opens_string Tryd.underlying9 (by kernel_rfl)) (O.opensF_cons (by kernel_rfl) (O.opens_slice Tryd.underlying23 (by kernel_rfl) (by kernel_rfl) (O.opens_int Tryd.underlying5 (by kernel_rfl))) (O.opensF_one (by kernel_rfl) (by kernel_rfl) (O.opens_int Tryd.underlying3 (by kernel_rfl))))))))
  obtain ⟨rfl, rfl, rfl⟩ : a0 = A0 ∧ len0 = l0.length ∧ cap0 = c0 := by simpa [Value.cells] using e0
  obtain ⟨b1, rfl⟩ := okWide_string Tryd.underlying9 (hval 1 9 v1 rfl rfl)
  have k1 := h1
  have lt1 : ∀ x ∈ p1, x.block < W.heap.size := by obtain ⟨m, hm⟩ := k1; exact DataW.trod_lt m _ _ _ hm
  obtain ⟨a1, e1, g1⟩ := O.opens_arg (j := 1) (t := 9) hsz rfl rfl h1 (O.opens_string Tryd.underlying9 (by kernel_rfl))
  have e1' : ([.string b1] : List Value) = [.string a1] := e1
  obtain rfl : a1 = b1 := by simpa using e1'.symm
  obtain ⟨a2, len2, cap2, rfl⟩ := okWide_slice Tryd.underlying23 (hval 2 23 v2 rfl rfl)
  have k2 := h2
  have lt2 : ∀ x ∈ p2, x.block < W.heap.size := by obtain ⟨m, hm⟩ := k2; exact DataW.trod_lt m _ _ _ hm
  obtain ⟨l2, ⟨A2, c2, e2, hc2, hr2⟩, g2⟩ := O.opens_arg (j := 2) (t := 23) hsz rfl rfl h2 (O.opens_slice Tryd.underlying23 (by kernel_rfl) (by kernel_rfl) (O.opens_int Tryd.underlying5 (by kernel_rfl)))
  obtain ⟨rfl, rfl, rfl⟩ : a2 = A2 ∧ len2 = l2.length ∧ cap2 = c2 := by simpa [Value.cells] using e2
  obtain ⟨b3, rfl⟩ := okWide_int Tryd.underlying3 (hval 3 3 v3 rfl rfl)
  have k3 := h3
  have lt3 : ∀ x ∈ p3, x.block < W.heap.size := by obtain ⟨m, hm⟩ := k3; exact DataW.trod_lt m _ _ _ hm
  obtain ⟨a3, e3, g3⟩ := O.opens_arg (j := 3) (t := 3) hsz rfl rfl h3 (O.opens_int Tryd.underlying3 (by kernel_rfl))
  have e3' : ([.int .i64 b3] : List Value) = [.int .i64 a3] := e3
  obtain rfl : a3 = b3 := by simpa using e3'.symm
  clear hA0 hval0 hsz0 hsz
  refine (P.laws_FnExactSetKept.walk Pure.FnExactSetKept _ _ l0 a1 _ _ l2 a3 W hr0 hc0 hr2 hc2 g0 g1 g2 g3 hT).mono fun e W' ⟨he, bel⟩ => ?_
  subst he
  exact ⟨_, rfl, _, _, _, [], _, [], hW', trodAll_mk1 (shut_bool Tryd.underlying4 _), (trodAll_cons_mk (Below.trod laidOut (by kernel_rfl) (of_decide_eq_true (by kernel_rfl)) k0 bel lt0) (trodAll_cons_mk (Below.trod laidOut (by kernel_rfl) (of_decide_eq_true (by kernel_rfl)) k1 bel lt1) (trodAll_cons_mk (Below.trod laidOut (by kernel_rfl) (of_decide_eq_true (by kernel_rfl)) k2 bel lt2) (trodAll_cons_mk (Below.trod laidOut (by kernel_rfl) (of_decide_eq_true (by kernel_rfl)) k3 bel lt3) trodAll_mk0)))), rfl, bel.frame _, fun h => by cases h⟩
theorem over : Rows.fnExactSetKeptRow.holds Tryd.pinned (OpenSpec.ofChange Rows.fnExactSetKeptSpec) :=
  OpenClaim.holds_of_cond 3 Tryd.f3 rfl rfl rfl rfl rfl rfl rfl ⟨rfl, rfl, rfl, rfl, rfl⟩ rfl rfl rfl rfl rfl (by kernel_rfl) Tryd.func3 (by kernel_rfl)
    (of_decide_eq_true (by kernel_rfl)) (by unfold Func.isWrapper; first | (rw [if_pos (by decide +kernel)]; kernel_rfl) | (rw [if_neg (by decide +kernel)]; exact ⟨rfl, rfl⟩))
    (fun os started H enc _ F0 => by rw [OpenClaim.pre_eq_preRow]; exact lifted os started H enc F0)
theorem proved : Rows.FnExactSetKeptCardSaid :=
  Claim7.holds_tied_plain_at .later [] [.data, .pinned] true (true, "3d9cb7cf8a3e8ee3243b2a35b4b870c2af0c2247dccb600694bd29a1995fc4f8") false
    over (fun _ h => by cases h) (by kernel_rfl) (fun _ h => by cases h) fnExactSetKept_row_tie rfl ⟨rfl, rfl⟩ (by kernel_rfl) rfl
    (fun f fn hf hfn => by
      obtain rfl : f = 3 := Option.some.inj ((show Tryd.prog.funcNamed "loop.example/g00480/laws.FnExactSetKept" = some 3 by kernel_rfl).symm.trans hf) |>.symm
      obtain rfl : fn = Tryd.f3 := (Option.some.inj (Tryd.func3.symm.trans hfn)).symm
      exact ⟨by kernel_rfl, fun j t ht => by
        rw [Tryd.params3] at ht
        rcases j with _ | ⟨_ | ⟨_ | ⟨_ | j⟩⟩⟩
        · obtain rfl : t = 22 := by simpa using ht.symm
          exact (show Tryd.prog.wantsStandIn 22 = false by kernel_rfl)
        · obtain rfl : t = 9 := by simpa using ht.symm
          exact (show Tryd.prog.wantsStandIn 9 = false by kernel_rfl)
        · obtain rfl : t = 23 := by simpa using ht.symm
          exact (show Tryd.prog.wantsStandIn 23 = false by kernel_rfl)
        · obtain rfl : t = 3 := by simpa using ht.symm
          exact (show Tryd.prog.wantsStandIn 3 = false by kernel_rfl)
        · simp at ht⟩)
    (by kernel_rfl)
#print axioms proved
end Go.Proofs.YtpigbffaacilfaaDoor.fnExactSetKept
namespace Go.Proofs.YtpigbffaacilfaaDoor
/-- The card, under a short name, for the claim. -/
theorem fnExactSetKept_holds : Rows.FnExactSetKeptCardSaid := fnExactSetKept.proved
end Go.Proofs.YtpigbffaacilfaaDoor
