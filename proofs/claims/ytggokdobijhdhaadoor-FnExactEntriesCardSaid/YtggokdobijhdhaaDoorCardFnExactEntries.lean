/- A TIED CARD. Proved: the law FnExactEntries answers true at every input that its row speaks of, and leaves its arguments as they were; no condition beside the row's own. Laid out by a program of this work (row.py), in the form of the kit's printed rows. -/
import Derived.Test.YtggokdobijhdhaaDoorRows
import Derived.Test.YtggokdobijhdhaaDoorCards
import Derived.Test.YtggokdobijhdhaaDoorTie
import Derived.Test.YtggokdobijhdhaaDoorMgFnExactEntries
import Derived.SevenTiedAt
import Derived.WalkKit
import Derived.ProofKit
import Derived.OpenShut
import Derived.ChangeOld
import Derived.Below
import Derived.Carry
import Derived.SizedLaws
namespace Go.Proofs.YtggokdobijhdhaaDoor.fnExactEntries
open Go.ChangeShapes Go.WideShapes Go.ChangeAt Go.RowKit
set_option linter.unusedVariables false
theorem own : ownKnob Tryd.prog.godebug = none := by kernel_rfl
theorem laidOut : laidOutB Tryd.prog = true := by kernel_rfl
theorem opens26 {H : Type} {enc : TypeId × Value → H} {W : World} {base : Nat} {spare : Nat → Bool} {held : Bool} : O.Opens enc Tryd.prog W base spare held 26 P.k26 P.Fit26 :=
  O.opens_fix (by kernel_rfl) (fun m d hd => O.opensB_fit (O.opensB_iso (f := fun x : P.S26 => (x.f0, x.f1, x.f2)) (fun (x : (List ByteArray) × (List P.S26) × (List P.S83)) => (⟨x.1, x.2.1, x.2.2⟩ : P.S26)) (fun _ => rfl) (O.opensB_struct Tryd.underlying26 (O.opensFB_cons (by kernel_rfl) (O.opensB_of (O.opens_slice Tryd.underlying22 (by kernel_rfl) (by kernel_rfl) (O.opens_string Tryd.underlying9 (by kernel_rfl)))) (O.opensFB_cons (by kernel_rfl) (O.opensB_slice Tryd.underlying23 (by kernel_rfl) (by kernel_rfl) hd) (O.opensFB_one (by kernel_rfl) (by kernel_rfl) (O.opensB_of (O.opens_slice Tryd.underlying24 (by kernel_rfl) (by kernel_rfl) (O.opens_iso (f := fun x : P.S83 => (x.f0, x.f1, x.f2)) (fun (x : ByteArray × Int × Int) => (⟨x.1, x.2.1, x.2.2⟩ : P.S83)) (fun _ => rfl) (O.opens_struct Tryd.underlying83 (O.opensF_cons (by kernel_rfl) (O.opens_string Tryd.underlying9 (by kernel_rfl)) (O.opensF_cons (by kernel_rfl) (O.opens_int Tryd.underlying3 (by kernel_rfl)) (O.opensF_one (by kernel_rfl) (by kernel_rfl) (O.opens_int Tryd.underlying3 (by kernel_rfl)))))))))))))) (fun a h => P.Fit26.mk a h.1 h.2.1.1 h.2.1.2 h.2.2))
theorem witness_row (os : Os) {H : Type} (enc : TypeId × Value → H) :
    (OpenSpec.ofChange Rows.fnExactEntriesSpec).preRow enc Tryd.prog Tryd.f3 Rows.fnExactEntriesRow.domain false Rows.fnExactEntriesRow.laid ((Laid.world os).forCall (fun _ _ => 0) ⟨#[], #[.agg #[.slice none 0 0, .slice none 0 0, .slice none 0 0]], []⟩).memory #[.agg #[.slice none 0 0, .slice none 0 0, .slice none 0 0]] := by
  obtain ⟨x, hx⟩ := Option.isSome_iff_exists.1 (show (DataW.whole enc Tryd.prog ((Laid.world os).forCall (fun _ _ => 0) ⟨#[], #[.agg #[.slice none 0 0, .slice none 0 0, .slice none 0 0]], []⟩).memory Tryd.f3.params.toList (OpenSpec.ofChange Rows.fnExactEntriesSpec).vars false (#[.agg #[.slice none 0 0, .slice none 0 0, .slice none 0 0]] : Array Value).toList 8).isSome = true by kernel_rfl)
  exact OpenSpec.preRow_of_cond 8 hx rfl (fun k hk => by cases hk) (by kernel_rfl) (Laid.laid_met os _)
set_option maxRecDepth 100000 in
theorem lifted (os : Os) (started : os.Started) (H : Type) (enc : TypeId × Value → H) (F : Stop.Interp) :
    ReturnsInHanded {} Tryd.checked os 3 .any ((OpenSpec.ofChange Rows.fnExactEntriesSpec).preRow enc Tryd.prog Tryd.f3 Rows.fnExactEntriesRow.domain false Rows.fnExactEntriesRow.laid) (((OpenSpec.ofChange Rows.fnExactEntriesSpec).at F).post enc Tryd.prog Tryd.f3 false true false false) := by
  refine returnsInHanded_of_row (C := Tryd.checked) (s := OpenSpec.ofChange Rows.fnExactEntriesSpec) own started (by kernel_rfl) Tryd.func3
    (witness_row_atRef (enc := enc) (C := Tryd.checked) false (Laid.world os) #[.agg #[.slice none 0 0, .slice none 0 0, .slice none 0 0]] rfl (by kernel_rfl) (by kernel_rfl) (by kernel_rfl) (witness_row os enc)) ?_
  intro W base args ds gs before hval0 hW _ _ hsz0 hL hsh _
  have hT : X.Tabs W := Laid.tabs hL hsh
  have hsz : (DataW.weightsEach Tryd.prog (Tryd.f3.params.toList ++ Rows.fnExactEntriesSpec.plain.varTypes Tryd.prog) (ds ++ gs)).all (· ≤ reachBytes) = true := hsz0
  have hval : ∀ (j : Nat) t v, Tryd.f3.params[j]? = some t → args[j]? = some v → Value.okWide Tryd.prog W .any base t v := hval0
  have hW' := hW
  obtain ⟨p, q, hA0, hV, rfl, hfz, hnd⟩ := hW
  have hA : DataW.TrodAll enc Tryd.prog W 0 (fun _ => true) true Tryd.f3.params.toList args.toList ds p := hA0
  rw [Tryd.params3] at hA hval hsz
  obtain ⟨v0, vs0, d0, ds0, p0, q0, hargs, rfl, rfl, h0, r0⟩ := trodAll_cons hA
  obtain ⟨rfl, rfl, rfl⟩ := trodAll_nil r0
  obtain rfl : args = #[v0] := by cases args; simp_all
  obtain ⟨rfl, rfl⟩ := trodVars_none hV
  obtain ⟨cs0, rfl, _⟩ := okWide_struct Tryd.underlying26 (hval 0 26 v0 rfl rfl)
  have k0 := h0
  have lt0 : ∀ x ∈ p0, x.block < W.heap.size := by obtain ⟨m, hm⟩ := k0; exact DataW.trod_lt m _ _ _ hm
  obtain ⟨⟨l0_0, l0_1, l0_2⟩, ⟨_, _, e0, ⟨A0_0, c0_0, rfl, hc0_0, hr0_0⟩, ⟨_, _, rfl, ⟨A0_1, c0_1, rfl, hc0_1, hr0_1⟩, ⟨A0_2, c0_2, rfl, hc0_2, hr0_2⟩⟩⟩, ⟨g0_0, g0_1, g0_2⟩⟩ := O.opens_arg (j := 0) (t := 26) hsz rfl rfl h0 (O.opens_struct Tryd.underlying26 (O.opensF_cons (by kernel_rfl) (O.opens_slice Tryd.underlying22 (by kernel_rfl) (by kernel_rfl) (O.opens_string Tryd.underlying9 (by kernel_rfl))) (O.opensF_cons (by kernel_rfl) (O.opens_slice Tryd.underlying23 (by kernel_rfl) (by kernel_rfl) (opens26)) (O.opensF_one (by kernel_rfl) (by kernel_rfl) (O.opens_slice Tryd.underlying24 (by kernel_rfl) (by kernel_rfl) (O.opens_iso (f := fun x : P.S83 => (x.f0, x.f1, x.f2)) (fun (x : ByteArray × Int × Int) => (⟨x.1, x.2.1, x.2.2⟩ : P.S83)) (fun _ => rfl) (O.opens_struct Tryd.underlying83 (O.opensF_cons (by kernel_rfl) (O.opens_string Tryd.underlying9 (by kernel_rfl)) (O.opensF_cons (by kernel_rfl) (O.opens_int Tryd.underlying3 (by kernel_rfl)) (O.opensF_one (by kernel_rfl) (by kernel_rfl) (O.opens_int Tryd.underlying3 (by kernel_rfl))))))))))))
  obtain rfl : cs0 = #[.slice A0_0 l0_0.length c0_0, .slice A0_1 l0_1.length c0_1, .slice A0_2 l0_2.length c0_2] := by
    apply Array.ext'
    exact e0
  clear hA0 hval0 hsz0 hsz
  refine (P.laws_FnExactEntries.walk Pure.FnExactEntries _ _ l0_0 _ _ l0_1 _ _ l0_2 W hr0_0 hc0_0 hr0_1 hc0_1 hr0_2 hc0_2 g0_0 g0_1 g0_2 hT).mono fun e W' ⟨he, bel⟩ => ?_
  subst he
  exact ⟨_, rfl, _, _, _, [], _, [], hW', trodAll_mk1 (shut_bool Tryd.underlying4 _), (trodAll_cons_mk (Below.trod laidOut (by kernel_rfl) (of_decide_eq_true (by kernel_rfl)) k0 bel lt0) trodAll_mk0), rfl, bel.frame _, fun h => by cases h⟩
theorem over : Rows.fnExactEntriesRow.holds Tryd.pinned (OpenSpec.ofChange Rows.fnExactEntriesSpec) :=
  OpenClaim.holds_of_cond 3 Tryd.f3 rfl rfl rfl rfl rfl rfl rfl ⟨rfl, rfl, rfl, rfl, rfl⟩ rfl rfl rfl rfl rfl (by kernel_rfl) Tryd.func3 (by kernel_rfl)
    (of_decide_eq_true (by kernel_rfl)) (by unfold Func.isWrapper; first | (rw [if_pos (by decide +kernel)]; kernel_rfl) | (rw [if_neg (by decide +kernel)]; exact ⟨rfl, rfl⟩))
    (fun os started H enc _ F0 => by rw [OpenClaim.pre_eq_preRow]; exact lifted os started H enc F0)
theorem proved : Rows.FnExactEntriesCardSaid :=
  Claim7.holds_tied_plain_at .later [] [.data, .pinned] true (true, "0bd658446a8fa88927745d0140a238a7600528b682f548d255fc8fd7e2bbda8b") false
    over (fun _ h => by cases h) (by kernel_rfl) (fun _ h => by cases h) fnExactEntries_row_tie rfl ⟨rfl, rfl⟩ (by kernel_rfl) rfl
    (fun f fn hf hfn => by
      obtain rfl : f = 3 := Option.some.inj ((show Tryd.prog.funcNamed "loop.example/g00480/laws.FnExactEntries" = some 3 by kernel_rfl).symm.trans hf) |>.symm
      obtain rfl : fn = Tryd.f3 := (Option.some.inj (Tryd.func3.symm.trans hfn)).symm
      exact ⟨by kernel_rfl, fun j t ht => by
        rw [Tryd.params3] at ht
        rcases j with _ | j
        · obtain rfl : t = 26 := by simpa using ht.symm
          exact (show Tryd.prog.wantsStandIn 26 = false by kernel_rfl)
        · simp at ht⟩)
    (by kernel_rfl)
#print axioms proved
end Go.Proofs.YtggokdobijhdhaaDoor.fnExactEntries
namespace Go.Proofs.YtggokdobijhdhaaDoor
/-- The card, under a short name, for the claim. -/
theorem fnExactEntries_holds : Rows.FnExactEntriesCardSaid := fnExactEntries.proved
end Go.Proofs.YtggokdobijhdhaaDoor
