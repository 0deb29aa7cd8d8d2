/- A TIED CARD. Proved: the law FnExactSameRoot answers true at every input that its row speaks of, and leaves its arguments as they were; no condition beside the row's own. Laid out by a program of this work (row.py), in the form of the kit's printed rows. -/
import Derived.Test.YtggokdobijhdhaaDoorRows
import Derived.Test.YtggokdobijhdhaaDoorCards
import Derived.Test.YtggokdobijhdhaaDoorTie
import Derived.Test.YtggokdobijhdhaaDoorMgFnExactSameRoot
import Derived.SevenTiedAt
import Derived.WalkKit
import Derived.ProofKit
import Derived.OpenShut
import Derived.ChangeOld
import Derived.Below
import Derived.Carry
import Derived.SizedLaws
namespace Go.Proofs.YtggokdobijhdhaaDoor.fnExactSameRoot
open Go.ChangeShapes Go.WideShapes Go.ChangeAt Go.RowKit
set_option linter.unusedVariables false
theorem own : ownKnob Tryd.prog.godebug = none := by kernel_rfl
theorem laidOut : laidOutB Tryd.prog = true := by kernel_rfl
theorem opens26 {H : Type} {enc : TypeId × Value → H} {W : World} {base : Nat} {spare : Nat → Bool} {held : Bool} : O.Opens enc Tryd.prog W base spare held 26 P.k26 P.Fit26 :=
  O.opens_fix (by kernel_rfl) (fun m d hd => O.opensB_fit (O.opensB_iso (f := fun x : P.S26 => (x.f0, x.f1, x.f2)) (fun (x : (List ByteArray) × (List P.S26) × (List P.S83)) => (⟨x.1, x.2.1, x.2.2⟩ : P.S26)) (fun _ => rfl) (O.opensB_struct Tryd.underlying26 (O.opensFB_cons (by kernel_rfl) (O.opensB_of (O.opens_slice Tryd.underlying22 (by kernel_rfl) (by kernel_rfl) (O.opens_string Tryd.underlying9 (by kernel_rfl)))) (O.opensFB_cons (by kernel_rfl) (O.opensB_slice Tryd.underlying23 (by kernel_rfl) (by kernel_rfl) hd) (O.opensFB_one (by kernel_rfl) (by kernel_rfl) (O.opensB_of (O.opens_slice Tryd.underlying24 (by kernel_rfl) (by kernel_rfl) (O.opens_iso (f := fun x : P.S83 => (x.f0, x.f1, x.f2)) (fun (x : ByteArray × Int × Int) => (⟨x.1, x.2.1, x.2.2⟩ : P.S83)) (fun _ => rfl) (O.opens_struct Tryd.underlying83 (O.opensF_cons (by kernel_rfl) (O.opens_string Tryd.underlying9 (by kernel_rfl)) (O.opensF_cons (by kernel_rfl) (O.opens_int Tryd.underlying3 (by kernel_rfl)) (O.opensF_one (by kernel_rfl) (by kernel_rfl) (O.opens_int Tryd.underlying3 (by kernel_rfl)))))))))))))) (fun a h => P.Fit26.mk a h.1 h.2.1.1 h.2.1.2 h.2.2))
theorem witness_row (os : Os) {H : Type} (enc : TypeId × Value → H) :
    (OpenSpec.ofChange Rows.fnExactSameRootSpec).preRow enc Tryd.prog Tryd.f5 Rows.fnExactSameRootRow.domain false Rows.fnExactSameRootRow.laid ((Laid.world os).forCall (fun _ _ => 0) ⟨#[], #[.agg #[.int .i64 0, .slice none 0 0, .slice none 0 0, .slice none 0 0, .slice none 0 0], .agg #[.int .i64 0, .slice none 0 0, .slice none 0 0, .slice none 0 0, .slice none 0 0]], []⟩).memory #[.agg #[.int .i64 0, .slice none 0 0, .slice none 0 0, .slice none 0 0, .slice none 0 0], .agg #[.int .i64 0, .slice none 0 0, .slice none 0 0, .slice none 0 0, .slice none 0 0]] := by
  obtain ⟨x, hx⟩ := Option.isSome_iff_exists.1 (show (DataW.whole enc Tryd.prog ((Laid.world os).forCall (fun _ _ => 0) ⟨#[], #[.agg #[.int .i64 0, .slice none 0 0, .slice none 0 0, .slice none 0 0, .slice none 0 0], .agg #[.int .i64 0, .slice none 0 0, .slice none 0 0, .slice none 0 0, .slice none 0 0]], []⟩).memory Tryd.f5.params.toList (OpenSpec.ofChange Rows.fnExactSameRootSpec).vars false (#[.agg #[.int .i64 0, .slice none 0 0, .slice none 0 0, .slice none 0 0, .slice none 0 0], .agg #[.int .i64 0, .slice none 0 0, .slice none 0 0, .slice none 0 0, .slice none 0 0]] : Array Value).toList 8).isSome = true by kernel_rfl)
  exact OpenSpec.preRow_of_cond 8 hx rfl (fun k hk => by cases hk) (by kernel_rfl) (Laid.laid_met os _)
set_option maxRecDepth 100000 in
theorem lifted (os : Os) (started : os.Started) (H : Type) (enc : TypeId × Value → H) (F : Stop.Interp) :
    ReturnsInHanded {} Tryd.checked os 5 .any ((OpenSpec.ofChange Rows.fnExactSameRootSpec).preRow enc Tryd.prog Tryd.f5 Rows.fnExactSameRootRow.domain false Rows.fnExactSameRootRow.laid) (((OpenSpec.ofChange Rows.fnExactSameRootSpec).at F).post enc Tryd.prog Tryd.f5 false true false false) := by
  refine returnsInHanded_of_row (C := Tryd.checked) (s := OpenSpec.ofChange Rows.fnExactSameRootSpec) own started (by kernel_rfl) Tryd.func5
    (witness_row_atRef (enc := enc) (C := Tryd.checked) false (Laid.world os) #[.agg #[.int .i64 0, .slice none 0 0, .slice none 0 0, .slice none 0 0, .slice none 0 0], .agg #[.int .i64 0, .slice none 0 0, .slice none 0 0, .slice none 0 0, .slice none 0 0]] rfl (by kernel_rfl) (by kernel_rfl) (by kernel_rfl) (witness_row os enc)) ?_
  intro W base args ds gs before hval0 hW _ _ hsz0 hL hsh _
  have hT : X.Tabs W := Laid.tabs hL hsh
  have hsz : (DataW.weightsEach Tryd.prog (Tryd.f5.params.toList ++ Rows.fnExactSameRootSpec.plain.varTypes Tryd.prog) (ds ++ gs)).all (· ≤ reachBytes) = true := hsz0
  have hval : ∀ (j : Nat) t v, Tryd.f5.params[j]? = some t → args[j]? = some v → Value.okWide Tryd.prog W .any base t v := hval0
  have hW' := hW
  obtain ⟨p, q, hA0, hV, rfl, hfz, hnd⟩ := hW
  have hA : DataW.TrodAll enc Tryd.prog W 0 (fun _ => true) true Tryd.f5.params.toList args.toList ds p := hA0
  rw [Tryd.params5] at hA hval hsz
  obtain ⟨v0, vs0, d0, ds0, p0, q0, hargs, rfl, rfl, h0, r0⟩ := trodAll_cons hA
  obtain ⟨v1, vs1, d1, ds1, p1, q1, rfl, rfl, rfl, h1, r1⟩ := trodAll_cons r0
  obtain ⟨rfl, rfl, rfl⟩ := trodAll_nil r1
  obtain rfl : args = #[v0, v1] := by cases args; simp_all
  obtain ⟨rfl, rfl⟩ := trodVars_none hV
  obtain ⟨cs0, rfl, _⟩ := okWide_struct Tryd.underlying42 (hval 0 42 v0 rfl rfl)
  have k0 := h0
  have lt0 : ∀ x ∈ p0, x.block < W.heap.size := by obtain ⟨m, hm⟩ := k0; exact DataW.trod_lt m _ _ _ hm
  obtain ⟨⟨a0_0, ⟨l0_1, l0_2, l0_3⟩, l0_4⟩, ⟨_, _, e0, rfl, ⟨_, _, rfl, ⟨_, _, rfl, ⟨A0_1, c0_1, rfl, hc0_1, hr0_1⟩, ⟨_, _, rfl, ⟨A0_2, c0_2, rfl, hc0_2, hr0_2⟩, ⟨A0_3, c0_3, rfl, hc0_3, hr0_3⟩⟩⟩, ⟨A0_4, c0_4, rfl, hc0_4, hr0_4⟩⟩⟩, ⟨g0_0, ⟨g0_1, g0_2, g0_3⟩, g0_4⟩⟩ := O.opens_arg (j := 0) (t := 42) hsz rfl rfl h0 (O.opens_struct Tryd.underlying42 (O.opensF_cons (by kernel_rfl) (O.opens_int Tryd.underlying3 (by kernel_rfl)) (O.opensF_cons (by kernel_rfl) (O.opens_struct Tryd.underlying26 (O.opensF_cons (by kernel_rfl) (O.opens_slice Tryd.underlying22 (by kernel_rfl) (by kernel_rfl) (O.opens_string Tryd.underlying9 (by kernel_rfl))) (O.opensF_cons (by kernel_rfl) (O.opens_slice Tryd.underlying23 (by kernel_rfl) (by kernel_rfl) (opens26)) (O.opensF_one (by kernel_rfl) (by kernel_rfl) (O.opens_slice Tryd.underlying24 (by kernel_rfl) (by kernel_rfl) (O.opens_iso (f := fun x : P.S83 => (x.f0, x.f1, x.f2)) (fun (x : ByteArray × Int × Int) => (⟨x.1, x.2.1, x.2.2⟩ : P.S83)) (fun _ => rfl) (O.opens_struct Tryd.underlying83 (O.opensF_cons (by kernel_rfl) (O.opens_string Tryd.underlying9 (by kernel_rfl)) (O.opensF_cons (by kernel_rfl) (O.opens_int Tryd.underlying3 (by kernel_rfl)) (O.opensF_one (by kernel_rfl) (by kernel_rfl) (O.opens_int Tryd.underlying3 (by kernel_rfl)))))))))))) (O.opensF_one (by kernel_rfl) (by kernel_rfl) (O.opens_slice Tryd.underlying40 (by kernel_rfl) (by kernel_rfl) (O.opens_iso (f := fun x : P.S92 => (x.f0, x.f1, x.f2)) (fun (x : ByteArray × (List Int) × Int) => (⟨x.1, x.2.1, x.2.2⟩ : P.S92)) (fun _ => rfl) (O.opens_struct Tryd.underlying92 (O.opensF_cons (by kernel_rfl) (O.opens_string Tryd.underlying9 (by kernel_rfl)) (O.opensF_cons (by kernel_rfl) (O.opens_slice Tryd.underlying75 (by kernel_rfl) (by kernel_rfl) (O.opens_int Tryd.underlying5 (by kernel_rfl))) (O.opensF_one (by kernel_rfl) (by kernel_rfl) (O.opens_int Tryd.underlying3 (by kernel_rfl))))))))))))
  obtain rfl : cs0 = #[.int .i64 a0_0, .slice A0_1 l0_1.length c0_1, .slice A0_2 l0_2.length c0_2, .slice A0_3 l0_3.length c0_3, .slice A0_4 l0_4.length c0_4] := by
    apply Array.ext'
    exact e0
  obtain ⟨cs1, rfl, _⟩ := okWide_struct Tryd.underlying42 (hval 1 42 v1 rfl rfl)
  have k1 := h1
  have lt1 : ∀ x ∈ p1, x.block < W.heap.size := by obtain ⟨m, hm⟩ := k1; exact DataW.trod_lt m _ _ _ hm
  obtain ⟨⟨a1_0, ⟨l1_1, l1_2, l1_3⟩, l1_4⟩, ⟨_, _, e1, rfl, ⟨_, _, rfl, ⟨_, _, rfl, ⟨A1_1, c1_1, rfl, hc1_1, hr1_1⟩, ⟨_, _, rfl, ⟨A1_2, c1_2, rfl, hc1_2, hr1_2⟩, ⟨A1_3, c1_3, rfl, hc1_3, hr1_3⟩⟩⟩, ⟨A1_4, c1_4, rfl, hc1_4, hr1_4⟩⟩⟩, ⟨g1_0, ⟨g1_1, g1_2, g1_3⟩, g1_4⟩⟩ := O.opens_arg (j := 1) (t := 42) hsz rfl rfl h1 (O.opens_struct Tryd.underlying42 (O.opensF_cons (by kernel_rfl) (O.opens_int Tryd.underlying3 (by kernel_rfl)) (O.opensF_cons (by kernel_rfl) (O.opens_struct Tryd.underlying26 (O.opensF_cons (by kernel_rfl) (O.opens_slice Tryd.underlying22 (by kernel_rfl) (by kernel_rfl) (O.opens_string Tryd.underlying9 (by kernel_rfl))) (O.opensF_cons (by kernel_rfl) (O.opens_slice Tryd.underlying23 (by kernel_rfl) (by kernel_rfl) (opens26)) (O.opensF_one (by kernel_rfl) (by kernel_rfl) (O.opens_slice Tryd.underlying24 (by kernel_rfl) (by kernel_rfl) (O.opens_iso (f := fun x : P.S83 => (x.f0, x.f1, x.f2)) (fun (x : ByteArray × Int × Int) => (⟨x.1, x.2.1, x.2.2⟩ : P.S83)) (fun _ => rfl) (O.opens_struct Tryd.underlying83 (O.opensF_cons (by kernel_rfl) (O.opens_string Tryd.underlying9 (by kernel_rfl)) (O.opensF_cons (by kernel_rfl) (O.opens_int Tryd.underlying3 (by kernel_rfl)) (O.opensF_one (by kernel_rfl) (by kernel_rfl) (O.opens_int Tryd.underlying3 (by kernel_rfl)))))))))))) (O.opensF_one (by kernel_rfl) (by kernel_rfl) (O.opens_slice Tryd.underlying40 (by kernel_rfl) (by kernel_rfl) (O.opens_iso (f := fun x : P.S92 => (x.f0, x.f1, x.f2)) (fun (x : ByteArray × (List Int) × Int) => (⟨x.1, x.2.1, x.2.2⟩ : P.S92)) (fun _ => rfl) (O.opens_struct Tryd.underlying92 (O.opensF_cons (by kernel_rfl) (O.opens_string Tryd.underlying9 (by kernel_rfl)) (O.opensF_cons (by kernel_rfl) (O.opens_slice Tryd.underlying75 (by kernel_rfl) (by kernel_rfl) (O.opens_int Tryd.underlying5 (by kernel_rfl))) (O.opensF_one (by kernel_rfl) (by kernel_rfl) (O.opens_int Tryd.underlying3 (by kernel_rfl))))))))))))
  obtain rfl : cs1 = #[.int .i64 a1_0, .slice A1_1 l1_1.length c1_1, .slice A1_2 l1_2.length c1_2, .slice A1_3 l1_3.length c1_3, .slice A1_4 l1_4.length c1_4] := by
    apply Array.ext'
    exact e1
  clear hA0 hval0 hsz0 hsz
  refine (P.laws_FnExactSameRoot.walk Pure.FnExactSameRoot a0_0 _ _ l0_1 _ _ l0_2 _ _ l0_3 _ _ l0_4 a1_0 _ _ l1_1 _ _ l1_2 _ _ l1_3 _ _ l1_4 W hr0_1 hc0_1 hr0_2 hc0_2 hr0_3 hc0_3 hr0_4 hc0_4 hr1_1 hc1_1 hr1_2 hc1_2 hr1_3 hc1_3 hr1_4 hc1_4 g0_0 g0_1 g0_2 g0_3 g0_4 g1_0 g1_1 g1_2 g1_3 g1_4 hT).mono fun e W' ⟨he, bel⟩ => ?_
  subst he
  exact ⟨_, rfl, _, _, _, [], _, [], hW', trodAll_mk1 (shut_bool Tryd.underlying4 _), (trodAll_cons_mk (Below.trod laidOut (by kernel_rfl) (of_decide_eq_true (by kernel_rfl)) k0 bel lt0) (trodAll_cons_mk (Below.trod laidOut (by kernel_rfl) (of_decide_eq_true (by kernel_rfl)) k1 bel lt1) trodAll_mk0)), rfl, bel.frame _, fun h => by cases h⟩
theorem over : Rows.fnExactSameRootRow.holds Tryd.pinned (OpenSpec.ofChange Rows.fnExactSameRootSpec) :=
  OpenClaim.holds_of_cond 5 Tryd.f5 rfl rfl rfl rfl rfl rfl rfl ⟨rfl, rfl, rfl, rfl, rfl⟩ rfl rfl rfl rfl rfl (by kernel_rfl) Tryd.func5 (by kernel_rfl)
    (of_decide_eq_true (by kernel_rfl)) (by unfold Func.isWrapper; first | (rw [if_pos (by decide +kernel)]; kernel_rfl) | (rw [if_neg (by decide +kernel)]; exact ⟨rfl, rfl⟩))
    (fun os started H enc _ F0 => by rw [OpenClaim.pre_eq_preRow]; exact lifted os started H enc F0)
theorem proved : Rows.FnExactSameRootCardSaid :=
  Claim7.holds_tied_plain_at .later [] [.data, .pinned] true (true, "0bd658446a8fa88927745d0140a238a7600528b682f548d255fc8fd7e2bbda8b") false
    over (fun _ h => by cases h) (by kernel_rfl) (fun _ h => by cases h) fnExactSameRoot_row_tie rfl ⟨rfl, rfl⟩ (by kernel_rfl) rfl
    (fun f fn hf hfn => by
      obtain rfl : f = 5 := Option.some.inj ((show Tryd.prog.funcNamed "loop.example/g00480/laws.FnExactSameRoot" = some 5 by kernel_rfl).symm.trans hf) |>.symm
      obtain rfl : fn = Tryd.f5 := (Option.some.inj (Tryd.func5.symm.trans hfn)).symm
      exact ⟨by kernel_rfl, fun j t ht => by
        rw [Tryd.params5] at ht
        rcases j with _ | ⟨_ | j⟩
        · obtain rfl : t = 42 := by simpa using ht.symm
          exact (show Tryd.prog.wantsStandIn 42 = false by kernel_rfl)
        · obtain rfl : t = 42 := by simpa using ht.symm
          exact (show Tryd.prog.wantsStandIn 42 = false by kernel_rfl)
        · simp at ht⟩)
    (by kernel_rfl)
#print axioms proved
end Go.Proofs.YtggokdobijhdhaaDoor.fnExactSameRoot
namespace Go.Proofs.YtggokdobijhdhaaDoor
/-- The card, under a short name, for the claim. -/
theorem fnExactSameRoot_holds : Rows.FnExactSameRootCardSaid := fnExactSameRoot.proved
end Go.Proofs.YtggokdobijhdhaaDoor
