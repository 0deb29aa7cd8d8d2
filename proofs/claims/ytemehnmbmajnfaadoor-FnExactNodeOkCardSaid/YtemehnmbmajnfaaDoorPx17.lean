-- Printed by a program over the kit's print.py (mp.sh), several laws in one namespace.
import Derived.Test.YtemehnmbmajnfaaDoorPx0
import Derived.Test.YtemehnmbmajnfaaDoorS
import Derived.Test.YtemehnmbmajnfaaDoorPx16
namespace Go.Proofs.YtemehnmbmajnfaaDoor.P
open Go.RowKit Go.Proofs.YtemehnmbmajnfaaDoor.X Go.Proofs.YtemehnmbmajnfaaDoorW.PrintWords Go.Proofs.YtemehnmbmajnfaaDoorW.PrintLast Go.Proofs.YtemehnmbmajnfaaDoorW.PrintMore
attribute [local go_sem] max2_int min2_int max_two min_two max_three min_three max_four min_four   -- for this text's walks alone
set_option linter.unusedVariables false
set_option linter.unusedSimpArgs false

def laws_eqSubS_bools0_ : Array Bool := bs_ 10 0
def laws_eqSubS_bools1_ : Array Bool := bs_ 10 1
def laws_eqSubS_bools2_ : Array Bool := bs_ 10 3
def laws_eqSubS_bools3_ : Array Bool := bs_ 10 7
def laws_eqSubS_bools4_ : Array Bool := bs_ 10 23
def laws_eqSubS_bools5_ : Array Bool := bs_ 10 55
def laws_eqSubS_bools6_ : Array Bool := bs_ 10 119
def laws_eqSubS_bools7_ : Array Bool := bs_ 10 127
def laws_eqSubS_bools8_ : Array Bool := bs_ 10 255
def laws_eqSubS_bools9_ : Array Bool := bs_ 10 511
def laws_eqSubS_bools10_ : Array Bool := bs_ 10 1023
/-! ### laws_eqSubS: function 33 -/
def laws_eqSubS.l0 : Nat → List (S81) → List (S81) → Int → Option (Bool)
  | 0, _, _, _ => none
  | k + 1, x0, x1, x5 => if x5 < (x0.length : Int) then (if 0 ≤ x5 then (if x5 < (x1.length : Int) then ((laws_eqSub.f ((rd_T81 x0 x5).f0) ((rd_T81 x0 x5).f1) ((rd_T81 x0 x5).f2) ((rd_T81 x1 x5).f0) ((rd_T81 x1 x5).f1) ((rd_T81 x1 x5).f2)).bind fun t255 => (if t255 = true then (laws_eqSubS.l0 k x0 x1 (wrap64 (x5 + 1))) else (some false))) else (none)) else (none)) else (some true)
def laws_eqSubS.f (k : Nat) (l0 : List (S81)) (l1 : List (S81)) : Option (Bool) := if (l0.length : Int) = (l1.length : Int) then (laws_eqSubS.l0 k l0 l1 0) else (some false)
theorem laws_eqSubS.mono_l : ∀ k, (∀ y0 y1 y2, LeO (laws_eqSubS.l0 k y0 y1 y2) (laws_eqSubS.l0 (k + 1) y0 y1 y2))
  | 0 => fun _ _ _ r h => by simp [laws_eqSubS.l0] at h
  | k + 1 => by
    have ih0 := laws_eqSubS.mono_l k
    · intro y0 y1 y2
      unfold laws_eqSubS.l0
      repeat' first
      | (with_reducible exact ih0 _ _ _)
      | (with_reducible exact LeO.refl _)
      | (with_reducible exact LeO.none _)
      | (with_reducible refine LeO.ite ?_ ?_)
      | (with_reducible refine LeO.bind ?_ (fun _ => ?_))
      | exact ih0 _ _ _
      | exact LeO.none _
      | refine LeO.ite ?_ ?_
      | refine LeO.bind ?_ (fun _ => ?_)
theorem laws_eqSubS.mono : ∀ a0 a1 k, LeO (laws_eqSubS.f k a0 a1) (laws_eqSubS.f (k + 1) a0 a1) := by
  intro a0 a1 k
  have ih0 := laws_eqSubS.mono_l k
  unfold laws_eqSubS.f
  repeat' first
      | (with_reducible exact ih0 _ _ _)
      | (with_reducible exact LeO.refl _)
      | (with_reducible exact LeO.none _)
      | (with_reducible refine LeO.ite ?_ ?_)
      | (with_reducible refine LeO.bind ?_ (fun _ => ?_))
      | exact ih0 _ _ _
      | exact LeO.none _
      | refine LeO.ite ?_ ?_
      | refine LeO.bind ?_ (fun _ => ?_)
def laws_eqSubS.T6 : Bool × List (List Nat × List Nat) := (true, [([], []), ([], []), ([0, 1], [0, 1]), ([2], [2]), ([], []), ([], []), ([4, 5], [4, 5]), ([6], [6]), ([3, 7], [3, 7]), ([8], [8])])
def laws_eqSubS.B6 : List Nat := [0, 0, 3, 7, 0, 0, 48, 112, 255, 511]
theorem laws_eqSubS.tab6 : rtab .any (opsOf Tryd.f33 6) = laws_eqSubS.T6 := by kernel_rfl
theorem laws_eqSubS.bits6 : waitsOk laws_eqSubS.T6.2 laws_eqSubS.B6 = true := by kernel_rfl
set_option maxHeartbeats 8000000 in
set_option maxRecDepth 100000 in
theorem laws_eqSubS.calls (k : Nat) (A0 : Option Addr) (c0 : Nat) (l0 : List (S81)) (A1 : Option Addr) (c1 : Nat) (l1 : List (S81)) (r : Bool) (w : World) (hr0 : Kd.C k81 w A0 l0.length l0) (hc0 : l0.length ≤ c0) (hr1 : Kd.C k81 w A1 l1.length l1) (hc1 : l1.length ≤ c1) (h : laws_eqSubS.f k l0 l1 = some r) :
    Calls Tryd.prog 33 #[.slice A0 l0.length c0, .slice A1 l1.length c1] w fun e w' => e = .returned (.bool r) ∧ Below w.heap.size w w' := by
  have huz1 := Tryd.underlying81
  have HRz1 := Aside0.mk hr0
  have HCz1 := Aside0.mk hc0
  clear hr0 hc0
  have HRz2 := Aside0.mk hr1
  have HCz2 := Aside0.mk hc1
  clear hr1 hc1
  have HB := Aside0.mk (Below.refl w.heap.size w)
  have H : (if (l0.length : Int) = (l1.length : Int) then (laws_eqSubS.l0 k l0 l1 0) else (some false)) = some r := h
  clear h
  by_cases cz1 : (l0.length : Int) = (l1.length : Int)
  rotate_left
  · rw [if_neg cz1] at H
    have c3b0 : ((l0.length : Int) == (l1.length : Int)) = false := beq_eq_false_iff_ne.mpr cz1
    have c3b1 : ((l0.length : Int) != (l1.length : Int)) = true := bne_iff_ne.mpr cz1
    have c3b2 : (l0.length == l1.length) = false := by first | simpa using cz1 | (simp at cz1 ⊢; omega)
    obtain rfl := Option.some.inj H
    go_enter Tryd.func33, Tryd.ntmps33
    go_wp2
    go_ret
    exact ⟨by first | rfl | (simp [errW_none, errW_some] <;> rfl) | (simp [*, errW_none, errW_some] <;> rfl), be_⟩
  rw [if_pos cz1] at H
  have c3b0 : ((l0.length : Int) == (l1.length : Int)) = true := beq_iff_eq.mpr cz1
  have c3b1 : ((l0.length : Int) != (l1.length : Int)) = false := bne_eq_false_iff_eq.mpr cz1
  have c3b2 : (l0.length == l1.length) = true := by first | simpa using cz1 | (simp at cz1 ⊢; omega)
  clear cz1
  have H' := Aside0.mk H
  clear H
  go_enter Tryd.func33, Tryd.ntmps33
  go_wp2
  go_loopg [5] k (fun kq v5 w' => ∃ (x5_1 : Int), v5 = .int .i64 x5_1 ∧ Aside0 (laws_eqSubS.l0 kq l0 l1 x5_1 = some r) ∧ Aside0 (kq ≤ k) ∧ Aside0 (Below w.heap.size w w'))
  case atStart => exact ⟨(0), (by first | rfl | (simp; done) | (simp [*]; done)), H', ⟨Nat.le_refl _⟩, ⟨be_⟩⟩
  case round =>
    clear H'
    try clear c1
    try clear p2
    try clear cz1
    try clear c3b0
    try clear c3b1
    try clear c3b2
    obtain ⟨xz1, rfl, HA, HKz1, HB⟩ := hrel
    cases gk with
    | zero => exact absurd HA.out (by simp [laws_eqSubS.l0])
    | succ kz1 =>
      have H := HA.out
      clear HA
      simp only [laws_eqSubS.l0] at H
      by_cases cz2 : xz1 < (l0.length : Int)
      rotate_left
      · rw [if_neg cz2] at H
        have c4b0 : decide (xz1 < (l0.length : Int)) = false := decide_eq_false cz2
        clear cz2
        obtain rfl := Option.some.inj H
        go_wp2
        go_ret
        exact ⟨by first | rfl | (simp [errW_none, errW_some] <;> rfl) | (simp [*, errW_none, errW_some] <;> rfl), be_⟩
      rw [if_pos cz2] at H
      have c4b0 : decide (xz1 < (l0.length : Int)) = true := decide_eq_true cz2
      clear cz2
      by_cases cz3 : 0 ≤ xz1
      rotate_left
      · rw [if_neg cz3] at H
        exact absurd H (by simp)
      rw [if_pos cz3] at H
      have c5b0 : decide (0 ≤ xz1) = true := decide_eq_true cz3
      clear cz3
      by_cases cz4 : xz1 < (l1.length : Int)
      rotate_left
      · rw [if_neg cz4] at H
        exact absurd H (by simp)
      rw [if_pos cz4] at H
      have c6b0 : decide (xz1 < (l1.length : Int)) = true := decide_eq_true cz4
      clear cz4
      replace H := Option.bind_eq_some_iff.mp H
      obtain ⟨tz1, Az1, H⟩ := H
      replace H : (if tz1 = true then (laws_eqSubS.l0 kz1 l0 l1 (wrap64 (xz1 + 1))) else (some false)) = some r := H
      have Az2 := Aside0.mk Az1
      clear Az1
      by_cases cz5 : tz1 = true
      rotate_left
      · replace cz5 := Bool.eq_false_iff.mpr cz5
        subst cz5
        have Hz1 : (some false) = some r := by rw [if_neg (show ¬ (false = true) by decide)] at H; exact H
        clear H
        have H := Hz1
        clear Hz1
        obtain rfl := Option.some.inj H
        try go_wp2
        have nz1 := Aside0.mk (below_drew1 HB.out)
        clear HB
        have HB := nz1
        clear nz1
        have pz1 : 0 ≤ (xz1 : Int) := of_decide_eq_true as_
        have qz1 : xz1 < (l0.length : Int) := of_decide_eq_true as_
        obtain ⟨adz1, ez1, hxz1, hxz2, hxz3⟩ := at_T81 HRz1.out xz1 pz1 qz1
        have hwz1 := hxz3
        have hwz2 := hxz2
        have hwz3 := hxz1
        cases ez1
        replace hxz1 := (HB.out.cell (World.block_lt_of_cell? w _ hxz1)).trans hxz1
        replace hxz2 := (HB.out.cell (World.block_lt_of_cell? w _ hxz2)).trans hxz2
        replace hxz3 := (HB.out.cell (World.block_lt_of_cell? w _ hxz3)).trans hxz3
        replace pz1 := eq_true pz1
        replace qz1 := eq_true qz1
        have pz2 : 0 ≤ (xz1 : Int) := of_decide_eq_true as_
        have qz2 : xz1 < (l1.length : Int) := of_decide_eq_true as_
        obtain ⟨adz2, ez2, hxz4, hxz5, hxz6⟩ := at_T81 HRz2.out xz1 pz2 qz2
        have hwz4 := hxz6
        have hwz5 := hxz5
        have hwz6 := hxz4
        cases ez2
        replace hxz4 := (HB.out.cell (World.block_lt_of_cell? w _ hxz4)).trans hxz4
        replace hxz5 := (HB.out.cell (World.block_lt_of_cell? w _ hxz5)).trans hxz5
        replace hxz6 := (HB.out.cell (World.block_lt_of_cell? w _ hxz6)).trans hxz6
        replace pz2 := eq_true pz2
        replace qz2 := eq_true qz2
        refine start_ (n := 10) (S := fun w' => w'.cell? (adz1.add ((xz1).toNat * 3)) = some (.string ((rd_T81 l0 xz1).f0)) ∧ w'.cell? ⟨(adz1.add ((xz1).toNat * 3)).block, (adz1.add ((xz1).toNat * 3)).off + 1, none⟩ = some (.int .i64 ((rd_T81 l0 xz1).f1)) ∧ w'.cell? ⟨(adz1.add ((xz1).toNat * 3)).block, (adz1.add ((xz1).toNat * 3)).off + 2, none⟩ = some (.int .i64 ((rd_T81 l0 xz1).f2)) ∧ w'.cell? (adz2.add ((xz1).toNat * 3)) = some (.string ((rd_T81 l1 xz1).f0)) ∧ w'.cell? ⟨(adz2.add ((xz1).toNat * 3)).block, (adz2.add ((xz1).toNat * 3)).off + 1, none⟩ = some (.int .i64 ((rd_T81 l1 xz1).f1)) ∧ w'.cell? ⟨(adz2.add ((xz1).toNat * 3)).block, (adz2.add ((xz1).toNat * 3)).off + 2, none⟩ = some (.int .i64 ((rd_T81 l1 xz1).f2))) (ds := []) laws_eqSubS_bools0_ (by kernel_rfl) rfl (by kernel_rfl) ⟨((HB.out.cell (World.block_lt_of_cell? w _ hwz3)).trans hwz3), ((HB.out.cell (World.block_lt_of_cell? w _ hwz2)).trans hwz2), ((HB.out.cell (World.block_lt_of_cell? w _ hwz1)).trans hwz1), ((HB.out.cell (World.block_lt_of_cell? w _ hwz6)).trans hwz6), ((HB.out.cell (World.block_lt_of_cell? w _ hwz5)).trans hwz5), ((HB.out.cell (World.block_lt_of_cell? w _ hwz4)).trans hwz4)⟩ (fun hHeld => ?_); refine with_tabW laws_eqSubS.tab6 laws_eqSubS.bits6 (fun HT_ HW_ => ?_)
        generalize wr.drew = wz1 at HB hxz1 hxz2 hxz3 hxz4 hxz5 hxz6 hHeld ⊢
        refine pu_ HT_ 0 17 laws_eqSubS_bools1_ ?_
        refine pu_ HT_ 1 18 laws_eqSubS_bools2_ ?_
        refine pu_ HT_ 2 19 laws_eqSubS_bools3_ ?_
        refine pu_ HT_ 4 21 laws_eqSubS_bools4_ ?_
        refine pu_ HT_ 5 22 laws_eqSubS_bools5_ ?_
        refine pu_ HT_ 6 23 laws_eqSubS_bools6_ ?_
        refine ta_ HT_ HW_ hHeld 3 20 laws_eqSubS_bools7_ ?_
        refine ta_ HT_ HW_ hHeld 7 24 laws_eqSubS_bools8_ ?_
        refine one_ (i := 8) (N := some 25) laws_eqSubS_bools9_ rfl rfl (one_of HT_.out (by kernel_rfl)) (by decide) (fun K hK => ?_)
        refine goes_ Tryd.func58 (by kernel_rfl) rfl #[.agg #[.string ((rd_T81 l0 xz1).f0), .int .i64 ((rd_T81 l0 xz1).f1), .int .i64 ((rd_T81 l0 xz1).f2)], .agg #[.string ((rd_T81 l1 xz1).f0), .int .i64 ((rd_T81 l1 xz1).f1), .int .i64 ((rd_T81 l1 xz1).f2)]] (by rfl) rfl rfl ar_ ?_
        with_reducible refine (laws_eqSub.calls ((rd_T81 l0 xz1).f0) ((rd_T81 l0 xz1).f1) ((rd_T81 l0 xz1).f2) ((rd_T81 l1 xz1).f0) ((rd_T81 l1 xz1).f1) ((rd_T81 l1 xz1).f2) false _ Az2.out).mono ?_
        rintro e wz2 ⟨rfl, hb⟩
        refine ⟨_, rfl, ?_⟩
        have nz1 := Aside0.mk (below_step be_ hb)
        clear HB
        have HB := nz1
        clear nz1
        (try clear hb)
        (try clear hb2)
        (try clear hk)
        (try clear hi)
        refine hK.out _ _ ⟨((HB.out.cell (World.block_lt_of_cell? w _ hwz3)).trans hwz3), ((HB.out.cell (World.block_lt_of_cell? w _ hwz2)).trans hwz2), ((HB.out.cell (World.block_lt_of_cell? w _ hwz1)).trans hwz1), ((HB.out.cell (World.block_lt_of_cell? w _ hwz6)).trans hwz6), ((HB.out.cell (World.block_lt_of_cell? w _ hwz5)).trans hwz5), ((HB.out.cell (World.block_lt_of_cell? w _ hwz4)).trans hwz4)⟩ (fun hHeld => ?_)
        clear hK K
        refine norm_ (a' := ?_) ?_ ?_
        rotate_left
        · show Act.put _ (some 25) _ = _
          simp only [Act.put, List.setIfInBounds_toArray, List.set_cons_zero, List.set_cons_succ, i64_w, i32_w]
          rfl
        refine pu_ HT_ 9 26 laws_eqSubS_bools10_ ?_
        refine done_ (done_of HT_.out (by kernel_rfl)) ?_
        try go_wp2
        go_ret
        exact ⟨by first | rfl | (simp [errW_none, errW_some] <;> rfl) | (simp [*, errW_none, errW_some] <;> rfl), be_⟩
      subst cz5
      have Hz1 : (laws_eqSubS.l0 kz1 l0 l1 (wrap64 (xz1 + 1))) = some r := by rw [if_pos rfl] at H; exact H
      clear H
      have H := Hz1
      clear Hz1
      have H' := Aside0.mk H
      clear H
      try go_wp2
      have nz1 := Aside0.mk (below_drew1 HB.out)
      clear HB
      have HB := nz1
      clear nz1
      have pz1 : 0 ≤ (xz1 : Int) := of_decide_eq_true as_
      have qz1 : xz1 < (l0.length : Int) := of_decide_eq_true as_
      obtain ⟨adz1, ez1, hxz1, hxz2, hxz3⟩ := at_T81 HRz1.out xz1 pz1 qz1
      have hwz1 := hxz3
      have hwz2 := hxz2
      have hwz3 := hxz1
      cases ez1
      replace hxz1 := (HB.out.cell (World.block_lt_of_cell? w _ hxz1)).trans hxz1
      replace hxz2 := (HB.out.cell (World.block_lt_of_cell? w _ hxz2)).trans hxz2
      replace hxz3 := (HB.out.cell (World.block_lt_of_cell? w _ hxz3)).trans hxz3
      replace pz1 := eq_true pz1
      replace qz1 := eq_true qz1
      have pz2 : 0 ≤ (xz1 : Int) := of_decide_eq_true as_
      have qz2 : xz1 < (l1.length : Int) := of_decide_eq_true as_
      obtain ⟨adz2, ez2, hxz4, hxz5, hxz6⟩ := at_T81 HRz2.out xz1 pz2 qz2
      have hwz4 := hxz6
      have hwz5 := hxz5
      have hwz6 := hxz4
      cases ez2
      replace hxz4 := (HB.out.cell (World.block_lt_of_cell? w _ hxz4)).trans hxz4
      replace hxz5 := (HB.out.cell (World.block_lt_of_cell? w _ hxz5)).trans hxz5
      replace hxz6 := (HB.out.cell (World.block_lt_of_cell? w _ hxz6)).trans hxz6
      replace pz2 := eq_true pz2
      replace qz2 := eq_true qz2
      refine start_ (n := 10) (S := fun w' => w'.cell? (adz1.add ((xz1).toNat * 3)) = some (.string ((rd_T81 l0 xz1).f0)) ∧ w'.cell? ⟨(adz1.add ((xz1).toNat * 3)).block, (adz1.add ((xz1).toNat * 3)).off + 1, none⟩ = some (.int .i64 ((rd_T81 l0 xz1).f1)) ∧ w'.cell? ⟨(adz1.add ((xz1).toNat * 3)).block, (adz1.add ((xz1).toNat * 3)).off + 2, none⟩ = some (.int .i64 ((rd_T81 l0 xz1).f2)) ∧ w'.cell? (adz2.add ((xz1).toNat * 3)) = some (.string ((rd_T81 l1 xz1).f0)) ∧ w'.cell? ⟨(adz2.add ((xz1).toNat * 3)).block, (adz2.add ((xz1).toNat * 3)).off + 1, none⟩ = some (.int .i64 ((rd_T81 l1 xz1).f1)) ∧ w'.cell? ⟨(adz2.add ((xz1).toNat * 3)).block, (adz2.add ((xz1).toNat * 3)).off + 2, none⟩ = some (.int .i64 ((rd_T81 l1 xz1).f2))) (ds := []) laws_eqSubS_bools0_ (by kernel_rfl) rfl (by kernel_rfl) ⟨((HB.out.cell (World.block_lt_of_cell? w _ hwz3)).trans hwz3), ((HB.out.cell (World.block_lt_of_cell? w _ hwz2)).trans hwz2), ((HB.out.cell (World.block_lt_of_cell? w _ hwz1)).trans hwz1), ((HB.out.cell (World.block_lt_of_cell? w _ hwz6)).trans hwz6), ((HB.out.cell (World.block_lt_of_cell? w _ hwz5)).trans hwz5), ((HB.out.cell (World.block_lt_of_cell? w _ hwz4)).trans hwz4)⟩ (fun hHeld => ?_); refine with_tabW laws_eqSubS.tab6 laws_eqSubS.bits6 (fun HT_ HW_ => ?_)
      generalize wr.drew = wz1 at HB hxz1 hxz2 hxz3 hxz4 hxz5 hxz6 hHeld ⊢
      refine pu_ HT_ 0 17 laws_eqSubS_bools1_ ?_
      refine pu_ HT_ 1 18 laws_eqSubS_bools2_ ?_
      refine pu_ HT_ 2 19 laws_eqSubS_bools3_ ?_
      refine pu_ HT_ 4 21 laws_eqSubS_bools4_ ?_
      refine pu_ HT_ 5 22 laws_eqSubS_bools5_ ?_
      refine pu_ HT_ 6 23 laws_eqSubS_bools6_ ?_
      refine ta_ HT_ HW_ hHeld 3 20 laws_eqSubS_bools7_ ?_
      refine ta_ HT_ HW_ hHeld 7 24 laws_eqSubS_bools8_ ?_
      refine one_ (i := 8) (N := some 25) laws_eqSubS_bools9_ rfl rfl (one_of HT_.out (by kernel_rfl)) (by decide) (fun K hK => ?_)
      refine goes_ Tryd.func58 (by kernel_rfl) rfl #[.agg #[.string ((rd_T81 l0 xz1).f0), .int .i64 ((rd_T81 l0 xz1).f1), .int .i64 ((rd_T81 l0 xz1).f2)], .agg #[.string ((rd_T81 l1 xz1).f0), .int .i64 ((rd_T81 l1 xz1).f1), .int .i64 ((rd_T81 l1 xz1).f2)]] (by rfl) rfl rfl ar_ ?_
      with_reducible refine (laws_eqSub.calls ((rd_T81 l0 xz1).f0) ((rd_T81 l0 xz1).f1) ((rd_T81 l0 xz1).f2) ((rd_T81 l1 xz1).f0) ((rd_T81 l1 xz1).f1) ((rd_T81 l1 xz1).f2) true _ Az2.out).mono ?_
      rintro e wz2 ⟨rfl, hb⟩
      refine ⟨_, rfl, ?_⟩
      have nz1 := Aside0.mk (below_step be_ hb)
      clear HB
      have HB := nz1
      clear nz1
      (try clear hb)
      (try clear hb2)
      (try clear hk)
      (try clear hi)
      refine hK.out _ _ ⟨((HB.out.cell (World.block_lt_of_cell? w _ hwz3)).trans hwz3), ((HB.out.cell (World.block_lt_of_cell? w _ hwz2)).trans hwz2), ((HB.out.cell (World.block_lt_of_cell? w _ hwz1)).trans hwz1), ((HB.out.cell (World.block_lt_of_cell? w _ hwz6)).trans hwz6), ((HB.out.cell (World.block_lt_of_cell? w _ hwz5)).trans hwz5), ((HB.out.cell (World.block_lt_of_cell? w _ hwz4)).trans hwz4)⟩ (fun hHeld => ?_)
      clear hK K
      refine norm_ (a' := ?_) ?_ ?_
      rotate_left
      · show Act.put _ (some 25) _ = _
        simp only [Act.put, List.setIfInBounds_toArray, List.set_cons_zero, List.set_cons_succ, i64_w, i32_w]
        rfl
      refine pu_ HT_ 9 26 laws_eqSubS_bools10_ ?_
      refine done_ (done_of HT_.out (by kernel_rfl)) ?_
      try go_wp2
      go_roundg kz1
      case measure => have := HKz1.out; omega
      case rel => exact ⟨(wrap64 (xz1 + 1)), (by first | rfl | (simp; done) | (simp [*]; done)), H', ⟨by have := HKz1.out; omega⟩, ⟨be_⟩⟩

end Go.Proofs.YtemehnmbmajnfaaDoor.P
