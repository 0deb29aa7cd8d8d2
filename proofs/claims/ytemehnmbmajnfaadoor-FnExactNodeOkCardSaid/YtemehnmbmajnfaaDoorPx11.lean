-- Printed by a program over the kit's print.py (mp.sh), several laws in one namespace.
import Derived.Test.YtemehnmbmajnfaaDoorPx0
import Derived.Test.YtemehnmbmajnfaaDoorS
import Derived.Test.YtemehnmbmajnfaaDoorPx10
namespace Go.Proofs.YtemehnmbmajnfaaDoor.P
open Go.RowKit Go.Proofs.YtemehnmbmajnfaaDoor.X Go.Proofs.YtemehnmbmajnfaaDoorW.PrintWords Go.Proofs.YtemehnmbmajnfaaDoorW.PrintLast Go.Proofs.YtemehnmbmajnfaaDoorW.PrintMore
attribute [local go_sem] max2_int min2_int max_two min_two max_three min_three max_four min_four   -- for this text's walks alone
set_option linter.unusedVariables false
set_option linter.unusedSimpArgs false

def impl_subsOk_bools0_ : Array Bool := bs_ 18 0
def impl_subsOk_bools1_ : Array Bool := bs_ 18 1
def impl_subsOk_bools2_ : Array Bool := bs_ 18 3
def impl_subsOk_bools3_ : Array Bool := bs_ 18 7
def impl_subsOk_bools4_ : Array Bool := bs_ 18 15
def impl_subsOk_bools5_ : Array Bool := bs_ 18 31
def impl_subsOk_bools6_ : Array Bool := bs_ 18 63
def impl_subsOk_bools7_ : Array Bool := bs_ 18 127
def impl_subsOk_bools8_ : Array Bool := bs_ 18 255
def impl_subsOk_bools9_ : Array Bool := bs_ 18 511
def impl_subsOk_bools10_ : Array Bool := bs_ 18 1023
def impl_subsOk_bools11_ : Array Bool := bs_ 18 2047
def impl_subsOk_bools12_ : Array Bool := bs_ 18 4095
def impl_subsOk_bools13_ : Array Bool := bs_ 18 8191
def impl_subsOk_bools14_ : Array Bool := bs_ 18 16383
def impl_subsOk_bools15_ : Array Bool := bs_ 18 32767
def impl_subsOk_bools16_ : Array Bool := bs_ 18 65535
def impl_subsOk_bools17_ : Array Bool := bs_ 18 131071
def impl_subsOk_bools18_ : Array Bool := bs_ 18 262143
def impl_subsOk_bools19_ : Array Bool := bs_ 18 12287
/-! ### impl_subsOk: function 53 -/
def impl_subsOk.l0 : Nat → List (S81) → List (S81) → Int → Int → Option (Bool)
  | 0, _, _, _, _ => none
  | k + 1, x0, x5, x6, x7 => if x7 < x6 then (if 0 ≤ x7 then (if x7 < (x5.length : Int) then ((impl_subOk.f ((rd_T81 x5 x7).f0) ((rd_T81 x5 x7).f1) ((rd_T81 x5 x7).f2)).bind fun t192 => (if t192 = true then (if x7 > 0 then (if 0 ≤ (wrap64 (x7 - 1)) then (if (wrap64 (x7 - 1)) < (x0.length : Int) then (if ((Op.bytesLess (((rd_T81 x0 (wrap64 (x7 - 1))).f0).toList) (((rd_T81 x5 x7).f0).toList)) = true) then (impl_subsOk.l0 k x0 x5 x6 (wrap64 (x7 + 1))) else (some false)) else (none)) else (none)) else (impl_subsOk.l0 k x0 x5 x6 (wrap64 (x7 + 1)))) else (some false))) else (none)) else (none)) else (some true)
def impl_subsOk.f (k : Nat) (l0 : List (S81)) : Option (Bool) := impl_subsOk.l0 k l0 l0 (l0.length : Int) 0
theorem impl_subsOk.mono_l : ∀ k, (∀ y0 y1 y2 y3, LeO (impl_subsOk.l0 k y0 y1 y2 y3) (impl_subsOk.l0 (k + 1) y0 y1 y2 y3))
  | 0 => fun _ _ _ _ r h => by simp [impl_subsOk.l0] at h
  | k + 1 => by
    have ih0 := impl_subsOk.mono_l k
    · intro y0 y1 y2 y3
      unfold impl_subsOk.l0
      repeat' first
      | (with_reducible exact ih0 _ _ _ _)
      | (with_reducible exact LeO.refl _)
      | (with_reducible exact LeO.none _)
      | (with_reducible refine LeO.ite ?_ ?_)
      | (with_reducible refine LeO.bind ?_ (fun _ => ?_))
      | exact ih0 _ _ _ _
      | exact LeO.none _
      | refine LeO.ite ?_ ?_
      | refine LeO.bind ?_ (fun _ => ?_)
theorem impl_subsOk.mono : ∀ a0 k, LeO (impl_subsOk.f k a0) (impl_subsOk.f (k + 1) a0) := by
  intro a0 k
  have ih0 := impl_subsOk.mono_l k
  unfold impl_subsOk.f
  repeat' first
      | (with_reducible exact ih0 _ _ _ _)
      | (with_reducible exact LeO.refl _)
      | (with_reducible exact LeO.none _)
      | (with_reducible refine LeO.ite ?_ ?_)
      | (with_reducible refine LeO.bind ?_ (fun _ => ?_))
      | exact ih0 _ _ _ _
      | exact LeO.none _
      | refine LeO.ite ?_ ?_
      | refine LeO.bind ?_ (fun _ => ?_)
def impl_subsOk.T4 : Bool × List (List Nat × List Nat) := (true, [([], []), ([0], [0]), ([1], [1]), ([2, 1], [2]), ([3], [3]), ([4, 3], [3, 4]), ([5, 3, 3], [3, 5]), ([6], [6]), ([6], [6]), ([8, 6], [6, 8]), ([7, 9, 6], [6, 7, 9]), ([10, 6], [6, 10]), ([11, 6], [6, 11]), ([6], [6]), ([13, 6], [6, 13]), ([12, 14, 6], [6, 12, 14]), ([6, 15, 3], [3, 6, 15]), ([3, 16], [3, 16])])
def impl_subsOk.B4 : List Nat := [0, 1, 3, 7, 15, 31, 63, 127, 127, 383, 1023, 2047, 4095, 127, 8319, 32767, 65535, 131071]
theorem impl_subsOk.tab4 : rtab .any (opsOf Tryd.f53 4) = impl_subsOk.T4 := by kernel_rfl
theorem impl_subsOk.bits4 : waitsOk impl_subsOk.T4.2 impl_subsOk.B4 = true := by kernel_rfl
set_option maxHeartbeats 8000000 in
set_option maxRecDepth 100000 in
theorem impl_subsOk.calls (k : Nat) (A0 : Option Addr) (c0 : Nat) (l0 : List (S81)) (r : Bool) (w : World) (hr0 : Kd.C k81 w A0 l0.length l0) (hc0 : l0.length ≤ c0) (hT : Tabs w) (h : impl_subsOk.f k l0 = some r) :
    Calls Tryd.prog 53 #[.slice A0 l0.length c0] w fun e w' => e = .returned (.bool r) ∧ Below w.heap.size w w' := by
  have huz1 := Tryd.underlying81
  have HT := Aside0.mk hT
  clear hT
  have HRz1 := Aside0.mk hr0
  have HCz1 := Aside0.mk hc0
  clear hr0 hc0
  have HB := Aside0.mk (Below.refl w.heap.size w)
  have H : (impl_subsOk.l0 k l0 l0 (l0.length : Int) 0) = some r := h
  clear h
  have H' := Aside0.mk H
  clear H
  go_enter Tryd.func53, Tryd.ntmps53
  go_wp2
  go_loopg [7] k (fun kq v7 w' => ∃ (x7_1 : Int), v7 = .int .i64 x7_1 ∧ Aside0 (impl_subsOk.l0 kq l0 l0 (l0.length : Int) x7_1 = some r) ∧ Aside0 (kq ≤ k) ∧ Aside0 (Below w.heap.size w w'))
  case atStart => exact ⟨(0), (by first | rfl | (simp; done) | (simp [*]; done)), H', ⟨Nat.le_refl _⟩, ⟨be_⟩⟩
  case round =>
    clear H'
    obtain ⟨xz1, rfl, HA, HKz1, HB⟩ := hrel
    cases gk with
    | zero => exact absurd HA.out (by simp [impl_subsOk.l0])
    | succ kz1 =>
      have H := HA.out
      clear HA
      simp only [impl_subsOk.l0] at H
      by_cases cz1 : xz1 < (l0.length : Int)
      rotate_left
      · rw [if_neg cz1] at H
        have c2b0 : decide (xz1 < (l0.length : Int)) = false := decide_eq_false cz1
        clear cz1
        obtain rfl := Option.some.inj H
        go_wp2
        go_ret
        exact ⟨by first | rfl | (simp [errW_none, errW_some] <;> rfl) | (simp [*, errW_none, errW_some] <;> rfl), be_⟩
      rw [if_pos cz1] at H
      have c2b0 : decide (xz1 < (l0.length : Int)) = true := decide_eq_true cz1
      clear cz1
      by_cases cz2 : 0 ≤ xz1
      rotate_left
      · rw [if_neg cz2] at H
        exact absurd H (by simp)
      rw [if_pos cz2] at H
      have c3b0 : decide (0 ≤ xz1) = true := decide_eq_true cz2
      clear cz2
      by_cases cz3 : xz1 < (l0.length : Int)
      rotate_left
      · rw [if_neg cz3] at H
        exact absurd H (by simp)
      rw [if_pos cz3] at H
      have c4b0 : decide (xz1 < (l0.length : Int)) = true := decide_eq_true cz3
      clear cz3
      replace H := Option.bind_eq_some_iff.mp H
      obtain ⟨tz1, Az1, H⟩ := H
      replace H : (if tz1 = true then (if xz1 > 0 then (if 0 ≤ (wrap64 (xz1 - 1)) then (if (wrap64 (xz1 - 1)) < (l0.length : Int) then (if ((Op.bytesLess (((rd_T81 l0 (wrap64 (xz1 - 1))).f0).toList) (((rd_T81 l0 xz1).f0).toList)) = true) then (impl_subsOk.l0 kz1 l0 l0 (l0.length : Int) (wrap64 (xz1 + 1))) else (some false)) else (none)) else (none)) else (impl_subsOk.l0 kz1 l0 l0 (l0.length : Int) (wrap64 (xz1 + 1)))) else (some false)) = some r := H
      have Az2 := Aside0.mk Az1
      clear Az1
      by_cases cz4 : tz1 = true
      rotate_left
      · replace cz4 := Bool.eq_false_iff.mpr cz4
        subst cz4
        have Hz1 : (some false) = some r := by rw [if_neg (show ¬ (false = true) by decide)] at H; exact H
        clear H
        have H := Hz1
        clear Hz1
        obtain rfl := Option.some.inj H
        have pz1 : 0 ≤ (xz1 : Int) := of_decide_eq_true as_
        have qz1 : xz1 < (l0.length : Int) := of_decide_eq_true as_
        obtain ⟨adz1, ez1, hxz1, hxz2, hxz3⟩ := at_T81 HRz1.out xz1 pz1 qz1
        cases ez1
        replace hxz1 := (HB.out.cell (World.block_lt_of_cell? w _ hxz1)).trans hxz1
        replace hxz2 := (HB.out.cell (World.block_lt_of_cell? w _ hxz2)).trans hxz2
        replace hxz3 := (HB.out.cell (World.block_lt_of_cell? w _ hxz3)).trans hxz3
        replace pz1 := eq_true pz1
        replace qz1 := eq_true qz1
        try go_wp2_with (first | ((with_reducible refine gate_dst (N := 4) rfl ?_); refine box_event ?hg (N := 4) ?hd (cs := #[.string (⟨#[]⟩ : ByteArray), .int .i64 0, .int .i64 0]) (t := 81) ?hr ?_; (case hd => rfl); (case hg => rfl); (case hr => first | (go_simp; done) | (go_simp; rfl)); intro gbz1 hg wz1 hbox hb; have nz1 := Aside0.mk (below_step be_ hb); have nz2 := Aside0.mk (hbox); have nz3 := Aside0.mk ((sz_ : w.heap.size ≤ gbz1)); have nz4 := Aside0.mk ((sz_ : w.heap.size ≤ gbz1)); clear HB; have HB := nz1; have BKz1 := nz2; have GWz1 := nz3; have GEz1 := nz4; clear nz1 nz2 nz3 nz4; clear hb hbox hg; have hczz1 : wz1.cell? ⟨gbz1, 0, none⟩ = some (.string (⟨#[]⟩ : ByteArray)) := (blk_cell BKz1.out 0).trans rfl; have hczz2 : wz1.cell? ⟨gbz1, 1, none⟩ = some (.int .i64 0) := (blk_cell BKz1.out 1).trans rfl; have hczz3 : wz1.cell? ⟨gbz1, 2, none⟩ = some (.int .i64 0) := (blk_cell BKz1.out 2).trans rfl; have hfzz1 := blk_frozen BKz1.out 0; have hfzz2 := blk_frozen BKz1.out 1; have hfzz3 := blk_frozen BKz1.out 2))
        have nz1 : Aside0 ((((wz1.setCell ⟨gbz1, 0, none⟩ (.string ((rd_T81 l0 xz1).f0))).setCell ⟨gbz1, 1, none⟩ (.int .i64 ((rd_T81 l0 xz1).f1))).setCell ⟨gbz1, 2, none⟩ (.int .i64 ((rd_T81 l0 xz1).f2))).heap[gbz1]? = some (.cells #[.string ((rd_T81 l0 xz1).f0), .int .i64 ((rd_T81 l0 xz1).f1), .int .i64 ((rd_T81 l0 xz1).f2)] 81 (0, 0))) := ⟨by (with_reducible repeat (first | refine blk_drewN ?_ _ | refine blk_drew ?_ | refine blk_alloc ?_ _)); refine blk_put (cs := #[.string ((rd_T81 l0 xz1).f0), .int .i64 ((rd_T81 l0 xz1).f1), .int .i64 0]) ?_ 2 _ rfl; (with_reducible repeat (first | refine blk_drewN ?_ _ | refine blk_drew ?_ | refine blk_alloc ?_ _)); refine blk_put (cs := #[.string ((rd_T81 l0 xz1).f0), .int .i64 0, .int .i64 0]) ?_ 1 _ rfl; (with_reducible repeat (first | refine blk_drewN ?_ _ | refine blk_drew ?_ | refine blk_alloc ?_ _)); refine blk_put (cs := #[.string (⟨#[]⟩ : ByteArray), .int .i64 0, .int .i64 0]) ?_ 0 _ rfl; (with_reducible repeat (first | refine blk_drewN ?_ _ | refine blk_drew ?_ | refine blk_alloc ?_ _)); exact BKz1.out⟩
        have nz2 : Aside0 (Below w.heap.size w (((wz1.setCell ⟨gbz1, 0, none⟩ (.string ((rd_T81 l0 xz1).f0))).setCell ⟨gbz1, 1, none⟩ (.int .i64 ((rd_T81 l0 xz1).f1))).setCell ⟨gbz1, 2, none⟩ (.int .i64 ((rd_T81 l0 xz1).f2)))) := ⟨be_⟩
        (try clear BKz1)
        (try clear HB)
        generalize (((wz1.setCell ⟨gbz1, 0, none⟩ (.string ((rd_T81 l0 xz1).f0))).setCell ⟨gbz1, 1, none⟩ (.int .i64 ((rd_T81 l0 xz1).f1))).setCell ⟨gbz1, 2, none⟩ (.int .i64 ((rd_T81 l0 xz1).f2))) = wz2 at nz1 nz2 ⊢
        have BKz1 := nz1
        have HB := nz2
        clear nz1 nz2
        have nz1 := Aside0.mk (blk_drew BKz1.out)
        have nz2 := Aside0.mk (below_drew1 HB.out)
        clear BKz1
        clear HB
        have BKz1 := nz1
        have HB := nz2
        clear nz1 nz2
        refine start_ (n := 18) (S := fun w' => w'.cell? ⟨gbz1, 0, none⟩ = some (.string ((rd_T81 l0 xz1).f0)) ∧ w'.cell? ⟨gbz1, 1, none⟩ = some (.int .i64 ((rd_T81 l0 xz1).f1)) ∧ w'.cell? ⟨gbz1, 2, none⟩ = some (.int .i64 ((rd_T81 l0 xz1).f2))) (ds := []) impl_subsOk_bools0_ (by kernel_rfl) rfl (by kernel_rfl) ⟨(blk_cell BKz1.out 0).trans rfl, (blk_cell BKz1.out 1).trans rfl, (blk_cell BKz1.out 2).trans rfl⟩ (fun hHeld => ?_); refine with_tabW impl_subsOk.tab4 impl_subsOk.bits4 (fun HT_ HW_ => ?_)
        generalize wz2.drew = wz3 at BKz1 HB hHeld ⊢
        refine ta_ HT_ HW_ hHeld 0 12 impl_subsOk_bools1_ ?_
        refine one_ (i := 1) (N := some 13) impl_subsOk_bools2_ rfl rfl (one_of HT_.out (by kernel_rfl)) (by decide) (fun K hK => ?_)
        refine goes_ Tryd.func68 (by kernel_rfl) rfl #[.agg #[.string ((rd_T81 l0 xz1).f0), .int .i64 ((rd_T81 l0 xz1).f1), .int .i64 ((rd_T81 l0 xz1).f2)]] (by rfl) rfl rfl ar_ ?_
        with_reducible refine (impl_subOk.calls ((rd_T81 l0 xz1).f0) ((rd_T81 l0 xz1).f1) ((rd_T81 l0 xz1).f2) false _ ?side1 Az2.out).mono ?_
        (case side1 => exact Tabs.below HT.out be_)
        rintro e wz4 ⟨rfl, hb⟩
        refine ⟨_, rfl, ?_⟩
        have nz1 := Aside0.mk (blk_below (g := gbz1) (o := .cells #[.string ((rd_T81 l0 xz1).f0), .int .i64 ((rd_T81 l0 xz1).f1), .int .i64 ((rd_T81 l0 xz1).f2)] 81 (0, 0)) bk_ hb)
        have nz2 := Aside0.mk (below_step be_ hb)
        clear BKz1
        clear HB
        have BKz1 := nz1
        have HB := nz2
        clear nz1 nz2
        (try clear hb)
        (try clear hb2)
        (try clear hk)
        (try clear hi)
        refine hK.out _ _ ⟨(blk_cell BKz1.out 0).trans rfl, (blk_cell BKz1.out 1).trans rfl, (blk_cell BKz1.out 2).trans rfl⟩ (fun hHeld => ?_)
        clear hK K
        refine norm_ (a' := ?_) ?_ ?_
        rotate_left
        · show Act.put _ (some 13) _ = _
          simp only [Act.put, List.setIfInBounds_toArray, List.set_cons_zero, List.set_cons_succ, i64_w, i32_w]
          rfl
        refine pu_ HT_ 2 14 impl_subsOk_bools3_ ?_
        refine pu_ HT_ 3 15 impl_subsOk_bools4_ ?_
        refine un_ HT_ 4 16 impl_subsOk_bools5_ ?_
        refine un_ HT_ 5 17 impl_subsOk_bools6_ ?_
        refine un_ HT_ 6 18 impl_subsOk_bools7_ ?_
        refine un_ HT_ 7 19 impl_subsOk_bools8_ ?_
        refine un_ HT_ 8 20 impl_subsOk_bools9_ ?_
        refine un_ HT_ 9 21 impl_subsOk_bools10_ ?_
        refine un_ HT_ 10 22 impl_subsOk_bools11_ ?_
        refine un_ HT_ 11 23 impl_subsOk_bools12_ ?_
        refine un_ HT_ 12 24 impl_subsOk_bools13_ ?_
        refine un_ HT_ 13 25 impl_subsOk_bools14_ ?_
        refine un_ HT_ 14 26 impl_subsOk_bools15_ ?_
        refine un_ HT_ 15 27 impl_subsOk_bools16_ ?_
        refine un_ HT_ 16 28 impl_subsOk_bools17_ ?_
        refine pu_ HT_ 17 29 impl_subsOk_bools18_ ?_
        refine done_ (done_of HT_.out (by kernel_rfl)) ?_
        try go_wp2
        go_ret
        exact ⟨by first | rfl | (simp [errW_none, errW_some] <;> rfl) | (simp [*, errW_none, errW_some] <;> rfl), be_⟩
      subst cz4
      have Hz1 : (if xz1 > 0 then (if 0 ≤ (wrap64 (xz1 - 1)) then (if (wrap64 (xz1 - 1)) < (l0.length : Int) then (if ((Op.bytesLess (((rd_T81 l0 (wrap64 (xz1 - 1))).f0).toList) (((rd_T81 l0 xz1).f0).toList)) = true) then (impl_subsOk.l0 kz1 l0 l0 (l0.length : Int) (wrap64 (xz1 + 1))) else (some false)) else (none)) else (none)) else (impl_subsOk.l0 kz1 l0 l0 (l0.length : Int) (wrap64 (xz1 + 1)))) = some r := by rw [if_pos rfl] at H; exact H
      clear H
      have H := Hz1
      clear Hz1
      by_cases cz5 : xz1 > 0
      rotate_left
      · rw [if_neg cz5] at H
        have c7b0 : decide (0 < xz1) = false := decide_eq_false cz5
        clear cz5
        have H' := Aside0.mk H
        clear H
        have pz1 : 0 ≤ (xz1 : Int) := of_decide_eq_true as_
        have qz1 : xz1 < (l0.length : Int) := of_decide_eq_true as_
        obtain ⟨adz1, ez1, hxz1, hxz2, hxz3⟩ := at_T81 HRz1.out xz1 pz1 qz1
        cases ez1
        replace hxz1 := (HB.out.cell (World.block_lt_of_cell? w _ hxz1)).trans hxz1
        replace hxz2 := (HB.out.cell (World.block_lt_of_cell? w _ hxz2)).trans hxz2
        replace hxz3 := (HB.out.cell (World.block_lt_of_cell? w _ hxz3)).trans hxz3
        replace pz1 := eq_true pz1
        replace qz1 := eq_true qz1
        try go_wp2_with (first | ((with_reducible refine gate_dst (N := 4) rfl ?_); refine box_event ?hg (N := 4) ?hd (cs := #[.string (⟨#[]⟩ : ByteArray), .int .i64 0, .int .i64 0]) (t := 81) ?hr ?_; (case hd => rfl); (case hg => rfl); (case hr => first | (go_simp; done) | (go_simp; rfl)); intro gbz1 hg wz1 hbox hb; have nz1 := Aside0.mk (below_step be_ hb); have nz2 := Aside0.mk (hbox); have nz3 := Aside0.mk ((sz_ : w.heap.size ≤ gbz1)); have nz4 := Aside0.mk ((sz_ : w.heap.size ≤ gbz1)); clear HB; have HB := nz1; have BKz1 := nz2; have GWz1 := nz3; have GEz1 := nz4; clear nz1 nz2 nz3 nz4; clear hb hbox hg; have hczz1 : wz1.cell? ⟨gbz1, 0, none⟩ = some (.string (⟨#[]⟩ : ByteArray)) := (blk_cell BKz1.out 0).trans rfl; have hczz2 : wz1.cell? ⟨gbz1, 1, none⟩ = some (.int .i64 0) := (blk_cell BKz1.out 1).trans rfl; have hczz3 : wz1.cell? ⟨gbz1, 2, none⟩ = some (.int .i64 0) := (blk_cell BKz1.out 2).trans rfl; have hfzz1 := blk_frozen BKz1.out 0; have hfzz2 := blk_frozen BKz1.out 1; have hfzz3 := blk_frozen BKz1.out 2))
        have nz1 : Aside0 ((((wz1.setCell ⟨gbz1, 0, none⟩ (.string ((rd_T81 l0 xz1).f0))).setCell ⟨gbz1, 1, none⟩ (.int .i64 ((rd_T81 l0 xz1).f1))).setCell ⟨gbz1, 2, none⟩ (.int .i64 ((rd_T81 l0 xz1).f2))).heap[gbz1]? = some (.cells #[.string ((rd_T81 l0 xz1).f0), .int .i64 ((rd_T81 l0 xz1).f1), .int .i64 ((rd_T81 l0 xz1).f2)] 81 (0, 0))) := ⟨by (with_reducible repeat (first | refine blk_drewN ?_ _ | refine blk_drew ?_ | refine blk_alloc ?_ _)); refine blk_put (cs := #[.string ((rd_T81 l0 xz1).f0), .int .i64 ((rd_T81 l0 xz1).f1), .int .i64 0]) ?_ 2 _ rfl; (with_reducible repeat (first | refine blk_drewN ?_ _ | refine blk_drew ?_ | refine blk_alloc ?_ _)); refine blk_put (cs := #[.string ((rd_T81 l0 xz1).f0), .int .i64 0, .int .i64 0]) ?_ 1 _ rfl; (with_reducible repeat (first | refine blk_drewN ?_ _ | refine blk_drew ?_ | refine blk_alloc ?_ _)); refine blk_put (cs := #[.string (⟨#[]⟩ : ByteArray), .int .i64 0, .int .i64 0]) ?_ 0 _ rfl; (with_reducible repeat (first | refine blk_drewN ?_ _ | refine blk_drew ?_ | refine blk_alloc ?_ _)); exact BKz1.out⟩
        have nz2 : Aside0 (Below w.heap.size w (((wz1.setCell ⟨gbz1, 0, none⟩ (.string ((rd_T81 l0 xz1).f0))).setCell ⟨gbz1, 1, none⟩ (.int .i64 ((rd_T81 l0 xz1).f1))).setCell ⟨gbz1, 2, none⟩ (.int .i64 ((rd_T81 l0 xz1).f2)))) := ⟨be_⟩
        (try clear BKz1)
        (try clear HB)
        generalize (((wz1.setCell ⟨gbz1, 0, none⟩ (.string ((rd_T81 l0 xz1).f0))).setCell ⟨gbz1, 1, none⟩ (.int .i64 ((rd_T81 l0 xz1).f1))).setCell ⟨gbz1, 2, none⟩ (.int .i64 ((rd_T81 l0 xz1).f2))) = wz2 at nz1 nz2 ⊢
        have BKz1 := nz1
        have HB := nz2
        clear nz1 nz2
        have nz1 := Aside0.mk (blk_drew BKz1.out)
        have nz2 := Aside0.mk (below_drew1 HB.out)
        clear BKz1
        clear HB
        have BKz1 := nz1
        have HB := nz2
        clear nz1 nz2
        refine start_ (n := 18) (S := fun w' => w'.cell? ⟨gbz1, 0, none⟩ = some (.string ((rd_T81 l0 xz1).f0)) ∧ w'.cell? ⟨gbz1, 1, none⟩ = some (.int .i64 ((rd_T81 l0 xz1).f1)) ∧ w'.cell? ⟨gbz1, 2, none⟩ = some (.int .i64 ((rd_T81 l0 xz1).f2))) (ds := []) impl_subsOk_bools0_ (by kernel_rfl) rfl (by kernel_rfl) ⟨(blk_cell BKz1.out 0).trans rfl, (blk_cell BKz1.out 1).trans rfl, (blk_cell BKz1.out 2).trans rfl⟩ (fun hHeld => ?_); refine with_tabW impl_subsOk.tab4 impl_subsOk.bits4 (fun HT_ HW_ => ?_)
        generalize wz2.drew = wz3 at BKz1 HB hHeld ⊢
        refine ta_ HT_ HW_ hHeld 0 12 impl_subsOk_bools1_ ?_
        refine one_ (i := 1) (N := some 13) impl_subsOk_bools2_ rfl rfl (one_of HT_.out (by kernel_rfl)) (by decide) (fun K hK => ?_)
        refine goes_ Tryd.func68 (by kernel_rfl) rfl #[.agg #[.string ((rd_T81 l0 xz1).f0), .int .i64 ((rd_T81 l0 xz1).f1), .int .i64 ((rd_T81 l0 xz1).f2)]] (by rfl) rfl rfl ar_ ?_
        with_reducible refine (impl_subOk.calls ((rd_T81 l0 xz1).f0) ((rd_T81 l0 xz1).f1) ((rd_T81 l0 xz1).f2) true _ ?side1 Az2.out).mono ?_
        (case side1 => exact Tabs.below HT.out be_)
        rintro e wz4 ⟨rfl, hb⟩
        refine ⟨_, rfl, ?_⟩
        have nz1 := Aside0.mk (blk_below (g := gbz1) (o := .cells #[.string ((rd_T81 l0 xz1).f0), .int .i64 ((rd_T81 l0 xz1).f1), .int .i64 ((rd_T81 l0 xz1).f2)] 81 (0, 0)) bk_ hb)
        have nz2 := Aside0.mk (below_step be_ hb)
        clear BKz1
        clear HB
        have BKz1 := nz1
        have HB := nz2
        clear nz1 nz2
        (try clear hb)
        (try clear hb2)
        (try clear hk)
        (try clear hi)
        refine hK.out _ _ ⟨(blk_cell BKz1.out 0).trans rfl, (blk_cell BKz1.out 1).trans rfl, (blk_cell BKz1.out 2).trans rfl⟩ (fun hHeld => ?_)
        clear hK K
        refine norm_ (a' := ?_) ?_ ?_
        rotate_left
        · show Act.put _ (some 13) _ = _
          simp only [Act.put, List.setIfInBounds_toArray, List.set_cons_zero, List.set_cons_succ, i64_w, i32_w]
          rfl
        refine pu_ HT_ 2 14 impl_subsOk_bools3_ ?_
        refine pu_ HT_ 3 15 impl_subsOk_bools4_ ?_
        refine pu_ HT_ 4 16 impl_subsOk_bools5_ ?_
        refine pu_ HT_ 5 17 impl_subsOk_bools6_ ?_
        refine pu_ HT_ 6 18 impl_subsOk_bools7_ ?_
        refine un_ HT_ 7 19 impl_subsOk_bools8_ ?_
        refine un_ HT_ 8 20 impl_subsOk_bools9_ ?_
        refine un_ HT_ 9 21 impl_subsOk_bools10_ ?_
        refine un_ HT_ 10 22 impl_subsOk_bools11_ ?_
        refine un_ HT_ 11 23 impl_subsOk_bools12_ ?_
        refine un_ HT_ 12 24 impl_subsOk_bools13_ ?_
        refine un_ HT_ 13 25 impl_subsOk_bools14_ ?_
        refine un_ HT_ 14 26 impl_subsOk_bools15_ ?_
        refine un_ HT_ 15 27 impl_subsOk_bools16_ ?_
        refine pu_ HT_ 16 28 impl_subsOk_bools17_ ?_
        refine pu_ HT_ 17 29 impl_subsOk_bools18_ ?_
        refine done_ (done_of HT_.out (by kernel_rfl)) ?_
        try go_wp2
        go_roundg kz1
        case measure => have := HKz1.out; omega
        case rel => exact ⟨(wrap64 (xz1 + 1)), (by first | rfl | (simp; done) | (simp [*]; done)), H', ⟨by have := HKz1.out; omega⟩, ⟨be_⟩⟩
      rw [if_pos cz5] at H
      have c7b0 : decide (0 < xz1) = true := decide_eq_true cz5
      clear cz5
      obtain ⟨jiz1, hjiz1⟩ : ∃ j_ : Int, (wrap64 (xz1 - 1)) = j_ := ⟨_, rfl⟩
      replace H : (if 0 ≤ (jiz1) then (if (jiz1) < (l0.length : Int) then (if ((Op.bytesLess (((rd_T81 l0 (jiz1)).f0).toList) (((rd_T81 l0 xz1).f0).toList)) = true) then (impl_subsOk.l0 kz1 l0 l0 (l0.length : Int) (wrap64 (xz1 + 1))) else (some false)) else (none)) else (none)) = some r := by first | (rw [hjiz1] at H; exact H) | (simp only [hjiz1] at H ⊢; exact H)
      (try rw [hjiz1] at Az2)
      have hji8w : (IntKind.i64.wrap (xz1 - 1)) = jiz1 := (i64_w _).trans hjiz1
      by_cases cz6 : 0 ≤ (jiz1)
      rotate_left
      · rw [if_neg cz6] at H
        exact absurd H (by simp)
      rw [if_pos cz6] at H
      have c9b0 : decide (0 ≤ (jiz1)) = true := decide_eq_true cz6
      clear cz6
      by_cases cz7 : (jiz1) < (l0.length : Int)
      rotate_left
      · rw [if_neg cz7] at H
        exact absurd H (by simp)
      rw [if_pos cz7] at H
      have c10b0 : decide ((jiz1) < (l0.length : Int)) = true := decide_eq_true cz7
      clear cz7
      by_cases cz8 : ((Op.bytesLess (((rd_T81 l0 (jiz1)).f0).toList) (((rd_T81 l0 xz1).f0).toList)) = true)
      · rw [if_pos cz8] at H
        have c11b0 : (Op.bytesLess (((rd_T81 l0 (jiz1)).f0).toList) (((rd_T81 l0 xz1).f0).toList)) = true := cz8
        clear cz8
        have H' := Aside0.mk H
        clear H
        have pz1 : 0 ≤ (xz1 : Int) := of_decide_eq_true as_
        have qz1 : xz1 < (l0.length : Int) := of_decide_eq_true as_
        obtain ⟨adz1, ez1, hxz1, hxz2, hxz3⟩ := at_T81 HRz1.out xz1 pz1 qz1
        cases ez1
        replace hxz1 := (HB.out.cell (World.block_lt_of_cell? w _ hxz1)).trans hxz1
        replace hxz2 := (HB.out.cell (World.block_lt_of_cell? w _ hxz2)).trans hxz2
        replace hxz3 := (HB.out.cell (World.block_lt_of_cell? w _ hxz3)).trans hxz3
        replace pz1 := eq_true pz1
        replace qz1 := eq_true qz1
        try go_wp2_with (first | ((with_reducible refine gate_dst (N := 4) rfl ?_); refine box_event ?hg (N := 4) ?hd (cs := #[.string (⟨#[]⟩ : ByteArray), .int .i64 0, .int .i64 0]) (t := 81) ?hr ?_; (case hd => rfl); (case hg => rfl); (case hr => first | (go_simp; done) | (go_simp; rfl)); intro gbz1 hg wz1 hbox hb; have nz1 := Aside0.mk (below_step be_ hb); have nz2 := Aside0.mk (hbox); have nz3 := Aside0.mk ((sz_ : w.heap.size ≤ gbz1)); have nz4 := Aside0.mk ((sz_ : w.heap.size ≤ gbz1)); clear HB; have HB := nz1; have BKz1 := nz2; have GWz1 := nz3; have GEz1 := nz4; clear nz1 nz2 nz3 nz4; clear hb hbox hg; have hczz1 : wz1.cell? ⟨gbz1, 0, none⟩ = some (.string (⟨#[]⟩ : ByteArray)) := (blk_cell BKz1.out 0).trans rfl; have hczz2 : wz1.cell? ⟨gbz1, 1, none⟩ = some (.int .i64 0) := (blk_cell BKz1.out 1).trans rfl; have hczz3 : wz1.cell? ⟨gbz1, 2, none⟩ = some (.int .i64 0) := (blk_cell BKz1.out 2).trans rfl; have hfzz1 := blk_frozen BKz1.out 0; have hfzz2 := blk_frozen BKz1.out 1; have hfzz3 := blk_frozen BKz1.out 2))
        have nz1 : Aside0 ((((wz1.setCell ⟨gbz1, 0, none⟩ (.string ((rd_T81 l0 xz1).f0))).setCell ⟨gbz1, 1, none⟩ (.int .i64 ((rd_T81 l0 xz1).f1))).setCell ⟨gbz1, 2, none⟩ (.int .i64 ((rd_T81 l0 xz1).f2))).heap[gbz1]? = some (.cells #[.string ((rd_T81 l0 xz1).f0), .int .i64 ((rd_T81 l0 xz1).f1), .int .i64 ((rd_T81 l0 xz1).f2)] 81 (0, 0))) := ⟨by (with_reducible repeat (first | refine blk_drewN ?_ _ | refine blk_drew ?_ | refine blk_alloc ?_ _)); refine blk_put (cs := #[.string ((rd_T81 l0 xz1).f0), .int .i64 ((rd_T81 l0 xz1).f1), .int .i64 0]) ?_ 2 _ rfl; (with_reducible repeat (first | refine blk_drewN ?_ _ | refine blk_drew ?_ | refine blk_alloc ?_ _)); refine blk_put (cs := #[.string ((rd_T81 l0 xz1).f0), .int .i64 0, .int .i64 0]) ?_ 1 _ rfl; (with_reducible repeat (first | refine blk_drewN ?_ _ | refine blk_drew ?_ | refine blk_alloc ?_ _)); refine blk_put (cs := #[.string (⟨#[]⟩ : ByteArray), .int .i64 0, .int .i64 0]) ?_ 0 _ rfl; (with_reducible repeat (first | refine blk_drewN ?_ _ | refine blk_drew ?_ | refine blk_alloc ?_ _)); exact BKz1.out⟩
        have nz2 : Aside0 (Below w.heap.size w (((wz1.setCell ⟨gbz1, 0, none⟩ (.string ((rd_T81 l0 xz1).f0))).setCell ⟨gbz1, 1, none⟩ (.int .i64 ((rd_T81 l0 xz1).f1))).setCell ⟨gbz1, 2, none⟩ (.int .i64 ((rd_T81 l0 xz1).f2)))) := ⟨be_⟩
        (try clear BKz1)
        (try clear HB)
        generalize (((wz1.setCell ⟨gbz1, 0, none⟩ (.string ((rd_T81 l0 xz1).f0))).setCell ⟨gbz1, 1, none⟩ (.int .i64 ((rd_T81 l0 xz1).f1))).setCell ⟨gbz1, 2, none⟩ (.int .i64 ((rd_T81 l0 xz1).f2))) = wz2 at nz1 nz2 ⊢
        have BKz1 := nz1
        have HB := nz2
        clear nz1 nz2
        have nz1 := Aside0.mk (blk_drew BKz1.out)
        have nz2 := Aside0.mk (below_drew1 HB.out)
        clear BKz1
        clear HB
        have BKz1 := nz1
        have HB := nz2
        clear nz1 nz2
        have pz2 : 0 ≤ ((jiz1) : Int) := of_decide_eq_true as_
        have qz2 : (jiz1) < (l0.length : Int) := of_decide_eq_true as_
        obtain ⟨adz2, ez2, hxz4, hxz5, hxz6⟩ := at_T81 HRz1.out (jiz1) pz2 qz2
        have hwz1 := hxz6
        have hwz2 := hxz5
        have hwz3 := hxz4
        obtain rfl : adz1 = adz2 := (by injection ez2)
        replace hxz4 := (HB.out.cell (World.block_lt_of_cell? w _ hxz4)).trans hxz4
        replace hxz5 := (HB.out.cell (World.block_lt_of_cell? w _ hxz5)).trans hxz5
        replace hxz6 := (HB.out.cell (World.block_lt_of_cell? w _ hxz6)).trans hxz6
        replace pz2 := eq_true pz2
        replace qz2 := eq_true qz2
        refine start_ (n := 18) (S := fun w' => w'.cell? ⟨gbz1, 0, none⟩ = some (.string ((rd_T81 l0 xz1).f0)) ∧ w'.cell? ⟨gbz1, 1, none⟩ = some (.int .i64 ((rd_T81 l0 xz1).f1)) ∧ w'.cell? ⟨gbz1, 2, none⟩ = some (.int .i64 ((rd_T81 l0 xz1).f2)) ∧ w'.cell? (adz1.add (((jiz1)).toNat * 3)) = some (.string ((rd_T81 l0 (jiz1)).f0)) ∧ w'.cell? ⟨(adz1.add (((jiz1)).toNat * 3)).block, (adz1.add (((jiz1)).toNat * 3)).off + 1, none⟩ = some (.int .i64 ((rd_T81 l0 (jiz1)).f1)) ∧ w'.cell? ⟨(adz1.add (((jiz1)).toNat * 3)).block, (adz1.add (((jiz1)).toNat * 3)).off + 2, none⟩ = some (.int .i64 ((rd_T81 l0 (jiz1)).f2))) (ds := []) impl_subsOk_bools0_ (by kernel_rfl) rfl (by kernel_rfl) ⟨(blk_cell BKz1.out 0).trans rfl, (blk_cell BKz1.out 1).trans rfl, (blk_cell BKz1.out 2).trans rfl, ((HB.out.cell (World.block_lt_of_cell? w _ hwz3)).trans hwz3), ((HB.out.cell (World.block_lt_of_cell? w _ hwz2)).trans hwz2), ((HB.out.cell (World.block_lt_of_cell? w _ hwz1)).trans hwz1)⟩ (fun hHeld => ?_); refine with_tabW impl_subsOk.tab4 impl_subsOk.bits4 (fun HT_ HW_ => ?_)
        generalize wz2.drew = wz3 at BKz1 HB hxz4 hxz5 hxz6 hHeld ⊢
        refine ta_ HT_ HW_ hHeld 0 12 impl_subsOk_bools1_ ?_
        refine one_ (i := 1) (N := some 13) impl_subsOk_bools2_ rfl rfl (one_of HT_.out (by kernel_rfl)) (by decide) (fun K hK => ?_)
        refine goes_ Tryd.func68 (by kernel_rfl) rfl #[.agg #[.string ((rd_T81 l0 xz1).f0), .int .i64 ((rd_T81 l0 xz1).f1), .int .i64 ((rd_T81 l0 xz1).f2)]] (by rfl) rfl rfl ar_ ?_
        with_reducible refine (impl_subOk.calls ((rd_T81 l0 xz1).f0) ((rd_T81 l0 xz1).f1) ((rd_T81 l0 xz1).f2) true _ ?side1 Az2.out).mono ?_
        (case side1 => exact Tabs.below HT.out be_)
        rintro e wz4 ⟨rfl, hb⟩
        refine ⟨_, rfl, ?_⟩
        have nz1 := Aside0.mk (blk_below (g := gbz1) (o := .cells #[.string ((rd_T81 l0 xz1).f0), .int .i64 ((rd_T81 l0 xz1).f1), .int .i64 ((rd_T81 l0 xz1).f2)] 81 (0, 0)) bk_ hb)
        have nz2 := Aside0.mk (below_step be_ hb)
        clear BKz1
        clear HB
        have BKz1 := nz1
        have HB := nz2
        clear nz1 nz2
        (try clear hb)
        (try clear hb2)
        (try clear hk)
        (try clear hi)
        refine hK.out _ _ ⟨(blk_cell BKz1.out 0).trans rfl, (blk_cell BKz1.out 1).trans rfl, (blk_cell BKz1.out 2).trans rfl, ((HB.out.cell (World.block_lt_of_cell? w _ hwz3)).trans hwz3), ((HB.out.cell (World.block_lt_of_cell? w _ hwz2)).trans hwz2), ((HB.out.cell (World.block_lt_of_cell? w _ hwz1)).trans hwz1)⟩ (fun hHeld => ?_)
        clear hK K
        refine norm_ (a' := ?_) ?_ ?_
        rotate_left
        · show Act.put _ (some 13) _ = _
          simp only [Act.put, List.setIfInBounds_toArray, List.set_cons_zero, List.set_cons_succ, i64_w, i32_w]
          rfl
        refine pu_ HT_ 2 14 impl_subsOk_bools3_ ?_
        refine pu_ HT_ 3 15 impl_subsOk_bools4_ ?_
        refine pu_ HT_ 4 16 impl_subsOk_bools5_ ?_
        refine pu_ HT_ 5 17 impl_subsOk_bools6_ ?_
        refine pu_ HT_ 6 18 impl_subsOk_bools7_ ?_
        refine pu_ HT_ 7 19 impl_subsOk_bools8_ ?_
        refine pu_ HT_ 8 20 impl_subsOk_bools9_ ?_
        refine pu_ HT_ 9 21 impl_subsOk_bools10_ ?_
        refine pu_ HT_ 10 22 impl_subsOk_bools11_ ?_
        refine pu_ HT_ 11 23 impl_subsOk_bools12_ ?_
        refine pu_ HT_ 13 25 impl_subsOk_bools19_ ?_
        refine ta_ HT_ HW_ hHeld 12 24 impl_subsOk_bools14_ ?_
        refine ta_ HT_ HW_ hHeld 14 26 impl_subsOk_bools15_ ?_
        refine pu_ HT_ 15 27 impl_subsOk_bools16_ ?_
        refine pu_ HT_ 16 28 impl_subsOk_bools17_ ?_
        refine pu_ HT_ 17 29 impl_subsOk_bools18_ ?_
        refine done_ (done_of HT_.out (by kernel_rfl)) ?_
        try go_wp2
        go_roundg kz1
        case measure => have := HKz1.out; omega
        case rel => exact ⟨(wrap64 (xz1 + 1)), (by first | rfl | (simp; done) | (simp [*]; done)), H', ⟨by have := HKz1.out; omega⟩, ⟨be_⟩⟩
      rw [if_neg cz8] at H
      have c11b0 : (Op.bytesLess (((rd_T81 l0 (jiz1)).f0).toList) (((rd_T81 l0 xz1).f0).toList)) = false := by simpa using cz8
      clear cz8
      obtain rfl := Option.some.inj H
      have pz1 : 0 ≤ (xz1 : Int) := of_decide_eq_true as_
      have qz1 : xz1 < (l0.length : Int) := of_decide_eq_true as_
      obtain ⟨adz1, ez1, hxz1, hxz2, hxz3⟩ := at_T81 HRz1.out xz1 pz1 qz1
      cases ez1
      replace hxz1 := (HB.out.cell (World.block_lt_of_cell? w _ hxz1)).trans hxz1
      replace hxz2 := (HB.out.cell (World.block_lt_of_cell? w _ hxz2)).trans hxz2
      replace hxz3 := (HB.out.cell (World.block_lt_of_cell? w _ hxz3)).trans hxz3
      replace pz1 := eq_true pz1
      replace qz1 := eq_true qz1
      try go_wp2_with (first | ((with_reducible refine gate_dst (N := 4) rfl ?_); refine box_event ?hg (N := 4) ?hd (cs := #[.string (⟨#[]⟩ : ByteArray), .int .i64 0, .int .i64 0]) (t := 81) ?hr ?_; (case hd => rfl); (case hg => rfl); (case hr => first | (go_simp; done) | (go_simp; rfl)); intro gbz1 hg wz1 hbox hb; have nz1 := Aside0.mk (below_step be_ hb); have nz2 := Aside0.mk (hbox); have nz3 := Aside0.mk ((sz_ : w.heap.size ≤ gbz1)); have nz4 := Aside0.mk ((sz_ : w.heap.size ≤ gbz1)); clear HB; have HB := nz1; have BKz1 := nz2; have GWz1 := nz3; have GEz1 := nz4; clear nz1 nz2 nz3 nz4; clear hb hbox hg; have hczz1 : wz1.cell? ⟨gbz1, 0, none⟩ = some (.string (⟨#[]⟩ : ByteArray)) := (blk_cell BKz1.out 0).trans rfl; have hczz2 : wz1.cell? ⟨gbz1, 1, none⟩ = some (.int .i64 0) := (blk_cell BKz1.out 1).trans rfl; have hczz3 : wz1.cell? ⟨gbz1, 2, none⟩ = some (.int .i64 0) := (blk_cell BKz1.out 2).trans rfl; have hfzz1 := blk_frozen BKz1.out 0; have hfzz2 := blk_frozen BKz1.out 1; have hfzz3 := blk_frozen BKz1.out 2))
      have nz1 : Aside0 ((((wz1.setCell ⟨gbz1, 0, none⟩ (.string ((rd_T81 l0 xz1).f0))).setCell ⟨gbz1, 1, none⟩ (.int .i64 ((rd_T81 l0 xz1).f1))).setCell ⟨gbz1, 2, none⟩ (.int .i64 ((rd_T81 l0 xz1).f2))).heap[gbz1]? = some (.cells #[.string ((rd_T81 l0 xz1).f0), .int .i64 ((rd_T81 l0 xz1).f1), .int .i64 ((rd_T81 l0 xz1).f2)] 81 (0, 0))) := ⟨by (with_reducible repeat (first | refine blk_drewN ?_ _ | refine blk_drew ?_ | refine blk_alloc ?_ _)); refine blk_put (cs := #[.string ((rd_T81 l0 xz1).f0), .int .i64 ((rd_T81 l0 xz1).f1), .int .i64 0]) ?_ 2 _ rfl; (with_reducible repeat (first | refine blk_drewN ?_ _ | refine blk_drew ?_ | refine blk_alloc ?_ _)); refine blk_put (cs := #[.string ((rd_T81 l0 xz1).f0), .int .i64 0, .int .i64 0]) ?_ 1 _ rfl; (with_reducible repeat (first | refine blk_drewN ?_ _ | refine blk_drew ?_ | refine blk_alloc ?_ _)); refine blk_put (cs := #[.string (⟨#[]⟩ : ByteArray), .int .i64 0, .int .i64 0]) ?_ 0 _ rfl; (with_reducible repeat (first | refine blk_drewN ?_ _ | refine blk_drew ?_ | refine blk_alloc ?_ _)); exact BKz1.out⟩
      have nz2 : Aside0 (Below w.heap.size w (((wz1.setCell ⟨gbz1, 0, none⟩ (.string ((rd_T81 l0 xz1).f0))).setCell ⟨gbz1, 1, none⟩ (.int .i64 ((rd_T81 l0 xz1).f1))).setCell ⟨gbz1, 2, none⟩ (.int .i64 ((rd_T81 l0 xz1).f2)))) := ⟨be_⟩
      (try clear BKz1)
      (try clear HB)
      generalize (((wz1.setCell ⟨gbz1, 0, none⟩ (.string ((rd_T81 l0 xz1).f0))).setCell ⟨gbz1, 1, none⟩ (.int .i64 ((rd_T81 l0 xz1).f1))).setCell ⟨gbz1, 2, none⟩ (.int .i64 ((rd_T81 l0 xz1).f2))) = wz2 at nz1 nz2 ⊢
      have BKz1 := nz1
      have HB := nz2
      clear nz1 nz2
      have nz1 := Aside0.mk (blk_drew BKz1.out)
      have nz2 := Aside0.mk (below_drew1 HB.out)
      clear BKz1
      clear HB
      have BKz1 := nz1
      have HB := nz2
      clear nz1 nz2
      have pz2 : 0 ≤ ((jiz1) : Int) := of_decide_eq_true as_
      have qz2 : (jiz1) < (l0.length : Int) := of_decide_eq_true as_
      obtain ⟨adz2, ez2, hxz4, hxz5, hxz6⟩ := at_T81 HRz1.out (jiz1) pz2 qz2
      have hwz1 := hxz6
      have hwz2 := hxz5
      have hwz3 := hxz4
      obtain rfl : adz1 = adz2 := (by injection ez2)
      replace hxz4 := (HB.out.cell (World.block_lt_of_cell? w _ hxz4)).trans hxz4
      replace hxz5 := (HB.out.cell (World.block_lt_of_cell? w _ hxz5)).trans hxz5
      replace hxz6 := (HB.out.cell (World.block_lt_of_cell? w _ hxz6)).trans hxz6
      replace pz2 := eq_true pz2
      replace qz2 := eq_true qz2
      refine start_ (n := 18) (S := fun w' => w'.cell? ⟨gbz1, 0, none⟩ = some (.string ((rd_T81 l0 xz1).f0)) ∧ w'.cell? ⟨gbz1, 1, none⟩ = some (.int .i64 ((rd_T81 l0 xz1).f1)) ∧ w'.cell? ⟨gbz1, 2, none⟩ = some (.int .i64 ((rd_T81 l0 xz1).f2)) ∧ w'.cell? (adz1.add (((jiz1)).toNat * 3)) = some (.string ((rd_T81 l0 (jiz1)).f0)) ∧ w'.cell? ⟨(adz1.add (((jiz1)).toNat * 3)).block, (adz1.add (((jiz1)).toNat * 3)).off + 1, none⟩ = some (.int .i64 ((rd_T81 l0 (jiz1)).f1)) ∧ w'.cell? ⟨(adz1.add (((jiz1)).toNat * 3)).block, (adz1.add (((jiz1)).toNat * 3)).off + 2, none⟩ = some (.int .i64 ((rd_T81 l0 (jiz1)).f2))) (ds := []) impl_subsOk_bools0_ (by kernel_rfl) rfl (by kernel_rfl) ⟨(blk_cell BKz1.out 0).trans rfl, (blk_cell BKz1.out 1).trans rfl, (blk_cell BKz1.out 2).trans rfl, ((HB.out.cell (World.block_lt_of_cell? w _ hwz3)).trans hwz3), ((HB.out.cell (World.block_lt_of_cell? w _ hwz2)).trans hwz2), ((HB.out.cell (World.block_lt_of_cell? w _ hwz1)).trans hwz1)⟩ (fun hHeld => ?_); refine with_tabW impl_subsOk.tab4 impl_subsOk.bits4 (fun HT_ HW_ => ?_)
      generalize wz2.drew = wz3 at BKz1 HB hxz4 hxz5 hxz6 hHeld ⊢
      refine ta_ HT_ HW_ hHeld 0 12 impl_subsOk_bools1_ ?_
      refine one_ (i := 1) (N := some 13) impl_subsOk_bools2_ rfl rfl (one_of HT_.out (by kernel_rfl)) (by decide) (fun K hK => ?_)
      refine goes_ Tryd.func68 (by kernel_rfl) rfl #[.agg #[.string ((rd_T81 l0 xz1).f0), .int .i64 ((rd_T81 l0 xz1).f1), .int .i64 ((rd_T81 l0 xz1).f2)]] (by rfl) rfl rfl ar_ ?_
      with_reducible refine (impl_subOk.calls ((rd_T81 l0 xz1).f0) ((rd_T81 l0 xz1).f1) ((rd_T81 l0 xz1).f2) true _ ?side1 Az2.out).mono ?_
      (case side1 => exact Tabs.below HT.out be_)
      rintro e wz4 ⟨rfl, hb⟩
      refine ⟨_, rfl, ?_⟩
      have nz1 := Aside0.mk (blk_below (g := gbz1) (o := .cells #[.string ((rd_T81 l0 xz1).f0), .int .i64 ((rd_T81 l0 xz1).f1), .int .i64 ((rd_T81 l0 xz1).f2)] 81 (0, 0)) bk_ hb)
      have nz2 := Aside0.mk (below_step be_ hb)
      clear BKz1
      clear HB
      have BKz1 := nz1
      have HB := nz2
      clear nz1 nz2
      (try clear hb)
      (try clear hb2)
      (try clear hk)
      (try clear hi)
      refine hK.out _ _ ⟨(blk_cell BKz1.out 0).trans rfl, (blk_cell BKz1.out 1).trans rfl, (blk_cell BKz1.out 2).trans rfl, ((HB.out.cell (World.block_lt_of_cell? w _ hwz3)).trans hwz3), ((HB.out.cell (World.block_lt_of_cell? w _ hwz2)).trans hwz2), ((HB.out.cell (World.block_lt_of_cell? w _ hwz1)).trans hwz1)⟩ (fun hHeld => ?_)
      clear hK K
      refine norm_ (a' := ?_) ?_ ?_
      rotate_left
      · show Act.put _ (some 13) _ = _
        simp only [Act.put, List.setIfInBounds_toArray, List.set_cons_zero, List.set_cons_succ, i64_w, i32_w]
        rfl
      refine pu_ HT_ 2 14 impl_subsOk_bools3_ ?_
      refine pu_ HT_ 3 15 impl_subsOk_bools4_ ?_
      refine pu_ HT_ 4 16 impl_subsOk_bools5_ ?_
      refine pu_ HT_ 5 17 impl_subsOk_bools6_ ?_
      refine pu_ HT_ 6 18 impl_subsOk_bools7_ ?_
      refine pu_ HT_ 7 19 impl_subsOk_bools8_ ?_
      refine pu_ HT_ 8 20 impl_subsOk_bools9_ ?_
      refine pu_ HT_ 9 21 impl_subsOk_bools10_ ?_
      refine pu_ HT_ 10 22 impl_subsOk_bools11_ ?_
      refine pu_ HT_ 11 23 impl_subsOk_bools12_ ?_
      refine pu_ HT_ 13 25 impl_subsOk_bools19_ ?_
      refine ta_ HT_ HW_ hHeld 12 24 impl_subsOk_bools14_ ?_
      refine ta_ HT_ HW_ hHeld 14 26 impl_subsOk_bools15_ ?_
      refine pu_ HT_ 15 27 impl_subsOk_bools16_ ?_
      refine pu_ HT_ 16 28 impl_subsOk_bools17_ ?_
      refine pu_ HT_ 17 29 impl_subsOk_bools18_ ?_
      refine done_ (done_of HT_.out (by kernel_rfl)) ?_
      try go_wp2
      go_ret
      exact ⟨by first | rfl | (simp [errW_none, errW_some] <;> rfl) | (simp only [← hjiz1]; first | rfl | (simp [errW_none, errW_some] <;> rfl)) | (simp [*, errW_none, errW_some] <;> rfl), be_⟩

end Go.Proofs.YtemehnmbmajnfaaDoor.P
