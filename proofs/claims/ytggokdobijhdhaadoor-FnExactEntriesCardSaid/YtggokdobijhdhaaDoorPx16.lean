-- Printed by a program over the kit's print.py (mp.sh), several laws in one namespace.
import Derived.Test.YtggokdobijhdhaaDoorPx0
import Derived.Test.YtggokdobijhdhaaDoorS
import Derived.Test.YtggokdobijhdhaaDoorPx15
namespace Go.Proofs.YtggokdobijhdhaaDoor.P
open Go.RowKit Go.Proofs.YtggokdobijhdhaaDoor.X Go.Proofs.YtggokdobijhdhaaDoorW.PrintWords Go.Proofs.YtggokdobijhdhaaDoorW.PrintLast Go.Proofs.YtggokdobijhdhaaDoorW.PrintMore
attribute [local go_sem] max2_int min2_int max_two min_two max_three min_three max_four min_four   -- for this text's walks alone
set_option maxHeartbeats 8000000
set_option maxRecDepth 100000
set_option linter.unusedVariables false
set_option linter.unusedSimpArgs false

def impl_subsOk.l0 : Nat → List (S86) → List (S86) → Int → Int → Option (Bool)
 | 0, _, _, _, _ => none
 | k + 1, x0, x5, x6, x7 => if x7 < x6 then (if 0 ≤ x7 then (if x7 < (x5.length : Int) then ((impl_subOk.f ((rd_T86 x5 x7).f0) ((rd_T86 x5 x7).f1) ((rd_T86 x5 x7).f2)).bind fun t290 => (if t290 = true then (if x7 > 0 then (if 0 ≤ (wrap64 (x7 - 1)) then (if (wrap64 (x7 - 1)) < (x0.length : Int) then (if ((Op.bytesLess (((rd_T86 x0 (wrap64 (x7 - 1))).f0).toList) (((rd_T86 x5 x7).f0).toList)) = true) then (impl_subsOk.l0 k x0 x5 x6 (wrap64 (x7 + 1))) else (some false)) else (none)) else (none)) else (impl_subsOk.l0 k x0 x5 x6 (wrap64 (x7 + 1)))) else (some false))) else (none)) else (none)) else (some true)
def impl_subsOk.f (k : Nat) (l0 : List (S86)) : Option (Bool) := impl_subsOk.l0 k l0 l0 (l0.length : Int) 0
def impl_subsOk.T4 : Bool × List (List Nat × List Nat) := (true, [([], []), ([0], [0]), ([1], [1]), ([2, 1], [2]), ([3], [3]), ([4, 3], [3, 4]), ([5, 3, 3], [3, 5]), ([6], [6]), ([6], [6]), ([8, 6], [6, 8]), ([7, 9, 6], [6, 7, 9]), ([10, 6], [6, 10]), ([11, 6], [6, 11]), ([6], [6]), ([13, 6], [6, 13]), ([12, 14, 6], [6, 12, 14]), ([6, 15, 3], [3, 6, 15]), ([3, 16], [3, 16])])
def impl_subsOk.B4 : List Nat := [0, 1, 3, 7, 15, 31, 63, 127, 127, 383, 1023, 2047, 4095, 127, 8319, 32767, 65535, 131071]
theorem impl_subsOk.tab4 : rtab .any (opsOf Tryd.f68 4) = impl_subsOk.T4 := by kernel_rfl
theorem impl_subsOk.bits4 : waitsOk impl_subsOk.T4.2 impl_subsOk.B4 = true := by kernel_rfl
theorem impl_subsOk.calls (k : Nat) (A0 : Option Addr) (c0 : Nat) (l0 : List (S86)) (r : Bool) (w : World) (hr0 : Kd.C k86 w A0 l0.length l0) (hc0 : l0.length ≤ c0) (hT : Tabs w) (h : impl_subsOk.f k l0 = some r) :
  Calls Tryd.prog 68 #[.slice A0 l0.length c0] w fun e w' => e = .returned (.bool r) ∧ Below w.heap.size w w' := by
 have huz1 := Tryd.underlying86
 have HT := Aside0.mk hT
 clear hT
 have HRz1 := Aside0.mk hr0
 have HCz1 := Aside0.mk hc0
 clear hr0 hc0
 have HB := Aside0.mk (Below.refl w.heap.size w)
 have H : (impl_subsOk.l0 k l0 l0 (l0.length : Int) 0) = some r := h
 clear h
 have H' := Aside0.mk H
 clear H
 go_enter Tryd.func68, Tryd.ntmps68
 go_wp2
 go_loopg [7] k (fun kq v7 w' => ∃ (x7_1 : Int), v7 = .int .i64 x7_1 ∧ Aside0 (impl_subsOk.l0 kq l0 l0 (l0.length : Int) x7_1 = some r) ∧ Aside0 (kq ≤ k) ∧ Aside0 (Below w.heap.size w w'))
 case atStart => exact ⟨(0), rs_, H', ⟨Nat.le_refl _⟩, ⟨be_⟩⟩
 case round =>
  clear H'
  obtain ⟨xz1, rfl, HA, HKz1, HB⟩ := hrel
  cases gk with
  | zero => exact absurd HA.out (by simp [impl_subsOk.l0])
  | succ kz1 =>
   have H := HA.out
   clear HA
   simp only [impl_subsOk.l0] at H
   by_cases cz1 : xz1 < (l0.length : Int)
   rotate_left
   ·rw [if_neg cz1] at H
    have cz2 : decide (xz1 < (l0.length : Int)) = false := decide_eq_false cz1
    clear cz1
    obtain rfl := Option.some.inj H
    go_wp2
    go_ret
    exact ⟨er_, be_⟩
   rw [if_pos cz1] at H
   have cz2 : decide (xz1 < (l0.length : Int)) = true := decide_eq_true cz1
   clear cz1
   by_cases cz3 : 0 ≤ xz1
   rotate_left
   ·rw [if_neg cz3] at H
    exact absurd H (by simp)
   rw [if_pos cz3] at H
   have cz4 : decide (0 ≤ xz1) = true := decide_eq_true cz3
   clear cz3
   by_cases cz5 : xz1 < (l0.length : Int)
   rotate_left
   ·rw [if_neg cz5] at H
    exact absurd H (by simp)
   rw [if_pos cz5] at H
   have cz6 : decide (xz1 < (l0.length : Int)) = true := decide_eq_true cz5
   clear cz5
   replace H := bo_ H
   obtain ⟨tz1, Az2, H⟩ := H
   (try dsimp only at H)
   by_cases cz7 : tz1 = true
   rotate_left
   ·replace cz7 := Bool.eq_false_iff.mpr cz7
    subst cz7
    replace H := bf_ H
    obtain rfl := Option.some.inj H
    obtain ⟨pz1, qz1, adz1, ez1, hxz1, hxz2, hxz3⟩ := aa_ (at_T86 HRz1.out xz1)
    cases ez1
    replace hxz1 := cl_ HB hxz1
    replace hxz2 := cl_ HB hxz2
    replace hxz3 := cl_ HB hxz3
    try go_wp2_with (first | ((with_reducible refine gate_dst (N := 4) rfl ?_); refine box_event ?hg (N := 4) ?hd (cs := #[.string (⟨#[]⟩ : ByteArray), .int .i64 0, .int .i64 0]) (t := 86) ?hr ?_; (case hd => rfl); (case hg => rfl); (case hr => first | (go_simp; done) | (go_simp; rfl)); intro gbz1 hg wz1 hbox hb; have BKz1 := Aside0.mk (hbox); have GWz1 := Aside0.mk ((sz_ : w.heap.size ≤ gbz1)); have GEz1 := Aside0.mk ((sz_ : w.heap.size ≤ gbz1)); replace HB := bw_ hb; clear hb hbox hg; have hczz1 : wz1.cell? ⟨gbz1, 0, none⟩ = some (.string (⟨#[]⟩ : ByteArray)) := bc_ BKz1 0; have hczz2 : wz1.cell? ⟨gbz1, 1, none⟩ = some (.int .i64 0) := bc_ BKz1 1; have hczz3 : wz1.cell? ⟨gbz1, 2, none⟩ = some (.int .i64 0) := bc_ BKz1 2; have hfzz1 := blk_frozen BKz1.out 0; have hfzz2 := blk_frozen BKz1.out 1; have hfzz3 := blk_frozen BKz1.out 2))
    have nz1 : Aside0 ((((wz1.setCell ⟨gbz1, 0, none⟩ (.string ((rd_T86 l0 xz1).f0))).setCell ⟨gbz1, 1, none⟩ (.int .i64 ((rd_T86 l0 xz1).f1))).setCell ⟨gbz1, 2, none⟩ (.int .i64 ((rd_T86 l0 xz1).f2))).heap[gbz1]? = some (.cells #[.string ((rd_T86 l0 xz1).f0), .int .i64 ((rd_T86 l0 xz1).f1), .int .i64 ((rd_T86 l0 xz1).f2)] 86 (0, 0))) := ⟨by (with_reducible repeat (first | refine blk_drewN ?_ _ | refine blk_drew ?_ | refine blk_alloc ?_ _)); refine blk_put (cs := #[.string ((rd_T86 l0 xz1).f0), .int .i64 ((rd_T86 l0 xz1).f1), .int .i64 0]) ?_ 2 _ rfl; (with_reducible repeat (first | refine blk_drewN ?_ _ | refine blk_drew ?_ | refine blk_alloc ?_ _)); refine blk_put (cs := #[.string ((rd_T86 l0 xz1).f0), .int .i64 0, .int .i64 0]) ?_ 1 _ rfl; (with_reducible repeat (first | refine blk_drewN ?_ _ | refine blk_drew ?_ | refine blk_alloc ?_ _)); refine blk_put (cs := #[.string (⟨#[]⟩ : ByteArray), .int .i64 0, .int .i64 0]) ?_ 0 _ rfl; (with_reducible repeat (first | refine blk_drewN ?_ _ | refine blk_drew ?_ | refine blk_alloc ?_ _)); exact BKz1.out⟩
    have nz2 : Aside0 (Below w.heap.size w (((wz1.setCell ⟨gbz1, 0, none⟩ (.string ((rd_T86 l0 xz1).f0))).setCell ⟨gbz1, 1, none⟩ (.int .i64 ((rd_T86 l0 xz1).f1))).setCell ⟨gbz1, 2, none⟩ (.int .i64 ((rd_T86 l0 xz1).f2)))) := ⟨be_⟩
    generalize (((wz1.setCell ⟨gbz1, 0, none⟩ (.string ((rd_T86 l0 xz1).f0))).setCell ⟨gbz1, 1, none⟩ (.int .i64 ((rd_T86 l0 xz1).f1))).setCell ⟨gbz1, 2, none⟩ (.int .i64 ((rd_T86 l0 xz1).f2))) = wz2 at nz1 nz2 ⊢
    have BKz1 := nz1
    have HB := nz2
    clear nz1 nz2
    replace BKz1 := Aside0.mk (blk_drew BKz1.out)
    replace HB := Aside0.mk (below_drew1 HB.out)
    refine start_ (n := 18) (S := fun w' => w'.cell? ⟨gbz1, 0, none⟩ = some (.string ((rd_T86 l0 xz1).f0)) ∧ w'.cell? ⟨gbz1, 1, none⟩ = some (.int .i64 ((rd_T86 l0 xz1).f1)) ∧ w'.cell? ⟨gbz1, 2, none⟩ = some (.int .i64 ((rd_T86 l0 xz1).f2))) (ds := []) (bs_ 18 0) (by kernel_rfl) rfl (by kernel_rfl) ⟨bc_ BKz1 0, bc_ BKz1 1, bc_ BKz1 2⟩ (fun hHeld => ?_); refine with_tabW impl_subsOk.tab4 impl_subsOk.bits4 (fun HT_ HW_ => ?_)
    generalize wz2.drew = wz3 at BKz1 HB hHeld ⊢
    refine tv_ HT_ HW_ hHeld 0 ?_
    refine ov_ HT_ 1 (fun K hK => ?_)
    refine goes_ Tryd.func81 (by kernel_rfl) rfl #[.agg #[.string ((rd_T86 l0 xz1).f0), .int .i64 ((rd_T86 l0 xz1).f1), .int .i64 ((rd_T86 l0 xz1).f2)]] (by rfl) rfl rfl ar_ ?_
    with_reducible refine (impl_subOk.calls ((rd_T86 l0 xz1).f0) ((rd_T86 l0 xz1).f1) ((rd_T86 l0 xz1).f2) false _ ?side1 Az2.out).mono ?_
    (case side1 => exact Tabs.below HT.out be_)
    rintro e wz4 ⟨rfl, hb⟩
    refine ⟨_, rfl, ?_⟩
    replace HB := bw_ hb
    replace BKz1 := kb_ BKz1 hb
    clear hb
    refine hK.out _ _ ⟨bc_ BKz1 0, bc_ BKz1 1, bc_ BKz1 2⟩ (fun hHeld => ?_)
    clear hK K
    refine nm_ 13 ?_
    refine pv_ HT_ 2 ?_
    refine pv_ HT_ 3 ?_
    refine uv_ HT_ 4 ?_
    refine uv_ HT_ 5 ?_
    refine uv_ HT_ 6 ?_
    refine uv_ HT_ 7 ?_
    refine uv_ HT_ 8 ?_
    refine uv_ HT_ 9 ?_
    refine uv_ HT_ 10 ?_
    refine uv_ HT_ 11 ?_
    refine uv_ HT_ 12 ?_
    refine uv_ HT_ 13 ?_
    refine uv_ HT_ 14 ?_
    refine uv_ HT_ 15 ?_
    refine uv_ HT_ 16 ?_
    refine pv_ HT_ 17 ?_
    refine done_ (done_of HT_.out (by kernel_rfl)) ?_
    try go_wp2
    go_ret
    exact ⟨er_, be_⟩
   subst cz7
   replace H := bt_ H
   by_cases cz8 : xz1 > 0
   rotate_left
   ·rw [if_neg cz8] at H
    have cz9 : decide (0 < xz1) = false := decide_eq_false cz8
    clear cz8
    have H' := Aside0.mk H
    clear H
    obtain ⟨pz1, qz1, adz1, ez1, hxz1, hxz2, hxz3⟩ := aa_ (at_T86 HRz1.out xz1)
    cases ez1
    replace hxz1 := cl_ HB hxz1
    replace hxz2 := cl_ HB hxz2
    replace hxz3 := cl_ HB hxz3
    try go_wp2_with (first | ((with_reducible refine gate_dst (N := 4) rfl ?_); refine box_event ?hg (N := 4) ?hd (cs := #[.string (⟨#[]⟩ : ByteArray), .int .i64 0, .int .i64 0]) (t := 86) ?hr ?_; (case hd => rfl); (case hg => rfl); (case hr => first | (go_simp; done) | (go_simp; rfl)); intro gbz1 hg wz1 hbox hb; have BKz1 := Aside0.mk (hbox); have GWz1 := Aside0.mk ((sz_ : w.heap.size ≤ gbz1)); have GEz1 := Aside0.mk ((sz_ : w.heap.size ≤ gbz1)); replace HB := bw_ hb; clear hb hbox hg; have hczz1 : wz1.cell? ⟨gbz1, 0, none⟩ = some (.string (⟨#[]⟩ : ByteArray)) := bc_ BKz1 0; have hczz2 : wz1.cell? ⟨gbz1, 1, none⟩ = some (.int .i64 0) := bc_ BKz1 1; have hczz3 : wz1.cell? ⟨gbz1, 2, none⟩ = some (.int .i64 0) := bc_ BKz1 2; have hfzz1 := blk_frozen BKz1.out 0; have hfzz2 := blk_frozen BKz1.out 1; have hfzz3 := blk_frozen BKz1.out 2))
    have nz1 : Aside0 ((((wz1.setCell ⟨gbz1, 0, none⟩ (.string ((rd_T86 l0 xz1).f0))).setCell ⟨gbz1, 1, none⟩ (.int .i64 ((rd_T86 l0 xz1).f1))).setCell ⟨gbz1, 2, none⟩ (.int .i64 ((rd_T86 l0 xz1).f2))).heap[gbz1]? = some (.cells #[.string ((rd_T86 l0 xz1).f0), .int .i64 ((rd_T86 l0 xz1).f1), .int .i64 ((rd_T86 l0 xz1).f2)] 86 (0, 0))) := ⟨by (with_reducible repeat (first | refine blk_drewN ?_ _ | refine blk_drew ?_ | refine blk_alloc ?_ _)); refine blk_put (cs := #[.string ((rd_T86 l0 xz1).f0), .int .i64 ((rd_T86 l0 xz1).f1), .int .i64 0]) ?_ 2 _ rfl; (with_reducible repeat (first | refine blk_drewN ?_ _ | refine blk_drew ?_ | refine blk_alloc ?_ _)); refine blk_put (cs := #[.string ((rd_T86 l0 xz1).f0), .int .i64 0, .int .i64 0]) ?_ 1 _ rfl; (with_reducible repeat (first | refine blk_drewN ?_ _ | refine blk_drew ?_ | refine blk_alloc ?_ _)); refine blk_put (cs := #[.string (⟨#[]⟩ : ByteArray), .int .i64 0, .int .i64 0]) ?_ 0 _ rfl; (with_reducible repeat (first | refine blk_drewN ?_ _ | refine blk_drew ?_ | refine blk_alloc ?_ _)); exact BKz1.out⟩
    have nz2 : Aside0 (Below w.heap.size w (((wz1.setCell ⟨gbz1, 0, none⟩ (.string ((rd_T86 l0 xz1).f0))).setCell ⟨gbz1, 1, none⟩ (.int .i64 ((rd_T86 l0 xz1).f1))).setCell ⟨gbz1, 2, none⟩ (.int .i64 ((rd_T86 l0 xz1).f2)))) := ⟨be_⟩
    generalize (((wz1.setCell ⟨gbz1, 0, none⟩ (.string ((rd_T86 l0 xz1).f0))).setCell ⟨gbz1, 1, none⟩ (.int .i64 ((rd_T86 l0 xz1).f1))).setCell ⟨gbz1, 2, none⟩ (.int .i64 ((rd_T86 l0 xz1).f2))) = wz2 at nz1 nz2 ⊢
    have BKz1 := nz1
    have HB := nz2
    clear nz1 nz2
    replace BKz1 := Aside0.mk (blk_drew BKz1.out)
    replace HB := Aside0.mk (below_drew1 HB.out)
    refine start_ (n := 18) (S := fun w' => w'.cell? ⟨gbz1, 0, none⟩ = some (.string ((rd_T86 l0 xz1).f0)) ∧ w'.cell? ⟨gbz1, 1, none⟩ = some (.int .i64 ((rd_T86 l0 xz1).f1)) ∧ w'.cell? ⟨gbz1, 2, none⟩ = some (.int .i64 ((rd_T86 l0 xz1).f2))) (ds := []) (bs_ 18 0) (by kernel_rfl) rfl (by kernel_rfl) ⟨bc_ BKz1 0, bc_ BKz1 1, bc_ BKz1 2⟩ (fun hHeld => ?_); refine with_tabW impl_subsOk.tab4 impl_subsOk.bits4 (fun HT_ HW_ => ?_)
    generalize wz2.drew = wz3 at BKz1 HB hHeld ⊢
    refine tv_ HT_ HW_ hHeld 0 ?_
    refine ov_ HT_ 1 (fun K hK => ?_)
    refine goes_ Tryd.func81 (by kernel_rfl) rfl #[.agg #[.string ((rd_T86 l0 xz1).f0), .int .i64 ((rd_T86 l0 xz1).f1), .int .i64 ((rd_T86 l0 xz1).f2)]] (by rfl) rfl rfl ar_ ?_
    with_reducible refine (impl_subOk.calls ((rd_T86 l0 xz1).f0) ((rd_T86 l0 xz1).f1) ((rd_T86 l0 xz1).f2) true _ ?side1 Az2.out).mono ?_
    (case side1 => exact Tabs.below HT.out be_)
    rintro e wz4 ⟨rfl, hb⟩
    refine ⟨_, rfl, ?_⟩
    replace HB := bw_ hb
    replace BKz1 := kb_ BKz1 hb
    clear hb
    refine hK.out _ _ ⟨bc_ BKz1 0, bc_ BKz1 1, bc_ BKz1 2⟩ (fun hHeld => ?_)
    clear hK K
    refine nm_ 13 ?_
    refine pv_ HT_ 2 ?_
    refine pv_ HT_ 3 ?_
    refine pv_ HT_ 4 ?_
    refine pv_ HT_ 5 ?_
    refine pv_ HT_ 6 ?_
    refine uv_ HT_ 7 ?_
    refine uv_ HT_ 8 ?_
    refine uv_ HT_ 9 ?_
    refine uv_ HT_ 10 ?_
    refine uv_ HT_ 11 ?_
    refine uv_ HT_ 12 ?_
    refine uv_ HT_ 13 ?_
    refine uv_ HT_ 14 ?_
    refine uv_ HT_ 15 ?_
    refine pv_ HT_ 16 ?_
    refine pv_ HT_ 17 ?_
    refine done_ (done_of HT_.out (by kernel_rfl)) ?_
    try go_wp2
    go_roundg kz1
    case measure => have := HKz1.out; omega
    case rel => exact ⟨(wrap64 (xz1 + 1)), rs_, H', ⟨by have := HKz1.out; omega⟩, ⟨be_⟩⟩
   rw [if_pos cz8] at H
   have cz9 : decide (0 < xz1) = true := decide_eq_true cz8
   clear cz8
   obtain ⟨jiz1, hjiz1⟩ : ∃ j_ : Int, (wrap64 (xz1 - 1)) = j_ := ⟨_, rfl⟩
   replace H : (if 0 ≤ (jiz1) then (if (jiz1) < (l0.length : Int) then (if ((Op.bytesLess (((rd_T86 l0 (jiz1)).f0).toList) (((rd_T86 l0 xz1).f0).toList)) = true) then (impl_subsOk.l0 kz1 l0 l0 (l0.length : Int) (wrap64 (xz1 + 1))) else (some false)) else (none)) else (none)) = some r := by first | (rw [hjiz1] at H; exact H) | (simp only [hjiz1] at H ⊢; exact H)
   (try rw [hjiz1] at Az2)
   have hji8w : (IntKind.i64.wrap (xz1 - 1)) = jiz1 := (i64_w _).trans hjiz1
   by_cases cz10 : 0 ≤ (jiz1)
   rotate_left
   ·rw [if_neg cz10] at H
    exact absurd H (by simp)
   rw [if_pos cz10] at H
   have cz11 : decide (0 ≤ (jiz1)) = true := decide_eq_true cz10
   clear cz10
   by_cases cz12 : (jiz1) < (l0.length : Int)
   rotate_left
   ·rw [if_neg cz12] at H
    exact absurd H (by simp)
   rw [if_pos cz12] at H
   have cz13 : decide ((jiz1) < (l0.length : Int)) = true := decide_eq_true cz12
   clear cz12
   by_cases cz14 : ((Op.bytesLess (((rd_T86 l0 (jiz1)).f0).toList) (((rd_T86 l0 xz1).f0).toList)) = true)
   ·rw [if_pos cz14] at H
    have cz15 : (Op.bytesLess (((rd_T86 l0 (jiz1)).f0).toList) (((rd_T86 l0 xz1).f0).toList)) = true := cz14
    clear cz14
    have H' := Aside0.mk H
    clear H
    obtain ⟨pz1, qz1, adz1, ez1, hxz1, hxz2, hxz3⟩ := aa_ (at_T86 HRz1.out xz1)
    cases ez1
    replace hxz1 := cl_ HB hxz1
    replace hxz2 := cl_ HB hxz2
    replace hxz3 := cl_ HB hxz3
    try go_wp2_with (first | ((with_reducible refine gate_dst (N := 4) rfl ?_); refine box_event ?hg (N := 4) ?hd (cs := #[.string (⟨#[]⟩ : ByteArray), .int .i64 0, .int .i64 0]) (t := 86) ?hr ?_; (case hd => rfl); (case hg => rfl); (case hr => first | (go_simp; done) | (go_simp; rfl)); intro gbz1 hg wz1 hbox hb; have BKz1 := Aside0.mk (hbox); have GWz1 := Aside0.mk ((sz_ : w.heap.size ≤ gbz1)); have GEz1 := Aside0.mk ((sz_ : w.heap.size ≤ gbz1)); replace HB := bw_ hb; clear hb hbox hg; have hczz1 : wz1.cell? ⟨gbz1, 0, none⟩ = some (.string (⟨#[]⟩ : ByteArray)) := bc_ BKz1 0; have hczz2 : wz1.cell? ⟨gbz1, 1, none⟩ = some (.int .i64 0) := bc_ BKz1 1; have hczz3 : wz1.cell? ⟨gbz1, 2, none⟩ = some (.int .i64 0) := bc_ BKz1 2; have hfzz1 := blk_frozen BKz1.out 0; have hfzz2 := blk_frozen BKz1.out 1; have hfzz3 := blk_frozen BKz1.out 2))
    have nz1 : Aside0 ((((wz1.setCell ⟨gbz1, 0, none⟩ (.string ((rd_T86 l0 xz1).f0))).setCell ⟨gbz1, 1, none⟩ (.int .i64 ((rd_T86 l0 xz1).f1))).setCell ⟨gbz1, 2, none⟩ (.int .i64 ((rd_T86 l0 xz1).f2))).heap[gbz1]? = some (.cells #[.string ((rd_T86 l0 xz1).f0), .int .i64 ((rd_T86 l0 xz1).f1), .int .i64 ((rd_T86 l0 xz1).f2)] 86 (0, 0))) := ⟨by (with_reducible repeat (first | refine blk_drewN ?_ _ | refine blk_drew ?_ | refine blk_alloc ?_ _)); refine blk_put (cs := #[.string ((rd_T86 l0 xz1).f0), .int .i64 ((rd_T86 l0 xz1).f1), .int .i64 0]) ?_ 2 _ rfl; (with_reducible repeat (first | refine blk_drewN ?_ _ | refine blk_drew ?_ | refine blk_alloc ?_ _)); refine blk_put (cs := #[.string ((rd_T86 l0 xz1).f0), .int .i64 0, .int .i64 0]) ?_ 1 _ rfl; (with_reducible repeat (first | refine blk_drewN ?_ _ | refine blk_drew ?_ | refine blk_alloc ?_ _)); refine blk_put (cs := #[.string (⟨#[]⟩ : ByteArray), .int .i64 0, .int .i64 0]) ?_ 0 _ rfl; (with_reducible repeat (first | refine blk_drewN ?_ _ | refine blk_drew ?_ | refine blk_alloc ?_ _)); exact BKz1.out⟩
    have nz2 : Aside0 (Below w.heap.size w (((wz1.setCell ⟨gbz1, 0, none⟩ (.string ((rd_T86 l0 xz1).f0))).setCell ⟨gbz1, 1, none⟩ (.int .i64 ((rd_T86 l0 xz1).f1))).setCell ⟨gbz1, 2, none⟩ (.int .i64 ((rd_T86 l0 xz1).f2)))) := ⟨be_⟩
    generalize (((wz1.setCell ⟨gbz1, 0, none⟩ (.string ((rd_T86 l0 xz1).f0))).setCell ⟨gbz1, 1, none⟩ (.int .i64 ((rd_T86 l0 xz1).f1))).setCell ⟨gbz1, 2, none⟩ (.int .i64 ((rd_T86 l0 xz1).f2))) = wz2 at nz1 nz2 ⊢
    have BKz1 := nz1
    have HB := nz2
    clear nz1 nz2
    replace BKz1 := Aside0.mk (blk_drew BKz1.out)
    replace HB := Aside0.mk (below_drew1 HB.out)
    obtain ⟨pz2, qz2, adz2, ez2, hxz4, hxz5, hxz6⟩ := aa_ (at_T86 HRz1.out (jiz1))
    have hwz1 := hxz6
    have hwz2 := hxz5
    have hwz3 := hxz4
    obtain rfl : adz1 = adz2 := (by injection ez2)
    replace hxz4 := cl_ HB hxz4
    replace hxz5 := cl_ HB hxz5
    replace hxz6 := cl_ HB hxz6
    refine start_ (n := 18) (S := fun w' => w'.cell? ⟨gbz1, 0, none⟩ = some (.string ((rd_T86 l0 xz1).f0)) ∧ w'.cell? ⟨gbz1, 1, none⟩ = some (.int .i64 ((rd_T86 l0 xz1).f1)) ∧ w'.cell? ⟨gbz1, 2, none⟩ = some (.int .i64 ((rd_T86 l0 xz1).f2)) ∧ w'.cell? (adz1.add (((jiz1)).toNat * 3)) = some (.string ((rd_T86 l0 (jiz1)).f0)) ∧ w'.cell? ⟨(adz1.add (((jiz1)).toNat * 3)).block, (adz1.add (((jiz1)).toNat * 3)).off + 1, none⟩ = some (.int .i64 ((rd_T86 l0 (jiz1)).f1)) ∧ w'.cell? ⟨(adz1.add (((jiz1)).toNat * 3)).block, (adz1.add (((jiz1)).toNat * 3)).off + 2, none⟩ = some (.int .i64 ((rd_T86 l0 (jiz1)).f2))) (ds := []) (bs_ 18 0) (by kernel_rfl) rfl (by kernel_rfl) ⟨bc_ BKz1 0, bc_ BKz1 1, bc_ BKz1 2, (cl_ HB hwz3), (cl_ HB hwz2), (cl_ HB hwz1)⟩ (fun hHeld => ?_); refine with_tabW impl_subsOk.tab4 impl_subsOk.bits4 (fun HT_ HW_ => ?_)
    generalize wz2.drew = wz3 at BKz1 HB hxz4 hxz5 hxz6 hHeld ⊢
    refine tv_ HT_ HW_ hHeld 0 ?_
    refine ov_ HT_ 1 (fun K hK => ?_)
    refine goes_ Tryd.func81 (by kernel_rfl) rfl #[.agg #[.string ((rd_T86 l0 xz1).f0), .int .i64 ((rd_T86 l0 xz1).f1), .int .i64 ((rd_T86 l0 xz1).f2)]] (by rfl) rfl rfl ar_ ?_
    with_reducible refine (impl_subOk.calls ((rd_T86 l0 xz1).f0) ((rd_T86 l0 xz1).f1) ((rd_T86 l0 xz1).f2) true _ ?side1 Az2.out).mono ?_
    (case side1 => exact Tabs.below HT.out be_)
    rintro e wz4 ⟨rfl, hb⟩
    refine ⟨_, rfl, ?_⟩
    replace HB := bw_ hb
    replace BKz1 := kb_ BKz1 hb
    clear hb
    refine hK.out _ _ ⟨bc_ BKz1 0, bc_ BKz1 1, bc_ BKz1 2, (cl_ HB hwz3), (cl_ HB hwz2), (cl_ HB hwz1)⟩ (fun hHeld => ?_)
    clear hK K
    refine nm_ 13 ?_
    refine pv_ HT_ 2 ?_
    refine pv_ HT_ 3 ?_
    refine pv_ HT_ 4 ?_
    refine pv_ HT_ 5 ?_
    refine pv_ HT_ 6 ?_
    refine pv_ HT_ 7 ?_
    refine pv_ HT_ 8 ?_
    refine pv_ HT_ 9 ?_
    refine pv_ HT_ 10 ?_
    refine pv_ HT_ 11 ?_
    refine pv_ HT_ 13 ?_
    refine tv_ HT_ HW_ hHeld 12 ?_
    refine tv_ HT_ HW_ hHeld 14 ?_
    refine pv_ HT_ 15 ?_
    refine pv_ HT_ 16 ?_
    refine pv_ HT_ 17 ?_
    refine done_ (done_of HT_.out (by kernel_rfl)) ?_
    try go_wp2
    go_roundg kz1
    case measure => have := HKz1.out; omega
    case rel => exact ⟨(wrap64 (xz1 + 1)), rs_, H', ⟨by have := HKz1.out; omega⟩, ⟨be_⟩⟩
   rw [if_neg cz14] at H
   have cz15 : (Op.bytesLess (((rd_T86 l0 (jiz1)).f0).toList) (((rd_T86 l0 xz1).f0).toList)) = false := by simpa using cz14
   clear cz14
   obtain rfl := Option.some.inj H
   obtain ⟨pz1, qz1, adz1, ez1, hxz1, hxz2, hxz3⟩ := aa_ (at_T86 HRz1.out xz1)
   cases ez1
   replace hxz1 := cl_ HB hxz1
   replace hxz2 := cl_ HB hxz2
   replace hxz3 := cl_ HB hxz3
   try go_wp2_with (first | ((with_reducible refine gate_dst (N := 4) rfl ?_); refine box_event ?hg (N := 4) ?hd (cs := #[.string (⟨#[]⟩ : ByteArray), .int .i64 0, .int .i64 0]) (t := 86) ?hr ?_; (case hd => rfl); (case hg => rfl); (case hr => first | (go_simp; done) | (go_simp; rfl)); intro gbz1 hg wz1 hbox hb; have BKz1 := Aside0.mk (hbox); have GWz1 := Aside0.mk ((sz_ : w.heap.size ≤ gbz1)); have GEz1 := Aside0.mk ((sz_ : w.heap.size ≤ gbz1)); replace HB := bw_ hb; clear hb hbox hg; have hczz1 : wz1.cell? ⟨gbz1, 0, none⟩ = some (.string (⟨#[]⟩ : ByteArray)) := bc_ BKz1 0; have hczz2 : wz1.cell? ⟨gbz1, 1, none⟩ = some (.int .i64 0) := bc_ BKz1 1; have hczz3 : wz1.cell? ⟨gbz1, 2, none⟩ = some (.int .i64 0) := bc_ BKz1 2; have hfzz1 := blk_frozen BKz1.out 0; have hfzz2 := blk_frozen BKz1.out 1; have hfzz3 := blk_frozen BKz1.out 2))
   have nz1 : Aside0 ((((wz1.setCell ⟨gbz1, 0, none⟩ (.string ((rd_T86 l0 xz1).f0))).setCell ⟨gbz1, 1, none⟩ (.int .i64 ((rd_T86 l0 xz1).f1))).setCell ⟨gbz1, 2, none⟩ (.int .i64 ((rd_T86 l0 xz1).f2))).heap[gbz1]? = some (.cells #[.string ((rd_T86 l0 xz1).f0), .int .i64 ((rd_T86 l0 xz1).f1), .int .i64 ((rd_T86 l0 xz1).f2)] 86 (0, 0))) := ⟨by (with_reducible repeat (first | refine blk_drewN ?_ _ | refine blk_drew ?_ | refine blk_alloc ?_ _)); refine blk_put (cs := #[.string ((rd_T86 l0 xz1).f0), .int .i64 ((rd_T86 l0 xz1).f1), .int .i64 0]) ?_ 2 _ rfl; (with_reducible repeat (first | refine blk_drewN ?_ _ | refine blk_drew ?_ | refine blk_alloc ?_ _)); refine blk_put (cs := #[.string ((rd_T86 l0 xz1).f0), .int .i64 0, .int .i64 0]) ?_ 1 _ rfl; (with_reducible repeat (first | refine blk_drewN ?_ _ | refine blk_drew ?_ | refine blk_alloc ?_ _)); refine blk_put (cs := #[.string (⟨#[]⟩ : ByteArray), .int .i64 0, .int .i64 0]) ?_ 0 _ rfl; (with_reducible repeat (first | refine blk_drewN ?_ _ | refine blk_drew ?_ | refine blk_alloc ?_ _)); exact BKz1.out⟩
   have nz2 : Aside0 (Below w.heap.size w (((wz1.setCell ⟨gbz1, 0, none⟩ (.string ((rd_T86 l0 xz1).f0))).setCell ⟨gbz1, 1, none⟩ (.int .i64 ((rd_T86 l0 xz1).f1))).setCell ⟨gbz1, 2, none⟩ (.int .i64 ((rd_T86 l0 xz1).f2)))) := ⟨be_⟩
   generalize (((wz1.setCell ⟨gbz1, 0, none⟩ (.string ((rd_T86 l0 xz1).f0))).setCell ⟨gbz1, 1, none⟩ (.int .i64 ((rd_T86 l0 xz1).f1))).setCell ⟨gbz1, 2, none⟩ (.int .i64 ((rd_T86 l0 xz1).f2))) = wz2 at nz1 nz2 ⊢
   have BKz1 := nz1
   have HB := nz2
   clear nz1 nz2
   replace BKz1 := Aside0.mk (blk_drew BKz1.out)
   replace HB := Aside0.mk (below_drew1 HB.out)
   obtain ⟨pz2, qz2, adz2, ez2, hxz4, hxz5, hxz6⟩ := aa_ (at_T86 HRz1.out (jiz1))
   have hwz1 := hxz6
   have hwz2 := hxz5
   have hwz3 := hxz4
   obtain rfl : adz1 = adz2 := (by injection ez2)
   replace hxz4 := cl_ HB hxz4
   replace hxz5 := cl_ HB hxz5
   replace hxz6 := cl_ HB hxz6
   refine start_ (n := 18) (S := fun w' => w'.cell? ⟨gbz1, 0, none⟩ = some (.string ((rd_T86 l0 xz1).f0)) ∧ w'.cell? ⟨gbz1, 1, none⟩ = some (.int .i64 ((rd_T86 l0 xz1).f1)) ∧ w'.cell? ⟨gbz1, 2, none⟩ = some (.int .i64 ((rd_T86 l0 xz1).f2)) ∧ w'.cell? (adz1.add (((jiz1)).toNat * 3)) = some (.string ((rd_T86 l0 (jiz1)).f0)) ∧ w'.cell? ⟨(adz1.add (((jiz1)).toNat * 3)).block, (adz1.add (((jiz1)).toNat * 3)).off + 1, none⟩ = some (.int .i64 ((rd_T86 l0 (jiz1)).f1)) ∧ w'.cell? ⟨(adz1.add (((jiz1)).toNat * 3)).block, (adz1.add (((jiz1)).toNat * 3)).off + 2, none⟩ = some (.int .i64 ((rd_T86 l0 (jiz1)).f2))) (ds := []) (bs_ 18 0) (by kernel_rfl) rfl (by kernel_rfl) ⟨bc_ BKz1 0, bc_ BKz1 1, bc_ BKz1 2, (cl_ HB hwz3), (cl_ HB hwz2), (cl_ HB hwz1)⟩ (fun hHeld => ?_); refine with_tabW impl_subsOk.tab4 impl_subsOk.bits4 (fun HT_ HW_ => ?_)
   generalize wz2.drew = wz3 at BKz1 HB hxz4 hxz5 hxz6 hHeld ⊢
   refine tv_ HT_ HW_ hHeld 0 ?_
   refine ov_ HT_ 1 (fun K hK => ?_)
   refine goes_ Tryd.func81 (by kernel_rfl) rfl #[.agg #[.string ((rd_T86 l0 xz1).f0), .int .i64 ((rd_T86 l0 xz1).f1), .int .i64 ((rd_T86 l0 xz1).f2)]] (by rfl) rfl rfl ar_ ?_
   with_reducible refine (impl_subOk.calls ((rd_T86 l0 xz1).f0) ((rd_T86 l0 xz1).f1) ((rd_T86 l0 xz1).f2) true _ ?side1 Az2.out).mono ?_
   (case side1 => exact Tabs.below HT.out be_)
   rintro e wz4 ⟨rfl, hb⟩
   refine ⟨_, rfl, ?_⟩
   replace HB := bw_ hb
   replace BKz1 := kb_ BKz1 hb
   clear hb
   refine hK.out _ _ ⟨bc_ BKz1 0, bc_ BKz1 1, bc_ BKz1 2, (cl_ HB hwz3), (cl_ HB hwz2), (cl_ HB hwz1)⟩ (fun hHeld => ?_)
   clear hK K
   refine nm_ 13 ?_
   refine pv_ HT_ 2 ?_
   refine pv_ HT_ 3 ?_
   refine pv_ HT_ 4 ?_
   refine pv_ HT_ 5 ?_
   refine pv_ HT_ 6 ?_
   refine pv_ HT_ 7 ?_
   refine pv_ HT_ 8 ?_
   refine pv_ HT_ 9 ?_
   refine pv_ HT_ 10 ?_
   refine pv_ HT_ 11 ?_
   refine pv_ HT_ 13 ?_
   refine tv_ HT_ HW_ hHeld 12 ?_
   refine tv_ HT_ HW_ hHeld 14 ?_
   refine pv_ HT_ 15 ?_
   refine pv_ HT_ 16 ?_
   refine pv_ HT_ 17 ?_
   refine done_ (done_of HT_.out (by kernel_rfl)) ?_
   try go_wp2
   go_ret
   exact ⟨by first | rfl | (simp [errW_none, errW_some] <;> rfl) | (simp only [← hjiz1]; first | rfl | (simp [errW_none, errW_some] <;> rfl)) | (simp [*, errW_none, errW_some] <;> rfl), be_⟩

end Go.Proofs.YtggokdobijhdhaaDoor.P
