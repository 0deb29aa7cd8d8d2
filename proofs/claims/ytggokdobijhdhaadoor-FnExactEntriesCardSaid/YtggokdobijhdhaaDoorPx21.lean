-- Printed by a program over the kit's print.py (mp.sh), several laws in one namespace.
import Derived.Test.YtggokdobijhdhaaDoorPx0
import Derived.Test.YtggokdobijhdhaaDoorS
import Derived.Test.YtggokdobijhdhaaDoorPx14
namespace Go.Proofs.YtggokdobijhdhaaDoor.P
open Go.RowKit Go.Proofs.YtggokdobijhdhaaDoor.X Go.Proofs.YtggokdobijhdhaaDoorW.PrintWords Go.Proofs.YtggokdobijhdhaaDoorW.PrintLast Go.Proofs.YtggokdobijhdhaaDoorW.PrintMore
attribute [local go_sem] max2_int min2_int max_two min_two max_three min_three max_four min_four   -- for this text's walks alone
set_option maxHeartbeats 8000000
set_option maxRecDepth 100000
set_option linter.unusedVariables false
set_option linter.unusedSimpArgs false

mutual
def impl_entriesOf.l0 : Nat → List ByteArray → List (S63) → List (S86) → Int → Int → List ByteArray → List (S33) → List (S86) → Option ((List (S63)))
 | 0, _, _, _, _, _, _, _, _ => none
 | k + 1, x1, x5, x12, x13, x14, x347000, x347001, x347002 => if x14 < x13 then (if 0 ≤ x14 then (if x14 < (x12.length : Int) then ((impl_Join.f x1).bind fun t352 => ((some (([(⟨t352, (rd_T86 x12 x14).f0, (rd_T86 x12 x14).f1, (rd_T86 x12 x14).f2⟩ : S63)] : List (S63)) : List (S63))).bind fun y353 => (if x5.length + y353.length < 2932031007402 then (impl_entriesOf.l0 k x1 (x5 ++ y353) x12 x13 (wrap64 (x14 + 1)) x347000 x347001 x347002) else (none)))) else (none)) else (none)) else (impl_entriesOf.l1 k x1 x5 x347001 (x347001.length : Int) 0 x347000 x347001 x347002)
def impl_entriesOf.l1 : Nat → List ByteArray → List (S63) → List (S33) → Int → Int → List ByteArray → List (S33) → List (S86) → Option ((List (S63)))
 | 0, _, _, _, _, _, _, _, _ => none
 | k + 1, x1, x5, x32, x33, x34, x347000, x347001, x347002 => if x34 < x33 then (if 0 ≤ x34 then (if x34 < (x32.length : Int) then ((some (([] : List ByteArray) : List ByteArray)).bind fun y361 => (if y361.length + x1.length < 8796093022208 then ((some (y361 ++ x1 : List ByteArray)).bind fun y364 => (if x34 < (x347000.length : Int) then ((some (([rdOf ByteArray.empty x347000 x34] : List ByteArray) : List ByteArray)).bind fun y368 => (if y364.length + y368.length < 8796093022208 then ((impl_entriesOf.f k ((rd_T33 x32 x34).f0) ((rd_T33 x32 x34).f1) ((rd_T33 x32 x34).f2) (y364 ++ y368)).bind fun t374 => (if x5.length + t374.length < 2932031007402 then (impl_entriesOf.l1 k x1 (x5 ++ t374) x32 x33 (wrap64 (x34 + 1)) x347000 x347001 x347002) else (none))) else (none))) else (none))) else (none))) else (none)) else (none)) else (some x5)
def impl_entriesOf.f : Nat → List ByteArray → List (S33) → List (S86) → List ByteArray → Option ((List (S63)))
 | 0, _, _, _, _ => none
 | k + 1, l0_0, l0_1, l0_2, l1 => impl_entriesOf.l0 k l1 (([] : List (S63))) l0_2 (l0_2.length : Int) 0 l0_0 l0_1 l0_2
end
def impl_entriesOf.T5 : Bool × List (List Nat × List Nat) := (true, [([], []), ([], []), ([1], [1]), ([], []), ([3], [3]), ([], []), ([5], [5]), ([], []), ([7], [7]), ([2, 4, 6, 8], [2, 4, 6, 8]), ([9], [9]), ([0, 10, 2], [0, 10]), ([11, 11, 0, 1, 2, 3, 4, 5, 6, 7, 8, 9, 10, 11], [0, 11])])
def impl_entriesOf.B5 : List Nat := [0, 0, 2, 0, 8, 0, 32, 0, 128, 510, 1022, 2047, 4095]
theorem impl_entriesOf.tab5 : rtab .any (opsOf Tryd.f31 5) = impl_entriesOf.T5 := by kernel_rfl
theorem impl_entriesOf.bits5 : waitsOk impl_entriesOf.T5.2 impl_entriesOf.B5 = true := by kernel_rfl
def impl_entriesOf.T10 : Bool × List (List Nat × List Nat) := (true, [([], []), ([], []), ([], []), ([], []), ([2, 3], [2, 3]), ([], []), ([5], [5]), ([], []), ([6, 7], [6, 7]), ([8], [8]), ([9], [9]), ([4, 10, 4], [4, 10]), ([1, 11, 11], [1, 11]), ([0, 12, 12], [0, 12]), ([13, 13, 0, 1, 2, 3, 4, 5, 6, 7, 8, 9, 10, 11, 12, 13], [0, 13])])
def impl_entriesOf.B10 : List Nat := [0, 0, 0, 0, 12, 0, 32, 0, 224, 480, 992, 2044, 4094, 8191, 16383]
theorem impl_entriesOf.tab10 : rtab .any (opsOf Tryd.f31 10) = impl_entriesOf.T10 := by kernel_rfl
theorem impl_entriesOf.bits10 : waitsOk impl_entriesOf.T10.2 impl_entriesOf.B10 = true := by kernel_rfl
theorem impl_entriesOf.calls (k : Nat) : ∀ (A0_0 : Option Addr) (c0_0 : Nat) (l0_0 : List ByteArray) (A0_1 : Option Addr) (c0_1 : Nat) (l0_1 : List (S33)) (A0_2 : Option Addr) (c0_2 : Nat) (l0_2 : List (S86)) (A1 : Option Addr) (c1 : Nat) (l1 : List ByteArray) (r : List (S63)) (w : World) (hr0_0 : Kd.C Kd.string w A0_0 l0_0.length l0_0) (hc0_0 : l0_0.length ≤ c0_0) (hr0_1 : Kd.C k33 w A0_1 l0_1.length l0_1) (hc0_1 : l0_1.length ≤ c0_1) (hr0_2 : Kd.C k86 w A0_2 l0_2.length l0_2) (hc0_2 : l0_2.length ≤ c0_2) (hr1 : Kd.C Kd.string w A1 l1.length l1) (hc1 : l1.length ≤ c1) (h : impl_entriesOf.f k l0_0 l0_1 l0_2 l1 = some r),
  Calls Tryd.prog 31 #[.agg #[.slice A0_0 l0_0.length c0_0, .slice A0_1 l0_1.length c0_1, .slice A0_2 l0_2.length c0_2], .slice A1 l1.length c1] w fun e w' => ∃ v0_ : Value, e = .returned (v0_) ∧ Kd.R k63 63 w' w.heap.size (fun _ => True) v0_ r ∧ Below w.heap.size w w' := by
 induction k using Nat.strongRecOn with
 | _ k ih =>
 intro Az1 cz1 lz1 Az2 cz2 lz2 Az3 cz3 lz3 Az4 cz4 lz4 r w hrz1 hcz1 hrz2 hcz2 hrz3 hcz3 hrz4 hcz4 h
 cases k with
 | zero => exact absurd h (by simp [impl_entriesOf.f])
 | succ k =>
 simp only [impl_entriesOf.f] at h
 have huz1 := Tryd.underlying33
 have huz2 := Tryd.underlying86
 have huz3 := Tryd.underlying63
 have HRz1 := Aside0.mk hrz1
 have HCz1 := Aside0.mk hcz1
 clear hrz1 hcz1
 have HRz2 := Aside0.mk hrz2
 have HCz2 := Aside0.mk hcz2
 clear hrz2 hcz2
 have HRz3 := Aside0.mk hrz3
 have HCz3 := Aside0.mk hcz3
 clear hrz3 hcz3
 have HRz4 := Aside0.mk hrz4
 have HCz4 := Aside0.mk hcz4
 clear hrz4 hcz4
 have HB := Aside0.mk (Below.refl w.heap.size w)
 have H : (impl_entriesOf.l0 k lz4 (([] : List (S63))) lz3 (lz3.length : Int) 0 lz1 lz2 lz3) = some r := h
 clear h
 obtain ⟨yz1, hyz1⟩ : ∃ y_ : List (S63), y_ = (([] : List (S63))) := ⟨_, rfl⟩
 (first | (with_reducible replace H := ys_ hyz1 H; (try dsimp only at H)) | rw [← hyz1] at H | skip)
 have Nyz1 := Aside0.mk hyz1
 clear hyz1
 have H' := Aside0.mk H
 clear H
 go_enter Tryd.func31, Tryd.ntmps31
 go_wp2_with (first | ((with_reducible refine gate_dst (N := 2) rfl ?_); refine box_event ?hg (N := 2) ?hd (cs := #[.slice Az1 lz1.length cz1, .slice Az2 lz2.length cz2, .slice Az3 lz3.length cz3]) (t := 33) ?hr ?_; (case hd => rfl); (case hg => rfl); (case hr => first | (go_simp; done) | (go_simp; rfl)); intro gbz1 hg wz1 hbox hb; have BKz1 := Aside0.mk (hbox); have GWz1 := Aside0.mk ((sz_ : w.heap.size ≤ gbz1)); have GEz1 := Aside0.mk ((sz_ : w.heap.size ≤ gbz1)); replace HB := bw_ hb; clear hb hbox hg) | ((with_reducible refine gate_dst (N := 10) rfl ?_); refine Kd.R_lit k63 _ 63 ?hg (N := 10) ?hd (xs := ([] : List (S63))) (inner := []) (ok := fun _ => True) (okp := fun _ => True) ?hr ?hp (fun _ hk => hk) trivial (Below.refl _ _) (Nat.le_refl _) (by simp) ?_; (case hd => rfl); (case hg => rfl); (case hr => first | (go_simp; done) | (go_simp; rfl)); (case hp => exact (Reps.none _ _)); intro vz1 wz2 hoz1 hb hg_ hnew_; clear hg_ hnew_; (first | rw [← Nyz1.out] at hoz1 | (simp only [Int.reduceToNat] at hoz1; rw [← Nyz1.out] at hoz1)); have HOz1 := Aside0.mk (Kd.R_lower hoz1 (below_size be_)); replace HB := bw_ hb; replace BKz1 := kb_ BKz1 hb; clear hb hoz1; have hczz1 : wz2.cell? ⟨gbz1, 0, none⟩ = some (.slice Az1 lz1.length cz1) := bc_ BKz1 0; have hczz2 : wz2.cell? ⟨gbz1, 1, none⟩ = some (.slice Az2 lz2.length cz2) := bc_ BKz1 1; have hczz3 : wz2.cell? ⟨gbz1, 2, none⟩ = some (.slice Az3 lz3.length cz3) := bc_ BKz1 2; have hfzz1 := blk_frozen BKz1.out 0; have hfzz2 := blk_frozen BKz1.out 1; have hfzz3 := blk_frozen BKz1.out 2))
 go_loopg [5, 14] k (fun kq v5 v14 w' => ∃ (x5_1 : List (S63)) (x14_1 : Int), v14 = .int .i64 x14_1 ∧ Aside0 (impl_entriesOf.l0 kq lz4 x5_1 lz3 (lz3.length : Int) x14_1 lz1 lz2 lz3 = some r) ∧ Aside0 (kq ≤ k) ∧ Aside0 (Kd.R k63 63 w' w.heap.size (fun _ => True) v5 x5_1) ∧ Aside0 (w'.heap[gbz1]? = some (.cells #[(.slice Az1 lz1.length cz1), (.slice Az2 lz2.length cz2), (.slice Az3 lz3.length cz3)] 33 (0, 0))) ∧ Aside0 (Below w.heap.size w w'))
 case atStart => exact ⟨(yz1), (0), rs_, H', ⟨Nat.le_refl _⟩, ⟨lR_ HOz1.out⟩, ⟨bk_⟩, ⟨be_⟩⟩
 case round =>
  clear H'
  obtain ⟨xz1, xz2, rfl, HA, HKz1, HO_5, BKz1, HB⟩ := hrel
  cases gk with
  | zero => exact absurd HA.out (by simp [impl_entriesOf.l0])
  | succ kz1 =>
   have H := HA.out
   clear HA
   simp only [impl_entriesOf.l0] at H
   by_cases cz5 : xz2 < (lz3.length : Int)
   ·rw [if_pos cz5] at H
    have cz6 : decide (xz2 < (lz3.length : Int)) = true := decide_eq_true cz5
    clear cz5
    by_cases cz7 : 0 ≤ xz2
    rotate_left
    ·rw [if_neg cz7] at H
     exact absurd H (by simp)
    rw [if_pos cz7] at H
    have cz8 : decide (0 ≤ xz2) = true := decide_eq_true cz7
    clear cz7
    by_cases cz9 : xz2 < (lz3.length : Int)
    rotate_left
    ·rw [if_neg cz9] at H
     exact absurd H (by simp)
    rw [if_pos cz9] at H
    have cz10 : decide (xz2 < (lz3.length : Int)) = true := decide_eq_true cz9
    clear cz9
    replace H := bo_ H
    obtain ⟨tz1, Az6, H⟩ := H
    (try dsimp only at H)
    obtain ⟨yz2, hyz2⟩ : ∃ y_ : List (S63), y_ = (([(⟨tz1, (rd_T86 lz3 xz2).f0, (rd_T86 lz3 xz2).f1, (rd_T86 lz3 xz2).f2⟩ : S63)] : List (S63))) := ⟨_, rfl⟩
    (first | (with_reducible replace H := ys_ hyz2 H; (try dsimp only at H)) | rw [← hyz2] at H | skip)
    have Nyz2 := Aside0.mk hyz2
    clear hyz2
    by_cases cz11 : xz1.length + yz2.length < 2932031007402
    rotate_left
    ·rw [if_neg cz11] at H
     exact absurd H (by simp)
    rw [if_pos cz11] at H
    have LMcz1 := Aside0.mk cz11
    clear cz11
    obtain ⟨yz3, hyz3⟩ : ∃ y_ : List (S63), y_ = (xz1 ++ yz2) := ⟨_, rfl⟩
    (first | (with_reducible replace H := ys_ hyz3 H; (try dsimp only at H)) | rw [← hyz3] at H | skip)
    have Nyz3 := Aside0.mk hyz3
    clear hyz3
    have H' := Aside0.mk H
    clear H
    obtain ⟨pz1, qz1, adz1, ez1, hxz1, hxz2, hxz3⟩ := aa_ (at_T86 HRz3.out xz2)
    cases ez1
    replace hxz1 := cl_ HB hxz1
    replace hxz2 := cl_ HB hxz2
    replace hxz3 := cl_ HB hxz3
    try go_wp2_with (first | ((with_reducible refine gate_dst (N := 7) rfl ?_); refine box_event ?hg (N := 7) ?hd (cs := #[.string (⟨#[]⟩ : ByteArray), .int .i64 0, .int .i64 0]) (t := 86) ?hr ?_; (case hd => rfl); (case hg => rfl); (case hr => first | (go_simp; done) | (go_simp; rfl)); intro gbz2 hg wz3 hbox hb; replace HO_5 := bR_ HO_5 hb; have BKz2 := Aside0.mk (hbox); have GWz2 := Aside0.mk ((sz_ : w.heap.size ≤ gbz2)); have GEz2 := Aside0.mk ((sz_ : w.heap.size ≤ gbz2)); replace HB := bw_ hb; have NBz1 := Aside0.mk ((by rw [hg]; exact Nat.ne_of_lt (blk_lt (g := gbz1) (o := .cells #[.slice Az1 lz1.length cz1, .slice Az2 lz2.length cz2, .slice (some adz1) lz3.length cz3] 33 (0, 0)) bk_) : gbz1 ≠ gbz2)); have NBz2 := Aside0.mk ((by rw [hg]; exact Nat.ne_of_gt (blk_lt (g := gbz1) (o := .cells #[.slice Az1 lz1.length cz1, .slice Az2 lz2.length cz2, .slice (some adz1) lz3.length cz3] 33 (0, 0)) bk_) : gbz2 ≠ gbz1)); replace BKz1 := kb_ BKz1 hb; clear hb hbox hg; have hnbz1 := NBz2.out; have hncz1 := NBz1.out; have hczz4 : wz3.cell? ⟨gbz2, 0, none⟩ = some (.string (⟨#[]⟩ : ByteArray)) := bc_ BKz2 0; have hczz5 : wz3.cell? ⟨gbz2, 1, none⟩ = some (.int .i64 0) := bc_ BKz2 1; have hczz6 : wz3.cell? ⟨gbz2, 2, none⟩ = some (.int .i64 0) := bc_ BKz2 2; have hfzz4 := blk_frozen BKz2.out 0; have hfzz5 := blk_frozen BKz2.out 1; have hfzz6 := blk_frozen BKz2.out 2))
    have nz1 : Aside0 (Kd.R k63 63 (((wz3.setCell ⟨gbz2, 0, none⟩ (.string ((rd_T86 lz3 xz2).f0))).setCell ⟨gbz2, 1, none⟩ (.int .i64 ((rd_T86 lz3 xz2).f1))).setCell ⟨gbz2, 2, none⟩ (.int .i64 ((rd_T86 lz3 xz2).f2))) w.heap.size (fun _ => True) u5 xz1) := ⟨lR_ (Kd.R_mono (Kd.R_far (p := ⟨gbz2, 2, none⟩) (Kd.R_far (p := ⟨gbz2, 1, none⟩) (Kd.R_far (p := ⟨gbz2, 0, none⟩) (Kd.R_types HO_5.out BKz2.out (by decide)) (fun _ hk => hk.2) (.string ((rd_T86 lz3 xz2).f0))) (fun _ hk => hk.2) (.int .i64 ((rd_T86 lz3 xz2).f1))) (fun _ hk => hk.2) (.int .i64 ((rd_T86 lz3 xz2).f2))) (fun _ hk => trivial))⟩
    have nz2 : Aside0 ((((wz3.setCell ⟨gbz2, 0, none⟩ (.string ((rd_T86 lz3 xz2).f0))).setCell ⟨gbz2, 1, none⟩ (.int .i64 ((rd_T86 lz3 xz2).f1))).setCell ⟨gbz2, 2, none⟩ (.int .i64 ((rd_T86 lz3 xz2).f2))).heap[gbz1]? = some (.cells #[.slice Az1 lz1.length cz1, .slice Az2 lz2.length cz2, .slice (some adz1) lz3.length cz3] 33 (0, 0))) := ⟨by (with_reducible repeat (first | refine blk_drewN ?_ _ | refine blk_drew ?_ | refine blk_alloc ?_ _)); refine blk_far ?_ NBz1.out _; (with_reducible repeat (first | refine blk_drewN ?_ _ | refine blk_drew ?_ | refine blk_alloc ?_ _)); refine blk_far ?_ NBz1.out _; (with_reducible repeat (first | refine blk_drewN ?_ _ | refine blk_drew ?_ | refine blk_alloc ?_ _)); refine blk_far ?_ NBz1.out _; (with_reducible repeat (first | refine blk_drewN ?_ _ | refine blk_drew ?_ | refine blk_alloc ?_ _)); exact BKz1.out⟩
    have nz3 : Aside0 ((((wz3.setCell ⟨gbz2, 0, none⟩ (.string ((rd_T86 lz3 xz2).f0))).setCell ⟨gbz2, 1, none⟩ (.int .i64 ((rd_T86 lz3 xz2).f1))).setCell ⟨gbz2, 2, none⟩ (.int .i64 ((rd_T86 lz3 xz2).f2))).heap[gbz2]? = some (.cells #[.string ((rd_T86 lz3 xz2).f0), .int .i64 ((rd_T86 lz3 xz2).f1), .int .i64 ((rd_T86 lz3 xz2).f2)] 86 (0, 0))) := ⟨by (with_reducible repeat (first | refine blk_drewN ?_ _ | refine blk_drew ?_ | refine blk_alloc ?_ _)); refine blk_put (cs := #[.string ((rd_T86 lz3 xz2).f0), .int .i64 ((rd_T86 lz3 xz2).f1), .int .i64 0]) ?_ 2 _ rfl; (with_reducible repeat (first | refine blk_drewN ?_ _ | refine blk_drew ?_ | refine blk_alloc ?_ _)); refine blk_put (cs := #[.string ((rd_T86 lz3 xz2).f0), .int .i64 0, .int .i64 0]) ?_ 1 _ rfl; (with_reducible repeat (first | refine blk_drewN ?_ _ | refine blk_drew ?_ | refine blk_alloc ?_ _)); refine blk_put (cs := #[.string (⟨#[]⟩ : ByteArray), .int .i64 0, .int .i64 0]) ?_ 0 _ rfl; (with_reducible repeat (first | refine blk_drewN ?_ _ | refine blk_drew ?_ | refine blk_alloc ?_ _)); exact BKz2.out⟩
    have nz4 : Aside0 (Below w.heap.size w (((wz3.setCell ⟨gbz2, 0, none⟩ (.string ((rd_T86 lz3 xz2).f0))).setCell ⟨gbz2, 1, none⟩ (.int .i64 ((rd_T86 lz3 xz2).f1))).setCell ⟨gbz2, 2, none⟩ (.int .i64 ((rd_T86 lz3 xz2).f2)))) := ⟨be_⟩
    generalize (((wz3.setCell ⟨gbz2, 0, none⟩ (.string ((rd_T86 lz3 xz2).f0))).setCell ⟨gbz2, 1, none⟩ (.int .i64 ((rd_T86 lz3 xz2).f1))).setCell ⟨gbz2, 2, none⟩ (.int .i64 ((rd_T86 lz3 xz2).f2))) = wz4 at nz1 nz2 nz3 nz4 ⊢
    have HO_5 := nz1
    have BKz1 := nz2
    have BKz2 := nz3
    have HB := nz4
    clear nz1 nz2 nz3 nz4
    replace HO_5 := Aside0.mk (Kd.R_drew HO_5.out)
    replace BKz1 := Aside0.mk (blk_drew BKz1.out)
    replace BKz2 := Aside0.mk (blk_drew BKz2.out)
    replace HB := Aside0.mk (below_drew1 HB.out)
    refine start_ (n := 13) (S := fun w' => w'.cell? ⟨gbz2, 0, none⟩ = some (.string ((rd_T86 lz3 xz2).f0)) ∧ w'.cell? ⟨gbz2, 1, none⟩ = some (.int .i64 ((rd_T86 lz3 xz2).f1)) ∧ w'.cell? ⟨gbz2, 2, none⟩ = some (.int .i64 ((rd_T86 lz3 xz2).f2))) (ds := []) (bs_ 13 0) (by kernel_rfl) rfl (by kernel_rfl) ⟨bc_ BKz2 0, bc_ BKz2 1, bc_ BKz2 2⟩ (fun hHeld => ?_); refine with_tabW impl_entriesOf.tab5 impl_entriesOf.bits5 (fun HT_ HW_ => ?_)
    generalize wz4.drew = wz5 at HO_5 BKz1 BKz2 HB hHeld ⊢
    refine pv_ HT_ 0 ?_
    refine pv_ HT_ 1 ?_
    refine pv_ HT_ 3 ?_
    refine pv_ HT_ 5 ?_
    refine pv_ HT_ 7 ?_
    refine tv_ HT_ HW_ hHeld 4 ?_
    refine tv_ HT_ HW_ hHeld 6 ?_
    refine tv_ HT_ HW_ hHeld 8 ?_
    refine ov_ HT_ 2 (fun K hK => ?_)
    refine goes_ Tryd.func56 (by kernel_rfl) rfl #[.slice Az4 lz4.length cz4] (by rfl) rfl rfl ar_ ?_
    with_reducible refine (impl_Join.calls _ _ lz4 tz1 _ ?side1 ?side2 Az6.out).mono ?_
    (case side1 => exact Kd.C_below HRz4.out be_)
    (case side2 => exact HCz4.out)
    rintro e wz6 ⟨rfl, hb⟩
    refine ⟨_, rfl, ?_⟩
    have nz1 := bR_ HO_5 hb
    have nz2 := Aside0.mk (blk_below (g := gbz1) (o := .cells #[.slice Az1 lz1.length cz1, .slice Az2 lz2.length cz2, .slice (some adz1) lz3.length cz3] 33 (0, 0)) bk_ hb)
    have nz3 := Aside0.mk (blk_below (g := gbz2) (o := .cells #[.string ((rd_T86 lz3 xz2).f0), .int .i64 ((rd_T86 lz3 xz2).f1), .int .i64 ((rd_T86 lz3 xz2).f2)] 86 (0, 0)) bk_ hb)
    have nz4 := bw_ hb
    clear HO_5 BKz1 BKz2 HB
    have HO_5 := nz1
    have BKz1 := nz2
    have BKz2 := nz3
    have HB := nz4
    clear nz1 nz2 nz3 nz4 hb
    refine hK.out _ _ ⟨bc_ BKz2 0, bc_ BKz2 1, bc_ BKz2 2⟩ (fun hHeld => ?_)
    clear hK K
    refine nm_ 20 ?_
    refine pv_ HT_ 9 ?_
    refine ov_ HT_ 10 (fun K hK => ?_)
    refine Kd.R_lit_step k63 _ 63 ?hg (N := 28) ?hd (xs := ([(⟨tz1, (rd_T86 lz3 xz2).f0, (rd_T86 lz3 xz2).f1, (rd_T86 lz3 xz2).f2⟩ : S63)] : List (S63))) (inner := [.string tz1, .string ((rd_T86 lz3 xz2).f0), .int .i64 ((rd_T86 lz3 xz2).f1), .int .i64 ((rd_T86 lz3 xz2).f2)]) (ok := fun _ => True) (okp := fun _ => True) ?hr ?hp (fun _ hk => hk) trivial (Below.refl _ _) (Nat.le_refl _) (by simp) ?_; (case hd => rfl); (case hg => rfl); (case hr => first | (go_simp; done) | (go_simp; rfl)); (case hp => exact (Reps.c4 (show Kd.M k63 _ _ _ (⟨tz1, (rd_T86 lz3 xz2).f0, (rd_T86 lz3 xz2).f1, (rd_T86 lz3 xz2).f2⟩ : S63) [.string tz1, .string ((rd_T86 lz3 xz2).f0), .int .i64 ((rd_T86 lz3 xz2).f1), .int .i64 ((rd_T86 lz3 xz2).f2)] from (k63_mkM _ _ _ (⟨tz1, (rd_T86 lz3 xz2).f0, (rd_T86 lz3 xz2).f1, (rd_T86 lz3 xz2).f2⟩ : S63) )) (Reps.none _ _)))
    intro vz2 wz7 hoz2 hb hg_ hnew_
    clear hg_ hnew_
    (first | rw [← Nyz2.out] at hoz2 | (simp only [Int.reduceToNat] at hoz2; rw [← Nyz2.out] at hoz2))
    have nz1 := eR_ HO_5 (Kd.R_base hoz2) hb
    have nz2 := Aside0.mk (Kd.R_lower (Kd.R_new' hoz2 (Kd.R_lt (lR_ HO_5.out))) (below_size be_))
    have nz3 := Aside0.mk (blk_below (g := gbz1) (o := .cells #[.slice Az1 lz1.length cz1, .slice Az2 lz2.length cz2, .slice (some adz1) lz3.length cz3] 33 (0, 0)) bk_ hb)
    have nz4 := Aside0.mk (blk_below (g := gbz2) (o := .cells #[.string ((rd_T86 lz3 xz2).f0), .int .i64 ((rd_T86 lz3 xz2).f1), .int .i64 ((rd_T86 lz3 xz2).f2)] 86 (0, 0)) bk_ hb)
    have nz5 := bw_ hb
    clear HO_5 BKz1 BKz2 HB
    have HO_5 := nz1
    have HOz2 := nz2
    have BKz1 := nz3
    have BKz2 := nz4
    have HB := nz5
    clear nz1 nz2 nz3 nz4 nz5 hb hoz2
    obtain ⟨Aoz1, coz1, eoz1⟩ := Kd.R_slice HOz2.out
    (first | subst eoz1 | (injection eoz1 with f1_ f2_ f3_; have fz1 := f1_.symm; have fz2 := f3_.symm; clear f1_ f2_ f3_; subst fz1; subst fz2))
    refine hK.out _ _ ⟨bc_ BKz2 0, bc_ BKz2 1, bc_ BKz2 2⟩ (fun hHeld => ?_)
    clear hK K
    refine nm_ 28 ?_
    refine ov_ HT_ 11 (fun K hK => ?_)
    refine Kd.R_append_rows_step k63 (w0 := w) w.heap.size (by rfl) (.tmp 18) (.tmp 28) 28 63 (.agg #[(.string ⟨#[]⟩), (.string ⟨#[]⟩), (.int .i64 0), (.int .i64 0)]) 48 rfl Tryd.underlying28 info63 rfl (by decide) (by omega) u5 xz1 yz2 _ _ _ (fun k_ => some k_ ≠ (.slice Aoz1 yz2.length coz1 : Value).ownBlock) (fun _ => False) rfl rfl ?aO ?aR (fun _ _ h => h) (fun _ h => h.elim) ?aF ?aB ?aS ?aL ?_
    (case aR => exact cR_ HOz2)
    (case aB => exact be_)
    (case aF => exact (fun k_ hk => Kd.fresh' (Kd.R_lt (lR_ HOz2.out)) k_ hk))
    (case aO => exact (lR_ (Kd.R_mono HO_5.out (fun _ hk => hk.2))))
    (case aS => exact (below_size be_))
    (case aL => have := LMcz1.out; omega)
    intro vz3 wz8 ho hb hg hat
    rw [← Nyz3.out] at ho
    have nz1 := Aside0.mk (blk_grown (g := gbz1) (o := .cells #[.slice Az1 lz1.length cz1, .slice Az2 lz2.length cz2, .slice (some adz1) lz3.length cz3] 33 (0, 0)) bk_ hg (Kd.R_ne HO_5.out BKz1.out (by decide)))
    have nz2 := Aside0.mk (blk_grown (g := gbz2) (o := .cells #[.string ((rd_T86 lz3 xz2).f0), .int .i64 ((rd_T86 lz3 xz2).f1), .int .i64 ((rd_T86 lz3 xz2).f2)] 86 (0, 0)) bk_ hg (Kd.R_ne HO_5.out BKz2.out (by decide)))
    have nz3 := Aside0.mk (Kd.R_after (ok := (fun _ => True)) (lR_ HOz2.out) hg hat)
    have nz4 := Aside0.mk (hb)
    have nz5 := Aside0.mk (ho)
    clear BKz1 BKz2 HOz2 HB HO_5
    have BKz1 := nz1
    have BKz2 := nz2
    have HOz2 := nz3
    have HB := nz4
    have HOz3 := nz5
    clear nz1 nz2 nz3 nz4 nz5 ho hb hg hat
    refine hK.out _ _ ⟨bc_ BKz2 0, bc_ BKz2 1, bc_ BKz2 2⟩ (fun hHeld => ?_)
    clear hK K
    refine nm_ 29 ?_
    refine pv_ HT_ 12 ?_
    refine done_ (done_of HT_.out (by kernel_rfl)) ?_
    try go_wp2
    go_roundg kz1
    case measure => have := HKz1.out; omega
    case rel => exact ⟨(yz3), (wrap64 (xz2 + 1)), rs_, H', ⟨by have := HKz1.out; omega⟩, ⟨lR_ (Kd.R_mono HOz3.out (fun _ hk => trivial))⟩, ⟨bk_⟩, ⟨be_⟩⟩
   rw [if_neg cz5] at H
   have cz6 : decide (xz2 < (lz3.length : Int)) = false := decide_eq_false cz5
   clear cz5
   have H' := Aside0.mk H
   clear H
   have hczz4 : wr.cell? ⟨gbz1, 0, none⟩ = some (.slice Az1 lz1.length cz1) := bc_ BKz1 0
   have hczz5 : wr.cell? ⟨gbz1, 1, none⟩ = some (.slice Az2 lz2.length cz2) := bc_ BKz1 1
   have hczz6 : wr.cell? ⟨gbz1, 2, none⟩ = some (.slice Az3 lz3.length cz3) := bc_ BKz1 2
   have hfzz4 := blk_frozen BKz1.out 0
   have hfzz5 := blk_frozen BKz1.out 1
   have hfzz6 := blk_frozen BKz1.out 2
   go_wp2
   go_loopg [5, 34] kz1 (fun kq v5 v34 w' => ∃ (x5_2 : List (S63)) (x34_2 : Int), v34 = .int .i64 x34_2 ∧ Aside0 (impl_entriesOf.l1 kq lz4 x5_2 lz2 (lz2.length : Int) x34_2 lz1 lz2 lz3 = some r) ∧ Aside0 (kq ≤ kz1) ∧ Aside0 (Kd.R k63 63 w' w.heap.size (fun _ => True) v5 x5_2) ∧ Aside0 (w'.heap[gbz1]? = some (.cells #[(.slice Az1 lz1.length cz1), (.slice Az2 lz2.length cz2), (.slice Az3 lz3.length cz3)] 33 (0, 0))) ∧ Aside0 (Below w.heap.size w w'))
   case atStart => exact ⟨(xz1), (0), rs_, H', ⟨Nat.le_refl _⟩, ⟨lR_ HO_5.out⟩, ⟨bk_⟩, ⟨be_⟩⟩
   case round =>
    clear H'
    obtain ⟨xz3, xz4, rfl, HA, HKz2, HO_5, BKz1, HB⟩ := hrel
    cases gk with
    | zero => exact absurd HA.out (by simp [impl_entriesOf.l1])
    | succ kz2 =>
     have H := HA.out
     clear HA
     simp only [impl_entriesOf.l1] at H
     by_cases cz7 : xz4 < (lz2.length : Int)
     rotate_left
     ·rw [if_neg cz7] at H
      have cz8 : decide (xz4 < (lz2.length : Int)) = false := decide_eq_false cz7
      clear cz7
      obtain rfl := Option.some.inj H
      go_wp2
      go_ret
      exact ⟨_, er_, lR_ HO_5.out, be_⟩
     rw [if_pos cz7] at H
     have cz8 : decide (xz4 < (lz2.length : Int)) = true := decide_eq_true cz7
     clear cz7
     by_cases cz9 : 0 ≤ xz4
     rotate_left
     ·rw [if_neg cz9] at H
      exact absurd H (by simp)
     rw [if_pos cz9] at H
     have cz10 : decide (0 ≤ xz4) = true := decide_eq_true cz9
     clear cz9
     by_cases cz11 : xz4 < (lz2.length : Int)
     rotate_left
     ·rw [if_neg cz11] at H
      exact absurd H (by simp)
     rw [if_pos cz11] at H
     have cz12 : decide (xz4 < (lz2.length : Int)) = true := decide_eq_true cz11
     clear cz11
     obtain ⟨yz2, hyz2⟩ : ∃ y_ : List ByteArray, y_ = (([] : List ByteArray)) := ⟨_, rfl⟩
     (first | (with_reducible replace H := ys_ hyz2 H; (try dsimp only at H)) | rw [← hyz2] at H | skip)
     have Nyz2 := Aside0.mk hyz2
     clear hyz2
     by_cases cz13 : yz2.length + lz4.length < 8796093022208
     rotate_left
     ·rw [if_neg cz13] at H
      exact absurd H (by simp)
     rw [if_pos cz13] at H
     have LMcz1 := Aside0.mk cz13
     clear cz13
     obtain ⟨yz3, hyz3⟩ : ∃ y_ : List ByteArray, y_ = (yz2 ++ lz4) := ⟨_, rfl⟩
     (first | (with_reducible replace H := ys_ hyz3 H; (try dsimp only at H)) | rw [← hyz3] at H | skip)
     have Nyz3 := Aside0.mk hyz3
     clear hyz3
     by_cases cz14 : xz4 < (lz1.length : Int)
     rotate_left
     ·rw [if_neg cz14] at H
      exact absurd H (by simp)
     rw [if_pos cz14] at H
     have cz15 : decide (xz4 < (lz1.length : Int)) = true := decide_eq_true cz14
     clear cz14
     obtain ⟨yz4, hyz4⟩ : ∃ y_ : List ByteArray, y_ = (([rdOf ByteArray.empty lz1 xz4] : List ByteArray)) := ⟨_, rfl⟩
     (first | (with_reducible replace H := ys_ hyz4 H; (try dsimp only at H)) | rw [← hyz4] at H | skip)
     have Nyz4 := Aside0.mk hyz4
     clear hyz4
     by_cases cz16 : yz3.length + yz4.length < 8796093022208
     rotate_left
     ·rw [if_neg cz16] at H
      exact absurd H (by simp)
     rw [if_pos cz16] at H
     have LMcz2 := Aside0.mk cz16
     clear cz16
     obtain ⟨yz5, hyz5⟩ : ∃ y_ : List ByteArray, y_ = (yz3 ++ yz4) := ⟨_, rfl⟩
     (first | (with_reducible replace H := ys_ hyz5 H; (try dsimp only at H)) | rw [← hyz5] at H | skip)
     have Nyz5 := Aside0.mk hyz5
     clear hyz5
     replace H := bo_ H
     obtain ⟨tz1, Az6, H⟩ := H
     (try dsimp only at H)
     by_cases cz17 : xz3.length + tz1.length < 2932031007402
     rotate_left
     ·rw [if_neg cz17] at H
      exact absurd H (by simp)
     rw [if_pos cz17] at H
     have LMcz3 := Aside0.mk cz17
     clear cz17
     obtain ⟨yz6, hyz6⟩ : ∃ y_ : List (S63), y_ = (xz3 ++ tz1) := ⟨_, rfl⟩
     (first | (with_reducible replace H := ys_ hyz6 H; (try dsimp only at H)) | rw [← hyz6] at H | skip)
     have Nyz6 := Aside0.mk hyz6
     clear hyz6
     have H' := Aside0.mk H
     clear H
     obtain ⟨pz1, qz1, adz1, Az7, cz18, Az8, cz19, Az9, cz20, ez1, hxz1, hxz2, hxz3, hlz1, hiz1, hlz2, hiz2, hlz3, hiz3⟩ := aa_ (at_T33 HRz2.out xz4)
     cases ez1
     replace hxz1 := cl_ HB hxz1
     replace hxz2 := cl_ HB hxz2
     replace hxz3 := cl_ HB hxz3
     have HRz5 := Aside0.mk hiz1
     have HCz5 := Aside0.mk hlz1
     clear hiz1 hlz1
     have HRz6 := Aside0.mk hiz2
     have HCz6 := Aside0.mk hlz2
     clear hiz2 hlz2
     have HRz7 := Aside0.mk hiz3
     have HCz7 := Aside0.mk hlz3
     clear hiz3 hlz3
     try go_wp2_with (first | ((with_reducible refine gate_dst (N := 9) rfl ?_); refine box_event ?hg (N := 9) ?hd (cs := #[.slice none 0 0, .slice none 0 0, .slice none 0 0]) (t := 33) ?hr ?_; (case hd => rfl); (case hg => rfl); (case hr => first | (go_simp; done) | (go_simp; rfl)); intro gbz2 hg wz3 hbox hb; replace HO_5 := bR_ HO_5 hb; have BKz2 := Aside0.mk (hbox); have GWz2 := Aside0.mk ((sz_ : w.heap.size ≤ gbz2)); have GEz2 := Aside0.mk ((sz_ : w.heap.size ≤ gbz2)); replace HB := bw_ hb; have NBz1 := Aside0.mk ((by rw [hg]; exact Nat.ne_of_lt (blk_lt (g := gbz1) (o := .cells #[.slice Az1 lz1.length cz1, .slice (some adz1) lz2.length cz2, .slice Az3 lz3.length cz3] 33 (0, 0)) bk_) : gbz1 ≠ gbz2)); have NBz2 := Aside0.mk ((by rw [hg]; exact Nat.ne_of_gt (blk_lt (g := gbz1) (o := .cells #[.slice Az1 lz1.length cz1, .slice (some adz1) lz2.length cz2, .slice Az3 lz3.length cz3] 33 (0, 0)) bk_) : gbz2 ≠ gbz1)); replace BKz1 := kb_ BKz1 hb; clear hb hbox hg; have hnbz1 := NBz2.out; have hncz1 := NBz1.out; have hczz7 : wz3.cell? ⟨gbz2, 0, none⟩ = some (.slice none 0 0) := bc_ BKz2 0; have hczz8 : wz3.cell? ⟨gbz2, 1, none⟩ = some (.slice none 0 0) := bc_ BKz2 1; have hczz9 : wz3.cell? ⟨gbz2, 2, none⟩ = some (.slice none 0 0) := bc_ BKz2 2; have hfzz7 := blk_frozen BKz2.out 0; have hfzz8 := blk_frozen BKz2.out 1; have hfzz9 := blk_frozen BKz2.out 2; obtain ⟨Aoz1, coz1, eoz1⟩ := Kd.R_slice HO_5.out; subst eoz1))
     have nz1 : Aside0 (Kd.R k63 63 (((wz3.setCell ⟨gbz2, 0, none⟩ (.slice Az7 ((rd_T33 lz2 xz4).f0).length cz18)).setCell ⟨gbz2, 1, none⟩ (.slice Az8 ((rd_T33 lz2 xz4).f1).length cz19)).setCell ⟨gbz2, 2, none⟩ (.slice Az9 ((rd_T33 lz2 xz4).f2).length cz20)) w.heap.size (fun _ => True) (.slice Aoz1 xz3.length coz1) xz3) := ⟨lR_ (Kd.R_mono (Kd.R_far (p := ⟨gbz2, 2, none⟩) (Kd.R_far (p := ⟨gbz2, 1, none⟩) (Kd.R_far (p := ⟨gbz2, 0, none⟩) (Kd.R_types HO_5.out BKz2.out (by decide)) (fun _ hk => hk.2) (.slice Az7 ((rd_T33 lz2 xz4).f0).length cz18)) (fun _ hk => hk.2) (.slice Az8 ((rd_T33 lz2 xz4).f1).length cz19)) (fun _ hk => hk.2) (.slice Az9 ((rd_T33 lz2 xz4).f2).length cz20)) (fun _ hk => trivial))⟩
     have nz2 : Aside0 ((((wz3.setCell ⟨gbz2, 0, none⟩ (.slice Az7 ((rd_T33 lz2 xz4).f0).length cz18)).setCell ⟨gbz2, 1, none⟩ (.slice Az8 ((rd_T33 lz2 xz4).f1).length cz19)).setCell ⟨gbz2, 2, none⟩ (.slice Az9 ((rd_T33 lz2 xz4).f2).length cz20)).heap[gbz1]? = some (.cells #[.slice Az1 lz1.length cz1, .slice (some adz1) lz2.length cz2, .slice Az3 lz3.length cz3] 33 (0, 0))) := ⟨by (with_reducible repeat (first | refine blk_drewN ?_ _ | refine blk_drew ?_ | refine blk_alloc ?_ _)); refine blk_far ?_ NBz1.out _; (with_reducible repeat (first | refine blk_drewN ?_ _ | refine blk_drew ?_ | refine blk_alloc ?_ _)); refine blk_far ?_ NBz1.out _; (with_reducible repeat (first | refine blk_drewN ?_ _ | refine blk_drew ?_ | refine blk_alloc ?_ _)); refine blk_far ?_ NBz1.out _; (with_reducible repeat (first | refine blk_drewN ?_ _ | refine blk_drew ?_ | refine blk_alloc ?_ _)); exact BKz1.out⟩
     have nz3 : Aside0 ((((wz3.setCell ⟨gbz2, 0, none⟩ (.slice Az7 ((rd_T33 lz2 xz4).f0).length cz18)).setCell ⟨gbz2, 1, none⟩ (.slice Az8 ((rd_T33 lz2 xz4).f1).length cz19)).setCell ⟨gbz2, 2, none⟩ (.slice Az9 ((rd_T33 lz2 xz4).f2).length cz20)).heap[gbz2]? = some (.cells #[.slice Az7 ((rd_T33 lz2 xz4).f0).length cz18, .slice Az8 ((rd_T33 lz2 xz4).f1).length cz19, .slice Az9 ((rd_T33 lz2 xz4).f2).length cz20] 33 (0, 0))) := ⟨by (with_reducible repeat (first | refine blk_drewN ?_ _ | refine blk_drew ?_ | refine blk_alloc ?_ _)); refine blk_put (cs := #[.slice Az7 ((rd_T33 lz2 xz4).f0).length cz18, .slice Az8 ((rd_T33 lz2 xz4).f1).length cz19, .slice none 0 0]) ?_ 2 _ rfl; (with_reducible repeat (first | refine blk_drewN ?_ _ | refine blk_drew ?_ | refine blk_alloc ?_ _)); refine blk_put (cs := #[.slice Az7 ((rd_T33 lz2 xz4).f0).length cz18, .slice none 0 0, .slice none 0 0]) ?_ 1 _ rfl; (with_reducible repeat (first | refine blk_drewN ?_ _ | refine blk_drew ?_ | refine blk_alloc ?_ _)); refine blk_put (cs := #[.slice none 0 0, .slice none 0 0, .slice none 0 0]) ?_ 0 _ rfl; (with_reducible repeat (first | refine blk_drewN ?_ _ | refine blk_drew ?_ | refine blk_alloc ?_ _)); exact BKz2.out⟩
     have nz4 : Aside0 (Below w.heap.size w (((wz3.setCell ⟨gbz2, 0, none⟩ (.slice Az7 ((rd_T33 lz2 xz4).f0).length cz18)).setCell ⟨gbz2, 1, none⟩ (.slice Az8 ((rd_T33 lz2 xz4).f1).length cz19)).setCell ⟨gbz2, 2, none⟩ (.slice Az9 ((rd_T33 lz2 xz4).f2).length cz20))) := ⟨be_⟩
     generalize (((wz3.setCell ⟨gbz2, 0, none⟩ (.slice Az7 ((rd_T33 lz2 xz4).f0).length cz18)).setCell ⟨gbz2, 1, none⟩ (.slice Az8 ((rd_T33 lz2 xz4).f1).length cz19)).setCell ⟨gbz2, 2, none⟩ (.slice Az9 ((rd_T33 lz2 xz4).f2).length cz20)) = wz4 at nz1 nz2 nz3 nz4 ⊢
     have HO_5 := nz1
     have BKz1 := nz2
     have BKz2 := nz3
     have HB := nz4
     clear nz1 nz2 nz3 nz4
     replace HO_5 := Aside0.mk (Kd.R_drew HO_5.out)
     replace BKz1 := Aside0.mk (blk_drew BKz1.out)
     replace BKz2 := Aside0.mk (blk_drew BKz2.out)
     replace HB := Aside0.mk (below_drew1 HB.out)
     have pz2 : 0 ≤ (xz4 : Int) := dt_
     have qz2 : xz4 < (lz1.length : Int) := dt_
     obtain ⟨adz2, ez2, hxz4⟩ := Kd.at_string HRz1.out xz4 pz2 qz2
     have hwz1 := hxz4
     cases ez2
     replace hxz4 := cl_ HB hxz4
     replace pz2 := eq_true pz2
     replace qz2 := eq_true qz2
     refine start_ (n := 15) (S := fun w' => w'.cell? ⟨gbz2, 0, none⟩ = some (.slice Az7 ((rd_T33 lz2 xz4).f0).length cz18) ∧ w'.cell? ⟨gbz2, 1, none⟩ = some (.slice Az8 ((rd_T33 lz2 xz4).f1).length cz19) ∧ w'.cell? ⟨gbz2, 2, none⟩ = some (.slice Az9 ((rd_T33 lz2 xz4).f2).length cz20) ∧ w'.cell? ⟨gbz1, 0, none⟩ = some (.slice (some adz2) lz1.length cz1) ∧ w'.cell? ⟨gbz1, 1, none⟩ = some (.slice (some adz1) lz2.length cz2) ∧ w'.cell? ⟨gbz1, 2, none⟩ = some (.slice Az3 lz3.length cz3) ∧ w'.cell? (adz2.add (xz4).toNat) = some (.string (rdOf ByteArray.empty lz1 xz4))) (ds := []) (bs_ 15 0) (by kernel_rfl) rfl (by kernel_rfl) ⟨bc_ BKz2 0, bc_ BKz2 1, bc_ BKz2 2, bc_ BKz1 0, bc_ BKz1 1, bc_ BKz1 2, (cl_ HB hwz1)⟩ (fun hHeld => ?_); refine with_tabW impl_entriesOf.tab10 impl_entriesOf.bits10 (fun HT_ HW_ => ?_)
     generalize wz4.drew = wz5 at HO_5 BKz1 BKz2 HB hxz4 hHeld ⊢
     refine pv_ HT_ 0 ?_
     refine pv_ HT_ 3 ?_
     refine pv_ HT_ 5 ?_
     refine pv_ HT_ 7 ?_
     refine tv_ HT_ HW_ hHeld 1 ?_
     refine tv_ HT_ HW_ hHeld 6 ?_
     refine pv_ HT_ 8 ?_
     refine tv_ HT_ HW_ hHeld 9 ?_
     refine join_ (σ := Value × Value × Value) 4 (bs_ 15 2047) (fun s_ => [(41, s_.1), (43, s_.2.1), (49, s_.2.2)]) (fun s_ w' => (w'.cell? ⟨gbz2, 0, none⟩ = some (.slice Az7 ((rd_T33 lz2 xz4).f0).length cz18) ∧ w'.cell? ⟨gbz2, 1, none⟩ = some (.slice Az8 ((rd_T33 lz2 xz4).f1).length cz19) ∧ w'.cell? ⟨gbz2, 2, none⟩ = some (.slice Az9 ((rd_T33 lz2 xz4).f2).length cz20) ∧ w'.cell? ⟨gbz1, 0, none⟩ = some (.slice (some adz2) lz1.length cz1) ∧ w'.cell? ⟨gbz1, 1, none⟩ = some (.slice (some adz1) lz2.length cz2) ∧ w'.cell? ⟨gbz1, 2, none⟩ = some (.slice Az3 lz3.length cz3) ∧ w'.cell? (adz2.add (xz4).toNat) = some (.string (rdOf ByteArray.empty lz1 xz4))) ∧ (Kd.R Kd.string 9 w' w.heap.size (fun k_ => some k_ ≠ (s_.2.2 : Value).ownBlock) s_.2.1 yz3) ∧ (Kd.R Kd.string 9 w' w.heap.size (fun k_ => some k_ ≠ (s_.2.1 : Value).ownBlock) s_.2.2 yz4) ∧ (Kd.R k63 63 w' w.heap.size (fun _ => True) (.slice Aoz1 xz3.length coz1) xz3) ∧ (w'.heap[gbz1]? = some (.cells #[.slice (some adz2) lz1.length cz1, .slice (some adz1) lz2.length cz2, .slice Az3 lz3.length cz3] 33 (0, 0))) ∧ (w'.heap[gbz2]? = some (.cells #[.slice Az7 ((rd_T33 lz2 xz4).f0).length cz18, .slice Az8 ((rd_T33 lz2 xz4).f1).length cz19, .slice Az9 ((rd_T33 lz2 xz4).f2).length cz20] 33 (0, 0))) ∧ (Below w.heap.size w w')) ?_ ?_
     rotate_left
     ·intro hCont
      refine two_ (i := 2) (j := 10) (Ni := some 41) (Nj := some 49) (bs_ 15 1007) (bs_ 15 2027) rfl rfl rfl rfl (two_of HT_.out (by kernel_rfl)) (by decide) (by decide) (fun K hK => ?_) (fun K hK => ?_)
      ·skip
       refine Kd.R_lit_step Kd.string _ 9 ?hg (N := 41) ?hd (xs := ([] : List ByteArray)) (inner := []) (ok := fun _ => True) (okp := fun _ => True) ?hr ?hp (fun _ hk => hk) trivial (Below.refl _ _) (Nat.le_refl _) (by simp) ?_; (case hd => rfl); (case hg => rfl); (case hr => first | (go_simp; done) | (go_simp; rfl)); (case hp => exact (Reps.none _ _))
       intro vz2 wz6 hoz2 hb hg_ hnew_
       clear hg_ hnew_
       (first | rw [← Nyz2.out] at hoz2 | (simp only [Int.reduceToNat] at hoz2; rw [← Nyz2.out] at hoz2))
       have nz1 := bR_ HO_5 hb
       have nz2 := Aside0.mk (Kd.R_lower hoz2 (below_size be_))
       have nz3 := Aside0.mk (blk_below (g := gbz1) (o := .cells #[.slice (some adz2) lz1.length cz1, .slice (some adz1) lz2.length cz2, .slice Az3 lz3.length cz3] 33 (0, 0)) bk_ hb)
       have nz4 := Aside0.mk (blk_below (g := gbz2) (o := .cells #[.slice Az7 ((rd_T33 lz2 xz4).f0).length cz18, .slice Az8 ((rd_T33 lz2 xz4).f1).length cz19, .slice Az9 ((rd_T33 lz2 xz4).f2).length cz20] 33 (0, 0)) bk_ hb)
       have nz5 := bw_ hb
       clear HO_5 BKz1 BKz2 HB
       have HO_5 := nz1
       have HOz2 := nz2
       have BKz1 := nz3
       have BKz2 := nz4
       have HB := nz5
       clear nz1 nz2 nz3 nz4 nz5 hb hoz2
       refine hK.out _ _ ⟨bc_ BKz2 0, bc_ BKz2 1, bc_ BKz2 2, bc_ BKz1 0, bc_ BKz1 1, bc_ BKz1 2, (cl_ HB hwz1)⟩ (fun hHeld => ?_)
       clear hK K
       refine nm_ 41 ?_
       refine two_ (i := 4) (j := 10) (Ni := some 43) (Nj := some 49) (bs_ 15 1023) (bs_ 15 2031) rfl rfl rfl rfl (two_of HT_.out (by kernel_rfl)) (by decide) (by decide) (fun K hK => ?_) (fun K hK => ?_)
       ·skip
        refine Kd.R_append_rows_step Kd.string (w0 := w) w.heap.size (by rfl) (.tmp 41) (.tmp 42) 22 9 (.string ⟨#[]⟩) 16 rfl Tryd.underlying22 info9 rfl (by decide) (by omega) vz2 yz2 lz4 _ _ _ (fun _ => True) (fun _ => False) rfl rfl ?aO ?aR (fun _ _ h => h) (fun _ h => h.elim) ?aF ?aB ?aS ?aL ?_
        (case aR => exact Kd.C_below HRz4.out be_)
        (case aB => exact be_)
        (case aF => exact (fun _ _ => trivial))
        (case aO => exact (lR_ HOz2.out))
        (case aS => exact (below_size be_))
        (case aL => have := LMcz1.out; omega)
        intro vz3 wz7 ho hb hg hat
        rw [← Nyz3.out] at ho
        have nz1 := Aside0.mk (Kd.R_over' (lR_ HO_5.out) (Kd.R_typed (lR_ HOz2.out)) (by decide) hg)
        have nz2 := Aside0.mk (blk_grown (g := gbz1) (o := .cells #[.slice (some adz2) lz1.length cz1, .slice (some adz1) lz2.length cz2, .slice Az3 lz3.length cz3] 33 (0, 0)) bk_ hg (Kd.R_ne HOz2.out BKz1.out (by decide)))
        have nz3 := Aside0.mk (blk_grown (g := gbz2) (o := .cells #[.slice Az7 ((rd_T33 lz2 xz4).f0).length cz18, .slice Az8 ((rd_T33 lz2 xz4).f1).length cz19, .slice Az9 ((rd_T33 lz2 xz4).f2).length cz20] 33 (0, 0)) bk_ hg (Kd.R_ne HOz2.out BKz2.out (by decide)))
        have nz4 := Aside0.mk (hb)
        have nz5 := Aside0.mk (ho)
        clear HO_5 BKz1 BKz2 HB HOz2
        have HO_5 := nz1
        have BKz1 := nz2
        have BKz2 := nz3
        have HB := nz4
        have HOz3 := nz5
        clear nz1 nz2 nz3 nz4 nz5 ho hb hg hat
        refine hK.out _ _ ⟨bc_ BKz2 0, bc_ BKz2 1, bc_ BKz2 2, bc_ BKz1 0, bc_ BKz1 1, bc_ BKz1 2, (cl_ HB hwz1)⟩ (fun hHeld => ?_)
        clear hK K
        refine nm_ 43 ?_
        refine ov_ HT_ 10 (fun K hK => ?_)
        refine Kd.R_lit_step Kd.string _ 9 ?hg (N := 49) ?hd (xs := ([rdOf ByteArray.empty lz1 xz4] : List ByteArray)) (inner := [.string (rdOf ByteArray.empty lz1 xz4)]) (ok := fun _ => True) (okp := fun _ => True) ?hr ?hp (fun _ hk => hk) trivial (Below.refl _ _) (Nat.le_refl _) (by simp) ?_; (case hd => rfl); (case hg => rfl); (case hr => first | (go_simp; done) | (go_simp; rfl)); (case hp => exact (Reps.one (show Kd.M Kd.string _ _ _ (rdOf ByteArray.empty lz1 xz4) [.string (rdOf ByteArray.empty lz1 xz4)] from rfl) (Reps.none _ _)))
        intro vz4 wz8 hoz3 hb hg_ hnew_
        clear hg_ hnew_
        (first | rw [← Nyz4.out] at hoz3 | (simp only [Int.reduceToNat] at hoz3; rw [← Nyz4.out] at hoz3))
        have nz1 := bR_ HO_5 hb
        have nz2 := eR_ HOz3 (Kd.R_base hoz3) hb
        have nz3 := Aside0.mk (Kd.R_lower (Kd.R_new' hoz3 (Kd.R_lt (lR_ HOz3.out))) (below_size be_))
        have nz4 := Aside0.mk (blk_below (g := gbz1) (o := .cells #[.slice (some adz2) lz1.length cz1, .slice (some adz1) lz2.length cz2, .slice Az3 lz3.length cz3] 33 (0, 0)) bk_ hb)
        have nz5 := Aside0.mk (blk_below (g := gbz2) (o := .cells #[.slice Az7 ((rd_T33 lz2 xz4).f0).length cz18, .slice Az8 ((rd_T33 lz2 xz4).f1).length cz19, .slice Az9 ((rd_T33 lz2 xz4).f2).length cz20] 33 (0, 0)) bk_ hb)
        have nz6 := bw_ hb
        clear HO_5 HOz3 BKz1 BKz2 HB
        have HO_5 := nz1
        have HOz3 := nz2
        have HOz4 := nz3
        have BKz1 := nz4
        have BKz2 := nz5
        have HB := nz6
        clear nz1 nz2 nz3 nz4 nz5 nz6 hb hoz3
        refine hK.out _ _ ⟨bc_ BKz2 0, bc_ BKz2 1, bc_ BKz2 2, bc_ BKz1 0, bc_ BKz1 1, bc_ BKz1 2, (cl_ HB hwz1)⟩ (fun hHeld => ?_)
        clear hK K
        refine nm_ 49 ?_
        exact norm_ (by simp only [putAll, Act.put, List.setIfInBounds_toArray, List.set_cons_zero, List.set_cons_succ]) (hCont (vz2, vz3, vz4) _ ⟨hHeld, (lR_ (Kd.R_mono HOz3.out (fun _ hk => hk.2))), (lR_ (Kd.R_mono HOz4.out (fun _ hk => hk.2))), (lR_ HO_5.out), bk_, bk_, be_⟩)
       ·skip
        refine Kd.R_lit_step Kd.string _ 9 ?hg (N := 49) ?hd (xs := ([rdOf ByteArray.empty lz1 xz4] : List ByteArray)) (inner := [.string (rdOf ByteArray.empty lz1 xz4)]) (ok := fun _ => True) (okp := fun _ => True) ?hr ?hp (fun _ hk => hk) trivial (Below.refl _ _) (Nat.le_refl _) (by simp) ?_; (case hd => rfl); (case hg => rfl); (case hr => first | (go_simp; done) | (go_simp; rfl)); (case hp => exact (Reps.one (show Kd.M Kd.string _ _ _ (rdOf ByteArray.empty lz1 xz4) [.string (rdOf ByteArray.empty lz1 xz4)] from rfl) (Reps.none _ _)))
        intro vz3 wz7 hoz3 hb hg_ hnew_
        clear hg_ hnew_
        (first | rw [← Nyz4.out] at hoz3 | (simp only [Int.reduceToNat] at hoz3; rw [← Nyz4.out] at hoz3))
        have nz1 := bR_ HO_5 hb
        have nz2 := eR_ HOz2 (Kd.R_base hoz3) hb
        have nz3 := Aside0.mk (Kd.R_lower (Kd.R_new' hoz3 (Kd.R_lt (lR_ HOz2.out))) (below_size be_))
        have nz4 := Aside0.mk (blk_below (g := gbz1) (o := .cells #[.slice (some adz2) lz1.length cz1, .slice (some adz1) lz2.length cz2, .slice Az3 lz3.length cz3] 33 (0, 0)) bk_ hb)
        have nz5 := Aside0.mk (blk_below (g := gbz2) (o := .cells #[.slice Az7 ((rd_T33 lz2 xz4).f0).length cz18, .slice Az8 ((rd_T33 lz2 xz4).f1).length cz19, .slice Az9 ((rd_T33 lz2 xz4).f2).length cz20] 33 (0, 0)) bk_ hb)
        have nz6 := bw_ hb
        clear HO_5 HOz2 BKz1 BKz2 HB
        have HO_5 := nz1
        have HOz2 := nz2
        have HOz3 := nz3
        have BKz1 := nz4
        have BKz2 := nz5
        have HB := nz6
        clear nz1 nz2 nz3 nz4 nz5 nz6 hb hoz3
        refine hK.out _ _ ⟨bc_ BKz2 0, bc_ BKz2 1, bc_ BKz2 2, bc_ BKz1 0, bc_ BKz1 1, bc_ BKz1 2, (cl_ HB hwz1)⟩ (fun hHeld => ?_)
        clear hK K
        refine nm_ 49 ?_
        refine ov_ HT_ 4 (fun K hK => ?_)
        refine Kd.R_append_rows_step Kd.string (w0 := w) w.heap.size (by rfl) (.tmp 41) (.tmp 42) 22 9 (.string ⟨#[]⟩) 16 rfl Tryd.underlying22 info9 rfl (by decide) (by omega) vz2 yz2 lz4 _ _ _ (fun k_ => some k_ ≠ (vz3 : Value).ownBlock) (fun _ => False) rfl rfl ?aO ?aR (fun _ _ h => h) (fun _ h => h.elim) ?aF ?aB ?aS ?aL ?_
        (case aR => exact Kd.C_below HRz4.out be_)
        (case aB => exact be_)
        (case aF => exact (fun k_ hk => Kd.fresh' (Kd.R_lt (lR_ HOz3.out)) k_ hk))
        (case aO => exact (lR_ (Kd.R_mono HOz2.out (fun _ hk => hk.2))))
        (case aS => exact (below_size be_))
        (case aL => have := LMcz1.out; omega)
        intro vz4 wz8 ho hb hg hat
        rw [← Nyz3.out] at ho
        have nz1 := Aside0.mk (Kd.R_over' (lR_ HO_5.out) (Kd.R_typed (lR_ HOz2.out)) (by decide) hg)
        have nz2 := Aside0.mk (blk_grown (g := gbz1) (o := .cells #[.slice (some adz2) lz1.length cz1, .slice (some adz1) lz2.length cz2, .slice Az3 lz3.length cz3] 33 (0, 0)) bk_ hg (Kd.R_ne HOz2.out BKz1.out (by decide)))
        have nz3 := Aside0.mk (blk_grown (g := gbz2) (o := .cells #[.slice Az7 ((rd_T33 lz2 xz4).f0).length cz18, .slice Az8 ((rd_T33 lz2 xz4).f1).length cz19, .slice Az9 ((rd_T33 lz2 xz4).f2).length cz20] 33 (0, 0)) bk_ hg (Kd.R_ne HOz2.out BKz2.out (by decide)))
        have nz4 := Aside0.mk (Kd.R_after (ok := (fun _ => True)) (lR_ HOz3.out) hg hat)
        have nz5 := Aside0.mk (hb)
        have nz6 := Aside0.mk (ho)
        clear HO_5 BKz1 BKz2 HOz3 HB HOz2
        have HO_5 := nz1
        have BKz1 := nz2
        have BKz2 := nz3
        have HOz3 := nz4
        have HB := nz5
        have HOz4 := nz6
        clear nz1 nz2 nz3 nz4 nz5 nz6 ho hb hg hat
        refine hK.out _ _ ⟨bc_ BKz2 0, bc_ BKz2 1, bc_ BKz2 2, bc_ BKz1 0, bc_ BKz1 1, bc_ BKz1 2, (cl_ HB hwz1)⟩ (fun hHeld => ?_)
        clear hK K
        refine nm_ 43 ?_
        exact norm_ (by simp only [putAll, Act.put, List.setIfInBounds_toArray, List.set_cons_zero, List.set_cons_succ]) (hCont (vz2, vz4, vz3) _ ⟨hHeld, (lR_ HOz4.out), (lR_ (Kd.R_mono HOz3.out (fun _ hk => hk.2))), (lR_ HO_5.out), bk_, bk_, be_⟩)
      ·skip
       refine Kd.R_lit_step Kd.string _ 9 ?hg (N := 49) ?hd (xs := ([rdOf ByteArray.empty lz1 xz4] : List ByteArray)) (inner := [.string (rdOf ByteArray.empty lz1 xz4)]) (ok := fun _ => True) (okp := fun _ => True) ?hr ?hp (fun _ hk => hk) trivial (Below.refl _ _) (Nat.le_refl _) (by simp) ?_; (case hd => rfl); (case hg => rfl); (case hr => first | (go_simp; done) | (go_simp; rfl)); (case hp => exact (Reps.one (show Kd.M Kd.string _ _ _ (rdOf ByteArray.empty lz1 xz4) [.string (rdOf ByteArray.empty lz1 xz4)] from rfl) (Reps.none _ _)))
       intro vz2 wz6 hoz2 hb hg_ hnew_
       clear hg_ hnew_
       (first | rw [← Nyz4.out] at hoz2 | (simp only [Int.reduceToNat] at hoz2; rw [← Nyz4.out] at hoz2))
       have nz1 := bR_ HO_5 hb
       have nz2 := Aside0.mk (Kd.R_lower hoz2 (below_size be_))
       have nz3 := Aside0.mk (blk_below (g := gbz1) (o := .cells #[.slice (some adz2) lz1.length cz1, .slice (some adz1) lz2.length cz2, .slice Az3 lz3.length cz3] 33 (0, 0)) bk_ hb)
       have nz4 := Aside0.mk (blk_below (g := gbz2) (o := .cells #[.slice Az7 ((rd_T33 lz2 xz4).f0).length cz18, .slice Az8 ((rd_T33 lz2 xz4).f1).length cz19, .slice Az9 ((rd_T33 lz2 xz4).f2).length cz20] 33 (0, 0)) bk_ hb)
       have nz5 := bw_ hb
       clear HO_5 BKz1 BKz2 HB
       have HO_5 := nz1
       have HOz2 := nz2
       have BKz1 := nz3
       have BKz2 := nz4
       have HB := nz5
       clear nz1 nz2 nz3 nz4 nz5 hb hoz2
       refine hK.out _ _ ⟨bc_ BKz2 0, bc_ BKz2 1, bc_ BKz2 2, bc_ BKz1 0, bc_ BKz1 1, bc_ BKz1 2, (cl_ HB hwz1)⟩ (fun hHeld => ?_)
       clear hK K
       refine nm_ 49 ?_
       refine ov_ HT_ 2 (fun K hK => ?_)
       refine Kd.R_lit_step Kd.string _ 9 ?hg (N := 41) ?hd (xs := ([] : List ByteArray)) (inner := []) (ok := fun _ => True) (okp := fun _ => True) ?hr ?hp (fun _ hk => hk) trivial (Below.refl _ _) (Nat.le_refl _) (by simp) ?_; (case hd => rfl); (case hg => rfl); (case hr => first | (go_simp; done) | (go_simp; rfl)); (case hp => exact (Reps.none _ _))
       intro vz3 wz7 hoz3 hb hg_ hnew_
       clear hg_ hnew_
       (first | rw [← Nyz2.out] at hoz3 | (simp only [Int.reduceToNat] at hoz3; rw [← Nyz2.out] at hoz3))
       have nz1 := bR_ HO_5 hb
       have nz2 := eR_ HOz2 (Kd.R_base hoz3) hb
       have nz3 := Aside0.mk (Kd.R_lower (Kd.R_new' hoz3 (Kd.R_lt (lR_ HOz2.out))) (below_size be_))
       have nz4 := Aside0.mk (blk_below (g := gbz1) (o := .cells #[.slice (some adz2) lz1.length cz1, .slice (some adz1) lz2.length cz2, .slice Az3 lz3.length cz3] 33 (0, 0)) bk_ hb)
       have nz5 := Aside0.mk (blk_below (g := gbz2) (o := .cells #[.slice Az7 ((rd_T33 lz2 xz4).f0).length cz18, .slice Az8 ((rd_T33 lz2 xz4).f1).length cz19, .slice Az9 ((rd_T33 lz2 xz4).f2).length cz20] 33 (0, 0)) bk_ hb)
       have nz6 := bw_ hb
       clear HO_5 HOz2 BKz1 BKz2 HB
       have HO_5 := nz1
       have HOz2 := nz2
       have HOz3 := nz3
       have BKz1 := nz4
       have BKz2 := nz5
       have HB := nz6
       clear nz1 nz2 nz3 nz4 nz5 nz6 hb hoz3
       refine hK.out _ _ ⟨bc_ BKz2 0, bc_ BKz2 1, bc_ BKz2 2, bc_ BKz1 0, bc_ BKz1 1, bc_ BKz1 2, (cl_ HB hwz1)⟩ (fun hHeld => ?_)
       clear hK K
       refine nm_ 41 ?_
       refine ov_ HT_ 4 (fun K hK => ?_)
       refine Kd.R_append_rows_step Kd.string (w0 := w) w.heap.size (by rfl) (.tmp 41) (.tmp 42) 22 9 (.string ⟨#[]⟩) 16 rfl Tryd.underlying22 info9 rfl (by decide) (by omega) vz3 yz2 lz4 _ _ _ (fun k_ => some k_ ≠ (vz2 : Value).ownBlock) (fun _ => False) rfl rfl ?aO ?aR (fun _ _ h => h) (fun _ h => h.elim) ?aF ?aB ?aS ?aL ?_
       (case aR => exact Kd.C_below HRz4.out be_)
       (case aB => exact be_)
       (case aF => exact (fun k_ hk => Kd.fresh' (Kd.R_lt (lR_ HOz2.out)) k_ hk))
       (case aO => exact (lR_ (Kd.R_mono HOz3.out (fun _ hk => hk.2))))
       (case aS => exact (below_size be_))
       (case aL => have := LMcz1.out; omega)
       intro vz4 wz8 ho hb hg hat
       rw [← Nyz3.out] at ho
       have nz1 := Aside0.mk (Kd.R_over' (lR_ HO_5.out) (Kd.R_typed (lR_ HOz3.out)) (by decide) hg)
       have nz2 := Aside0.mk (blk_grown (g := gbz1) (o := .cells #[.slice (some adz2) lz1.length cz1, .slice (some adz1) lz2.length cz2, .slice Az3 lz3.length cz3] 33 (0, 0)) bk_ hg (Kd.R_ne HOz3.out BKz1.out (by decide)))
       have nz3 := Aside0.mk (blk_grown (g := gbz2) (o := .cells #[.slice Az7 ((rd_T33 lz2 xz4).f0).length cz18, .slice Az8 ((rd_T33 lz2 xz4).f1).length cz19, .slice Az9 ((rd_T33 lz2 xz4).f2).length cz20] 33 (0, 0)) bk_ hg (Kd.R_ne HOz3.out BKz2.out (by decide)))
       have nz4 := Aside0.mk (Kd.R_after (ok := (fun _ => True)) (lR_ HOz2.out) hg hat)
       have nz5 := Aside0.mk (hb)
       have nz6 := Aside0.mk (ho)
       clear HO_5 BKz1 BKz2 HOz2 HB HOz3
       have HO_5 := nz1
       have BKz1 := nz2
       have BKz2 := nz3
       have HOz2 := nz4
       have HB := nz5
       have HOz4 := nz6
       clear nz1 nz2 nz3 nz4 nz5 nz6 ho hb hg hat
       refine hK.out _ _ ⟨bc_ BKz2 0, bc_ BKz2 1, bc_ BKz2 2, bc_ BKz1 0, bc_ BKz1 1, bc_ BKz1 2, (cl_ HB hwz1)⟩ (fun hHeld => ?_)
       clear hK K
       refine nm_ 43 ?_
       exact norm_ (by simp only [putAll, Act.put, List.setIfInBounds_toArray, List.set_cons_zero, List.set_cons_succ]) (hCont (vz3, vz4, vz2) _ ⟨hHeld, (lR_ HOz4.out), (lR_ (Kd.R_mono HOz2.out (fun _ hk => hk.2))), (lR_ HO_5.out), bk_, bk_, be_⟩)
     rintro ⟨vz2, vz3, vz4⟩ wz6 ⟨hS_, hz1, hz2, hz3, hz4, hz5, hz6⟩
     have nz1 : Aside0 (Kd.R Kd.string 9 wz6 w.heap.size (fun k_ => some k_ ≠ (vz4 : Value).ownBlock) vz3 yz3) := ⟨hz1⟩
     have nz2 : Aside0 (Kd.R Kd.string 9 wz6 w.heap.size (fun k_ => some k_ ≠ (vz3 : Value).ownBlock) vz4 yz4) := ⟨hz2⟩
     have nz3 : Aside0 (Kd.R k63 63 wz6 w.heap.size (fun _ => True) (.slice Aoz1 xz3.length coz1) xz3) := ⟨hz3⟩
     have nz4 : Aside0 (wz6.heap[gbz1]? = some (.cells #[.slice (some adz2) lz1.length cz1, .slice (some adz1) lz2.length cz2, .slice Az3 lz3.length cz3] 33 (0, 0))) := ⟨hz4⟩
     have nz5 : Aside0 (wz6.heap[gbz2]? = some (.cells #[.slice Az7 ((rd_T33 lz2 xz4).f0).length cz18, .slice Az8 ((rd_T33 lz2 xz4).f1).length cz19, .slice Az9 ((rd_T33 lz2 xz4).f2).length cz20] 33 (0, 0))) := ⟨hz5⟩
     have nz6 : Aside0 (Below w.heap.size w wz6) := ⟨hz6⟩
     clear HO_5 BKz1 BKz2 HB hz1 hz2 hz3 hz4 hz5 hz6
     have HOz2 := nz1
     have HOz3 := nz2
     have HO_5 := nz3
     have BKz1 := nz4
     have BKz2 := nz5
     have HB := nz6
     clear nz1 nz2 nz3 nz4 nz5 nz6
     have hHeld : wz6.cell? ⟨gbz2, 0, none⟩ = some (.slice Az7 ((rd_T33 lz2 xz4).f0).length cz18) ∧ wz6.cell? ⟨gbz2, 1, none⟩ = some (.slice Az8 ((rd_T33 lz2 xz4).f1).length cz19) ∧ wz6.cell? ⟨gbz2, 2, none⟩ = some (.slice Az9 ((rd_T33 lz2 xz4).f2).length cz20) ∧ wz6.cell? ⟨gbz1, 0, none⟩ = some (.slice (some adz2) lz1.length cz1) ∧ wz6.cell? ⟨gbz1, 1, none⟩ = some (.slice (some adz1) lz2.length cz2) ∧ wz6.cell? ⟨gbz1, 2, none⟩ = some (.slice Az3 lz3.length cz3) ∧ wz6.cell? (adz2.add (xz4).toNat) = some (.string (rdOf ByteArray.empty lz1 xz4)) := hS_
     obtain ⟨Aoz2, coz2, eoz2⟩ := Kd.R_slice HOz3.out
     (first | subst eoz2 | (injection eoz2 with f1_ f2_ f3_; have fz1 := f1_.symm; have fz2 := f3_.symm; clear f1_ f2_ f3_; subst fz1; subst fz2))
     refine norm_ (a' := ?_) ?_ ?_
     rotate_left
     ·simp only [putAll, Act.put, List.setIfInBounds_toArray, List.set_cons_zero, List.set_cons_succ]
      rfl
     refine ov_ HT_ 11 (fun K hK => ?_)
     refine Kd.R_append_rows_step Kd.string (w0 := w) w.heap.size (by rfl) (.tmp 43) (.tmp 49) 22 9 (.string ⟨#[]⟩) 16 rfl Tryd.underlying22 info9 rfl (by decide) (by omega) vz3 yz3 yz4 _ _ _ (fun k_ => some k_ ≠ (.slice Aoz2 yz4.length coz2 : Value).ownBlock) (fun _ => False) rfl rfl ?aO ?aR (fun _ _ h => h) (fun _ h => h.elim) ?aF ?aB ?aS ?aL ?_
     (case aR => exact cR_ HOz3)
     (case aB => exact be_)
     (case aF => exact (fun k_ hk => Kd.fresh' (Kd.R_lt (lR_ HOz3.out)) k_ hk))
     (case aO => exact (lR_ HOz2.out))
     (case aS => exact (below_size be_))
     (case aL => have := LMcz2.out; omega)
     intro vz5 wz7 ho hb hg hat
     rw [← Nyz5.out] at ho
     have nz1 := Aside0.mk (Kd.R_over' (lR_ HO_5.out) (Kd.R_typed (lR_ HOz2.out)) (by decide) hg)
     have nz2 := Aside0.mk (blk_grown (g := gbz1) (o := .cells #[.slice (some adz2) lz1.length cz1, .slice (some adz1) lz2.length cz2, .slice Az3 lz3.length cz3] 33 (0, 0)) bk_ hg (Kd.R_ne HOz2.out BKz1.out (by decide)))
     have nz3 := Aside0.mk (blk_grown (g := gbz2) (o := .cells #[.slice Az7 ((rd_T33 lz2 xz4).f0).length cz18, .slice Az8 ((rd_T33 lz2 xz4).f1).length cz19, .slice Az9 ((rd_T33 lz2 xz4).f2).length cz20] 33 (0, 0)) bk_ hg (Kd.R_ne HOz2.out BKz2.out (by decide)))
     have nz4 := Aside0.mk (Kd.R_after (ok := (fun _ => True)) (lR_ (Kd.R_mono HOz3.out (fun _ hk => ⟨trivial, hk⟩))) hg hat)
     have nz5 := Aside0.mk (hb)
     have nz6 := Aside0.mk (ho)
     clear HO_5 BKz1 BKz2 HOz3 HB HOz2
     have HO_5 := nz1
     have BKz1 := nz2
     have BKz2 := nz3
     have HOz3 := nz4
     have HB := nz5
     have HOz4 := nz6
     clear nz1 nz2 nz3 nz4 nz5 nz6 ho hb hg hat
     obtain ⟨Aoz3, coz3, eoz3⟩ := Kd.R_slice HOz4.out
     (first | subst eoz3 | (injection eoz3 with f1_ f2_ f3_; have fz1 := f1_.symm; have fz2 := f3_.symm; clear f1_ f2_ f3_; subst fz1; subst fz2))
     refine hK.out _ _ ⟨bc_ BKz2 0, bc_ BKz2 1, bc_ BKz2 2, bc_ BKz1 0, bc_ BKz1 1, bc_ BKz1 2, (cl_ HB hwz1)⟩ (fun hHeld => ?_)
     clear hK K
     refine nm_ 50 ?_
     refine ov_ HT_ 12 (fun K hK => ?_)
     refine goes_ Tryd.func31 (by kernel_rfl) rfl #[.agg #[.slice Az7 ((rd_T33 lz2 xz4).f0).length cz18, .slice Az8 ((rd_T33 lz2 xz4).f1).length cz19, .slice Az9 ((rd_T33 lz2 xz4).f2).length cz20], .slice Aoz3 yz5.length coz3] (by rfl) rfl rfl ar_ ?_
     with_reducible refine (ih kz2 (by have := HKz1.out; have := HKz2.out; omega) _ _ ((rd_T33 lz2 xz4).f0) _ _ ((rd_T33 lz2 xz4).f1) _ _ ((rd_T33 lz2 xz4).f2) _ _ yz5 tz1 _ ?side1 ?side2 ?side3 ?side4 ?side5 ?side6 ?side7 ?side8 Az6.out).mono ?_
     (case side1 => exact Kd.C_below HRz5.out be_)
     (case side2 => exact HCz5.out)
     (case side3 => exact Kd.C_below HRz6.out be_)
     (case side4 => exact HCz6.out)
     (case side5 => exact Kd.C_below HRz7.out be_)
     (case side6 => exact HCz7.out)
     (case side7 => exact cR_ HOz4)
     (case side8 => exact (Kd.R_reads' HOz4.out).2.1)
     rintro e wz8 ⟨vz6, rfl, hoz2, hb⟩
     refine ⟨_, rfl, ?_⟩
     have nz1 := eR_ HO_5 (Kd.R_base hoz2) hb
     have nz2 := bR_ HOz3 hb
     have nz3 := bR_ HOz4 hb
     have nz4 := Aside0.mk (Kd.R_lower (Kd.R_new' hoz2 (Kd.R_lt (lR_ HO_5.out))) (below_size be_))
     have nz5 := Aside0.mk (blk_below (g := gbz1) (o := .cells #[.slice (some adz2) lz1.length cz1, .slice (some adz1) lz2.length cz2, .slice Az3 lz3.length cz3] 33 (0, 0)) bk_ hb)
     have nz6 := Aside0.mk (blk_below (g := gbz2) (o := .cells #[.slice Az7 ((rd_T33 lz2 xz4).f0).length cz18, .slice Az8 ((rd_T33 lz2 xz4).f1).length cz19, .slice Az9 ((rd_T33 lz2 xz4).f2).length cz20] 33 (0, 0)) bk_ hb)
     have nz7 := bw_ hb
     clear HO_5 HOz3 HOz4 BKz1 BKz2 HB
     have HO_5 := nz1
     have HOz3 := nz2
     have HOz4 := nz3
     have HOz5 := nz4
     have BKz1 := nz5
     have BKz2 := nz6
     have HB := nz7
     clear nz1 nz2 nz3 nz4 nz5 nz6 nz7 hb hoz2
     obtain ⟨Aoz4, coz4, eoz4⟩ := Kd.R_slice HOz5.out
     (first | subst eoz4 | (injection eoz4 with f1_ f2_ f3_; have fz1 := f1_.symm; have fz2 := f3_.symm; clear f1_ f2_ f3_; subst fz1; subst fz2))
     refine hK.out _ _ ⟨bc_ BKz2 0, bc_ BKz2 1, bc_ BKz2 2, bc_ BKz1 0, bc_ BKz1 1, bc_ BKz1 2, (cl_ HB hwz1)⟩ (fun hHeld => ?_)
     clear hK K
     refine nm_ 51 ?_
     refine ov_ HT_ 13 (fun K hK => ?_)
     refine Kd.R_append_rows_step k63 (w0 := w) w.heap.size (by rfl) (.tmp 39) (.tmp 51) 28 63 (.agg #[(.string ⟨#[]⟩), (.string ⟨#[]⟩), (.int .i64 0), (.int .i64 0)]) 48 rfl Tryd.underlying28 info63 rfl (by decide) (by omega) (.slice Aoz1 xz3.length coz1) xz3 tz1 _ _ _ (fun k_ => some k_ ≠ (.slice Aoz4 tz1.length coz4 : Value).ownBlock) (fun _ => False) rfl rfl ?aO ?aR (fun _ _ h => h) (fun _ h => h.elim) ?aF ?aB ?aS ?aL ?_
     (case aR => exact cR_ HOz5)
     (case aB => exact be_)
     (case aF => exact (fun k_ hk => Kd.fresh' (Kd.R_lt (lR_ HOz5.out)) k_ hk))
     (case aO => exact (lR_ (Kd.R_mono HO_5.out (fun _ hk => hk.2))))
     (case aS => exact (below_size be_))
     (case aL => have := LMcz3.out; omega)
     intro vz7 wz9 ho hb hg hat
     rw [← Nyz6.out] at ho
     have nz1 := Aside0.mk (blk_grown (g := gbz1) (o := .cells #[.slice (some adz2) lz1.length cz1, .slice (some adz1) lz2.length cz2, .slice Az3 lz3.length cz3] 33 (0, 0)) bk_ hg (Kd.R_ne HO_5.out BKz1.out (by decide)))
     have nz2 := Aside0.mk (blk_grown (g := gbz2) (o := .cells #[.slice Az7 ((rd_T33 lz2 xz4).f0).length cz18, .slice Az8 ((rd_T33 lz2 xz4).f1).length cz19, .slice Az9 ((rd_T33 lz2 xz4).f2).length cz20] 33 (0, 0)) bk_ hg (Kd.R_ne HO_5.out BKz2.out (by decide)))
     have nz3 := Aside0.mk (Kd.R_over' (lR_ HOz3.out) (Kd.R_typed (lR_ HO_5.out)) (by decide) hg)
     have nz4 := Aside0.mk (Kd.R_over' (lR_ HOz4.out) (Kd.R_typed (lR_ HO_5.out)) (by decide) hg)
     have nz5 := Aside0.mk (Kd.R_after (ok := (fun _ => True)) (lR_ HOz5.out) hg hat)
     have nz6 := Aside0.mk (hb)
     have nz7 := Aside0.mk (ho)
     clear BKz1 BKz2 HOz3 HOz4 HOz5 HB HO_5
     have BKz1 := nz1
     have BKz2 := nz2
     have HOz3 := nz3
     have HOz4 := nz4
     have HOz5 := nz5
     have HB := nz6
     have HOz6 := nz7
     clear nz1 nz2 nz3 nz4 nz5 nz6 nz7 ho hb hg hat
     refine hK.out _ _ ⟨bc_ BKz2 0, bc_ BKz2 1, bc_ BKz2 2, bc_ BKz1 0, bc_ BKz1 1, bc_ BKz1 2, (cl_ HB hwz1)⟩ (fun hHeld => ?_)
     clear hK K
     refine nm_ 52 ?_
     refine pv_ HT_ 14 ?_
     refine done_ (done_of HT_.out (by kernel_rfl)) ?_
     try go_wp2
     go_roundg kz2
     case measure => have := HKz1.out; have := HKz2.out; omega
     case rel => exact ⟨(yz6), (wrap64 (xz4 + 1)), rs_, H', ⟨by have := HKz1.out; have := HKz2.out; omega⟩, ⟨lR_ (Kd.R_mono HOz6.out (fun _ hk => trivial))⟩, ⟨bk_⟩, ⟨be_⟩⟩

end Go.Proofs.YtggokdobijhdhaaDoor.P
