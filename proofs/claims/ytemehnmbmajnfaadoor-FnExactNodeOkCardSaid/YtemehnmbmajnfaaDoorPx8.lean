-- Printed by a program over the kit's print.py (mp.sh), several laws in one namespace.
import Derived.Test.YtemehnmbmajnfaaDoorPx0
import Derived.Test.YtemehnmbmajnfaaDoorS
namespace Go.Proofs.YtemehnmbmajnfaaDoor.P
open Go.RowKit Go.Proofs.YtemehnmbmajnfaaDoor.X Go.Proofs.YtemehnmbmajnfaaDoorW.PrintWords Go.Proofs.YtemehnmbmajnfaaDoorW.PrintLast Go.Proofs.YtemehnmbmajnfaaDoorW.PrintMore
attribute [local go_sem] max2_int min2_int max_two min_two max_three min_three max_four min_four   -- for this text's walks alone
set_option linter.unusedVariables false
set_option linter.unusedSimpArgs false

/-! ### laws_toStringS: function 27 -/
def laws_toStringS.l0 : Nat → List ByteArray → List ByteArray → Int → Option (List ByteArray)
  | 0, _, _, _ => none
  | k + 1, x0, x3, x4 => if x4 < (x0.length : Int) then (if 0 ≤ x4 then (if x4 < (x3.length : Int) then (laws_toStringS.l0 k x0 (x3.set (x4 : Int).toNat (rdOf ByteArray.empty x0 x4)) (wrap64 (x4 + 1))) else (none)) else (none)) else (some x3)
def laws_toStringS.f (k : Nat) (l0 : List ByteArray) : Option (List ByteArray) := if 0 ≤ (l0.length : Int) then (if ((l0.length : Int) : Int).toNat ≤ 17592186044416 then (laws_toStringS.l0 k l0 (List.replicate ((l0.length : Int) : Int).toNat (⟨#[]⟩ : ByteArray)) 0) else (none)) else (none)
theorem laws_toStringS.mono_l : ∀ k, (∀ y0 y1 y2, LeO (laws_toStringS.l0 k y0 y1 y2) (laws_toStringS.l0 (k + 1) y0 y1 y2))
  | 0 => fun _ _ _ r h => by simp [laws_toStringS.l0] at h
  | k + 1 => by
    have ih0 := laws_toStringS.mono_l k
    · intro y0 y1 y2
      unfold laws_toStringS.l0
      repeat' first
      | (with_reducible exact ih0 _ _ _)
      | (with_reducible exact LeO.refl _)
      | (with_reducible exact LeO.none _)
      | (with_reducible refine LeO.ite ?_ ?_)
      | (with_reducible refine LeO.bind ?_ (fun _ => ?_))
      | exact ih0 _ _ _
      | exact LeO.none _
      | refine LeO.ite ?_ ?_
      | refine LeO.bind ?_ (fun _ => ?_)
theorem laws_toStringS.mono : ∀ a0 k, LeO (laws_toStringS.f k a0) (laws_toStringS.f (k + 1) a0) := by
  intro a0 k
  have ih0 := laws_toStringS.mono_l k
  unfold laws_toStringS.f
  repeat' first
      | (with_reducible exact ih0 _ _ _)
      | (with_reducible exact LeO.refl _)
      | (with_reducible exact LeO.none _)
      | (with_reducible refine LeO.ite ?_ ?_)
      | (with_reducible refine LeO.bind ?_ (fun _ => ?_))
      | exact ih0 _ _ _
      | exact LeO.none _
      | refine LeO.ite ?_ ?_
      | refine LeO.bind ?_ (fun _ => ?_)
set_option maxHeartbeats 8000000 in
set_option maxRecDepth 100000 in
theorem laws_toStringS.calls (k : Nat) (A0 : Option Addr) (c0 : Nat) (l0 : List ByteArray) (r : List ByteArray) (w : World) (hr0 : Kd.C Kd.string w A0 l0.length l0) (hc0 : l0.length ≤ c0) (h : laws_toStringS.f k l0 = some r) :
    Calls Tryd.prog 27 #[.slice A0 l0.length c0] w fun e w' => ∃ v0_ : Value, e = .returned (v0_) ∧ Kd.R Kd.string 9 w' w.heap.size (fun _ => True) v0_ r ∧ Below w.heap.size w w' := by
  have HRz1 := Aside0.mk hr0
  have HCz1 := Aside0.mk hc0
  clear hr0 hc0
  have HB := Aside0.mk (Below.refl w.heap.size w)
  have H : (if 0 ≤ (l0.length : Int) then (if ((l0.length : Int) : Int).toNat ≤ 17592186044416 then (laws_toStringS.l0 k l0 (List.replicate ((l0.length : Int) : Int).toNat (⟨#[]⟩ : ByteArray)) 0) else (none)) else (none)) = some r := h
  clear h
  by_cases cz1 : 0 ≤ (l0.length : Int)
  rotate_left
  · rw [if_neg cz1] at H
    exact absurd H (by simp)
  rw [if_pos cz1] at H
  have c2b0 := eq_true cz1
  have c2b1 : decide (0 ≤ (l0.length : Int)) = true := decide_eq_true cz1
  clear cz1
  by_cases cz2 : ((l0.length : Int) : Int).toNat ≤ 17592186044416
  rotate_left
  · rw [if_neg cz2] at H
    exact absurd H (by simp)
  rw [if_pos cz2] at H
  have c3b0 := eq_true cz2
  have c3b1 : decide (((l0.length : Int) : Int).toNat ≤ 17592186044416) = true := decide_eq_true cz2
  clear cz2
  obtain ⟨yz1, hyz1⟩ : ∃ y_ : List ByteArray, y_ = (List.replicate ((l0.length : Int) : Int).toNat (⟨#[]⟩ : ByteArray)) := ⟨_, rfl⟩
  replace H : (laws_toStringS.l0 k l0 yz1 0) = some r := by first | (rw [hyz1]; with_reducible exact H) | (have Hz1 := (Option.bind_some _ _).symm.trans H; rw [hyz1]; with_reducible exact Hz1) | (have Hz1 := (Option.bind_some _ _).symm.trans H; with_reducible exact Hz1) | with_reducible exact H | (rw [hyz1]; exact H) | exact H
  have Nyz1 := Aside0.mk hyz1
  clear hyz1
  have H' := Aside0.mk H
  clear H
  go_enter Tryd.func27, Tryd.ntmps27
  go_wp2_with (first | ((with_reducible refine gate_dst (N := 7) rfl ?_); refine Kd.R_make Kd.string _ 9 rfl (N := 7) rfl 22 _ _ rfl (l0.length : Int) rfl rfl Tryd.underlying22 (.string ⟨#[]⟩) 16 info9 rfl (by decide) (by omega) (⟨#[]⟩ : ByteArray) (ok := fun _ => True) (okp := fun _ => True) rfl (fun _ hk => hk) trivial (of_decide_eq_true as_) (Nat.le_trans (Nat.mul_le_mul_right _ (of_decide_eq_true as_ : (l0.length : Int).toNat ≤ 17592186044416)) (by omega)) (Below.refl _ _) (Nat.le_refl _) ?_; intro vz1 wz1 hoz1 hb hg_ hnew_; clear hg_ hnew_; (first | rw [← Nyz1.out] at hoz1 | (simp only [Int.reduceToNat] at hoz1; rw [← Nyz1.out] at hoz1)); have nz1 := Aside0.mk (Kd.R_lower hoz1 (below_size be_)); have nz2 := Aside0.mk (below_step be_ hb); clear HB; have HOz1 := nz1; have HB := nz2; clear nz1 nz2; clear hb hoz1))
  go_loopg [4] k (fun kq v4 w' => ∃ (x3_1 : List ByteArray) (x4_1 : Int), v4 = .int .i64 x4_1 ∧ Aside0 (laws_toStringS.l0 kq l0 x3_1 x4_1 = some r) ∧ Aside0 (kq ≤ k) ∧ Aside0 (Kd.R Kd.string 9 w' w.heap.size (fun _ => True) vz1 x3_1) ∧ Aside0 (Below w.heap.size w w'))
  case atStart => exact ⟨(yz1), (0), (by first | rfl | (simp; done) | (simp [*]; done)), H', ⟨Nat.le_refl _⟩, ⟨by (with_reducible repeat (first | apply Kd.R_alloc | apply Kd.R_drewN | apply Kd.R_drew)); exact HOz1.out⟩, ⟨be_⟩⟩
  case round =>
    clear H'
    try clear cz1
    try clear c2b0
    try clear c2b1
    try clear p2
    try clear cz2
    try clear c3b0
    try clear c3b1
    obtain ⟨xz1, xz2, rfl, HA, HKz1, HO_3, HB⟩ := hrel
    cases gk with
    | zero => exact absurd HA.out (by simp [laws_toStringS.l0])
    | succ kz1 =>
      have H := HA.out
      clear HA
      simp only [laws_toStringS.l0] at H
      by_cases cz3 : xz2 < (l0.length : Int)
      rotate_left
      · rw [if_neg cz3] at H
        have c6b0 : decide (xz2 < (l0.length : Int)) = false := decide_eq_false cz3
        clear cz3
        obtain rfl := Option.some.inj H
        go_wp2
        go_ret
        exact ⟨_, by first | rfl | (simp [errW_none, errW_some] <;> rfl) | (simp [*, errW_none, errW_some] <;> rfl), by (with_reducible repeat (first | apply Kd.R_alloc | apply Kd.R_drewN | apply Kd.R_drew)); exact HO_3.out, be_⟩
      rw [if_pos cz3] at H
      have c6b0 : decide (xz2 < (l0.length : Int)) = true := decide_eq_true cz3
      clear cz3
      by_cases cz4 : 0 ≤ xz2
      rotate_left
      · rw [if_neg cz4] at H
        exact absurd H (by simp)
      rw [if_pos cz4] at H
      have c7b0 : decide (0 ≤ xz2) = true := decide_eq_true cz4
      clear cz4
      by_cases cz5 : xz2 < (xz1.length : Int)
      rotate_left
      · rw [if_neg cz5] at H
        exact absurd H (by simp)
      rw [if_pos cz5] at H
      have c8b0 : decide (xz2 < (xz1.length : Int)) = true := decide_eq_true cz5
      clear cz5
      obtain ⟨yz2, hyz2⟩ : ∃ y_ : List ByteArray, y_ = (xz1.set (xz2 : Int).toNat (rdOf ByteArray.empty l0 xz2)) := ⟨_, rfl⟩
      replace H : (laws_toStringS.l0 kz1 l0 yz2 (wrap64 (xz2 + 1))) = some r := by first | (rw [hyz2]; with_reducible exact H) | (have Hz1 := (Option.bind_some _ _).symm.trans H; rw [hyz2]; with_reducible exact Hz1) | (have Hz1 := (Option.bind_some _ _).symm.trans H; with_reducible exact Hz1) | with_reducible exact H | (rw [hyz2]; exact H) | exact H
      have Nyz2 := Aside0.mk hyz2
      clear hyz2
      have H' := Aside0.mk H
      clear H
      have pz1 : 0 ≤ (xz2 : Int) := of_decide_eq_true as_
      have qz1 : xz2 < (l0.length : Int) := of_decide_eq_true as_
      obtain ⟨adz1, ez1, hxz1⟩ := Kd.at_string HRz1.out xz2 pz1 qz1
      cases ez1
      replace hxz1 := (HB.out.cell (World.block_lt_of_cell? w _ hxz1)).trans hxz1
      replace pz1 := eq_true pz1
      replace qz1 := eq_true qz1
      have pz2 : 0 ≤ (xz2 : Int) := of_decide_eq_true as_
      have qz2 : (xz2 : Int) < ((xz1.length : Int) : Int) := of_decide_eq_true as_
      obtain ⟨goz1, coz1, eoz1, gbz1, glz1, clz1, HGz1⟩ := Kd.R_form HO_3.out (by omega)
      (first | cases eoz1 | (injection eoz1 with ea_ en_ ec_; (first | subst ea_ | (injection ea_ with ea_; subst ea_)); subst ec_; clear en_))
      have GBz1 := Aside0.mk gbz1
      have GGz1 := Aside0.mk HGz1
      clear gbz1 glz1 HGz1
      obtain ⟨hxz2, hfz1⟩ := Kd.R_celln (⟨#[]⟩ : ByteArray) HO_3.out (xz2 : Int) pz2 qz2
      replace pz2 := eq_true pz2
      replace qz2 := eq_true qz2
      have HPz1 := Kd.R_putg HO_3.out (xz2 : Int) (rdOf ByteArray.empty l0 xz2)
      go_wp2_with (first | ((with_reducible refine gate_store (t := 9) (p := 20) rfl ?_); refine store_event (t := 9) (p := 20) (v := ?vo_w11) (w1 := (wr.setCell ⟨goz1, (xz2 : Int).toNat, none⟩ (.string (rdOf ByteArray.empty l0 xz2)))) ?hg ?ho ?hn ?hr ?_; (case ho => rfl); (case hg => rfl); (case hn => rfl); (case hr => first | (go_simp; done) | (go_simp; rfl)); intro wz2 hw; have hg : wr.grownBy wz2 (some goz1) := (by rw [hw]; exact HPz1.2); have hp_ : Kd.R Kd.string 9 wz2 w.heap.size (fun _ => True) (.slice (some ⟨goz1, 0, none⟩) xz1.length coz1) yz2 := (by rw [hw, Nyz2.out]; exact HPz1.1); clear HPz1; have nz1 := Aside0.mk (hp_); have nz2 := Aside0.mk ((by rw [hw]; exact below_set (HB.out) GBz1.out : Below w.heap.size w wz2)); clear HO_3; clear HB; have HO_3 := nz1; have HB := nz2; clear nz1 nz2; clear hg hw hp_))
      go_roundg kz1
      case measure => have := HKz1.out; omega
      case rel => exact ⟨(yz2), (wrap64 (xz2 + 1)), (by first | rfl | (simp; done) | (simp [*]; done)), H', ⟨by have := HKz1.out; omega⟩, ⟨by (with_reducible repeat (first | apply Kd.R_alloc | apply Kd.R_drewN | apply Kd.R_drew)); exact HO_3.out⟩, ⟨be_⟩⟩

/-! ### laws_toSub: function 52 -/
def laws_toSub.f (a0_0 : ByteArray) (a0_1 : Int) (a0_2 : Int) : Option (ByteArray × Int × Int) := some (a0_0, a0_1, a0_2)
set_option maxHeartbeats 8000000 in
set_option maxRecDepth 100000 in
theorem laws_toSub.calls (a0_0 : ByteArray) (a0_1 : Int) (a0_2 : Int) (r1 : ByteArray) (r2 : Int) (r3 : Int) (w : World) (h : laws_toSub.f a0_0 a0_1 a0_2 = some (r1, r2, r3)) :
    Calls Tryd.prog 52 #[.agg #[.string a0_0, .int .i64 a0_1, .int .i64 a0_2]] w fun e w' => e = .returned (.agg #[.string r1, .int .i64 r2, .int .i64 r3]) ∧ Below w.heap.size w w' := by
  have huz1 := Tryd.underlying79
  have huz2 := Tryd.underlying81
  have HB := Aside0.mk (Below.refl w.heap.size w)
  have H : (some (a0_0, a0_1, a0_2)) = some (r1, r2, r3) := h
  clear h
  simp only [Option.some.injEq, Prod.mk.injEq] at H
  obtain ⟨rfl, rfl, rfl⟩ := H
  go_enter Tryd.func52, Tryd.ntmps52
  go_wp2_with (first | ((with_reducible refine gate_dst (N := 1) rfl ?_); refine box_event ?hg (N := 1) ?hd (cs := #[.string a0_0, .int .i64 a0_1, .int .i64 a0_2]) (t := 79) ?hr ?_; (case hd => rfl); (case hg => rfl); (case hr => first | (go_simp; done) | (go_simp; rfl)); intro gbz1 hg wz1 hbox hb; have nz1 := Aside0.mk (below_step be_ hb); have nz2 := Aside0.mk (hbox); have nz3 := Aside0.mk ((sz_ : w.heap.size ≤ gbz1)); have nz4 := Aside0.mk ((sz_ : w.heap.size ≤ gbz1)); clear HB; have HB := nz1; have BKz1 := nz2; have GWz1 := nz3; have GEz1 := nz4; clear nz1 nz2 nz3 nz4; clear hb hbox hg) | ((with_reducible refine gate_dst (N := 2) rfl ?_); refine box_event ?hg (N := 2) ?hd (cs := #[.string (⟨#[]⟩ : ByteArray), .int .i64 0, .int .i64 0]) (t := 81) ?hr ?_; (case hd => rfl); (case hg => rfl); (case hr => first | (go_simp; done) | (go_simp; rfl)); intro gbz2 hg wz2 hbox hb; have nz1 := Aside0.mk (blk_below (g := gbz1) (o := .cells #[.string a0_0, .int .i64 a0_1, .int .i64 a0_2] 79 (0, 0)) bk_ hb); have nz2 := Aside0.mk (below_step be_ hb); have nz3 := Aside0.mk (hbox); have nz4 := Aside0.mk ((sz_ : w.heap.size ≤ gbz2)); have nz5 := Aside0.mk ((sz_ : w.heap.size ≤ gbz2)); have nz6 := Aside0.mk ((by rw [hg]; exact Nat.ne_of_lt (blk_lt (g := gbz1) (o := .cells #[.string a0_0, .int .i64 a0_1, .int .i64 a0_2] 79 (0, 0)) bk_) : gbz1 ≠ gbz2)); have nz7 := Aside0.mk ((by rw [hg]; exact Nat.ne_of_gt (blk_lt (g := gbz1) (o := .cells #[.string a0_0, .int .i64 a0_1, .int .i64 a0_2] 79 (0, 0)) bk_) : gbz2 ≠ gbz1)); clear BKz1; clear HB; have BKz1 := nz1; have HB := nz2; have BKz2 := nz3; have GWz2 := nz4; have GEz2 := nz5; have NBz1 := nz6; have NBz2 := nz7; clear nz1 nz2 nz3 nz4 nz5 nz6 nz7; clear hb hbox hg) | ((with_reducible refine gate_dst (N := 3) rfl ?_); refine box_event ?hg (N := 3) ?hd (cs := #[.string (⟨#[]⟩ : ByteArray), .int .i64 0, .int .i64 0]) (t := 81) ?hr ?_; (case hd => rfl); (case hg => rfl); (case hr => first | (go_simp; done) | (go_simp; rfl)); intro gbz3 hg wz3 hbox hb; have nz1 := Aside0.mk (blk_below (g := gbz1) (o := .cells #[.string a0_0, .int .i64 a0_1, .int .i64 a0_2] 79 (0, 0)) bk_ hb); have nz2 := Aside0.mk (blk_below (g := gbz2) (o := .cells #[.string (⟨#[]⟩ : ByteArray), .int .i64 0, .int .i64 0] 81 (0, 0)) bk_ hb); have nz3 := Aside0.mk (below_step be_ hb); have nz4 := Aside0.mk (hbox); have nz5 := Aside0.mk ((sz_ : w.heap.size ≤ gbz3)); have nz6 := Aside0.mk ((sz_ : w.heap.size ≤ gbz3)); have nz7 := Aside0.mk ((by rw [hg]; exact Nat.ne_of_lt (blk_lt (g := gbz1) (o := .cells #[.string a0_0, .int .i64 a0_1, .int .i64 a0_2] 79 (0, 0)) bk_) : gbz1 ≠ gbz3)); have nz8 := Aside0.mk ((by rw [hg]; exact Nat.ne_of_gt (blk_lt (g := gbz1) (o := .cells #[.string a0_0, .int .i64 a0_1, .int .i64 a0_2] 79 (0, 0)) bk_) : gbz3 ≠ gbz1)); have nz9 := Aside0.mk ((by rw [hg]; exact Nat.ne_of_lt (blk_lt (g := gbz2) (o := .cells #[.string (⟨#[]⟩ : ByteArray), .int .i64 0, .int .i64 0] 81 (0, 0)) bk_) : gbz2 ≠ gbz3)); have nz10 := Aside0.mk ((by rw [hg]; exact Nat.ne_of_gt (blk_lt (g := gbz2) (o := .cells #[.string (⟨#[]⟩ : ByteArray), .int .i64 0, .int .i64 0] 81 (0, 0)) bk_) : gbz3 ≠ gbz2)); clear BKz1; clear BKz2; clear HB; have BKz1 := nz1; have BKz2 := nz2; have HB := nz3; have BKz3 := nz4; have GWz3 := nz5; have GEz3 := nz6; have NBz3 := nz7; have NBz4 := nz8; have NBz5 := nz9; have NBz6 := nz10; clear nz1 nz2 nz3 nz4 nz5 nz6 nz7 nz8 nz9 nz10; clear hb hbox hg; have hnbz1 := NBz1.out; have hncz1 := NBz2.out; have hnbz2 := NBz3.out; have hncz2 := NBz4.out; have hczz1 : wz3.cell? ⟨gbz1, 0, none⟩ = some (.string a0_0) := (blk_cell BKz1.out 0).trans rfl; have hczz2 : wz3.cell? ⟨gbz1, 1, none⟩ = some (.int .i64 a0_1) := (blk_cell BKz1.out 1).trans rfl; have hczz3 : wz3.cell? ⟨gbz1, 2, none⟩ = some (.int .i64 a0_2) := (blk_cell BKz1.out 2).trans rfl; have hfzz1 := blk_frozen BKz1.out 0; have hfzz2 := blk_frozen BKz1.out 1; have hfzz3 := blk_frozen BKz1.out 2; have hnbz3 := NBz6.out; have hncz3 := NBz5.out; have hczz4 : wz3.cell? ⟨gbz3, 0, none⟩ = some (.string (⟨#[]⟩ : ByteArray)) := (blk_cell BKz3.out 0).trans rfl; have hczz5 : wz3.cell? ⟨gbz3, 1, none⟩ = some (.int .i64 0) := (blk_cell BKz3.out 1).trans rfl; have hczz6 : wz3.cell? ⟨gbz3, 2, none⟩ = some (.int .i64 0) := (blk_cell BKz3.out 2).trans rfl; have hfzz4 := blk_frozen BKz3.out 0; have hfzz5 := blk_frozen BKz3.out 1; have hfzz6 := blk_frozen BKz3.out 2; have hczz7 : wz3.cell? ⟨gbz2, 0, none⟩ = some (.string (⟨#[]⟩ : ByteArray)) := (blk_cell BKz2.out 0).trans rfl; have hczz8 : wz3.cell? ⟨gbz2, 1, none⟩ = some (.int .i64 0) := (blk_cell BKz2.out 1).trans rfl; have hczz9 : wz3.cell? ⟨gbz2, 2, none⟩ = some (.int .i64 0) := (blk_cell BKz2.out 2).trans rfl; have hfzz7 := blk_frozen BKz2.out 0; have hfzz8 := blk_frozen BKz2.out 1; have hfzz9 := blk_frozen BKz2.out 2))
  refine bodyPost_ret (results_cell_row rfl _ _ gbz2 81 #[.string a0_0, .int .i64 a0_1, .int .i64 a0_2] (0, 0) _ rfl (by (with_reducible repeat (first | refine blk_drewN ?_ _ | refine blk_drew ?_ | refine blk_alloc ?_ _)); refine blk_put (cs := #[.string a0_0, .int .i64 a0_1, .int .i64 0]) ?_ 2 _ rfl; (with_reducible repeat (first | refine blk_drewN ?_ _ | refine blk_drew ?_ | refine blk_alloc ?_ _)); refine blk_put (cs := #[.string a0_0, .int .i64 0, .int .i64 0]) ?_ 1 _ rfl; (with_reducible repeat (first | refine blk_drewN ?_ _ | refine blk_drew ?_ | refine blk_alloc ?_ _)); refine blk_put (cs := #[.string (⟨#[]⟩ : ByteArray), .int .i64 0, .int .i64 0]) ?_ 0 _ rfl; (with_reducible repeat (first | refine blk_drewN ?_ _ | refine blk_drew ?_ | refine blk_alloc ?_ _)); refine blk_far ?_ NBz5.out _; (with_reducible repeat (first | refine blk_drewN ?_ _ | refine blk_drew ?_ | refine blk_alloc ?_ _)); refine blk_far ?_ NBz5.out _; (with_reducible repeat (first | refine blk_drewN ?_ _ | refine blk_drew ?_ | refine blk_alloc ?_ _)); refine blk_far ?_ NBz5.out _; (with_reducible repeat (first | refine blk_drewN ?_ _ | refine blk_drew ?_ | refine blk_alloc ?_ _)); exact BKz2.out) Tryd.underlying81 rfl (by kernel_rfl)) rfl ?_
  exact ⟨by first | rfl | (simp [errW_none, errW_some] <;> rfl) | (simp [*, errW_none, errW_some] <;> rfl), be_⟩

/-! ### laws_toSubS: function 29 -/
def laws_toSubS.l0 : Nat → List (S79) → List (S81) → Int → Option ((List (S81)))
  | 0, _, _, _ => none
  | k + 1, x0, x3, x4 => if x4 < (x0.length : Int) then (if 0 ≤ x4 then ((laws_toSub.f ((rd_T79 x0 x4).f0) ((rd_T79 x0 x4).f1) ((rd_T79 x0 x4).f2)).bind fun bt181 => (if x4 < (x3.length : Int) then (laws_toSubS.l0 k x0 (x3.set (x4 : Int).toNat (⟨bt181.1, bt181.2.1, bt181.2.2⟩ : S81)) (wrap64 (x4 + 1))) else (none))) else (none)) else (some x3)
def laws_toSubS.f (k : Nat) (l0 : List (S79)) : Option ((List (S81))) := if 0 ≤ (l0.length : Int) then (if ((l0.length : Int) : Int).toNat ≤ 8796093022208 then (laws_toSubS.l0 k l0 (List.replicate ((l0.length : Int) : Int).toNat z81) 0) else (none)) else (none)
theorem laws_toSubS.mono_l : ∀ k, (∀ y0 y1 y2, LeO (laws_toSubS.l0 k y0 y1 y2) (laws_toSubS.l0 (k + 1) y0 y1 y2))
  | 0 => fun _ _ _ r h => by simp [laws_toSubS.l0] at h
  | k + 1 => by
    have ih0 := laws_toSubS.mono_l k
    · intro y0 y1 y2
      unfold laws_toSubS.l0
      repeat' first
      | (with_reducible exact ih0 _ _ _)
      | (with_reducible exact LeO.refl _)
      | (with_reducible exact LeO.none _)
      | (with_reducible refine LeO.ite ?_ ?_)
      | (with_reducible refine LeO.bind ?_ (fun _ => ?_))
      | exact ih0 _ _ _
      | exact LeO.none _
      | refine LeO.ite ?_ ?_
      | refine LeO.bind ?_ (fun _ => ?_)
theorem laws_toSubS.mono : ∀ a0 k, LeO (laws_toSubS.f k a0) (laws_toSubS.f (k + 1) a0) := by
  intro a0 k
  have ih0 := laws_toSubS.mono_l k
  unfold laws_toSubS.f
  repeat' first
      | (with_reducible exact ih0 _ _ _)
      | (with_reducible exact LeO.refl _)
      | (with_reducible exact LeO.none _)
      | (with_reducible refine LeO.ite ?_ ?_)
      | (with_reducible refine LeO.bind ?_ (fun _ => ?_))
      | exact ih0 _ _ _
      | exact LeO.none _
      | refine LeO.ite ?_ ?_
      | refine LeO.bind ?_ (fun _ => ?_)
set_option maxHeartbeats 8000000 in
set_option maxRecDepth 100000 in
theorem laws_toSubS.calls (k : Nat) (A0 : Option Addr) (c0 : Nat) (l0 : List (S79)) (r : List (S81)) (w : World) (hr0 : Kd.C k79 w A0 l0.length l0) (hc0 : l0.length ≤ c0) (h : laws_toSubS.f k l0 = some r) :
    Calls Tryd.prog 29 #[.slice A0 l0.length c0] w fun e w' => ∃ v0_ : Value, e = .returned (v0_) ∧ Kd.R k81 81 w' w.heap.size (fun _ => True) v0_ r ∧ Below w.heap.size w w' := by
  have huz1 := Tryd.underlying79
  have huz2 := Tryd.underlying81
  have HRz1 := Aside0.mk hr0
  have HCz1 := Aside0.mk hc0
  clear hr0 hc0
  have HB := Aside0.mk (Below.refl w.heap.size w)
  have H : (if 0 ≤ (l0.length : Int) then (if ((l0.length : Int) : Int).toNat ≤ 8796093022208 then (laws_toSubS.l0 k l0 (List.replicate ((l0.length : Int) : Int).toNat z81) 0) else (none)) else (none)) = some r := h
  clear h
  by_cases cz1 : 0 ≤ (l0.length : Int)
  rotate_left
  · rw [if_neg cz1] at H
    exact absurd H (by simp)
  rw [if_pos cz1] at H
  have c2b0 := eq_true cz1
  have c2b1 : decide (0 ≤ (l0.length : Int)) = true := decide_eq_true cz1
  clear cz1
  by_cases cz2 : ((l0.length : Int) : Int).toNat ≤ 8796093022208
  rotate_left
  · rw [if_neg cz2] at H
    exact absurd H (by simp)
  rw [if_pos cz2] at H
  have c3b0 := eq_true cz2
  have c3b1 : decide (((l0.length : Int) : Int).toNat ≤ 8796093022208) = true := decide_eq_true cz2
  clear cz2
  obtain ⟨yz1, hyz1⟩ : ∃ y_ : List (S81), y_ = (List.replicate ((l0.length : Int) : Int).toNat z81) := ⟨_, rfl⟩
  replace H : (laws_toSubS.l0 k l0 yz1 0) = some r := by first | (rw [hyz1]; with_reducible exact H) | (have Hz1 := (Option.bind_some _ _).symm.trans H; rw [hyz1]; with_reducible exact Hz1) | (have Hz1 := (Option.bind_some _ _).symm.trans H; with_reducible exact Hz1) | with_reducible exact H | (rw [hyz1]; exact H) | exact H
  have Nyz1 := Aside0.mk hyz1
  clear hyz1
  have H' := Aside0.mk H
  clear H
  go_enter Tryd.func29, Tryd.ntmps29
  go_wp2_with (first | ((with_reducible refine gate_dst (N := 7) rfl ?_); refine Kd.R_make k81 _ 81 rfl (N := 7) rfl 30 _ _ rfl (l0.length : Int) rfl rfl Tryd.underlying30 (.agg #[(.string ⟨#[]⟩), (.int .i64 0), (.int .i64 0)]) 32 info81 rfl (by decide) (by omega) z81 (ok := fun _ => True) (okp := fun _ => True) (k81_mkM _ _ _ z81 ) (fun _ hk => hk) trivial (of_decide_eq_true as_) (Nat.le_trans (Nat.mul_le_mul_right _ (of_decide_eq_true as_ : (l0.length : Int).toNat ≤ 8796093022208)) (by omega)) (Below.refl _ _) (Nat.le_refl _) ?_; intro vz1 wz1 hoz1 hb hg_ hnew_; clear hg_ hnew_; (first | rw [← Nyz1.out] at hoz1 | (simp only [Int.reduceToNat] at hoz1; rw [← Nyz1.out] at hoz1)); have nz1 := Aside0.mk (Kd.R_lower hoz1 (below_size be_)); have nz2 := Aside0.mk (below_step be_ hb); clear HB; have HOz1 := nz1; have HB := nz2; clear nz1 nz2; clear hb hoz1))
  go_loopg [4] k (fun kq v4 w' => ∃ (x3_1 : List (S81)) (x4_1 : Int), v4 = .int .i64 x4_1 ∧ Aside0 (laws_toSubS.l0 kq l0 x3_1 x4_1 = some r) ∧ Aside0 (kq ≤ k) ∧ Aside0 (Kd.R k81 81 w' w.heap.size (fun _ => True) vz1 x3_1) ∧ Aside0 (Below w.heap.size w w'))
  case atStart => exact ⟨(yz1), (0), (by first | rfl | (simp; done) | (simp [*]; done)), H', ⟨Nat.le_refl _⟩, ⟨by (with_reducible repeat (first | apply Kd.R_alloc | apply Kd.R_drewN | apply Kd.R_drew)); exact HOz1.out⟩, ⟨be_⟩⟩
  case round =>
    clear H'
    try clear cz1
    try clear c2b0
    try clear c2b1
    try clear p2
    try clear cz2
    try clear c3b0
    try clear c3b1
    obtain ⟨xz1, xz2, rfl, HA, HKz1, HO_3, HB⟩ := hrel
    cases gk with
    | zero => exact absurd HA.out (by simp [laws_toSubS.l0])
    | succ kz1 =>
      have H := HA.out
      clear HA
      simp only [laws_toSubS.l0] at H
      by_cases cz3 : xz2 < (l0.length : Int)
      rotate_left
      · rw [if_neg cz3] at H
        have c6b0 : decide (xz2 < (l0.length : Int)) = false := decide_eq_false cz3
        clear cz3
        obtain rfl := Option.some.inj H
        go_wp2
        go_ret
        exact ⟨_, by first | rfl | (simp [errW_none, errW_some] <;> rfl) | (simp [*, errW_none, errW_some] <;> rfl), by (with_reducible repeat (first | apply Kd.R_alloc | apply Kd.R_drewN | apply Kd.R_drew)); exact HO_3.out, be_⟩
      rw [if_pos cz3] at H
      have c6b0 : decide (xz2 < (l0.length : Int)) = true := decide_eq_true cz3
      clear cz3
      by_cases cz4 : 0 ≤ xz2
      rotate_left
      · rw [if_neg cz4] at H
        exact absurd H (by simp)
      rw [if_pos cz4] at H
      have c7b0 : decide (0 ≤ xz2) = true := decide_eq_true cz4
      clear cz4
      replace H := Option.bind_eq_some_iff.mp H
      obtain ⟨⟨tz1, tz2, tz3⟩, Az1, H⟩ := H
      replace H : (if xz2 < (xz1.length : Int) then (laws_toSubS.l0 kz1 l0 (xz1.set (xz2 : Int).toNat (⟨tz1, tz2, tz3⟩ : S81)) (wrap64 (xz2 + 1))) else (none)) = some r := H
      have Az2 := Aside0.mk Az1
      clear Az1
      by_cases cz5 : xz2 < (xz1.length : Int)
      rotate_left
      · rw [if_neg cz5] at H
        exact absurd H (by simp)
      rw [if_pos cz5] at H
      have c9b0 : decide (xz2 < (xz1.length : Int)) = true := decide_eq_true cz5
      clear cz5
      obtain ⟨yz2, hyz2⟩ : ∃ y_ : List (S81), y_ = (xz1.set (xz2 : Int).toNat (⟨tz1, tz2, tz3⟩ : S81)) := ⟨_, rfl⟩
      replace H : (laws_toSubS.l0 kz1 l0 yz2 (wrap64 (xz2 + 1))) = some r := by first | (rw [hyz2]; with_reducible exact H) | (have Hz1 := (Option.bind_some _ _).symm.trans H; rw [hyz2]; with_reducible exact Hz1) | (have Hz1 := (Option.bind_some _ _).symm.trans H; with_reducible exact Hz1) | with_reducible exact H | (rw [hyz2]; exact H) | exact H
      have Nyz2 := Aside0.mk hyz2
      clear hyz2
      have H' := Aside0.mk H
      clear H
      have pz1 : 0 ≤ (xz2 : Int) := of_decide_eq_true as_
      have qz1 : xz2 < (l0.length : Int) := of_decide_eq_true as_
      obtain ⟨adz1, ez1, hxz1, hxz2, hxz3⟩ := at_T79 HRz1.out xz2 pz1 qz1
      cases ez1
      replace hxz1 := (HB.out.cell (World.block_lt_of_cell? w _ hxz1)).trans hxz1
      replace hxz2 := (HB.out.cell (World.block_lt_of_cell? w _ hxz2)).trans hxz2
      replace hxz3 := (HB.out.cell (World.block_lt_of_cell? w _ hxz3)).trans hxz3
      replace pz1 := eq_true pz1
      replace qz1 := eq_true qz1
      go_wp2_with (first | ((with_reducible refine gate_callee (f := 52) rfl ?_); refine goesL_ (some 20) rfl rfl Tryd.func52 (by kernel_rfl) rfl #[.agg #[.string ((rd_T79 l0 xz2).f0), .int .i64 ((rd_T79 l0 xz2).f1), .int .i64 ((rd_T79 l0 xz2).f2)]] rfl ar_ ?_; (with_reducible refine (laws_toSub.calls ((rd_T79 l0 xz2).f0) ((rd_T79 l0 xz2).f1) ((rd_T79 l0 xz2).f2) tz1 tz2 tz3 _ Az2.out).mono ?_); rintro e wz2 ⟨rfl, hb⟩; refine ⟨_, rfl, ?_⟩; have nz1 := Aside0.mk (Kd.R_below (by (with_reducible repeat (first | apply Kd.R_alloc | apply Kd.R_drewN | apply Kd.R_drew)); exact HO_3.out) hb); have nz2 := Aside0.mk (below_step be_ hb); clear HO_3; clear HB; have HO_3 := nz1; have HB := nz2; clear nz1 nz2; (try clear hb); (try clear hb2); (try clear hk); (try clear hi); have pz2 : 0 ≤ (xz2 : Int) := of_decide_eq_true as_; have qz2 : (xz2 : Int) < ((xz1.length : Int) : Int) := of_decide_eq_true as_; obtain ⟨goz1, coz1, eoz1, gbz1, glz1, clz1, HGz1⟩ := Kd.R_form HO_3.out (by omega); (first | cases eoz1 | (injection eoz1 with ea_ en_ ec_; (first | subst ea_ | (injection ea_ with ea_; subst ea_)); subst ec_; clear en_)); have GBz1 := Aside0.mk gbz1; have GGz1 := Aside0.mk HGz1; clear gbz1 glz1 HGz1; obtain ⟨cez1, hclz1, hMz1, hccz1, hfrz1⟩ := Kd.R_elem HO_3.out z81 (xz2 : Int) pz2 qz2; obtain rfl := k81_openM hMz1; have hxz4 : wz2.cell? ⟨goz1, (xz2 : Int).toNat * 3, none⟩ = some (.string ((rd_T81 xz1 xz2).f0)) := hccz1 0 _ rfl; have hxz5 : wz2.cell? ⟨goz1, (xz2 : Int).toNat * 3 + 1, none⟩ = some (.int .i64 ((rd_T81 xz1 xz2).f1)) := hccz1 1 _ rfl; have hxz6 : wz2.cell? ⟨goz1, (xz2 : Int).toNat * 3 + 2, none⟩ = some (.int .i64 ((rd_T81 xz1 xz2).f2)) := hccz1 2 _ rfl; have hfz1 : wz2.frozen? ⟨goz1, (xz2 : Int).toNat * 3, none⟩ = false := hfrz1 0; have hfz2 : wz2.frozen? ⟨goz1, (xz2 : Int).toNat * 3 + 1, none⟩ = false := hfrz1 1; have hfz3 : wz2.frozen? ⟨goz1, (xz2 : Int).toNat * 3 + 2, none⟩ = false := hfrz1 2; clear hclz1 hccz1 hfrz1 hMz1; replace pz2 := eq_true pz2; replace qz2 := eq_true qz2; have HXz1 := Aside0.mk (show Kd.R k81 81 wz2 w.heap.size (fun _ => True) (.slice (some ⟨goz1, 0, none⟩) xz1.length coz1) xz1 from (by (with_reducible repeat (first | apply Kd.R_alloc | apply Kd.R_drewN | apply Kd.R_drew)); exact HO_3.out)); obtain ⟨cez2, hclz2, hMz2, hccz2, hfrz2⟩ := Kd.R_elem HXz1.out z81 (xz2 : Int) (of_decide_eq_true as_) (by have h_ : (xz2 : Int) < ((xz1.length : Int) : Int) := of_decide_eq_true as_; first | exact h_ | (have e_ := (Kd.R_reads' HO_3.out).1; omega) | simpa using h_); obtain rfl := k81_openM hMz2; have HPz1 := Kd.R_seg HXz1.out (xz2 : Int) (of_decide_eq_true as_) (by have h_ : (xz2 : Int) < ((xz1.length : Int) : Int) := of_decide_eq_true as_; first | exact h_ | (have e_ := (Kd.R_reads' HO_3.out).1; omega) | simpa using h_) (seg := [.string tz1, .int .i64 tz2, .int .i64 tz3]) (j := 0) hclz2 hccz2 (show 3 ≤ 3 from by decide) (x' := (⟨tz1, tz2, tz3⟩ : S81)) (k81_mkM _ _ _ (⟨tz1, tz2, tz3⟩ : S81) ) (fun _ hk => hk); have hxz7 := hccz2 0 _ rfl; (try simp only [show (k81).sz = 3 from rfl, Nat.mul_one, Nat.add_zero] at hxz7); have hfz4 := hfrz2 0; (try simp only [show (k81).sz = 3 from rfl, Nat.mul_one, Nat.add_zero] at hfz4); have hxz8 := hccz2 1 _ rfl; (try simp only [show (k81).sz = 3 from rfl, Nat.mul_one, Nat.add_zero] at hxz8); have hfz5 := hfrz2 1; (try simp only [show (k81).sz = 3 from rfl, Nat.mul_one, Nat.add_zero] at hfz5); have hxz9 := hccz2 2 _ rfl; (try simp only [show (k81).sz = 3 from rfl, Nat.mul_one, Nat.add_zero] at hxz9); have hfz6 := hfrz2 2; (try simp only [show (k81).sz = 3 from rfl, Nat.mul_one, Nat.add_zero] at hfz6); clear hclz2 hccz2 hfrz2 hMz2) | ((with_reducible refine gate_store (t := 81) (p := 21) rfl ?_); refine store_event (t := 81) (p := 21) (v := ?vo_w13) (w1 := (((wz2.setCell ⟨goz1, (xz2 : Int).toNat * 3, none⟩ (.string tz1)).setCell ⟨goz1, (xz2 : Int).toNat * 3 + 1, none⟩ (.int .i64 tz2)).setCell ⟨goz1, (xz2 : Int).toNat * 3 + 2, none⟩ (.int .i64 tz3))) ?hg ?ho ?hn ?hr ?_; (case ho => rfl); (case hg => rfl); (case hn => rfl); (case hr => first | (go_simp; done) | (go_simp; rfl)); intro wz3 hw; have hg : wz2.grownBy wz3 (some goz1) := (by rw [hw]; exact HPz1.2); have hp_ : Kd.R k81 81 wz3 w.heap.size (fun _ => True) (.slice (some ⟨goz1, 0, none⟩) xz1.length coz1) yz2 := (by rw [hw, Nyz2.out]; exact HPz1.1); clear HPz1; have nz1 := Aside0.mk (hp_); have nz2 := Aside0.mk ((by rw [hw]; exact below_set (below_set (below_set (HB.out) GBz1.out) GBz1.out) GBz1.out : Below w.heap.size w wz3)); clear HO_3; clear HB; have HO_3 := nz1; have HB := nz2; clear nz1 nz2; clear hg hw hp_))
      go_roundg kz1
      case measure => have := HKz1.out; omega
      case rel => exact ⟨(yz2), (wrap64 (xz2 + 1)), (by first | rfl | (simp; done) | (simp [*]; done)), H', ⟨by have := HKz1.out; omega⟩, ⟨by (with_reducible repeat (first | apply Kd.R_alloc | apply Kd.R_drewN | apply Kd.R_drew)); exact HO_3.out⟩, ⟨be_⟩⟩

end Go.Proofs.YtemehnmbmajnfaaDoor.P
