-- Printed by a program over the kit's print.py (mp.sh), several laws in one namespace.
import Derived.Test.YtggokdobijhdhaaDoorPx0
import Derived.Test.YtggokdobijhdhaaDoorS
import Derived.Test.YtggokdobijhdhaaDoorPx3
import Derived.Test.YtggokdobijhdhaaDoorPx8
import Derived.Test.YtggokdobijhdhaaDoorPx10
namespace Go.Proofs.YtggokdobijhdhaaDoor.P
open Go.RowKit Go.Proofs.YtggokdobijhdhaaDoor.X Go.Proofs.YtggokdobijhdhaaDoorW.PrintWords Go.Proofs.YtggokdobijhdhaaDoorW.PrintLast Go.Proofs.YtggokdobijhdhaaDoorW.PrintMore
attribute [local go_sem] max2_int min2_int max_two min_two max_three min_three max_four min_four   -- for this text's walks alone
set_option maxHeartbeats 8000000
set_option maxRecDepth 100000
set_option linter.unusedVariables false
set_option linter.unusedSimpArgs false

def laws_toStringS.l0 : Nat → List ByteArray → List ByteArray → Int → Option (List ByteArray)
 | 0, _, _, _ => none
 | k + 1, x0, x3, x4 => if x4 < (x0.length : Int) then (if 0 ≤ x4 then (if x4 < (x3.length : Int) then (laws_toStringS.l0 k x0 (x3.set (x4 : Int).toNat (rdOf ByteArray.empty x0 x4)) (wrap64 (x4 + 1))) else (none)) else (none)) else (some x3)
def laws_toStringS.f (k : Nat) (l0 : List ByteArray) : Option (List ByteArray) := if 0 ≤ (l0.length : Int) then (if ((l0.length : Int) : Int).toNat ≤ 17592186044416 then (laws_toStringS.l0 k l0 (List.replicate ((l0.length : Int) : Int).toNat (⟨#[]⟩ : ByteArray)) 0) else (none)) else (none)
theorem laws_toStringS.calls (k : Nat) (A0 : Option Addr) (c0 : Nat) (l0 : List ByteArray) (r : List ByteArray) (w : World) (hr0 : Kd.C Kd.string w A0 l0.length l0) (hc0 : l0.length ≤ c0) (h : laws_toStringS.f k l0 = some r) :
  Calls Tryd.prog 27 #[.slice A0 l0.length c0] w fun e w' => ∃ v0_ : Value, e = .returned (v0_) ∧ Kd.R Kd.string 9 w' w.heap.size (fun _ => True) v0_ r ∧ Below w.heap.size w w' := by
 have HRz1 := Aside0.mk hr0
 have HCz1 := Aside0.mk hc0
 clear hr0 hc0
 have HB := Aside0.mk (Below.refl w.heap.size w)
 have H : (if 0 ≤ (l0.length : Int) then (if ((l0.length : Int) : Int).toNat ≤ 17592186044416 then (laws_toStringS.l0 k l0 (List.replicate ((l0.length : Int) : Int).toNat (⟨#[]⟩ : ByteArray)) 0) else (none)) else (none)) = some r := h
 clear h
 by_cases cz1 : 0 ≤ (l0.length : Int)
 rotate_left
 ·rw [if_neg cz1] at H
  exact absurd H (by simp)
 rw [if_pos cz1] at H
 have cz2 := eq_true cz1
 have cz3 : decide (0 ≤ (l0.length : Int)) = true := decide_eq_true cz1
 clear cz1
 by_cases cz4 : ((l0.length : Int) : Int).toNat ≤ 17592186044416
 rotate_left
 ·rw [if_neg cz4] at H
  exact absurd H (by simp)
 rw [if_pos cz4] at H
 have cz5 := eq_true cz4
 have cz6 : decide (((l0.length : Int) : Int).toNat ≤ 17592186044416) = true := decide_eq_true cz4
 clear cz4
 obtain ⟨yz1, hyz1⟩ : ∃ y_ : List ByteArray, y_ = (List.replicate ((l0.length : Int) : Int).toNat (⟨#[]⟩ : ByteArray)) := ⟨_, rfl⟩
 (first | (with_reducible replace H := ys_ hyz1 H; (try dsimp only at H)) | rw [← hyz1] at H | skip)
 have Nyz1 := Aside0.mk hyz1
 clear hyz1
 have H' := Aside0.mk H
 clear H
 go_enter Tryd.func27, Tryd.ntmps27
 go_wp2_with (first | ((with_reducible refine gate_dst (N := 7) rfl ?_); refine Kd.R_make Kd.string _ 9 rfl (N := 7) rfl 22 _ _ rfl (l0.length : Int) rfl rfl Tryd.underlying22 (.string ⟨#[]⟩) 16 info9 rfl (by decide) (by omega) (⟨#[]⟩ : ByteArray) (ok := fun _ => True) (okp := fun _ => True) rfl (fun _ hk => hk) trivial (dt_) (Nat.le_trans (Nat.mul_le_mul_right _ (dt_ : (l0.length : Int).toNat ≤ 17592186044416)) (by omega)) (Below.refl _ _) (Nat.le_refl _) ?_; intro vz1 wz1 hoz1 hb hg_ hnew_; clear hg_ hnew_; (first | rw [← Nyz1.out] at hoz1 | (simp only [Int.reduceToNat] at hoz1; rw [← Nyz1.out] at hoz1)); have HOz1 := Aside0.mk (Kd.R_lower hoz1 (below_size be_)); replace HB := bw_ hb; clear hb hoz1))
 go_loopg [4] k (fun kq v4 w' => ∃ (x3_1 : List ByteArray) (x4_1 : Int), v4 = .int .i64 x4_1 ∧ Aside0 (laws_toStringS.l0 kq l0 x3_1 x4_1 = some r) ∧ Aside0 (kq ≤ k) ∧ Aside0 (Kd.R Kd.string 9 w' w.heap.size (fun _ => True) vz1 x3_1) ∧ Aside0 (Below w.heap.size w w'))
 case atStart => exact ⟨(yz1), (0), rs_, H', ⟨Nat.le_refl _⟩, ⟨lR_ HOz1.out⟩, ⟨be_⟩⟩
 case round =>
  clear H'
  obtain ⟨xz1, xz2, rfl, HA, HKz1, HO_3, HB⟩ := hrel
  cases gk with
  | zero => exact absurd HA.out (by simp [laws_toStringS.l0])
  | succ kz1 =>
   have H := HA.out
   clear HA
   simp only [laws_toStringS.l0] at H
   by_cases cz7 : xz2 < (l0.length : Int)
   rotate_left
   ·rw [if_neg cz7] at H
    have cz8 : decide (xz2 < (l0.length : Int)) = false := decide_eq_false cz7
    clear cz7
    obtain rfl := Option.some.inj H
    go_wp2
    go_ret
    exact ⟨_, er_, lR_ HO_3.out, be_⟩
   rw [if_pos cz7] at H
   have cz8 : decide (xz2 < (l0.length : Int)) = true := decide_eq_true cz7
   clear cz7
   by_cases cz9 : 0 ≤ xz2
   rotate_left
   ·rw [if_neg cz9] at H
    exact absurd H (by simp)
   rw [if_pos cz9] at H
   have cz10 : decide (0 ≤ xz2) = true := decide_eq_true cz9
   clear cz9
   by_cases cz11 : xz2 < (xz1.length : Int)
   rotate_left
   ·rw [if_neg cz11] at H
    exact absurd H (by simp)
   rw [if_pos cz11] at H
   have cz12 : decide (xz2 < (xz1.length : Int)) = true := decide_eq_true cz11
   clear cz11
   obtain ⟨yz2, hyz2⟩ : ∃ y_ : List ByteArray, y_ = (xz1.set (xz2 : Int).toNat (rdOf ByteArray.empty l0 xz2)) := ⟨_, rfl⟩
   (first | (with_reducible replace H := ys_ hyz2 H; (try dsimp only at H)) | rw [← hyz2] at H | skip)
   have Nyz2 := Aside0.mk hyz2
   clear hyz2
   have H' := Aside0.mk H
   clear H
   have pz1 : 0 ≤ (xz2 : Int) := dt_
   have qz1 : xz2 < (l0.length : Int) := dt_
   obtain ⟨adz1, ez1, hxz1⟩ := Kd.at_string HRz1.out xz2 pz1 qz1
   cases ez1
   replace hxz1 := cl_ HB hxz1
   replace pz1 := eq_true pz1
   replace qz1 := eq_true qz1
   have pz2 : 0 ≤ (xz2 : Int) := dt_
   have qz2 : (xz2 : Int) < ((xz1.length : Int) : Int) := dt_
   obtain ⟨goz1, coz1, eoz1, gbz1, glz1, clz1, HGz1⟩ := Kd.R_form HO_3.out (by omega)
   (first | cases eoz1 | (injection eoz1 with ea_ en_ ec_; (first | subst ea_ | (injection ea_ with ea_; subst ea_)); subst ec_; clear en_))
   have GBz1 := Aside0.mk gbz1
   have GGz1 := Aside0.mk HGz1
   clear gbz1 glz1 HGz1
   obtain ⟨hxz2, hfz1⟩ := Kd.R_celln (⟨#[]⟩ : ByteArray) HO_3.out (xz2 : Int) pz2 qz2
   replace pz2 := eq_true pz2
   replace qz2 := eq_true qz2
   have HPz1 := Kd.R_putg HO_3.out (xz2 : Int) (rdOf ByteArray.empty l0 xz2)
   go_wp2_with (first | ((with_reducible refine gate_store (t := 9) (p := 20) rfl ?_); refine store_event (t := 9) (p := 20) (v := ?vo_w11) (w1 := (wr.setCell ⟨goz1, (xz2 : Int).toNat, none⟩ (.string (rdOf ByteArray.empty l0 xz2)))) ?hg ?ho ?hn ?hr ?_; (case ho => rfl); (case hg => rfl); (case hn => rfl); (case hr => first | (go_simp; done) | (go_simp; rfl)); intro wz2 hw; have hg : wr.grownBy wz2 (some goz1) := (by rw [hw]; exact HPz1.2); have hp_ : Kd.R Kd.string 9 wz2 w.heap.size (fun _ => True) (.slice (some ⟨goz1, 0, none⟩) xz1.length coz1) yz2 := (by rw [hw, Nyz2.out]; exact HPz1.1); clear HPz1; replace HO_3 := Aside0.mk (hp_); replace HB := Aside0.mk ((by rw [hw]; exact below_set (HB.out) GBz1.out : Below w.heap.size w wz2)); clear hg hw hp_))
   go_roundg kz1
   case measure => have := HKz1.out; omega
   case rel => exact ⟨(yz2), (wrap64 (xz2 + 1)), rs_, H', ⟨by have := HKz1.out; omega⟩, ⟨lR_ HO_3.out⟩, ⟨be_⟩⟩

def laws_toSub.f (a0_0 : ByteArray) (a0_1 : Int) (a0_2 : Int) : Option (ByteArray × Int × Int) := some (a0_0, a0_1, a0_2)
theorem laws_toSub.calls (a0_0 : ByteArray) (a0_1 : Int) (a0_2 : Int) (r1 : ByteArray) (r2 : Int) (r3 : Int) (w : World) (h : laws_toSub.f a0_0 a0_1 a0_2 = some (r1, r2, r3)) :
  Calls Tryd.prog 54 #[.agg #[.string a0_0, .int .i64 a0_1, .int .i64 a0_2]] w fun e w' => e = .returned (.agg #[.string r1, .int .i64 r2, .int .i64 r3]) ∧ Below w.heap.size w w' := by
 have huz1 := Tryd.underlying83
 have huz2 := Tryd.underlying86
 have HB := Aside0.mk (Below.refl w.heap.size w)
 have H : (some (a0_0, a0_1, a0_2)) = some (r1, r2, r3) := h
 clear h
 simp only [Option.some.injEq, Prod.mk.injEq] at H
 obtain ⟨rfl, rfl, rfl⟩ := H
 go_enter Tryd.func54, Tryd.ntmps54
 go_wp2_with (first | ((with_reducible refine gate_dst (N := 1) rfl ?_); refine box_event ?hg (N := 1) ?hd (cs := #[.string a0_0, .int .i64 a0_1, .int .i64 a0_2]) (t := 83) ?hr ?_; (case hd => rfl); (case hg => rfl); (case hr => first | (go_simp; done) | (go_simp; rfl)); intro gbz1 hg wz1 hbox hb; have BKz1 := Aside0.mk (hbox); have GWz1 := Aside0.mk ((sz_ : w.heap.size ≤ gbz1)); have GEz1 := Aside0.mk ((sz_ : w.heap.size ≤ gbz1)); replace HB := bw_ hb; clear hb hbox hg) | ((with_reducible refine gate_dst (N := 2) rfl ?_); refine box_event ?hg (N := 2) ?hd (cs := #[.string (⟨#[]⟩ : ByteArray), .int .i64 0, .int .i64 0]) (t := 86) ?hr ?_; (case hd => rfl); (case hg => rfl); (case hr => first | (go_simp; done) | (go_simp; rfl)); intro gbz2 hg wz2 hbox hb; have BKz2 := Aside0.mk (hbox); have GWz2 := Aside0.mk ((sz_ : w.heap.size ≤ gbz2)); have GEz2 := Aside0.mk ((sz_ : w.heap.size ≤ gbz2)); replace HB := bw_ hb; have NBz1 := Aside0.mk ((by rw [hg]; exact Nat.ne_of_lt (blk_lt (g := gbz1) (o := .cells #[.string a0_0, .int .i64 a0_1, .int .i64 a0_2] 83 (0, 0)) bk_) : gbz1 ≠ gbz2)); have NBz2 := Aside0.mk ((by rw [hg]; exact Nat.ne_of_gt (blk_lt (g := gbz1) (o := .cells #[.string a0_0, .int .i64 a0_1, .int .i64 a0_2] 83 (0, 0)) bk_) : gbz2 ≠ gbz1)); replace BKz1 := kb_ BKz1 hb; clear hb hbox hg) | ((with_reducible refine gate_dst (N := 3) rfl ?_); refine box_event ?hg (N := 3) ?hd (cs := #[.string (⟨#[]⟩ : ByteArray), .int .i64 0, .int .i64 0]) (t := 86) ?hr ?_; (case hd => rfl); (case hg => rfl); (case hr => first | (go_simp; done) | (go_simp; rfl)); intro gbz3 hg wz3 hbox hb; have nz1 := Aside0.mk (blk_below (g := gbz1) (o := .cells #[.string a0_0, .int .i64 a0_1, .int .i64 a0_2] 83 (0, 0)) bk_ hb); have nz2 := Aside0.mk (blk_below (g := gbz2) (o := .cells #[.string (⟨#[]⟩ : ByteArray), .int .i64 0, .int .i64 0] 86 (0, 0)) bk_ hb); have nz3 := bw_ hb; have nz4 := Aside0.mk (hbox); have nz5 := Aside0.mk ((sz_ : w.heap.size ≤ gbz3)); have nz6 := Aside0.mk ((sz_ : w.heap.size ≤ gbz3)); have nz7 := Aside0.mk ((by rw [hg]; exact Nat.ne_of_lt (blk_lt (g := gbz1) (o := .cells #[.string a0_0, .int .i64 a0_1, .int .i64 a0_2] 83 (0, 0)) bk_) : gbz1 ≠ gbz3)); have nz8 := Aside0.mk ((by rw [hg]; exact Nat.ne_of_gt (blk_lt (g := gbz1) (o := .cells #[.string a0_0, .int .i64 a0_1, .int .i64 a0_2] 83 (0, 0)) bk_) : gbz3 ≠ gbz1)); have nz9 := Aside0.mk ((by rw [hg]; exact Nat.ne_of_lt (blk_lt (g := gbz2) (o := .cells #[.string (⟨#[]⟩ : ByteArray), .int .i64 0, .int .i64 0] 86 (0, 0)) bk_) : gbz2 ≠ gbz3)); have nz10 := Aside0.mk ((by rw [hg]; exact Nat.ne_of_gt (blk_lt (g := gbz2) (o := .cells #[.string (⟨#[]⟩ : ByteArray), .int .i64 0, .int .i64 0] 86 (0, 0)) bk_) : gbz3 ≠ gbz2)); clear BKz1 BKz2 HB; have BKz1 := nz1; have BKz2 := nz2; have HB := nz3; have BKz3 := nz4; have GWz3 := nz5; have GEz3 := nz6; have NBz3 := nz7; have NBz4 := nz8; have NBz5 := nz9; have NBz6 := nz10; clear nz1 nz2 nz3 nz4 nz5 nz6 nz7 nz8 nz9 nz10 hb hbox hg; have hnbz1 := NBz1.out; have hncz1 := NBz2.out; have hnbz2 := NBz3.out; have hncz2 := NBz4.out; have hczz1 : wz3.cell? ⟨gbz1, 0, none⟩ = some (.string a0_0) := bc_ BKz1 0; have hczz2 : wz3.cell? ⟨gbz1, 1, none⟩ = some (.int .i64 a0_1) := bc_ BKz1 1; have hczz3 : wz3.cell? ⟨gbz1, 2, none⟩ = some (.int .i64 a0_2) := bc_ BKz1 2; have hfzz1 := blk_frozen BKz1.out 0; have hfzz2 := blk_frozen BKz1.out 1; have hfzz3 := blk_frozen BKz1.out 2; have hnbz3 := NBz6.out; have hncz3 := NBz5.out; have hczz4 : wz3.cell? ⟨gbz3, 0, none⟩ = some (.string (⟨#[]⟩ : ByteArray)) := bc_ BKz3 0; have hczz5 : wz3.cell? ⟨gbz3, 1, none⟩ = some (.int .i64 0) := bc_ BKz3 1; have hczz6 : wz3.cell? ⟨gbz3, 2, none⟩ = some (.int .i64 0) := bc_ BKz3 2; have hfzz4 := blk_frozen BKz3.out 0; have hfzz5 := blk_frozen BKz3.out 1; have hfzz6 := blk_frozen BKz3.out 2; have hczz7 : wz3.cell? ⟨gbz2, 0, none⟩ = some (.string (⟨#[]⟩ : ByteArray)) := bc_ BKz2 0; have hczz8 : wz3.cell? ⟨gbz2, 1, none⟩ = some (.int .i64 0) := bc_ BKz2 1; have hczz9 : wz3.cell? ⟨gbz2, 2, none⟩ = some (.int .i64 0) := bc_ BKz2 2; have hfzz7 := blk_frozen BKz2.out 0; have hfzz8 := blk_frozen BKz2.out 1; have hfzz9 := blk_frozen BKz2.out 2))
 refine bodyPost_ret (results_cell_row rfl _ _ gbz2 86 #[.string a0_0, .int .i64 a0_1, .int .i64 a0_2] (0, 0) _ rfl (by (with_reducible repeat (first | refine blk_drewN ?_ _ | refine blk_drew ?_ | refine blk_alloc ?_ _)); refine blk_put (cs := #[.string a0_0, .int .i64 a0_1, .int .i64 0]) ?_ 2 _ rfl; (with_reducible repeat (first | refine blk_drewN ?_ _ | refine blk_drew ?_ | refine blk_alloc ?_ _)); refine blk_put (cs := #[.string a0_0, .int .i64 0, .int .i64 0]) ?_ 1 _ rfl; (with_reducible repeat (first | refine blk_drewN ?_ _ | refine blk_drew ?_ | refine blk_alloc ?_ _)); refine blk_put (cs := #[.string (⟨#[]⟩ : ByteArray), .int .i64 0, .int .i64 0]) ?_ 0 _ rfl; (with_reducible repeat (first | refine blk_drewN ?_ _ | refine blk_drew ?_ | refine blk_alloc ?_ _)); refine blk_far ?_ NBz5.out _; (with_reducible repeat (first | refine blk_drewN ?_ _ | refine blk_drew ?_ | refine blk_alloc ?_ _)); refine blk_far ?_ NBz5.out _; (with_reducible repeat (first | refine blk_drewN ?_ _ | refine blk_drew ?_ | refine blk_alloc ?_ _)); refine blk_far ?_ NBz5.out _; (with_reducible repeat (first | refine blk_drewN ?_ _ | refine blk_drew ?_ | refine blk_alloc ?_ _)); exact BKz2.out) Tryd.underlying86 rfl (by kernel_rfl)) rfl ?_
 exact ⟨er_, be_⟩

def laws_toSubS.l0 : Nat → List (S83) → List (S86) → Int → Option ((List (S86)))
 | 0, _, _, _ => none
 | k + 1, x0, x3, x4 => if x4 < (x0.length : Int) then (if 0 ≤ x4 then ((laws_toSub.f ((rd_T83 x0 x4).f0) ((rd_T83 x0 x4).f1) ((rd_T83 x0 x4).f2)).bind fun bt242 => (if x4 < (x3.length : Int) then (laws_toSubS.l0 k x0 (x3.set (x4 : Int).toNat (⟨bt242.1, bt242.2.1, bt242.2.2⟩ : S86)) (wrap64 (x4 + 1))) else (none))) else (none)) else (some x3)
def laws_toSubS.f (k : Nat) (l0 : List (S83)) : Option ((List (S86))) := if 0 ≤ (l0.length : Int) then (if ((l0.length : Int) : Int).toNat ≤ 8796093022208 then (laws_toSubS.l0 k l0 (List.replicate ((l0.length : Int) : Int).toNat z86) 0) else (none)) else (none)
theorem laws_toSubS.calls (k : Nat) (A0 : Option Addr) (c0 : Nat) (l0 : List (S83)) (r : List (S86)) (w : World) (hr0 : Kd.C k83 w A0 l0.length l0) (hc0 : l0.length ≤ c0) (h : laws_toSubS.f k l0 = some r) :
  Calls Tryd.prog 29 #[.slice A0 l0.length c0] w fun e w' => ∃ v0_ : Value, e = .returned (v0_) ∧ Kd.R k86 86 w' w.heap.size (fun _ => True) v0_ r ∧ Below w.heap.size w w' := by
 have huz1 := Tryd.underlying83
 have huz2 := Tryd.underlying86
 have HRz1 := Aside0.mk hr0
 have HCz1 := Aside0.mk hc0
 clear hr0 hc0
 have HB := Aside0.mk (Below.refl w.heap.size w)
 have H : (if 0 ≤ (l0.length : Int) then (if ((l0.length : Int) : Int).toNat ≤ 8796093022208 then (laws_toSubS.l0 k l0 (List.replicate ((l0.length : Int) : Int).toNat z86) 0) else (none)) else (none)) = some r := h
 clear h
 by_cases cz1 : 0 ≤ (l0.length : Int)
 rotate_left
 ·rw [if_neg cz1] at H
  exact absurd H (by simp)
 rw [if_pos cz1] at H
 have cz2 := eq_true cz1
 have cz3 : decide (0 ≤ (l0.length : Int)) = true := decide_eq_true cz1
 clear cz1
 by_cases cz4 : ((l0.length : Int) : Int).toNat ≤ 8796093022208
 rotate_left
 ·rw [if_neg cz4] at H
  exact absurd H (by simp)
 rw [if_pos cz4] at H
 have cz5 := eq_true cz4
 have cz6 : decide (((l0.length : Int) : Int).toNat ≤ 8796093022208) = true := decide_eq_true cz4
 clear cz4
 obtain ⟨yz1, hyz1⟩ : ∃ y_ : List (S86), y_ = (List.replicate ((l0.length : Int) : Int).toNat z86) := ⟨_, rfl⟩
 (first | (with_reducible replace H := ys_ hyz1 H; (try dsimp only at H)) | rw [← hyz1] at H | skip)
 have Nyz1 := Aside0.mk hyz1
 clear hyz1
 have H' := Aside0.mk H
 clear H
 go_enter Tryd.func29, Tryd.ntmps29
 go_wp2_with (first | ((with_reducible refine gate_dst (N := 7) rfl ?_); refine Kd.R_make k86 _ 86 rfl (N := 7) rfl 31 _ _ rfl (l0.length : Int) rfl rfl Tryd.underlying31 (.agg #[(.string ⟨#[]⟩), (.int .i64 0), (.int .i64 0)]) 32 info86 rfl (by decide) (by omega) z86 (ok := fun _ => True) (okp := fun _ => True) (k86_mkM _ _ _ z86 ) (fun _ hk => hk) trivial (dt_) (Nat.le_trans (Nat.mul_le_mul_right _ (dt_ : (l0.length : Int).toNat ≤ 8796093022208)) (by omega)) (Below.refl _ _) (Nat.le_refl _) ?_; intro vz1 wz1 hoz1 hb hg_ hnew_; clear hg_ hnew_; (first | rw [← Nyz1.out] at hoz1 | (simp only [Int.reduceToNat] at hoz1; rw [← Nyz1.out] at hoz1)); have HOz1 := Aside0.mk (Kd.R_lower hoz1 (below_size be_)); replace HB := bw_ hb; clear hb hoz1))
 go_loopg [4] k (fun kq v4 w' => ∃ (x3_1 : List (S86)) (x4_1 : Int), v4 = .int .i64 x4_1 ∧ Aside0 (laws_toSubS.l0 kq l0 x3_1 x4_1 = some r) ∧ Aside0 (kq ≤ k) ∧ Aside0 (Kd.R k86 86 w' w.heap.size (fun _ => True) vz1 x3_1) ∧ Aside0 (Below w.heap.size w w'))
 case atStart => exact ⟨(yz1), (0), rs_, H', ⟨Nat.le_refl _⟩, ⟨lR_ HOz1.out⟩, ⟨be_⟩⟩
 case round =>
  clear H'
  obtain ⟨xz1, xz2, rfl, HA, HKz1, HO_3, HB⟩ := hrel
  cases gk with
  | zero => exact absurd HA.out (by simp [laws_toSubS.l0])
  | succ kz1 =>
   have H := HA.out
   clear HA
   simp only [laws_toSubS.l0] at H
   by_cases cz7 : xz2 < (l0.length : Int)
   rotate_left
   ·rw [if_neg cz7] at H
    have cz8 : decide (xz2 < (l0.length : Int)) = false := decide_eq_false cz7
    clear cz7
    obtain rfl := Option.some.inj H
    go_wp2
    go_ret
    exact ⟨_, er_, lR_ HO_3.out, be_⟩
   rw [if_pos cz7] at H
   have cz8 : decide (xz2 < (l0.length : Int)) = true := decide_eq_true cz7
   clear cz7
   by_cases cz9 : 0 ≤ xz2
   rotate_left
   ·rw [if_neg cz9] at H
    exact absurd H (by simp)
   rw [if_pos cz9] at H
   have cz10 : decide (0 ≤ xz2) = true := decide_eq_true cz9
   clear cz9
   replace H := bo_ H
   obtain ⟨⟨tz1, tz2, tz3⟩, Az2, H⟩ := H
   (try dsimp only at H)
   by_cases cz11 : xz2 < (xz1.length : Int)
   rotate_left
   ·rw [if_neg cz11] at H
    exact absurd H (by simp)
   rw [if_pos cz11] at H
   have cz12 : decide (xz2 < (xz1.length : Int)) = true := decide_eq_true cz11
   clear cz11
   obtain ⟨yz2, hyz2⟩ : ∃ y_ : List (S86), y_ = (xz1.set (xz2 : Int).toNat (⟨tz1, tz2, tz3⟩ : S86)) := ⟨_, rfl⟩
   (first | (with_reducible replace H := ys_ hyz2 H; (try dsimp only at H)) | rw [← hyz2] at H | skip)
   have Nyz2 := Aside0.mk hyz2
   clear hyz2
   have H' := Aside0.mk H
   clear H
   obtain ⟨pz1, qz1, adz1, ez1, hxz1, hxz2, hxz3⟩ := aa_ (at_T83 HRz1.out xz2)
   cases ez1
   replace hxz1 := cl_ HB hxz1
   replace hxz2 := cl_ HB hxz2
   replace hxz3 := cl_ HB hxz3
   go_wp2_with (first | ((with_reducible refine gate_callee (f := 54) rfl ?_); refine ca_ 20 Tryd.func54 #[.agg #[.string ((rd_T83 l0 xz2).f0), .int .i64 ((rd_T83 l0 xz2).f1), .int .i64 ((rd_T83 l0 xz2).f2)]] ?_; (with_reducible refine (laws_toSub.calls ((rd_T83 l0 xz2).f0) ((rd_T83 l0 xz2).f1) ((rd_T83 l0 xz2).f2) tz1 tz2 tz3 _ Az2.out).mono ?_); rintro e wz2 ⟨rfl, hb⟩; refine ⟨_, rfl, ?_⟩; replace HO_3 := bR_ HO_3 hb; replace HB := bw_ hb; clear hb; have pz2 : 0 ≤ (xz2 : Int) := dt_; have qz2 : (xz2 : Int) < ((xz1.length : Int) : Int) := dt_; obtain ⟨goz1, coz1, eoz1, gbz1, glz1, clz1, HGz1⟩ := Kd.R_form HO_3.out (by omega); (first | cases eoz1 | (injection eoz1 with ea_ en_ ec_; (first | subst ea_ | (injection ea_ with ea_; subst ea_)); subst ec_; clear en_)); have GBz1 := Aside0.mk gbz1; have GGz1 := Aside0.mk HGz1; clear gbz1 glz1 HGz1; obtain ⟨cez1, hclz1, hMz1, hccz1, hfrz1⟩ := Kd.R_elem HO_3.out z86 (xz2 : Int) pz2 qz2; obtain rfl := k86_openM hMz1; have hxz4 : wz2.cell? ⟨goz1, (xz2 : Int).toNat * 3, none⟩ = some (.string ((rd_T86 xz1 xz2).f0)) := hccz1 0 _ rfl; have hxz5 : wz2.cell? ⟨goz1, (xz2 : Int).toNat * 3 + 1, none⟩ = some (.int .i64 ((rd_T86 xz1 xz2).f1)) := hccz1 1 _ rfl; have hxz6 : wz2.cell? ⟨goz1, (xz2 : Int).toNat * 3 + 2, none⟩ = some (.int .i64 ((rd_T86 xz1 xz2).f2)) := hccz1 2 _ rfl; have hfz1 : wz2.frozen? ⟨goz1, (xz2 : Int).toNat * 3, none⟩ = false := hfrz1 0; have hfz2 : wz2.frozen? ⟨goz1, (xz2 : Int).toNat * 3 + 1, none⟩ = false := hfrz1 1; have hfz3 : wz2.frozen? ⟨goz1, (xz2 : Int).toNat * 3 + 2, none⟩ = false := hfrz1 2; clear hclz1 hccz1 hfrz1 hMz1; replace pz2 := eq_true pz2; replace qz2 := eq_true qz2; have HXz1 := Aside0.mk (show Kd.R k86 86 wz2 w.heap.size (fun _ => True) (.slice (some ⟨goz1, 0, none⟩) xz1.length coz1) xz1 from (lR_ HO_3.out)); obtain ⟨cez2, hclz2, hMz2, hccz2, hfrz2⟩ := Kd.R_elem HXz1.out z86 (xz2 : Int) (dt_) (by have h_ : (xz2 : Int) < ((xz1.length : Int) : Int) := dt_; first | exact h_ | (have e_ := (Kd.R_reads' HO_3.out).1; omega) | simpa using h_); obtain rfl := k86_openM hMz2; have HPz1 := Kd.R_seg HXz1.out (xz2 : Int) (dt_) (by have h_ : (xz2 : Int) < ((xz1.length : Int) : Int) := dt_; first | exact h_ | (have e_ := (Kd.R_reads' HO_3.out).1; omega) | simpa using h_) (seg := [.string tz1, .int .i64 tz2, .int .i64 tz3]) (j := 0) hclz2 hccz2 (show 3 ≤ 3 from by decide) (x' := (⟨tz1, tz2, tz3⟩ : S86)) (k86_mkM _ _ _ (⟨tz1, tz2, tz3⟩ : S86) ) (fun _ hk => hk); have hxz7 := hccz2 0 _ rfl; (try simp only [show (k86).sz = 3 from rfl, Nat.mul_one, Nat.add_zero] at hxz7); have hfz4 := hfrz2 0; (try simp only [show (k86).sz = 3 from rfl, Nat.mul_one, Nat.add_zero] at hfz4); have hxz8 := hccz2 1 _ rfl; (try simp only [show (k86).sz = 3 from rfl, Nat.mul_one, Nat.add_zero] at hxz8); have hfz5 := hfrz2 1; (try simp only [show (k86).sz = 3 from rfl, Nat.mul_one, Nat.add_zero] at hfz5); have hxz9 := hccz2 2 _ rfl; (try simp only [show (k86).sz = 3 from rfl, Nat.mul_one, Nat.add_zero] at hxz9); have hfz6 := hfrz2 2; (try simp only [show (k86).sz = 3 from rfl, Nat.mul_one, Nat.add_zero] at hfz6); clear hclz2 hccz2 hfrz2 hMz2) | ((with_reducible refine gate_store (t := 86) (p := 21) rfl ?_); refine store_event (t := 86) (p := 21) (v := ?vo_w13) (w1 := (((wz2.setCell ⟨goz1, (xz2 : Int).toNat * 3, none⟩ (.string tz1)).setCell ⟨goz1, (xz2 : Int).toNat * 3 + 1, none⟩ (.int .i64 tz2)).setCell ⟨goz1, (xz2 : Int).toNat * 3 + 2, none⟩ (.int .i64 tz3))) ?hg ?ho ?hn ?hr ?_; (case ho => rfl); (case hg => rfl); (case hn => rfl); (case hr => first | (go_simp; done) | (go_simp; rfl)); intro wz3 hw; have hg : wz2.grownBy wz3 (some goz1) := (by rw [hw]; exact HPz1.2); have hp_ : Kd.R k86 86 wz3 w.heap.size (fun _ => True) (.slice (some ⟨goz1, 0, none⟩) xz1.length coz1) yz2 := (by rw [hw, Nyz2.out]; exact HPz1.1); clear HPz1; replace HO_3 := Aside0.mk (hp_); replace HB := Aside0.mk ((by rw [hw]; exact below_set (below_set (below_set (HB.out) GBz1.out) GBz1.out) GBz1.out : Below w.heap.size w wz3)); clear hg hw hp_))
   go_roundg kz1
   case measure => have := HKz1.out; omega
   case rel => exact ⟨(yz2), (wrap64 (xz2 + 1)), rs_, H', ⟨by have := HKz1.out; omega⟩, ⟨lR_ HO_3.out⟩, ⟨be_⟩⟩

end Go.Proofs.YtggokdobijhdhaaDoor.P
