-- Printed by a program over the kit's print.py (mp.sh), several laws in one namespace.
import Derived.Test.YtggokdobijhdhaaDoorPx0
import Derived.Test.YtggokdobijhdhaaDoorS
import Derived.Test.YtggokdobijhdhaaDoorM2
namespace Go.Proofs.YtggokdobijhdhaaDoor.P
open Go.RowKit Go.Proofs.YtggokdobijhdhaaDoor.X Go.Proofs.YtggokdobijhdhaaDoorW.PrintWords Go.Proofs.YtggokdobijhdhaaDoorW.PrintLast Go.Proofs.YtggokdobijhdhaaDoorW.PrintMore
attribute [local go_sem] max2_int min2_int max_two min_two max_three min_three max_four min_four   -- for this text's walks alone
set_option maxHeartbeats 8000000
set_option maxRecDepth 100000
set_option linter.unusedVariables false
set_option linter.unusedSimpArgs false

def laws_toByteS.l0 : Nat → List Int → List Int → Int → Option (List Int)
 | 0, _, _, _ => none
 | k + 1, x0, x3, x4 => if x4 < (x0.length : Int) then (if 0 ≤ x4 then (if x4 < (x3.length : Int) then (laws_toByteS.l0 k x0 (x3.set (x4 : Int).toNat (rd x0 x4)) (wrap64 (x4 + 1))) else (none)) else (none)) else (some x3)
def laws_toByteS.f (k : Nat) (l0 : List Int) : Option (List Int) := if 0 ≤ (l0.length : Int) then (if ((l0.length : Int) : Int).toNat ≤ 281474976710656 then (laws_toByteS.l0 k l0 (List.replicate ((l0.length : Int) : Int).toNat 0) 0) else (none)) else (none)
theorem laws_toByteS.calls (k : Nat) (A0 : Option Addr) (c0 : Nat) (l0 : List Int) (r : List Int) (w : World) (hr0 : Kd.C (Kd.int .u8) w A0 l0.length l0) (hc0 : l0.length ≤ c0) (h : laws_toByteS.f k l0 = some r) :
  Calls Tryd.prog 77 #[.slice A0 l0.length c0] w fun e w' => ∃ v0_ : Value, e = .returned (v0_) ∧ Kd.R (Kd.int .u8) 5 w' w.heap.size (fun _ => True) v0_ r ∧ Below w.heap.size w w' := by
 have HRz1 := Aside0.mk hr0
 have HCz1 := Aside0.mk hc0
 clear hr0 hc0
 have HB := Aside0.mk (Below.refl w.heap.size w)
 have H : (if 0 ≤ (l0.length : Int) then (if ((l0.length : Int) : Int).toNat ≤ 281474976710656 then (laws_toByteS.l0 k l0 (List.replicate ((l0.length : Int) : Int).toNat 0) 0) else (none)) else (none)) = some r := h
 clear h
 by_cases cz1 : 0 ≤ (l0.length : Int)
 rotate_left
 ·rw [if_neg cz1] at H
  exact absurd H (by simp)
 rw [if_pos cz1] at H
 have cz2 := eq_true cz1
 have cz3 : decide (0 ≤ (l0.length : Int)) = true := decide_eq_true cz1
 clear cz1
 by_cases cz4 : ((l0.length : Int) : Int).toNat ≤ 281474976710656
 rotate_left
 ·rw [if_neg cz4] at H
  exact absurd H (by simp)
 rw [if_pos cz4] at H
 have cz5 := eq_true cz4
 have cz6 : decide (((l0.length : Int) : Int).toNat ≤ 281474976710656) = true := decide_eq_true cz4
 clear cz4
 obtain ⟨yz1, hyz1⟩ : ∃ y_ : List Int, y_ = (List.replicate ((l0.length : Int) : Int).toNat 0) := ⟨_, rfl⟩
 (first | (with_reducible replace H := ys_ hyz1 H; (try dsimp only at H)) | rw [← hyz1] at H | skip)
 have Nyz1 := Aside0.mk hyz1
 clear hyz1
 have H' := Aside0.mk H
 clear H
 go_enter Tryd.func77, Tryd.ntmps77
 go_wp2_with (first | ((with_reducible refine gate_dst (N := 7) rfl ?_); refine Kd.R_make (Kd.int .u8) _ 5 rfl (N := 7) rfl 75 _ _ rfl (l0.length : Int) rfl rfl Tryd.underlying75 (.int .u8 0) 1 info5 rfl (by decide) (by omega) 0 (ok := fun _ => True) (okp := fun _ => True) rfl (fun _ hk => hk) trivial (dt_) (Nat.le_trans (Nat.mul_le_mul_right _ (dt_ : (l0.length : Int).toNat ≤ 281474976710656)) (by omega)) (Below.refl _ _) (Nat.le_refl _) ?_; intro vz1 wz1 hoz1 hb hg_ hnew_; clear hg_ hnew_; (first | rw [← Nyz1.out] at hoz1 | (simp only [Int.reduceToNat] at hoz1; rw [← Nyz1.out] at hoz1)); have HOz1 := Aside0.mk (Kd.R_lower hoz1 (below_size be_)); replace HB := bw_ hb; clear hb hoz1))
 go_loopg [4] k (fun kq v4 w' => ∃ (x3_1 : List Int) (x4_1 : Int), v4 = .int .i64 x4_1 ∧ Aside0 (laws_toByteS.l0 kq l0 x3_1 x4_1 = some r) ∧ Aside0 (kq ≤ k) ∧ Aside0 (Kd.R (Kd.int .u8) 5 w' w.heap.size (fun _ => True) vz1 x3_1) ∧ Aside0 (Below w.heap.size w w'))
 case atStart => exact ⟨(yz1), (0), rs_, H', ⟨Nat.le_refl _⟩, ⟨lR_ HOz1.out⟩, ⟨be_⟩⟩
 case round =>
  clear H'
  obtain ⟨xz1, xz2, rfl, HA, HKz1, HO_3, HB⟩ := hrel
  cases gk with
  | zero => exact absurd HA.out (by simp [laws_toByteS.l0])
  | succ kz1 =>
   have H := HA.out
   clear HA
   simp only [laws_toByteS.l0] at H
   by_cases cz7 : xz2 < (l0.length : Int)
   rotate_left
   ·rw [if_neg cz7] at H
    have cz8 : decide (xz2 < (l0.length : Int)) = false := decide_eq_false cz7
    clear cz7
    obtain rfl := Option.some.inj H
    go_wp2
    go_ret
    exact ⟨_, er_, lR_ HO_3.out, be_⟩
   rw [if_pos cz7] at H
   have cz8 : decide (xz2 < (l0.length : Int)) = true := decide_eq_true cz7
   clear cz7
   by_cases cz9 : 0 ≤ xz2
   rotate_left
   ·rw [if_neg cz9] at H
    exact absurd H (by simp)
   rw [if_pos cz9] at H
   have cz10 : decide (0 ≤ xz2) = true := decide_eq_true cz9
   clear cz9
   by_cases cz11 : xz2 < (xz1.length : Int)
   rotate_left
   ·rw [if_neg cz11] at H
    exact absurd H (by simp)
   rw [if_pos cz11] at H
   have cz12 : decide (xz2 < (xz1.length : Int)) = true := decide_eq_true cz11
   clear cz11
   obtain ⟨yz2, hyz2⟩ : ∃ y_ : List Int, y_ = (xz1.set (xz2 : Int).toNat (rd l0 xz2)) := ⟨_, rfl⟩
   (first | (with_reducible replace H := ys_ hyz2 H; (try dsimp only at H)) | rw [← hyz2] at H | skip)
   have Nyz2 := Aside0.mk hyz2
   clear hyz2
   have H' := Aside0.mk H
   clear H
   have pz1 : 0 ≤ (xz2 : Int) := dt_
   have qz1 : xz2 < (l0.length : Int) := dt_
   obtain ⟨adz1, ez1, hxz1⟩ := Kd.at_int HRz1.out xz2 pz1 qz1
   cases ez1
   replace hxz1 := cl_ HB hxz1
   replace pz1 := eq_true pz1
   replace qz1 := eq_true qz1
   have pz2 : 0 ≤ (xz2 : Int) := dt_
   have qz2 : (xz2 : Int) < ((xz1.length : Int) : Int) := dt_
   obtain ⟨goz1, coz1, eoz1, gbz1, glz1, clz1, HGz1⟩ := Kd.R_form HO_3.out (by omega)
   (first | cases eoz1 | (injection eoz1 with ea_ en_ ec_; (first | subst ea_ | (injection ea_ with ea_; subst ea_)); subst ec_; clear en_))
   have GBz1 := Aside0.mk gbz1
   have GGz1 := Aside0.mk HGz1
   clear gbz1 glz1 HGz1
   obtain ⟨hxz2, hfz1⟩ := Kd.R_celln 0 HO_3.out (xz2 : Int) pz2 qz2
   replace pz2 := eq_true pz2
   replace qz2 := eq_true qz2
   have HPz1 := Kd.R_putg HO_3.out (xz2 : Int) (rd l0 xz2)
   go_wp2_with (first | ((with_reducible refine gate_store (t := 5) (p := 20) rfl ?_); refine store_event (t := 5) (p := 20) (v := ?vo_w11) (w1 := (wr.setCell ⟨goz1, (xz2 : Int).toNat, none⟩ (.int .u8 (rd l0 xz2)))) ?hg ?ho ?hn ?hr ?_; (case ho => rfl); (case hg => rfl); (case hn => rfl); (case hr => first | (go_simp; done) | (go_simp; rfl)); intro wz2 hw; have hg : wr.grownBy wz2 (some goz1) := (by rw [hw]; exact HPz1.2); have hp_ : Kd.R (Kd.int .u8) 5 wz2 w.heap.size (fun _ => True) (.slice (some ⟨goz1, 0, none⟩) xz1.length coz1) yz2 := (by rw [hw, Nyz2.out]; exact HPz1.1); clear HPz1; replace HO_3 := Aside0.mk (hp_); replace HB := Aside0.mk ((by rw [hw]; exact below_set (HB.out) GBz1.out : Below w.heap.size w wz2)); clear hg hw hp_))
   go_roundg kz1
   case measure => have := HKz1.out; omega
   case rel => exact ⟨(yz2), (wrap64 (xz2 + 1)), rs_, H', ⟨by have := HKz1.out; omega⟩, ⟨lR_ HO_3.out⟩, ⟨be_⟩⟩

def laws_toKept.f (k : Nat) (a0_0 : ByteArray) (l0_1 : List Int) (a0_2 : Int) : Option (ByteArray × List Int × Int) := (laws_toByteS.f k l0_1).bind fun t254 => (some (a0_0, t254, a0_2))
theorem laws_toKept.calls (k : Nat) (a0_0 : ByteArray) (A0_1 : Option Addr) (c0_1 : Nat) (l0_1 : List Int) (a0_2 : Int) (r1 : ByteArray) (r2 : List Int) (r3 : Int) (w : World) (hr0_1 : Kd.C (Kd.int .u8) w A0_1 l0_1.length l0_1) (hc0_1 : l0_1.length ≤ c0_1) (h : laws_toKept.f k a0_0 l0_1 a0_2 = some (r1, r2, r3)) :
  Calls Tryd.prog 60 #[.agg #[.string a0_0, .slice A0_1 l0_1.length c0_1, .int .i64 a0_2]] w fun e w' => ∃ v1_ : Value, e = .returned (.agg #[.string r1, v1_, .int .i64 r3]) ∧ Kd.R (Kd.int .u8) 5 w' w.heap.size (fun _ => True) v1_ r2 ∧ Below w.heap.size w w' := by
 have huz1 := Tryd.underlying92
 have huz2 := Tryd.underlying77
 have HRz1 := Aside0.mk hr0_1
 have HCz1 := Aside0.mk hc0_1
 clear hr0_1 hc0_1
 have HB := Aside0.mk (Below.refl w.heap.size w)
 have H : ((laws_toByteS.f k l0_1).bind fun t254 => (some (a0_0, t254, a0_2))) = some (r1, r2, r3) := h
 clear h
 replace H := bo_ H
 obtain ⟨tz1, Az2, H⟩ := H
 (try dsimp only at H)
 simp only [Option.some.injEq, Prod.mk.injEq] at H
 obtain ⟨rfl, rfl, rfl⟩ := H
 go_enter Tryd.func60, Tryd.ntmps60
 go_wp2_with (first | ((with_reducible refine gate_dst (N := 1) rfl ?_); refine box_event ?hg (N := 1) ?hd (cs := #[.string a0_0, .slice A0_1 l0_1.length c0_1, .int .i64 a0_2]) (t := 92) ?hr ?_; (case hd => rfl); (case hg => rfl); (case hr => first | (go_simp; done) | (go_simp; rfl)); intro gbz1 hg wz1 hbox hb; have BKz1 := Aside0.mk (hbox); have GWz1 := Aside0.mk ((sz_ : w.heap.size ≤ gbz1)); have GEz1 := Aside0.mk ((sz_ : w.heap.size ≤ gbz1)); replace HB := bw_ hb; clear hb hbox hg) | ((with_reducible refine gate_dst (N := 2) rfl ?_); refine box_event ?hg (N := 2) ?hd (cs := #[.string (⟨#[]⟩ : ByteArray), .slice none 0 0, .int .i64 0]) (t := 77) ?hr ?_; (case hd => rfl); (case hg => rfl); (case hr => first | (go_simp; done) | (go_simp; rfl)); intro gbz2 hg wz2 hbox hb; have BKz2 := Aside0.mk (hbox); have GWz2 := Aside0.mk ((sz_ : w.heap.size ≤ gbz2)); have GEz2 := Aside0.mk ((sz_ : w.heap.size ≤ gbz2)); replace HB := bw_ hb; have NBz1 := Aside0.mk ((by rw [hg]; exact Nat.ne_of_lt (blk_lt (g := gbz1) (o := .cells #[.string a0_0, .slice A0_1 l0_1.length c0_1, .int .i64 a0_2] 92 (0, 0)) bk_) : gbz1 ≠ gbz2)); have NBz2 := Aside0.mk ((by rw [hg]; exact Nat.ne_of_gt (blk_lt (g := gbz1) (o := .cells #[.string a0_0, .slice A0_1 l0_1.length c0_1, .int .i64 a0_2] 92 (0, 0)) bk_) : gbz2 ≠ gbz1)); replace BKz1 := kb_ BKz1 hb; clear hb hbox hg) | ((with_reducible refine gate_dst (N := 3) rfl ?_); refine box_event ?hg (N := 3) ?hd (cs := #[.string (⟨#[]⟩ : ByteArray), .slice none 0 0, .int .i64 0]) (t := 77) ?hr ?_; (case hd => rfl); (case hg => rfl); (case hr => first | (go_simp; done) | (go_simp; rfl)); intro gbz3 hg wz3 hbox hb; have nz1 := Aside0.mk (blk_below (g := gbz1) (o := .cells #[.string a0_0, .slice A0_1 l0_1.length c0_1, .int .i64 a0_2] 92 (0, 0)) bk_ hb); have nz2 := Aside0.mk (blk_below (g := gbz2) (o := .cells #[.string (⟨#[]⟩ : ByteArray), .slice none 0 0, .int .i64 0] 77 (0, 0)) bk_ hb); have nz3 := bw_ hb; have nz4 := Aside0.mk (hbox); have nz5 := Aside0.mk ((sz_ : w.heap.size ≤ gbz3)); have nz6 := Aside0.mk ((sz_ : w.heap.size ≤ gbz3)); have nz7 := Aside0.mk ((by rw [hg]; exact Nat.ne_of_lt (blk_lt (g := gbz1) (o := .cells #[.string a0_0, .slice A0_1 l0_1.length c0_1, .int .i64 a0_2] 92 (0, 0)) bk_) : gbz1 ≠ gbz3)); have nz8 := Aside0.mk ((by rw [hg]; exact Nat.ne_of_gt (blk_lt (g := gbz1) (o := .cells #[.string a0_0, .slice A0_1 l0_1.length c0_1, .int .i64 a0_2] 92 (0, 0)) bk_) : gbz3 ≠ gbz1)); have nz9 := Aside0.mk ((by rw [hg]; exact Nat.ne_of_lt (blk_lt (g := gbz2) (o := .cells #[.string (⟨#[]⟩ : ByteArray), .slice none 0 0, .int .i64 0] 77 (0, 0)) bk_) : gbz2 ≠ gbz3)); have nz10 := Aside0.mk ((by rw [hg]; exact Nat.ne_of_gt (blk_lt (g := gbz2) (o := .cells #[.string (⟨#[]⟩ : ByteArray), .slice none 0 0, .int .i64 0] 77 (0, 0)) bk_) : gbz3 ≠ gbz2)); clear BKz1 BKz2 HB; have BKz1 := nz1; have BKz2 := nz2; have HB := nz3; have BKz3 := nz4; have GWz3 := nz5; have GEz3 := nz6; have NBz3 := nz7; have NBz4 := nz8; have NBz5 := nz9; have NBz6 := nz10; clear nz1 nz2 nz3 nz4 nz5 nz6 nz7 nz8 nz9 nz10 hb hbox hg; have hnbz1 := NBz1.out; have hncz1 := NBz2.out; have hnbz2 := NBz3.out; have hncz2 := NBz4.out; have hczz1 : wz3.cell? ⟨gbz1, 0, none⟩ = some (.string a0_0) := bc_ BKz1 0; have hczz2 : wz3.cell? ⟨gbz1, 1, none⟩ = some (.slice A0_1 l0_1.length c0_1) := bc_ BKz1 1; have hczz3 : wz3.cell? ⟨gbz1, 2, none⟩ = some (.int .i64 a0_2) := bc_ BKz1 2; have hfzz1 := blk_frozen BKz1.out 0; have hfzz2 := blk_frozen BKz1.out 1; have hfzz3 := blk_frozen BKz1.out 2; have hnbz3 := NBz6.out; have hncz3 := NBz5.out; have hczz4 : wz3.cell? ⟨gbz3, 0, none⟩ = some (.string (⟨#[]⟩ : ByteArray)) := bc_ BKz3 0; have hczz5 : wz3.cell? ⟨gbz3, 1, none⟩ = some (.slice none 0 0) := bc_ BKz3 1; have hczz6 : wz3.cell? ⟨gbz3, 2, none⟩ = some (.int .i64 0) := bc_ BKz3 2; have hfzz4 := blk_frozen BKz3.out 0; have hfzz5 := blk_frozen BKz3.out 1; have hfzz6 := blk_frozen BKz3.out 2) | ((with_reducible refine gate_callee (f := 77) rfl ?_); refine ca_ 9 Tryd.func77 #[.slice A0_1 l0_1.length c0_1] ?_; (with_reducible refine (laws_toByteS.calls k _ _ l0_1 tz1 _ ?side1 ?side2 Az2.out).mono ?_); (case side1 => exact Kd.C_below HRz1.out be_); (case side2 => exact HCz1.out); rintro e wz4 ⟨vz1, rfl, hoz1, hb⟩; refine ⟨_, rfl, ?_⟩; have HOz1 := Aside0.mk (Kd.R_lower hoz1 (below_size be_)); replace HB := bw_ hb; replace BKz1 := Aside0.mk (blk_below (g := gbz1) (o := .cells #[.string a0_0, .slice A0_1 l0_1.length c0_1, .int .i64 a0_2] 92 (0, 0)) (by (with_reducible repeat (first | refine blk_drewN ?_ _ | refine blk_drew ?_ | refine blk_alloc ?_ _)); refine blk_far ?_ NBz3.out _; (with_reducible repeat (first | refine blk_drewN ?_ _ | refine blk_drew ?_ | refine blk_alloc ?_ _)); exact BKz1.out) hb); replace BKz2 := Aside0.mk (blk_below (g := gbz2) (o := .cells #[.string (⟨#[]⟩ : ByteArray), .slice none 0 0, .int .i64 0] 77 (0, 0)) (by (with_reducible repeat (first | refine blk_drewN ?_ _ | refine blk_drew ?_ | refine blk_alloc ?_ _)); refine blk_far ?_ NBz5.out _; (with_reducible repeat (first | refine blk_drewN ?_ _ | refine blk_drew ?_ | refine blk_alloc ?_ _)); exact BKz2.out) hb); replace BKz3 := Aside0.mk (blk_below (g := gbz3) (o := .cells #[.string a0_0, .slice none 0 0, .int .i64 0] 77 (0, 0)) (by (with_reducible repeat (first | refine blk_drewN ?_ _ | refine blk_drew ?_ | refine blk_alloc ?_ _)); refine blk_put (cs := #[.string (⟨#[]⟩ : ByteArray), .slice none 0 0, .int .i64 0]) ?_ 0 _ rfl; (with_reducible repeat (first | refine blk_drewN ?_ _ | refine blk_drew ?_ | refine blk_alloc ?_ _)); exact BKz3.out) hb); clear hb hoz1; obtain ⟨Aoz1, coz1, eoz1⟩ := Kd.R_slice HOz1.out; subst eoz1; have hczz7 : wz4.cell? ⟨gbz3, 0, none⟩ = some (.string a0_0) := bc_ BKz3 0; have hczz8 : wz4.cell? ⟨gbz3, 1, none⟩ = some (.slice none 0 0) := bc_ BKz3 1; have hczz9 : wz4.cell? ⟨gbz3, 2, none⟩ = some (.int .i64 0) := bc_ BKz3 2; have hfzz7 := blk_frozen BKz3.out 0; have hfzz8 := blk_frozen BKz3.out 1; have hfzz9 := blk_frozen BKz3.out 2; have hczz10 : wz4.cell? ⟨gbz1, 0, none⟩ = some (.string a0_0) := bc_ BKz1 0; have hczz11 : wz4.cell? ⟨gbz1, 1, none⟩ = some (.slice A0_1 l0_1.length c0_1) := bc_ BKz1 1; have hczz12 : wz4.cell? ⟨gbz1, 2, none⟩ = some (.int .i64 a0_2) := bc_ BKz1 2; have hfzz10 := blk_frozen BKz1.out 0; have hfzz11 := blk_frozen BKz1.out 1; have hfzz12 := blk_frozen BKz1.out 2; have hczz13 : wz4.cell? ⟨gbz2, 0, none⟩ = some (.string (⟨#[]⟩ : ByteArray)) := bc_ BKz2 0; have hczz14 : wz4.cell? ⟨gbz2, 1, none⟩ = some (.slice none 0 0) := bc_ BKz2 1; have hczz15 : wz4.cell? ⟨gbz2, 2, none⟩ = some (.int .i64 0) := bc_ BKz2 2; have hfzz13 := blk_frozen BKz2.out 0; have hfzz14 := blk_frozen BKz2.out 1; have hfzz15 := blk_frozen BKz2.out 2))
 refine bodyPost_ret (results_cell_row rfl _ _ gbz2 77 #[.string a0_0, .slice Aoz1 tz1.length coz1, .int .i64 a0_2] (0, 0) _ rfl (by (with_reducible repeat (first | refine blk_drewN ?_ _ | refine blk_drew ?_ | refine blk_alloc ?_ _)); refine blk_put (cs := #[.string a0_0, .slice Aoz1 tz1.length coz1, .int .i64 0]) ?_ 2 _ rfl; (with_reducible repeat (first | refine blk_drewN ?_ _ | refine blk_drew ?_ | refine blk_alloc ?_ _)); refine blk_put (cs := #[.string a0_0, .slice none 0 0, .int .i64 0]) ?_ 1 _ rfl; (with_reducible repeat (first | refine blk_drewN ?_ _ | refine blk_drew ?_ | refine blk_alloc ?_ _)); refine blk_put (cs := #[.string (⟨#[]⟩ : ByteArray), .slice none 0 0, .int .i64 0]) ?_ 0 _ rfl; (with_reducible repeat (first | refine blk_drewN ?_ _ | refine blk_drew ?_ | refine blk_alloc ?_ _)); refine blk_far ?_ NBz5.out _; (with_reducible repeat (first | refine blk_drewN ?_ _ | refine blk_drew ?_ | refine blk_alloc ?_ _)); refine blk_far ?_ NBz5.out _; (with_reducible repeat (first | refine blk_drewN ?_ _ | refine blk_drew ?_ | refine blk_alloc ?_ _)); exact BKz2.out) Tryd.underlying77 rfl (by kernel_rfl)) rfl ?_
 exact ⟨_, er_, lR_ (Kd.R_mono (Kd.R_far (p := ⟨gbz2, 2, none⟩) (Kd.R_far (p := ⟨gbz2, 1, none⟩) (Kd.R_far (p := ⟨gbz2, 0, none⟩) (Kd.R_far (p := ⟨gbz3, 2, none⟩) (Kd.R_far (p := ⟨gbz3, 1, none⟩) (Kd.R_types (Kd.R_types HOz1.out BKz3.out (by decide)) BKz2.out (by decide)) (fun _ hk => hk.1.2) (.slice Aoz1 tz1.length coz1)) (fun _ hk => hk.1.2) (.int .i64 a0_2)) (fun _ hk => hk.2) (.string a0_0)) (fun _ hk => hk.2) (.slice Aoz1 tz1.length coz1)) (fun _ hk => hk.2) (.int .i64 a0_2)) (fun _ hk => trivial)), be_⟩

def laws_toKeptS.l0 : Nat → List (S92) → List (S77) → Int → Option ((List (S77)))
 | 0, _, _, _ => none
 | k + 1, x0, x3, x4 => if x4 < (x0.length : Int) then (if 0 ≤ x4 then ((laws_toKept.f k ((rd_T92 x0 x4).f0) ((rd_T92 x0 x4).f1) ((rd_T92 x0 x4).f2)).bind fun bt261 => (if x4 < (x3.length : Int) then (laws_toKeptS.l0 k x0 (x3.set (x4 : Int).toNat (⟨bt261.1, bt261.2.1, bt261.2.2⟩ : S77)) (wrap64 (x4 + 1))) else (none))) else (none)) else (some x3)
def laws_toKeptS.f (k : Nat) (l0 : List (S92)) : Option ((List (S77))) := if 0 ≤ (l0.length : Int) then (if ((l0.length : Int) : Int).toNat ≤ 5864062014805 then (laws_toKeptS.l0 k l0 (List.replicate ((l0.length : Int) : Int).toNat z77) 0) else (none)) else (none)
theorem laws_toKeptS.calls (k : Nat) (A0 : Option Addr) (c0 : Nat) (l0 : List (S92)) (r : List (S77)) (w : World) (hr0 : Kd.C k92 w A0 l0.length l0) (hc0 : l0.length ≤ c0) (h : laws_toKeptS.f k l0 = some r) :
  Calls Tryd.prog 43 #[.slice A0 l0.length c0] w fun e w' => ∃ v0_ : Value, e = .returned (v0_) ∧ Kd.S k77 77 w' w.heap.size (fun _ => True) v0_ r ∧ Below w.heap.size w w' := by
 have huz1 := Tryd.underlying92
 have huz2 := Tryd.underlying77
 have HRz1 := Aside0.mk hr0
 have HCz1 := Aside0.mk hc0
 clear hr0 hc0
 have HB := Aside0.mk (Below.refl w.heap.size w)
 have H : (if 0 ≤ (l0.length : Int) then (if ((l0.length : Int) : Int).toNat ≤ 5864062014805 then (laws_toKeptS.l0 k l0 (List.replicate ((l0.length : Int) : Int).toNat z77) 0) else (none)) else (none)) = some r := h
 clear h
 by_cases cz1 : 0 ≤ (l0.length : Int)
 rotate_left
 ·rw [if_neg cz1] at H
  exact absurd H (by simp)
 rw [if_pos cz1] at H
 have cz2 := eq_true cz1
 have cz3 : decide (0 ≤ (l0.length : Int)) = true := decide_eq_true cz1
 clear cz1
 by_cases cz4 : ((l0.length : Int) : Int).toNat ≤ 5864062014805
 rotate_left
 ·rw [if_neg cz4] at H
  exact absurd H (by simp)
 rw [if_pos cz4] at H
 have cz5 := eq_true cz4
 have cz6 : decide (((l0.length : Int) : Int).toNat ≤ 5864062014805) = true := decide_eq_true cz4
 clear cz4
 obtain ⟨yz1, hyz1⟩ : ∃ y_ : List (S77), y_ = (List.replicate ((l0.length : Int) : Int).toNat z77) := ⟨_, rfl⟩
 (first | (with_reducible replace H := ys_ hyz1 H; (try dsimp only at H)) | rw [← hyz1] at H | skip)
 have Nyz1 := Aside0.mk hyz1
 clear hyz1
 have H' := Aside0.mk H
 clear H
 go_enter Tryd.func43, Tryd.ntmps43
 go_wp2_with (first | ((with_reducible refine gate_dst (N := 7) rfl ?_); refine Kd.S_make k77 _ 77 rfl (N := 7) rfl 45 _ _ rfl (l0.length : Int) rfl rfl Tryd.underlying45 (.agg #[(.string ⟨#[]⟩), (.slice none 0 0), (.int .i64 0)]) 48 info77 rfl (by decide) (by omega) z77 (ok := fun _ => True) (okp := fun _ => True) (k77_mkM _ _ _ z77 (Kd.R_nil _ _ _ _ _)) (fun _ hk => hk) trivial (dt_) (Nat.le_trans (Nat.mul_le_mul_right _ (dt_ : (l0.length : Int).toNat ≤ 5864062014805)) (by omega)) (Below.refl _ _) (Nat.le_refl _) ?_; intro vz1 wz1 hoz1 hb hg_ hnew_; clear hg_ hnew_; (first | rw [← Nyz1.out] at hoz1 | (simp only [Int.reduceToNat] at hoz1; rw [← Nyz1.out] at hoz1)); have HOz1 := Aside0.mk (Kd.S_lower hoz1 (below_size be_)); replace HB := bw_ hb; clear hb hoz1))
 go_loopg [4] k (fun kq v4 w' => ∃ (x3_1 : List (S77)) (x4_1 : Int), v4 = .int .i64 x4_1 ∧ Aside0 (laws_toKeptS.l0 kq l0 x3_1 x4_1 = some r) ∧ Aside0 (kq ≤ k) ∧ Aside0 (Kd.S k77 77 w' w.heap.size (fun _ => True) vz1 x3_1) ∧ Aside0 (Below w.heap.size w w'))
 case atStart => exact ⟨(yz1), (0), rs_, H', ⟨Nat.le_refl _⟩, ⟨lS_ HOz1.out⟩, ⟨be_⟩⟩
 case round =>
  clear H'
  obtain ⟨xz1, xz2, rfl, HA, HKz1, HO_3, HB⟩ := hrel
  cases gk with
  | zero => exact absurd HA.out (by simp [laws_toKeptS.l0])
  | succ kz1 =>
   have H := HA.out
   clear HA
   simp only [laws_toKeptS.l0] at H
   by_cases cz7 : xz2 < (l0.length : Int)
   rotate_left
   ·rw [if_neg cz7] at H
    have cz8 : decide (xz2 < (l0.length : Int)) = false := decide_eq_false cz7
    clear cz7
    obtain rfl := Option.some.inj H
    go_wp2
    go_ret
    exact ⟨_, er_, lS_ HO_3.out, be_⟩
   rw [if_pos cz7] at H
   have cz8 : decide (xz2 < (l0.length : Int)) = true := decide_eq_true cz7
   clear cz7
   by_cases cz9 : 0 ≤ xz2
   rotate_left
   ·rw [if_neg cz9] at H
    exact absurd H (by simp)
   rw [if_pos cz9] at H
   have cz10 : decide (0 ≤ xz2) = true := decide_eq_true cz9
   clear cz9
   replace H := bo_ H
   obtain ⟨⟨tz1, tz2, tz3⟩, Az2, H⟩ := H
   (try dsimp only at H)
   by_cases cz11 : xz2 < (xz1.length : Int)
   rotate_left
   ·rw [if_neg cz11] at H
    exact absurd H (by simp)
   rw [if_pos cz11] at H
   have cz12 : decide (xz2 < (xz1.length : Int)) = true := decide_eq_true cz11
   clear cz11
   obtain ⟨yz2, hyz2⟩ : ∃ y_ : List (S77), y_ = (xz1.set (xz2 : Int).toNat (⟨tz1, tz2, tz3⟩ : S77)) := ⟨_, rfl⟩
   (first | (with_reducible replace H := ys_ hyz2 H; (try dsimp only at H)) | rw [← hyz2] at H | skip)
   have Nyz2 := Aside0.mk hyz2
   clear hyz2
   have H' := Aside0.mk H
   clear H
   obtain ⟨pz1, qz1, adz1, Az3, cz13, ez1, hxz1, hxz2, hxz3, hlz1, hiz1⟩ := aa_ (at_T92 HRz1.out xz2)
   cases ez1
   replace hxz1 := cl_ HB hxz1
   replace hxz2 := cl_ HB hxz2
   replace hxz3 := cl_ HB hxz3
   have HRz2 := Aside0.mk hiz1
   have HCz2 := Aside0.mk hlz1
   clear hiz1 hlz1
   go_wp2_with (first | ((with_reducible refine gate_callee (f := 60) rfl ?_); refine ca_ 20 Tryd.func60 #[.agg #[.string ((rd_T92 l0 xz2).f0), .slice Az3 ((rd_T92 l0 xz2).f1).length cz13, .int .i64 ((rd_T92 l0 xz2).f2)]] ?_; (with_reducible refine (laws_toKept.calls kz1 ((rd_T92 l0 xz2).f0) _ _ ((rd_T92 l0 xz2).f1) ((rd_T92 l0 xz2).f2) tz1 tz2 tz3 _ ?side1 ?side2 Az2.out).mono ?_); (case side1 => exact Kd.C_below HRz2.out be_); (case side2 => exact HCz2.out); rintro e wz2 ⟨vz2, rfl, hoz2, hb⟩; refine ⟨_, rfl, ?_⟩; have one_v263 : vz2.oneCell' = true := (by first | (obtain ⟨_, _, e_⟩ := Kd.R_slice hoz2; rw [e_]; rfl) | (obtain ⟨_, _, e_⟩ := Kd.S_slice hoz2; rw [e_]; rfl) | (obtain ⟨_, _, e_⟩ := Kd.N_slice hoz2; rw [e_]; rfl)); replace HO_3 := eS_ HO_3 (Kd.R_base hoz2) hb; have HOz2 := Aside0.mk (Kd.R_lower hoz2 (below_size be_)); replace HB := bw_ hb; clear hb hoz2; have pz2 : 0 ≤ (xz2 : Int) := dt_; have qz2 : (xz2 : Int) < ((xz1.length : Int) : Int) := dt_; obtain ⟨goz1, coz1, eoz1, gbz1, glz1, clz1, HGz1⟩ := Kd.S_form HO_3.out (by omega); (first | cases eoz1 | (injection eoz1 with ea_ en_ ec_; (first | subst ea_ | (injection ea_ with ea_; subst ea_)); subst ec_; clear en_)); have GBz1 := Aside0.mk gbz1; have GGz1 := Aside0.mk HGz1; clear gbz1 glz1 HGz1; obtain ⟨_, cez1, hclz1, hMz1, hccz1, hfrz1, _, _⟩ := Kd.S_elem HO_3.out z77 (xz2 : Int) pz2 qz2; obtain ⟨vez1, rfl, gez1⟩ := k77_openM hMz1; have hxz4 : wz2.cell? ⟨goz1, (xz2 : Int).toNat * 3, none⟩ = some (.string ((rd_T77 xz1 xz2).f0)) := hccz1 0 _ rfl; have hxz5 : wz2.cell? ⟨goz1, (xz2 : Int).toNat * 3 + 1, none⟩ = some (vez1) := hccz1 1 _ rfl; have hxz6 : wz2.cell? ⟨goz1, (xz2 : Int).toNat * 3 + 2, none⟩ = some (.int .i64 ((rd_T77 xz1 xz2).f2)) := hccz1 2 _ rfl; have hfz1 : wz2.frozen? ⟨goz1, (xz2 : Int).toNat * 3, none⟩ = false := hfrz1 0; have hfz2 : wz2.frozen? ⟨goz1, (xz2 : Int).toNat * 3 + 1, none⟩ = false := hfrz1 1; have hfz3 : wz2.frozen? ⟨goz1, (xz2 : Int).toNat * 3 + 2, none⟩ = false := hfrz1 2; clear hclz1 hccz1 hfrz1 hMz1; replace pz2 := eq_true pz2; replace qz2 := eq_true qz2; have n_ := Aside0.mk (Kd.S_mono (ok' := (fun k_ => some k_ ≠ (vz2 : Value).ownBlock)) HO_3.out (fun k_ hk => hk.2)); clear HO_3; have HO_3 := n_; clear n_; have HXz1 := Aside0.mk (show Kd.S k77 77 wz2 w.heap.size (fun k_ => ((fun _ => True)) k_ ∧ ¬ ((fun k_ => some k_ = (vz2 : Value).ownBlock)) k_) (.slice (some ⟨goz1, 0, none⟩) xz1.length coz1) xz1 from (lS_ (Kd.S_mono HO_3.out (fun k_ hk => ⟨trivial, fun e_ => hk e_⟩)))); obtain ⟨okiz1, cez2, hclz2, hMz2, hccz2, hfrz2, hokiz1, hHz1⟩ := Kd.S_elem HXz1.out z77 (xz2 : Int) (dt_) (by have h_ : (xz2 : Int) < ((xz1.length : Int) : Int) := dt_; first | exact h_ | (have e_ := (Kd.S_reads' HO_3.out).1; omega) | simpa using h_); obtain ⟨vez2, rfl, gez2⟩ := k77_openM hMz2; have HPz1 := Kd.S_seg hHz1 (dt_) (by have h_ : (xz2 : Int) < ((xz1.length : Int) : Int) := dt_; first | exact h_ | (have e_ := (Kd.S_reads' HO_3.out).1; omega) | simpa using h_) (seg := [.string tz1, vz2, .int .i64 tz3]) (j := 0) (show 3 ≤ 3 from by decide) (x' := (⟨tz1, tz2, tz3⟩ : S77)) (k77_mkM _ _ _ (⟨tz1, tz2, tz3⟩ : S77) (Kd.R_mono (Kd.R_tight rfl (Kd.R_mono (ok' := fun k_ => ((fun _ => True)) k_ ∧ k_ ≠ goz1) (Kd.R_apart' (HOz2.out) (Kd.S_typed HO_3.out) (by decide)) (fun k_ hk => ⟨trivial, fun e_ => (hk.2) (by rw [e_]; rfl)⟩))) (fun _ h_ => Or.inr (h_)))) (fun _ hk => hk) (fun k_ hk_ => ((Kd.R_mono (ok' := fun k_ => ((fun _ => True)) k_ ∧ k_ ≠ goz1) (Kd.R_apart' (HOz2.out) (Kd.S_typed HO_3.out) (by decide)) (fun k_ hk => ⟨trivial, fun e_ => (hk.2) (by rw [e_]; rfl)⟩))).1 k_ hk_.symm); have hxz7 := hccz2 0 _ rfl; (try simp only [show (k77).sz = 3 from rfl, Nat.mul_one, Nat.add_zero] at hxz7); have hfz4 := hfrz2 0; (try simp only [show (k77).sz = 3 from rfl, Nat.mul_one, Nat.add_zero] at hfz4); have hxz8 := hccz2 1 _ rfl; (try simp only [show (k77).sz = 3 from rfl, Nat.mul_one, Nat.add_zero] at hxz8); have hfz5 := hfrz2 1; (try simp only [show (k77).sz = 3 from rfl, Nat.mul_one, Nat.add_zero] at hfz5); have hxz9 := hccz2 2 _ rfl; (try simp only [show (k77).sz = 3 from rfl, Nat.mul_one, Nat.add_zero] at hxz9); have hfz6 := hfrz2 2; (try simp only [show (k77).sz = 3 from rfl, Nat.mul_one, Nat.add_zero] at hfz6); clear hclz2 hccz2 hfrz2 hMz2 hokiz1 hHz1) | ((with_reducible refine gate_store (t := 77) (p := 21) rfl ?_); refine store_event (t := 77) (p := 21) (v := ?vo_w13) (w1 := (((wz2.setCell ⟨goz1, (xz2 : Int).toNat * 3, none⟩ (.string tz1)).setCell ⟨goz1, (xz2 : Int).toNat * 3 + 1, none⟩ (vz2)).setCell ⟨goz1, (xz2 : Int).toNat * 3 + 2, none⟩ (.int .i64 tz3))) ?hg ?ho ?hn ?hr ?_; (case ho => rfl); (case hg => rfl); (case hn => rfl); (case hr => first | (have rs_v263 := fun W_ (a_ : Addr) => run_store Tryd.prog W_ a_ vz2 .plain one_v263; go_simp; done) | (have rs_v263 := fun W_ (a_ : Addr) => run_store Tryd.prog W_ a_ vz2 .plain one_v263; go_simp; rfl) | (go_simp; done) | (go_simp; rfl)); intro wz3 hw; have hg : wz2.grownBy wz3 (some goz1) := (by rw [hw]; exact HPz1.2); have hp_ : Kd.S k77 77 wz3 w.heap.size (fun _ => True) (.slice (some ⟨goz1, 0, none⟩) xz1.length coz1) yz2 := (by rw [hw, Nyz2.out]; exact HPz1.1); clear HPz1; replace HO_3 := Aside0.mk (hp_); replace HB := Aside0.mk ((by rw [hw]; exact below_set (below_set (below_set (HB.out) GBz1.out) GBz1.out) GBz1.out : Below w.heap.size w wz3)); clear HOz2 hg hw hp_))
   go_roundg kz1
   case measure => have := HKz1.out; omega
   case rel => exact ⟨(yz2), (wrap64 (xz2 + 1)), rs_, H', ⟨by have := HKz1.out; omega⟩, ⟨lS_ HO_3.out⟩, ⟨be_⟩⟩

def laws_toRoot.f (k : Nat) (a0_0 : Int) (l0_1 : List ByteArray) (l0_2 : List (S26)) (l0_3 : List (S83)) (l0_4 : List (S92)) : Option (Int × List ByteArray × (List (S33)) × (List (S86)) × (List (S77))) := (laws_toNode.f k l0_1 l0_2 l0_3).bind fun bt270 => ((laws_toKeptS.f k l0_4).bind fun t279 => (some (a0_0, bt270.1, bt270.2.1, bt270.2.2, t279)))
theorem laws_toRoot.calls (k : Nat) (a0_0 : Int) (A0_1 : Option Addr) (c0_1 : Nat) (l0_1 : List ByteArray) (A0_2 : Option Addr) (c0_2 : Nat) (l0_2 : List (S26)) (A0_3 : Option Addr) (c0_3 : Nat) (l0_3 : List (S83)) (A0_4 : Option Addr) (c0_4 : Nat) (l0_4 : List (S92)) (r1 : Int) (r2 : List ByteArray) (r3 : List (S33)) (r4 : List (S86)) (r5 : List (S77)) (w : World) (hr0_1 : Kd.C Kd.string w A0_1 l0_1.length l0_1) (hc0_1 : l0_1.length ≤ c0_1) (hr0_2 : Kd.C k26 w A0_2 l0_2.length l0_2) (hc0_2 : l0_2.length ≤ c0_2) (hr0_3 : Kd.C k83 w A0_3 l0_3.length l0_3) (hc0_3 : l0_3.length ≤ c0_3) (hr0_4 : Kd.C k92 w A0_4 l0_4.length l0_4) (hc0_4 : l0_4.length ≤ c0_4) (h : laws_toRoot.f k a0_0 l0_1 l0_2 l0_3 l0_4 = some (r1, r2, r3, r4, r5)) :
  Calls Tryd.prog 17 #[.agg #[.int .i64 a0_0, .slice A0_1 l0_1.length c0_1, .slice A0_2 l0_2.length c0_2, .slice A0_3 l0_3.length c0_3, .slice A0_4 l0_4.length c0_4]] w fun e w' => ∃ v1_ v2_ v3_ v4_ : Value, e = .returned (.agg #[.int .i64 r1, v1_, v2_, v3_, v4_]) ∧ Kd.R Kd.string 9 w' w.heap.size (fun _ => True) v1_ r2 ∧ Kd.R k33 33 w' w.heap.size (fun k_ => some k_ ≠ (v1_ : Value).ownBlock ∧ some k_ ≠ (v3_ : Value).ownBlock) v2_ r3 ∧ Kd.R k86 86 w' w.heap.size (fun _ => True) v3_ r4 ∧ Kd.S k77 77 w' w.heap.size (fun _ => True) v4_ r5 ∧ Below w.heap.size w w' := by
 have huz1 := Tryd.underlying42
 have huz2 := Tryd.underlying47
 have huz3 := Tryd.underlying26
 have huz4 := Tryd.underlying33
 have HRz1 := Aside0.mk hr0_1
 have HCz1 := Aside0.mk hc0_1
 clear hr0_1 hc0_1
 have HRz2 := Aside0.mk hr0_2
 have HCz2 := Aside0.mk hc0_2
 clear hr0_2 hc0_2
 have HRz3 := Aside0.mk hr0_3
 have HCz3 := Aside0.mk hc0_3
 clear hr0_3 hc0_3
 have HRz4 := Aside0.mk hr0_4
 have HCz4 := Aside0.mk hc0_4
 clear hr0_4 hc0_4
 have HB := Aside0.mk (Below.refl w.heap.size w)
 have H : ((laws_toNode.f k l0_1 l0_2 l0_3).bind fun bt270 => ((laws_toKeptS.f k l0_4).bind fun t279 => (some (a0_0, bt270.1, bt270.2.1, bt270.2.2, t279)))) = some (r1, r2, r3, r4, r5) := h
 clear h
 replace H := bo_ H
 obtain ⟨⟨tz1, tz2, tz3⟩, Az2, H⟩ := H
 (try dsimp only at H)
 replace H := bo_ H
 obtain ⟨tz4, Az4, H⟩ := H
 (try dsimp only at H)
 simp only [Option.some.injEq, Prod.mk.injEq] at H
 obtain ⟨rfl, rfl, rfl, rfl, rfl⟩ := H
 go_enter Tryd.func17, Tryd.ntmps17
 go_wp2_with (first | ((with_reducible refine gate_dst (N := 1) rfl ?_); refine box_event ?hg (N := 1) ?hd (cs := #[.int .i64 a0_0, .slice A0_1 l0_1.length c0_1, .slice A0_2 l0_2.length c0_2, .slice A0_3 l0_3.length c0_3, .slice A0_4 l0_4.length c0_4]) (t := 42) ?hr ?_; (case hd => rfl); (case hg => rfl); (case hr => first | (go_simp; done) | (go_simp; rfl)); intro gbz1 hg wz1 hbox hb; have BKz1 := Aside0.mk (hbox); have GWz1 := Aside0.mk ((sz_ : w.heap.size ≤ gbz1)); have GEz1 := Aside0.mk ((sz_ : w.heap.size ≤ gbz1)); replace HB := bw_ hb; clear hb hbox hg) | ((with_reducible refine gate_dst (N := 2) rfl ?_); refine box_event ?hg (N := 2) ?hd (cs := #[.int .i64 0, .slice none 0 0, .slice none 0 0, .slice none 0 0, .slice none 0 0]) (t := 47) ?hr ?_; (case hd => rfl); (case hg => rfl); (case hr => first | (go_simp; done) | (go_simp; rfl)); intro gbz2 hg wz2 hbox hb; have BKz2 := Aside0.mk (hbox); have GWz2 := Aside0.mk ((sz_ : w.heap.size ≤ gbz2)); have GEz2 := Aside0.mk ((sz_ : w.heap.size ≤ gbz2)); replace HB := bw_ hb; have NBz1 := Aside0.mk ((by rw [hg]; exact Nat.ne_of_lt (blk_lt (g := gbz1) (o := .cells #[.int .i64 a0_0, .slice A0_1 l0_1.length c0_1, .slice A0_2 l0_2.length c0_2, .slice A0_3 l0_3.length c0_3, .slice A0_4 l0_4.length c0_4] 42 (0, 0)) bk_) : gbz1 ≠ gbz2)); have NBz2 := Aside0.mk ((by rw [hg]; exact Nat.ne_of_gt (blk_lt (g := gbz1) (o := .cells #[.int .i64 a0_0, .slice A0_1 l0_1.length c0_1, .slice A0_2 l0_2.length c0_2, .slice A0_3 l0_3.length c0_3, .slice A0_4 l0_4.length c0_4] 42 (0, 0)) bk_) : gbz2 ≠ gbz1)); replace BKz1 := kb_ BKz1 hb; clear hb hbox hg) | ((with_reducible refine gate_dst (N := 3) rfl ?_); refine box_event ?hg (N := 3) ?hd (cs := #[.int .i64 0, .slice none 0 0, .slice none 0 0, .slice none 0 0, .slice none 0 0]) (t := 47) ?hr ?_; (case hd => rfl); (case hg => rfl); (case hr => first | (go_simp; done) | (go_simp; rfl)); intro gbz3 hg wz3 hbox hb; have nz1 := Aside0.mk (blk_below (g := gbz1) (o := .cells #[.int .i64 a0_0, .slice A0_1 l0_1.length c0_1, .slice A0_2 l0_2.length c0_2, .slice A0_3 l0_3.length c0_3, .slice A0_4 l0_4.length c0_4] 42 (0, 0)) bk_ hb); have nz2 := Aside0.mk (blk_below (g := gbz2) (o := .cells #[.int .i64 0, .slice none 0 0, .slice none 0 0, .slice none 0 0, .slice none 0 0] 47 (0, 0)) bk_ hb); have nz3 := bw_ hb; have nz4 := Aside0.mk (hbox); have nz5 := Aside0.mk ((sz_ : w.heap.size ≤ gbz3)); have nz6 := Aside0.mk ((sz_ : w.heap.size ≤ gbz3)); have nz7 := Aside0.mk ((by rw [hg]; exact Nat.ne_of_lt (blk_lt (g := gbz1) (o := .cells #[.int .i64 a0_0, .slice A0_1 l0_1.length c0_1, .slice A0_2 l0_2.length c0_2, .slice A0_3 l0_3.length c0_3, .slice A0_4 l0_4.length c0_4] 42 (0, 0)) bk_) : gbz1 ≠ gbz3)); have nz8 := Aside0.mk ((by rw [hg]; exact Nat.ne_of_gt (blk_lt (g := gbz1) (o := .cells #[.int .i64 a0_0, .slice A0_1 l0_1.length c0_1, .slice A0_2 l0_2.length c0_2, .slice A0_3 l0_3.length c0_3, .slice A0_4 l0_4.length c0_4] 42 (0, 0)) bk_) : gbz3 ≠ gbz1)); have nz9 := Aside0.mk ((by rw [hg]; exact Nat.ne_of_lt (blk_lt (g := gbz2) (o := .cells #[.int .i64 0, .slice none 0 0, .slice none 0 0, .slice none 0 0, .slice none 0 0] 47 (0, 0)) bk_) : gbz2 ≠ gbz3)); have nz10 := Aside0.mk ((by rw [hg]; exact Nat.ne_of_gt (blk_lt (g := gbz2) (o := .cells #[.int .i64 0, .slice none 0 0, .slice none 0 0, .slice none 0 0, .slice none 0 0] 47 (0, 0)) bk_) : gbz3 ≠ gbz2)); clear BKz1 BKz2 HB; have BKz1 := nz1; have BKz2 := nz2; have HB := nz3; have BKz3 := nz4; have GWz3 := nz5; have GEz3 := nz6; have NBz3 := nz7; have NBz4 := nz8; have NBz5 := nz9; have NBz6 := nz10; clear nz1 nz2 nz3 nz4 nz5 nz6 nz7 nz8 nz9 nz10 hb hbox hg; have hnbz1 := NBz1.out; have hncz1 := NBz2.out; have hnbz2 := NBz3.out; have hncz2 := NBz4.out; have hczz1 : wz3.cell? ⟨gbz1, 0, none⟩ = some (.int .i64 a0_0) := bc_ BKz1 0; have hczz2 : wz3.cell? ⟨gbz1, 1, none⟩ = some (.slice A0_1 l0_1.length c0_1) := bc_ BKz1 1; have hczz3 : wz3.cell? ⟨gbz1, 2, none⟩ = some (.slice A0_2 l0_2.length c0_2) := bc_ BKz1 2; have hczz4 : wz3.cell? ⟨gbz1, 3, none⟩ = some (.slice A0_3 l0_3.length c0_3) := bc_ BKz1 3; have hczz5 : wz3.cell? ⟨gbz1, 4, none⟩ = some (.slice A0_4 l0_4.length c0_4) := bc_ BKz1 4; have hfzz1 := blk_frozen BKz1.out 0; have hfzz2 := blk_frozen BKz1.out 1; have hfzz3 := blk_frozen BKz1.out 2; have hfzz4 := blk_frozen BKz1.out 3; have hfzz5 := blk_frozen BKz1.out 4; have hnbz3 := NBz6.out; have hncz3 := NBz5.out; have hczz6 : wz3.cell? ⟨gbz3, 0, none⟩ = some (.int .i64 0) := bc_ BKz3 0; have hczz7 : wz3.cell? ⟨gbz3, 1, none⟩ = some (.slice none 0 0) := bc_ BKz3 1; have hczz8 : wz3.cell? ⟨gbz3, 2, none⟩ = some (.slice none 0 0) := bc_ BKz3 2; have hczz9 : wz3.cell? ⟨gbz3, 3, none⟩ = some (.slice none 0 0) := bc_ BKz3 3; have hczz10 : wz3.cell? ⟨gbz3, 4, none⟩ = some (.slice none 0 0) := bc_ BKz3 4; have hfzz6 := blk_frozen BKz3.out 0; have hfzz7 := blk_frozen BKz3.out 1; have hfzz8 := blk_frozen BKz3.out 2; have hfzz9 := blk_frozen BKz3.out 3; have hfzz10 := blk_frozen BKz3.out 4) | ((with_reducible refine gate_callee (f := 8) rfl ?_); refine ca_ 9 Tryd.func8 #[.agg #[.slice A0_1 l0_1.length c0_1, .slice A0_2 l0_2.length c0_2, .slice A0_3 l0_3.length c0_3]] ?_; (with_reducible refine (laws_toNode.calls k _ _ l0_1 _ _ l0_2 _ _ l0_3 tz1 tz2 tz3 _ ?side1 ?side2 ?side3 ?side4 ?side5 ?side6 Az2.out).mono ?_); (case side1 => exact Kd.C_below HRz1.out be_); (case side2 => exact HCz1.out); (case side3 => exact Kd.C_below HRz2.out be_); (case side4 => exact HCz2.out); (case side5 => exact Kd.C_below HRz3.out be_); (case side6 => exact HCz3.out); rintro e wz4 ⟨vz1, vz2, vz3, rfl, hoz1, hoz2, hoz3, hb⟩; refine ⟨_, rfl, ?_⟩; have HOz1 := Aside0.mk (Kd.R_lower hoz1 (below_size be_)); have HOz2 := Aside0.mk (Kd.R_lower hoz2 (below_size be_)); have HOz3 := Aside0.mk (Kd.R_lower hoz3 (below_size be_)); replace HB := bw_ hb; replace BKz1 := Aside0.mk (blk_below (g := gbz1) (o := .cells #[.int .i64 a0_0, .slice A0_1 l0_1.length c0_1, .slice A0_2 l0_2.length c0_2, .slice A0_3 l0_3.length c0_3, .slice A0_4 l0_4.length c0_4] 42 (0, 0)) (by (with_reducible repeat (first | refine blk_drewN ?_ _ | refine blk_drew ?_ | refine blk_alloc ?_ _)); refine blk_far ?_ NBz3.out _; (with_reducible repeat (first | refine blk_drewN ?_ _ | refine blk_drew ?_ | refine blk_alloc ?_ _)); exact BKz1.out) hb); replace BKz2 := Aside0.mk (blk_below (g := gbz2) (o := .cells #[.int .i64 0, .slice none 0 0, .slice none 0 0, .slice none 0 0, .slice none 0 0] 47 (0, 0)) (by (with_reducible repeat (first | refine blk_drewN ?_ _ | refine blk_drew ?_ | refine blk_alloc ?_ _)); refine blk_far ?_ NBz5.out _; (with_reducible repeat (first | refine blk_drewN ?_ _ | refine blk_drew ?_ | refine blk_alloc ?_ _)); exact BKz2.out) hb); replace BKz3 := Aside0.mk (blk_below (g := gbz3) (o := .cells #[.int .i64 a0_0, .slice none 0 0, .slice none 0 0, .slice none 0 0, .slice none 0 0] 47 (0, 0)) (by (with_reducible repeat (first | refine blk_drewN ?_ _ | refine blk_drew ?_ | refine blk_alloc ?_ _)); refine blk_put (cs := #[.int .i64 0, .slice none 0 0, .slice none 0 0, .slice none 0 0, .slice none 0 0]) ?_ 0 _ rfl; (with_reducible repeat (first | refine blk_drewN ?_ _ | refine blk_drew ?_ | refine blk_alloc ?_ _)); exact BKz3.out) hb); clear hb hoz1 hoz2 hoz3; obtain ⟨Aoz1, coz1, eoz1⟩ := Kd.R_slice HOz1.out; subst eoz1; have hczz11 : wz4.cell? ⟨gbz3, 0, none⟩ = some (.int .i64 a0_0) := bc_ BKz3 0; have hczz12 : wz4.cell? ⟨gbz3, 1, none⟩ = some (.slice none 0 0) := bc_ BKz3 1; have hczz13 : wz4.cell? ⟨gbz3, 2, none⟩ = some (.slice none 0 0) := bc_ BKz3 2; have hczz14 : wz4.cell? ⟨gbz3, 3, none⟩ = some (.slice none 0 0) := bc_ BKz3 3; have hczz15 : wz4.cell? ⟨gbz3, 4, none⟩ = some (.slice none 0 0) := bc_ BKz3 4; have hfzz11 := blk_frozen BKz3.out 0; have hfzz12 := blk_frozen BKz3.out 1; have hfzz13 := blk_frozen BKz3.out 2; have hfzz14 := blk_frozen BKz3.out 3; have hfzz15 := blk_frozen BKz3.out 4; obtain ⟨Aoz2, coz2, eoz2⟩ := Kd.R_slice HOz2.out; subst eoz2; obtain ⟨Aoz3, coz3, eoz3⟩ := Kd.R_slice HOz3.out; subst eoz3; have hczz16 : wz4.cell? ⟨gbz1, 0, none⟩ = some (.int .i64 a0_0) := bc_ BKz1 0; have hczz17 : wz4.cell? ⟨gbz1, 1, none⟩ = some (.slice A0_1 l0_1.length c0_1) := bc_ BKz1 1; have hczz18 : wz4.cell? ⟨gbz1, 2, none⟩ = some (.slice A0_2 l0_2.length c0_2) := bc_ BKz1 2; have hczz19 : wz4.cell? ⟨gbz1, 3, none⟩ = some (.slice A0_3 l0_3.length c0_3) := bc_ BKz1 3; have hczz20 : wz4.cell? ⟨gbz1, 4, none⟩ = some (.slice A0_4 l0_4.length c0_4) := bc_ BKz1 4; have hfzz16 := blk_frozen BKz1.out 0; have hfzz17 := blk_frozen BKz1.out 1; have hfzz18 := blk_frozen BKz1.out 2; have hfzz19 := blk_frozen BKz1.out 3; have hfzz20 := blk_frozen BKz1.out 4) | ((with_reducible refine gate_callee (f := 43) rfl ?_); refine ca_ 13 Tryd.func43 #[.slice A0_4 l0_4.length c0_4] ?_; (with_reducible refine (laws_toKeptS.calls k _ _ l0_4 tz4 _ ?side1 ?side2 Az4.out).mono ?_); (case side1 => exact Kd.C_below HRz4.out be_); (case side2 => exact HCz4.out); rintro e wz5 ⟨vz4, rfl, hoz1, hb⟩; refine ⟨_, rfl, ?_⟩; replace HOz1 := Aside0.mk (Kd.R_below (lR_ ((Kd.R_mono (Kd.R_far (p := ⟨gbz3, 3, none⟩) (Kd.R_far (p := ⟨gbz3, 2, none⟩) (Kd.R_far (p := ⟨gbz3, 1, none⟩) (Kd.R_types HOz1.out BKz3.out (by decide)) (fun _ hk => hk.2) (.slice Aoz1 tz1.length coz1)) (fun _ hk => hk.2) (.slice Aoz2 tz2.length coz2)) (fun _ hk => hk.2) (.slice Aoz3 tz3.length coz3)) (fun _ h_ => h_.1)))) hb); replace HOz2 := Aside0.mk (Kd.R_below (lR_ ((Kd.R_mono (Kd.R_far (p := ⟨gbz3, 3, none⟩) (Kd.R_far (p := ⟨gbz3, 2, none⟩) (Kd.R_far (p := ⟨gbz3, 1, none⟩) (Kd.R_types HOz2.out BKz3.out (by decide)) (fun _ hk => hk.2) (.slice Aoz1 tz1.length coz1)) (fun _ hk => hk.2) (.slice Aoz2 tz2.length coz2)) (fun _ hk => hk.2) (.slice Aoz3 tz3.length coz3)) (fun _ h_ => h_.1)))) hb); replace HOz3 := Aside0.mk (Kd.R_below (lR_ ((Kd.R_mono (Kd.R_far (p := ⟨gbz3, 3, none⟩) (Kd.R_far (p := ⟨gbz3, 2, none⟩) (Kd.R_far (p := ⟨gbz3, 1, none⟩) (Kd.R_types HOz3.out BKz3.out (by decide)) (fun _ hk => hk.2) (.slice Aoz1 tz1.length coz1)) (fun _ hk => hk.2) (.slice Aoz2 tz2.length coz2)) (fun _ hk => hk.2) (.slice Aoz3 tz3.length coz3)) (fun _ h_ => h_.1)))) hb); have HOz4 := Aside0.mk (Kd.S_lower hoz1 (below_size be_)); replace HB := bw_ hb; replace BKz1 := Aside0.mk (blk_below (g := gbz1) (o := .cells #[.int .i64 a0_0, .slice A0_1 l0_1.length c0_1, .slice A0_2 l0_2.length c0_2, .slice A0_3 l0_3.length c0_3, .slice A0_4 l0_4.length c0_4] 42 (0, 0)) (by (with_reducible repeat (first | refine blk_drewN ?_ _ | refine blk_drew ?_ | refine blk_alloc ?_ _)); refine blk_far ?_ NBz3.out _; (with_reducible repeat (first | refine blk_drewN ?_ _ | refine blk_drew ?_ | refine blk_alloc ?_ _)); refine blk_far ?_ NBz3.out _; (with_reducible repeat (first | refine blk_drewN ?_ _ | refine blk_drew ?_ | refine blk_alloc ?_ _)); refine blk_far ?_ NBz3.out _; (with_reducible repeat (first | refine blk_drewN ?_ _ | refine blk_drew ?_ | refine blk_alloc ?_ _)); exact BKz1.out) hb); replace BKz2 := Aside0.mk (blk_below (g := gbz2) (o := .cells #[.int .i64 0, .slice none 0 0, .slice none 0 0, .slice none 0 0, .slice none 0 0] 47 (0, 0)) (by (with_reducible repeat (first | refine blk_drewN ?_ _ | refine blk_drew ?_ | refine blk_alloc ?_ _)); refine blk_far ?_ NBz5.out _; (with_reducible repeat (first | refine blk_drewN ?_ _ | refine blk_drew ?_ | refine blk_alloc ?_ _)); refine blk_far ?_ NBz5.out _; (with_reducible repeat (first | refine blk_drewN ?_ _ | refine blk_drew ?_ | refine blk_alloc ?_ _)); refine blk_far ?_ NBz5.out _; (with_reducible repeat (first | refine blk_drewN ?_ _ | refine blk_drew ?_ | refine blk_alloc ?_ _)); exact BKz2.out) hb); replace BKz3 := Aside0.mk (blk_below (g := gbz3) (o := .cells #[.int .i64 a0_0, .slice Aoz1 tz1.length coz1, .slice Aoz2 tz2.length coz2, .slice Aoz3 tz3.length coz3, .slice none 0 0] 47 (0, 0)) (by (with_reducible repeat (first | refine blk_drewN ?_ _ | refine blk_drew ?_ | refine blk_alloc ?_ _)); refine blk_put (cs := #[.int .i64 a0_0, .slice Aoz1 tz1.length coz1, .slice Aoz2 tz2.length coz2, .slice none 0 0, .slice none 0 0]) ?_ 3 _ rfl; (with_reducible repeat (first | refine blk_drewN ?_ _ | refine blk_drew ?_ | refine blk_alloc ?_ _)); refine blk_put (cs := #[.int .i64 a0_0, .slice Aoz1 tz1.length coz1, .slice none 0 0, .slice none 0 0, .slice none 0 0]) ?_ 2 _ rfl; (with_reducible repeat (first | refine blk_drewN ?_ _ | refine blk_drew ?_ | refine blk_alloc ?_ _)); refine blk_put (cs := #[.int .i64 a0_0, .slice none 0 0, .slice none 0 0, .slice none 0 0, .slice none 0 0]) ?_ 1 _ rfl; (with_reducible repeat (first | refine blk_drewN ?_ _ | refine blk_drew ?_ | refine blk_alloc ?_ _)); exact BKz3.out) hb); clear hb hoz1; obtain ⟨Aoz4, coz4, eoz4⟩ := Kd.S_slice HOz4.out; subst eoz4; have hczz21 : wz5.cell? ⟨gbz3, 0, none⟩ = some (.int .i64 a0_0) := bc_ BKz3 0; have hczz22 : wz5.cell? ⟨gbz3, 1, none⟩ = some (.slice Aoz1 tz1.length coz1) := bc_ BKz3 1; have hczz23 : wz5.cell? ⟨gbz3, 2, none⟩ = some (.slice Aoz2 tz2.length coz2) := bc_ BKz3 2; have hczz24 : wz5.cell? ⟨gbz3, 3, none⟩ = some (.slice Aoz3 tz3.length coz3) := bc_ BKz3 3; have hczz25 : wz5.cell? ⟨gbz3, 4, none⟩ = some (.slice none 0 0) := bc_ BKz3 4; have hfzz21 := blk_frozen BKz3.out 0; have hfzz22 := blk_frozen BKz3.out 1; have hfzz23 := blk_frozen BKz3.out 2; have hfzz24 := blk_frozen BKz3.out 3; have hfzz25 := blk_frozen BKz3.out 4; have hczz26 : wz5.cell? ⟨gbz2, 0, none⟩ = some (.int .i64 0) := bc_ BKz2 0; have hczz27 : wz5.cell? ⟨gbz2, 1, none⟩ = some (.slice none 0 0) := bc_ BKz2 1; have hczz28 : wz5.cell? ⟨gbz2, 2, none⟩ = some (.slice none 0 0) := bc_ BKz2 2; have hczz29 : wz5.cell? ⟨gbz2, 3, none⟩ = some (.slice none 0 0) := bc_ BKz2 3; have hczz30 : wz5.cell? ⟨gbz2, 4, none⟩ = some (.slice none 0 0) := bc_ BKz2 4; have hfzz26 := blk_frozen BKz2.out 0; have hfzz27 := blk_frozen BKz2.out 1; have hfzz28 := blk_frozen BKz2.out 2; have hfzz29 := blk_frozen BKz2.out 3; have hfzz30 := blk_frozen BKz2.out 4))
 refine bodyPost_ret (results_cell_row rfl _ _ gbz2 47 #[.int .i64 a0_0, .slice Aoz1 tz1.length coz1, .slice Aoz2 tz2.length coz2, .slice Aoz3 tz3.length coz3, .slice Aoz4 tz4.length coz4] (0, 0) _ rfl (by (with_reducible repeat (first | refine blk_drewN ?_ _ | refine blk_drew ?_ | refine blk_alloc ?_ _)); refine blk_put (cs := #[.int .i64 a0_0, .slice Aoz1 tz1.length coz1, .slice Aoz2 tz2.length coz2, .slice Aoz3 tz3.length coz3, .slice none 0 0]) ?_ 4 _ rfl; (with_reducible repeat (first | refine blk_drewN ?_ _ | refine blk_drew ?_ | refine blk_alloc ?_ _)); refine blk_put (cs := #[.int .i64 a0_0, .slice Aoz1 tz1.length coz1, .slice Aoz2 tz2.length coz2, .slice none 0 0, .slice none 0 0]) ?_ 3 _ rfl; (with_reducible repeat (first | refine blk_drewN ?_ _ | refine blk_drew ?_ | refine blk_alloc ?_ _)); refine blk_put (cs := #[.int .i64 a0_0, .slice Aoz1 tz1.length coz1, .slice none 0 0, .slice none 0 0, .slice none 0 0]) ?_ 2 _ rfl; (with_reducible repeat (first | refine blk_drewN ?_ _ | refine blk_drew ?_ | refine blk_alloc ?_ _)); refine blk_put (cs := #[.int .i64 a0_0, .slice none 0 0, .slice none 0 0, .slice none 0 0, .slice none 0 0]) ?_ 1 _ rfl; (with_reducible repeat (first | refine blk_drewN ?_ _ | refine blk_drew ?_ | refine blk_alloc ?_ _)); refine blk_put (cs := #[.int .i64 0, .slice none 0 0, .slice none 0 0, .slice none 0 0, .slice none 0 0]) ?_ 0 _ rfl; (with_reducible repeat (first | refine blk_drewN ?_ _ | refine blk_drew ?_ | refine blk_alloc ?_ _)); refine blk_far ?_ NBz5.out _; (with_reducible repeat (first | refine blk_drewN ?_ _ | refine blk_drew ?_ | refine blk_alloc ?_ _)); exact BKz2.out) Tryd.underlying47 rfl (by kernel_rfl)) rfl ?_
 exact ⟨_, _, _, _, er_, lR_ (Kd.R_mono (Kd.R_far (p := ⟨gbz2, 4, none⟩) (Kd.R_far (p := ⟨gbz2, 3, none⟩) (Kd.R_far (p := ⟨gbz2, 2, none⟩) (Kd.R_far (p := ⟨gbz2, 1, none⟩) (Kd.R_far (p := ⟨gbz2, 0, none⟩) (Kd.R_far (p := ⟨gbz3, 4, none⟩) (Kd.R_types (Kd.R_types HOz1.out BKz3.out (by decide)) BKz2.out (by decide)) (fun _ hk => hk.1.2) (.slice Aoz4 tz4.length coz4)) (fun _ hk => hk.2) (.int .i64 a0_0)) (fun _ hk => hk.2) (.slice Aoz1 tz1.length coz1)) (fun _ hk => hk.2) (.slice Aoz2 tz2.length coz2)) (fun _ hk => hk.2) (.slice Aoz3 tz3.length coz3)) (fun _ hk => hk.2) (.slice Aoz4 tz4.length coz4)) (fun _ hk => trivial)), lR_ (Kd.R_mono (Kd.R_far (p := ⟨gbz2, 4, none⟩) (Kd.R_far (p := ⟨gbz2, 3, none⟩) (Kd.R_far (p := ⟨gbz2, 2, none⟩) (Kd.R_far (p := ⟨gbz2, 1, none⟩) (Kd.R_far (p := ⟨gbz2, 0, none⟩) (Kd.R_far (p := ⟨gbz3, 4, none⟩) (Kd.R_types (Kd.R_types HOz2.out BKz3.out (by decide)) BKz2.out (by decide)) (fun _ hk => hk.1.2) (.slice Aoz4 tz4.length coz4)) (fun _ hk => hk.2) (.int .i64 a0_0)) (fun _ hk => hk.2) (.slice Aoz1 tz1.length coz1)) (fun _ hk => hk.2) (.slice Aoz2 tz2.length coz2)) (fun _ hk => hk.2) (.slice Aoz3 tz3.length coz3)) (fun _ hk => hk.2) (.slice Aoz4 tz4.length coz4)) (fun _ hk => ⟨hk.1.1.1, hk.1.1.2⟩)), lR_ (Kd.R_mono (Kd.R_far (p := ⟨gbz2, 4, none⟩) (Kd.R_far (p := ⟨gbz2, 3, none⟩) (Kd.R_far (p := ⟨gbz2, 2, none⟩) (Kd.R_far (p := ⟨gbz2, 1, none⟩) (Kd.R_far (p := ⟨gbz2, 0, none⟩) (Kd.R_far (p := ⟨gbz3, 4, none⟩) (Kd.R_types (Kd.R_types HOz3.out BKz3.out (by decide)) BKz2.out (by decide)) (fun _ hk => hk.1.2) (.slice Aoz4 tz4.length coz4)) (fun _ hk => hk.2) (.int .i64 a0_0)) (fun _ hk => hk.2) (.slice Aoz1 tz1.length coz1)) (fun _ hk => hk.2) (.slice Aoz2 tz2.length coz2)) (fun _ hk => hk.2) (.slice Aoz3 tz3.length coz3)) (fun _ hk => hk.2) (.slice Aoz4 tz4.length coz4)) (fun _ hk => trivial)), lS_ (Kd.S_mono (Kd.S_far (p := ⟨gbz2, 4, none⟩) (Kd.S_far (p := ⟨gbz2, 3, none⟩) (Kd.S_far (p := ⟨gbz2, 2, none⟩) (Kd.S_far (p := ⟨gbz2, 1, none⟩) (Kd.S_far (p := ⟨gbz2, 0, none⟩) (Kd.S_far (p := ⟨gbz3, 4, none⟩) (Kd.S_types (Kd.S_types HOz4.out BKz3.out (by decide)) BKz2.out (by decide)) (fun _ hk => hk.1.2) (.slice Aoz4 tz4.length coz4)) (fun _ hk => hk.2) (.int .i64 a0_0)) (fun _ hk => hk.2) (.slice Aoz1 tz1.length coz1)) (fun _ hk => hk.2) (.slice Aoz2 tz2.length coz2)) (fun _ hk => hk.2) (.slice Aoz3 tz3.length coz3)) (fun _ hk => hk.2) (.slice Aoz4 tz4.length coz4)) (fun _ hk => trivial)), be_⟩

end Go.Proofs.YtggokdobijhdhaaDoor.P
