-- Printed by a program over the kit's print.py (mp.sh), several laws in one namespace.
import Derived.Test.YtpigbffaacilfaaDoorPx0
import Derived.Test.YtpigbffaacilfaaDoorS
namespace Go.Proofs.YtpigbffaacilfaaDoor.P
open Go.RowKit Go.Proofs.YtpigbffaacilfaaDoor.X Go.Proofs.YtpigbffaacilfaaDoorW.PrintWords Go.Proofs.YtpigbffaacilfaaDoorW.PrintLast Go.Proofs.YtpigbffaacilfaaDoorW.PrintMore
attribute [local go_sem] max2_int min2_int max_two min_two max_three min_three max_four min_four   -- for this text's walks alone
set_option linter.unusedVariables false
set_option linter.unusedSimpArgs false

def laws_toByteS.l0 : Nat → List Int → List Int → Int → Option (List Int)
  | 0, _, _, _ => none
  | k + 1, x0, x3, x4 => if x4 < (x0.length : Int) then (if 0 ≤ x4 then (if x4 < (x3.length : Int) then (laws_toByteS.l0 k x0 (x3.set (x4 : Int).toNat (rd x0 x4)) (wrap64 (x4 + 1))) else (none)) else (none)) else (some x3)
def laws_toByteS.f (k : Nat) (l0 : List Int) : Option (List Int) := if 0 ≤ (l0.length : Int) then (if ((l0.length : Int) : Int).toNat ≤ 281474976710656 then (laws_toByteS.l0 k l0 (List.replicate ((l0.length : Int) : Int).toNat 0) 0) else (none)) else (none)
theorem laws_toByteS.mono_l : ∀ k, (∀ y0 y1 y2, LeO (laws_toByteS.l0 k y0 y1 y2) (laws_toByteS.l0 (k + 1) y0 y1 y2))
  | 0 => fun _ _ _ r h => by simp [laws_toByteS.l0] at h
  | k + 1 => by
    have ih0 := laws_toByteS.mono_l k
    · intro y0 y1 y2
      unfold laws_toByteS.l0
      repeat' first
      | (with_reducible exact ih0 _ _ _)
      | (with_reducible exact LeO.refl _)
      | (with_reducible exact LeO.none _)
      | (with_reducible refine LeO.ite ?_ ?_)
      | (with_reducible refine LeO.bind ?_ (fun _ => ?_))
      | exact ih0 _ _ _
      | exact LeO.none _
      | refine LeO.ite ?_ ?_
      | refine LeO.bind ?_ (fun _ => ?_)
theorem laws_toByteS.mono : ∀ a0 k, LeO (laws_toByteS.f k a0) (laws_toByteS.f (k + 1) a0) := by
  intro a0 k
  have ih0 := laws_toByteS.mono_l k
  unfold laws_toByteS.f
  repeat' first
      | (with_reducible exact ih0 _ _ _)
      | (with_reducible exact LeO.refl _)
      | (with_reducible exact LeO.none _)
      | (with_reducible refine LeO.ite ?_ ?_)
      | (with_reducible refine LeO.bind ?_ (fun _ => ?_))
      | exact ih0 _ _ _
      | exact LeO.none _
      | refine LeO.ite ?_ ?_
      | refine LeO.bind ?_ (fun _ => ?_)
set_option maxHeartbeats 8000000 in
set_option maxRecDepth 100000 in
theorem laws_toByteS.calls (k : Nat) (A0 : Option Addr) (c0 : Nat) (l0 : List Int) (r : List Int) (w : World) (hr0 : Kd.C (Kd.int .u8) w A0 l0.length l0) (hc0 : l0.length ≤ c0) (h : laws_toByteS.f k l0 = some r) :
    Calls Tryd.prog 8 #[.slice A0 l0.length c0] w fun e w' => ∃ v0_ : Value, e = .returned (v0_) ∧ Kd.R (Kd.int .u8) 5 w' w.heap.size (fun _ => True) v0_ r ∧ Below w.heap.size w w' := by
  have HRz1 := Aside0.mk hr0
  have HCz1 := Aside0.mk hc0
  clear hr0 hc0
  have HB := Aside0.mk (Below.refl w.heap.size w)
  have H : (if 0 ≤ (l0.length : Int) then (if ((l0.length : Int) : Int).toNat ≤ 281474976710656 then (laws_toByteS.l0 k l0 (List.replicate ((l0.length : Int) : Int).toNat 0) 0) else (none)) else (none)) = some r := h
  clear h
  by_cases cz1 : 0 ≤ (l0.length : Int)
  rotate_left
  · rw [if_neg cz1] at H
    exact absurd H (by simp)
  rw [if_pos cz1] at H
  have cz2 := eq_true cz1
  have cz3 : decide (0 ≤ (l0.length : Int)) = true := decide_eq_true cz1
  clear cz1
  by_cases cz4 : ((l0.length : Int) : Int).toNat ≤ 281474976710656
  rotate_left
  · rw [if_neg cz4] at H
    exact absurd H (by simp)
  rw [if_pos cz4] at H
  have cz5 := eq_true cz4
  have cz6 : decide (((l0.length : Int) : Int).toNat ≤ 281474976710656) = true := decide_eq_true cz4
  clear cz4
  obtain ⟨yz1, hyz1⟩ : ∃ y_ : List Int, y_ = (List.replicate ((l0.length : Int) : Int).toNat 0) := ⟨_, rfl⟩
  (first | (with_reducible replace H := ys_ hyz1 H; (try dsimp only at H)) | rw [← hyz1] at H | skip)
  have Nyz1 := Aside0.mk hyz1
  clear hyz1
  have H' := Aside0.mk H
  clear H
  go_enter Tryd.func8, Tryd.ntmps8
  go_wp2_with (first | ((with_reducible refine gate_dst (N := 7) rfl ?_); refine Kd.R_make (Kd.int .u8) _ 5 rfl (N := 7) rfl 23 _ _ rfl (l0.length : Int) rfl rfl Tryd.underlying23 (.int .u8 0) 1 info5 rfl (by decide) (by omega) 0 (ok := fun _ => True) (okp := fun _ => True) rfl (fun _ hk => hk) trivial (dt_) (Nat.le_trans (Nat.mul_le_mul_right _ (dt_ : (l0.length : Int).toNat ≤ 281474976710656)) (by omega)) (Below.refl _ _) (Nat.le_refl _) ?_; intro vz1 wz1 hoz1 hb hg_ hnew_; clear hg_ hnew_; (first | rw [← Nyz1.out] at hoz1 | (simp only [Int.reduceToNat] at hoz1; rw [← Nyz1.out] at hoz1)); have HOz1 := Aside0.mk (Kd.R_lower hoz1 (below_size be_)); replace HB := bw_ hb; clear hb hoz1))
  go_loopg [4] k (fun kq v4 w' => ∃ (x3_1 : List Int) (x4_1 : Int), v4 = .int .i64 x4_1 ∧ Aside0 (laws_toByteS.l0 kq l0 x3_1 x4_1 = some r) ∧ Aside0 (kq ≤ k) ∧ Aside0 (Kd.R (Kd.int .u8) 5 w' w.heap.size (fun _ => True) vz1 x3_1) ∧ Aside0 (Below w.heap.size w w'))
  case atStart => exact ⟨(yz1), (0), rs_, H', ⟨Nat.le_refl _⟩, ⟨lR_ HOz1.out⟩, ⟨be_⟩⟩
  case round =>
    clear H'
    try clear cz1
    try clear cz2
    try clear cz3
    try clear p2
    try clear cz4
    try clear cz5
    try clear cz6
    obtain ⟨xz1, xz2, rfl, HA, HKz1, HO_3, HB⟩ := hrel
    cases gk with
    | zero => exact absurd HA.out (by simp [laws_toByteS.l0])
    | succ kz1 =>
      have H := HA.out
      clear HA
      simp only [laws_toByteS.l0] at H
      by_cases cz7 : xz2 < (l0.length : Int)
      rotate_left
      · rw [if_neg cz7] at H
        have cz8 : decide (xz2 < (l0.length : Int)) = false := decide_eq_false cz7
        clear cz7
        obtain rfl := Option.some.inj H
        go_wp2
        go_ret
        exact ⟨_, er_, lR_ HO_3.out, be_⟩
      rw [if_pos cz7] at H
      have cz8 : decide (xz2 < (l0.length : Int)) = true := decide_eq_true cz7
      clear cz7
      by_cases cz9 : 0 ≤ xz2
      rotate_left
      · rw [if_neg cz9] at H
        exact absurd H (by simp)
      rw [if_pos cz9] at H
      have cz10 : decide (0 ≤ xz2) = true := decide_eq_true cz9
      clear cz9
      by_cases cz11 : xz2 < (xz1.length : Int)
      rotate_left
      · rw [if_neg cz11] at H
        exact absurd H (by simp)
      rw [if_pos cz11] at H
      have cz12 : decide (xz2 < (xz1.length : Int)) = true := decide_eq_true cz11
      clear cz11
      obtain ⟨yz2, hyz2⟩ : ∃ y_ : List Int, y_ = (xz1.set (xz2 : Int).toNat (rd l0 xz2)) := ⟨_, rfl⟩
      (first | (with_reducible replace H := ys_ hyz2 H; (try dsimp only at H)) | rw [← hyz2] at H | skip)
      have Nyz2 := Aside0.mk hyz2
      clear hyz2
      have H' := Aside0.mk H
      clear H
      have pz1 : 0 ≤ (xz2 : Int) := dt_
      have qz1 : xz2 < (l0.length : Int) := dt_
      obtain ⟨adz1, ez1, hxz1⟩ := Kd.at_int HRz1.out xz2 pz1 qz1
      cases ez1
      replace hxz1 := cl_ HB hxz1
      replace pz1 := eq_true pz1
      replace qz1 := eq_true qz1
      have pz2 : 0 ≤ (xz2 : Int) := dt_
      have qz2 : (xz2 : Int) < ((xz1.length : Int) : Int) := dt_
      obtain ⟨goz1, coz1, eoz1, gbz1, glz1, clz1, HGz1⟩ := Kd.R_form HO_3.out (by omega)
      (first | cases eoz1 | (injection eoz1 with ea_ en_ ec_; (first | subst ea_ | (injection ea_ with ea_; subst ea_)); subst ec_; clear en_))
      have GBz1 := Aside0.mk gbz1
      have GGz1 := Aside0.mk HGz1
      clear gbz1 glz1 HGz1
      obtain ⟨hxz2, hfz1⟩ := Kd.R_celln 0 HO_3.out (xz2 : Int) pz2 qz2
      replace pz2 := eq_true pz2
      replace qz2 := eq_true qz2
      have HPz1 := Kd.R_putg HO_3.out (xz2 : Int) (rd l0 xz2)
      go_wp2_with (first | ((with_reducible refine gate_store (t := 5) (p := 20) rfl ?_); refine store_event (t := 5) (p := 20) (v := ?vo_w11) (w1 := (wr.setCell ⟨goz1, (xz2 : Int).toNat, none⟩ (.int .u8 (rd l0 xz2)))) ?hg ?ho ?hn ?hr ?_; (case ho => rfl); (case hg => rfl); (case hn => rfl); (case hr => first | (go_simp; done) | (go_simp; rfl)); intro wz2 hw; have hg : wr.grownBy wz2 (some goz1) := (by rw [hw]; exact HPz1.2); have hp_ : Kd.R (Kd.int .u8) 5 wz2 w.heap.size (fun _ => True) (.slice (some ⟨goz1, 0, none⟩) xz1.length coz1) yz2 := (by rw [hw, Nyz2.out]; exact HPz1.1); clear HPz1; replace HO_3 := Aside0.mk (hp_); replace HB := Aside0.mk ((by rw [hw]; exact below_set (HB.out) GBz1.out : Below w.heap.size w wz2)); clear hg hw hp_))
      go_roundg kz1
      case measure => have := HKz1.out; omega
      case rel => exact ⟨(yz2), (wrap64 (xz2 + 1)), rs_, H', ⟨by have := HKz1.out; omega⟩, ⟨lR_ HO_3.out⟩, ⟨be_⟩⟩

def laws_toKept.f (k : Nat) (a0_0 : ByteArray) (l0_1 : List Int) (a0_2 : Int) : Option (ByteArray × List Int × Int) := (laws_toByteS.f k l0_1).bind fun t195 => (some (a0_0, t195, a0_2))
theorem laws_toKept.mono : ∀ a0 a1 a2 k, LeO (laws_toKept.f k a0 a1 a2) (laws_toKept.f (k + 1) a0 a1 a2) := by
  intro a0 a1 a2 k
  unfold laws_toKept.f
  repeat' first
      | (with_reducible exact laws_toByteS.mono _ _)
      | (with_reducible exact LeO.refl _)
      | (with_reducible exact LeO.none _)
      | (with_reducible refine LeO.ite ?_ ?_)
      | (with_reducible refine LeO.bind ?_ (fun _ => ?_))
      | exact laws_toByteS.mono _ _
      | exact LeO.none _
      | refine LeO.ite ?_ ?_
      | refine LeO.bind ?_ (fun _ => ?_)
set_option maxHeartbeats 8000000 in
set_option maxRecDepth 100000 in
theorem laws_toKept.calls (k : Nat) (a0_0 : ByteArray) (A0_1 : Option Addr) (c0_1 : Nat) (l0_1 : List Int) (a0_2 : Int) (r1 : ByteArray) (r2 : List Int) (r3 : Int) (w : World) (hr0_1 : Kd.C (Kd.int .u8) w A0_1 l0_1.length l0_1) (hc0_1 : l0_1.length ≤ c0_1) (h : laws_toKept.f k a0_0 l0_1 a0_2 = some (r1, r2, r3)) :
    Calls Tryd.prog 26 #[.agg #[.string a0_0, .slice A0_1 l0_1.length c0_1, .int .i64 a0_2]] w fun e w' => ∃ v1_ : Value, e = .returned (.agg #[.string r1, v1_, .int .i64 r3]) ∧ Kd.R (Kd.int .u8) 5 w' w.heap.size (fun _ => True) v1_ r2 ∧ Below w.heap.size w w' := by
  have huz1 := Tryd.underlying43
  have huz2 := Tryd.underlying41
  have HRz1 := Aside0.mk hr0_1
  have HCz1 := Aside0.mk hc0_1
  clear hr0_1 hc0_1
  have HB := Aside0.mk (Below.refl w.heap.size w)
  have H : ((laws_toByteS.f k l0_1).bind fun t195 => (some (a0_0, t195, a0_2))) = some (r1, r2, r3) := h
  clear h
  replace H := bo_ H
  obtain ⟨tz1, Az2, H⟩ := H
  (try dsimp only at H)
  simp only [Option.some.injEq, Prod.mk.injEq] at H
  obtain ⟨rfl, rfl, rfl⟩ := H
  go_enter Tryd.func26, Tryd.ntmps26
  go_wp2_with (first | ((with_reducible refine gate_dst (N := 1) rfl ?_); refine box_event ?hg (N := 1) ?hd (cs := #[.string a0_0, .slice A0_1 l0_1.length c0_1, .int .i64 a0_2]) (t := 43) ?hr ?_; (case hd => rfl); (case hg => rfl); (case hr => first | (go_simp; done) | (go_simp; rfl)); intro gbz1 hg wz1 hbox hb; have BKz1 := Aside0.mk (hbox); have GWz1 := Aside0.mk ((sz_ : w.heap.size ≤ gbz1)); have GEz1 := Aside0.mk ((sz_ : w.heap.size ≤ gbz1)); replace HB := bw_ hb; clear hb hbox hg) | ((with_reducible refine gate_dst (N := 2) rfl ?_); refine box_event ?hg (N := 2) ?hd (cs := #[.string (⟨#[]⟩ : ByteArray), .slice none 0 0, .int .i64 0]) (t := 41) ?hr ?_; (case hd => rfl); (case hg => rfl); (case hr => first | (go_simp; done) | (go_simp; rfl)); intro gbz2 hg wz2 hbox hb; have BKz2 := Aside0.mk (hbox); have GWz2 := Aside0.mk ((sz_ : w.heap.size ≤ gbz2)); have GEz2 := Aside0.mk ((sz_ : w.heap.size ≤ gbz2)); replace HB := bw_ hb; have NBz1 := Aside0.mk ((by rw [hg]; exact Nat.ne_of_lt (blk_lt (g := gbz1) (o := .cells #[.string a0_0, .slice A0_1 l0_1.length c0_1, .int .i64 a0_2] 43 (0, 0)) bk_) : gbz1 ≠ gbz2)); have NBz2 := Aside0.mk ((by rw [hg]; exact Nat.ne_of_gt (blk_lt (g := gbz1) (o := .cells #[.string a0_0, .slice A0_1 l0_1.length c0_1, .int .i64 a0_2] 43 (0, 0)) bk_) : gbz2 ≠ gbz1)); replace BKz1 := kb_ BKz1 hb; clear hb hbox hg) | ((with_reducible refine gate_dst (N := 3) rfl ?_); refine box_event ?hg (N := 3) ?hd (cs := #[.string (⟨#[]⟩ : ByteArray), .slice none 0 0, .int .i64 0]) (t := 41) ?hr ?_; (case hd => rfl); (case hg => rfl); (case hr => first | (go_simp; done) | (go_simp; rfl)); intro gbz3 hg wz3 hbox hb; have nz1 := Aside0.mk (blk_below (g := gbz1) (o := .cells #[.string a0_0, .slice A0_1 l0_1.length c0_1, .int .i64 a0_2] 43 (0, 0)) bk_ hb); have nz2 := Aside0.mk (blk_below (g := gbz2) (o := .cells #[.string (⟨#[]⟩ : ByteArray), .slice none 0 0, .int .i64 0] 41 (0, 0)) bk_ hb); have nz3 := bw_ hb; have nz4 := Aside0.mk (hbox); have nz5 := Aside0.mk ((sz_ : w.heap.size ≤ gbz3)); have nz6 := Aside0.mk ((sz_ : w.heap.size ≤ gbz3)); have nz7 := Aside0.mk ((by rw [hg]; exact Nat.ne_of_lt (blk_lt (g := gbz1) (o := .cells #[.string a0_0, .slice A0_1 l0_1.length c0_1, .int .i64 a0_2] 43 (0, 0)) bk_) : gbz1 ≠ gbz3)); have nz8 := Aside0.mk ((by rw [hg]; exact Nat.ne_of_gt (blk_lt (g := gbz1) (o := .cells #[.string a0_0, .slice A0_1 l0_1.length c0_1, .int .i64 a0_2] 43 (0, 0)) bk_) : gbz3 ≠ gbz1)); have nz9 := Aside0.mk ((by rw [hg]; exact Nat.ne_of_lt (blk_lt (g := gbz2) (o := .cells #[.string (⟨#[]⟩ : ByteArray), .slice none 0 0, .int .i64 0] 41 (0, 0)) bk_) : gbz2 ≠ gbz3)); have nz10 := Aside0.mk ((by rw [hg]; exact Nat.ne_of_gt (blk_lt (g := gbz2) (o := .cells #[.string (⟨#[]⟩ : ByteArray), .slice none 0 0, .int .i64 0] 41 (0, 0)) bk_) : gbz3 ≠ gbz2)); clear BKz1 BKz2 HB; have BKz1 := nz1; have BKz2 := nz2; have HB := nz3; have BKz3 := nz4; have GWz3 := nz5; have GEz3 := nz6; have NBz3 := nz7; have NBz4 := nz8; have NBz5 := nz9; have NBz6 := nz10; clear nz1 nz2 nz3 nz4 nz5 nz6 nz7 nz8 nz9 nz10 hb hbox hg; have hnbz1 := NBz1.out; have hncz1 := NBz2.out; have hnbz2 := NBz3.out; have hncz2 := NBz4.out; have hczz1 : wz3.cell? ⟨gbz1, 0, none⟩ = some (.string a0_0) := bc_ BKz1 0; have hczz2 : wz3.cell? ⟨gbz1, 1, none⟩ = some (.slice A0_1 l0_1.length c0_1) := bc_ BKz1 1; have hczz3 : wz3.cell? ⟨gbz1, 2, none⟩ = some (.int .i64 a0_2) := bc_ BKz1 2; have hfzz1 := blk_frozen BKz1.out 0; have hfzz2 := blk_frozen BKz1.out 1; have hfzz3 := blk_frozen BKz1.out 2; have hnbz3 := NBz6.out; have hncz3 := NBz5.out; have hczz4 : wz3.cell? ⟨gbz3, 0, none⟩ = some (.string (⟨#[]⟩ : ByteArray)) := bc_ BKz3 0; have hczz5 : wz3.cell? ⟨gbz3, 1, none⟩ = some (.slice none 0 0) := bc_ BKz3 1; have hczz6 : wz3.cell? ⟨gbz3, 2, none⟩ = some (.int .i64 0) := bc_ BKz3 2; have hfzz4 := blk_frozen BKz3.out 0; have hfzz5 := blk_frozen BKz3.out 1; have hfzz6 := blk_frozen BKz3.out 2) | ((with_reducible refine gate_callee (f := 8) rfl ?_); refine ca_ 9 Tryd.func8 #[.slice A0_1 l0_1.length c0_1] ?_; (with_reducible refine (laws_toByteS.calls k _ _ l0_1 tz1 _ ?side1 ?side2 Az2.out).mono ?_); (case side1 => exact Kd.C_below HRz1.out be_); (case side2 => exact HCz1.out); rintro e wz4 ⟨vz1, rfl, hoz1, hb⟩; refine ⟨_, rfl, ?_⟩; have HOz1 := Aside0.mk (Kd.R_lower hoz1 (below_size be_)); replace HB := bw_ hb; replace BKz1 := Aside0.mk (blk_below (g := gbz1) (o := .cells #[.string a0_0, .slice A0_1 l0_1.length c0_1, .int .i64 a0_2] 43 (0, 0)) (by (with_reducible repeat (first | refine blk_drewN ?_ _ | refine blk_drew ?_ | refine blk_alloc ?_ _)); refine blk_far ?_ NBz3.out _; (with_reducible repeat (first | refine blk_drewN ?_ _ | refine blk_drew ?_ | refine blk_alloc ?_ _)); exact BKz1.out) hb); replace BKz2 := Aside0.mk (blk_below (g := gbz2) (o := .cells #[.string (⟨#[]⟩ : ByteArray), .slice none 0 0, .int .i64 0] 41 (0, 0)) (by (with_reducible repeat (first | refine blk_drewN ?_ _ | refine blk_drew ?_ | refine blk_alloc ?_ _)); refine blk_far ?_ NBz5.out _; (with_reducible repeat (first | refine blk_drewN ?_ _ | refine blk_drew ?_ | refine blk_alloc ?_ _)); exact BKz2.out) hb); replace BKz3 := Aside0.mk (blk_below (g := gbz3) (o := .cells #[.string a0_0, .slice none 0 0, .int .i64 0] 41 (0, 0)) (by (with_reducible repeat (first | refine blk_drewN ?_ _ | refine blk_drew ?_ | refine blk_alloc ?_ _)); refine blk_put (cs := #[.string (⟨#[]⟩ : ByteArray), .slice none 0 0, .int .i64 0]) ?_ 0 _ rfl; (with_reducible repeat (first | refine blk_drewN ?_ _ | refine blk_drew ?_ | refine blk_alloc ?_ _)); exact BKz3.out) hb); clear hb hoz1; obtain ⟨Aoz1, coz1, eoz1⟩ := Kd.R_slice HOz1.out; subst eoz1; have hczz7 : wz4.cell? ⟨gbz3, 0, none⟩ = some (.string a0_0) := bc_ BKz3 0; have hczz8 : wz4.cell? ⟨gbz3, 1, none⟩ = some (.slice none 0 0) := bc_ BKz3 1; have hczz9 : wz4.cell? ⟨gbz3, 2, none⟩ = some (.int .i64 0) := bc_ BKz3 2; have hfzz7 := blk_frozen BKz3.out 0; have hfzz8 := blk_frozen BKz3.out 1; have hfzz9 := blk_frozen BKz3.out 2; have hczz10 : wz4.cell? ⟨gbz1, 0, none⟩ = some (.string a0_0) := bc_ BKz1 0; have hczz11 : wz4.cell? ⟨gbz1, 1, none⟩ = some (.slice A0_1 l0_1.length c0_1) := bc_ BKz1 1; have hczz12 : wz4.cell? ⟨gbz1, 2, none⟩ = some (.int .i64 a0_2) := bc_ BKz1 2; have hfzz10 := blk_frozen BKz1.out 0; have hfzz11 := blk_frozen BKz1.out 1; have hfzz12 := blk_frozen BKz1.out 2; have hczz13 : wz4.cell? ⟨gbz2, 0, none⟩ = some (.string (⟨#[]⟩ : ByteArray)) := bc_ BKz2 0; have hczz14 : wz4.cell? ⟨gbz2, 1, none⟩ = some (.slice none 0 0) := bc_ BKz2 1; have hczz15 : wz4.cell? ⟨gbz2, 2, none⟩ = some (.int .i64 0) := bc_ BKz2 2; have hfzz13 := blk_frozen BKz2.out 0; have hfzz14 := blk_frozen BKz2.out 1; have hfzz15 := blk_frozen BKz2.out 2))
  refine bodyPost_ret (results_cell_row rfl _ _ gbz2 41 #[.string a0_0, .slice Aoz1 tz1.length coz1, .int .i64 a0_2] (0, 0) _ rfl (by (with_reducible repeat (first | refine blk_drewN ?_ _ | refine blk_drew ?_ | refine blk_alloc ?_ _)); refine blk_put (cs := #[.string a0_0, .slice Aoz1 tz1.length coz1, .int .i64 0]) ?_ 2 _ rfl; (with_reducible repeat (first | refine blk_drewN ?_ _ | refine blk_drew ?_ | refine blk_alloc ?_ _)); refine blk_put (cs := #[.string a0_0, .slice none 0 0, .int .i64 0]) ?_ 1 _ rfl; (with_reducible repeat (first | refine blk_drewN ?_ _ | refine blk_drew ?_ | refine blk_alloc ?_ _)); refine blk_put (cs := #[.string (⟨#[]⟩ : ByteArray), .slice none 0 0, .int .i64 0]) ?_ 0 _ rfl; (with_reducible repeat (first | refine blk_drewN ?_ _ | refine blk_drew ?_ | refine blk_alloc ?_ _)); refine blk_far ?_ NBz5.out _; (with_reducible repeat (first | refine blk_drewN ?_ _ | refine blk_drew ?_ | refine blk_alloc ?_ _)); refine blk_far ?_ NBz5.out _; (with_reducible repeat (first | refine blk_drewN ?_ _ | refine blk_drew ?_ | refine blk_alloc ?_ _)); exact BKz2.out) Tryd.underlying41 rfl (by kernel_rfl)) rfl ?_
  exact ⟨_, er_, lR_ (Kd.R_mono (Kd.R_far (p := ⟨gbz2, 2, none⟩) (Kd.R_far (p := ⟨gbz2, 1, none⟩) (Kd.R_far (p := ⟨gbz2, 0, none⟩) (Kd.R_far (p := ⟨gbz3, 2, none⟩) (Kd.R_far (p := ⟨gbz3, 1, none⟩) (Kd.R_types (Kd.R_types HOz1.out BKz3.out (by decide)) BKz2.out (by decide)) (fun _ hk => hk.1.2) (.slice Aoz1 tz1.length coz1)) (fun _ hk => hk.1.2) (.int .i64 a0_2)) (fun _ hk => hk.2) (.string a0_0)) (fun _ hk => hk.2) (.slice Aoz1 tz1.length coz1)) (fun _ hk => hk.2) (.int .i64 a0_2)) (fun _ hk => trivial)), be_⟩

def laws_toKeptS.l0 : Nat → List (S43) → List (S41) → Int → Option ((List (S41)))
  | 0, _, _, _ => none
  | k + 1, x0, x3, x4 => if x4 < (x0.length : Int) then (if 0 ≤ x4 then ((laws_toKept.f k ((rd_T43 x0 x4).f0) ((rd_T43 x0 x4).f1) ((rd_T43 x0 x4).f2)).bind fun bt202 => (if x4 < (x3.length : Int) then (laws_toKeptS.l0 k x0 (x3.set (x4 : Int).toNat (⟨bt202.1, bt202.2.1, bt202.2.2⟩ : S41)) (wrap64 (x4 + 1))) else (none))) else (none)) else (some x3)
def laws_toKeptS.f (k : Nat) (l0 : List (S43)) : Option ((List (S41))) := if 0 ≤ (l0.length : Int) then (if ((l0.length : Int) : Int).toNat ≤ 5864062014805 then (laws_toKeptS.l0 k l0 (List.replicate ((l0.length : Int) : Int).toNat z41) 0) else (none)) else (none)
theorem laws_toKeptS.mono_l : ∀ k, (∀ y0 y1 y2, LeO (laws_toKeptS.l0 k y0 y1 y2) (laws_toKeptS.l0 (k + 1) y0 y1 y2))
  | 0 => fun _ _ _ r h => by simp [laws_toKeptS.l0] at h
  | k + 1 => by
    have ih0 := laws_toKeptS.mono_l k
    · intro y0 y1 y2
      unfold laws_toKeptS.l0
      repeat' first
      | (with_reducible exact ih0 _ _ _)
      | (with_reducible exact laws_toKept.mono _ _ _ _)
      | (with_reducible exact LeO.refl _)
      | (with_reducible exact LeO.none _)
      | (with_reducible refine LeO.ite ?_ ?_)
      | (with_reducible refine LeO.bind ?_ (fun _ => ?_))
      | exact ih0 _ _ _
      | exact laws_toKept.mono _ _ _ _
      | exact LeO.none _
      | refine LeO.ite ?_ ?_
      | refine LeO.bind ?_ (fun _ => ?_)
theorem laws_toKeptS.mono : ∀ a0 k, LeO (laws_toKeptS.f k a0) (laws_toKeptS.f (k + 1) a0) := by
  intro a0 k
  have ih0 := laws_toKeptS.mono_l k
  unfold laws_toKeptS.f
  repeat' first
      | (with_reducible exact ih0 _ _ _)
      | (with_reducible exact laws_toKept.mono _ _ _ _)
      | (with_reducible exact LeO.refl _)
      | (with_reducible exact LeO.none _)
      | (with_reducible refine LeO.ite ?_ ?_)
      | (with_reducible refine LeO.bind ?_ (fun _ => ?_))
      | exact ih0 _ _ _
      | exact laws_toKept.mono _ _ _ _
      | exact LeO.none _
      | refine LeO.ite ?_ ?_
      | refine LeO.bind ?_ (fun _ => ?_)
set_option maxHeartbeats 8000000 in
set_option maxRecDepth 100000 in
theorem laws_toKeptS.calls (k : Nat) (A0 : Option Addr) (c0 : Nat) (l0 : List (S43)) (r : List (S41)) (w : World) (hr0 : Kd.C k43 w A0 l0.length l0) (hc0 : l0.length ≤ c0) (h : laws_toKeptS.f k l0 = some r) :
    Calls Tryd.prog 7 #[.slice A0 l0.length c0] w fun e w' => ∃ v0_ : Value, e = .returned (v0_) ∧ Kd.S k41 41 w' w.heap.size (fun _ => True) v0_ r ∧ Below w.heap.size w w' := by
  have huz1 := Tryd.underlying43
  have huz2 := Tryd.underlying41
  have HRz1 := Aside0.mk hr0
  have HCz1 := Aside0.mk hc0
  clear hr0 hc0
  have HB := Aside0.mk (Below.refl w.heap.size w)
  have H : (if 0 ≤ (l0.length : Int) then (if ((l0.length : Int) : Int).toNat ≤ 5864062014805 then (laws_toKeptS.l0 k l0 (List.replicate ((l0.length : Int) : Int).toNat z41) 0) else (none)) else (none)) = some r := h
  clear h
  by_cases cz1 : 0 ≤ (l0.length : Int)
  rotate_left
  · rw [if_neg cz1] at H
    exact absurd H (by simp)
  rw [if_pos cz1] at H
  have cz2 := eq_true cz1
  have cz3 : decide (0 ≤ (l0.length : Int)) = true := decide_eq_true cz1
  clear cz1
  by_cases cz4 : ((l0.length : Int) : Int).toNat ≤ 5864062014805
  rotate_left
  · rw [if_neg cz4] at H
    exact absurd H (by simp)
  rw [if_pos cz4] at H
  have cz5 := eq_true cz4
  have cz6 : decide (((l0.length : Int) : Int).toNat ≤ 5864062014805) = true := decide_eq_true cz4
  clear cz4
  obtain ⟨yz1, hyz1⟩ : ∃ y_ : List (S41), y_ = (List.replicate ((l0.length : Int) : Int).toNat z41) := ⟨_, rfl⟩
  (first | (with_reducible replace H := ys_ hyz1 H; (try dsimp only at H)) | rw [← hyz1] at H | skip)
  have Nyz1 := Aside0.mk hyz1
  clear hyz1
  have H' := Aside0.mk H
  clear H
  go_enter Tryd.func7, Tryd.ntmps7
  go_wp2_with (first | ((with_reducible refine gate_dst (N := 7) rfl ?_); refine Kd.S_make k41 _ 41 rfl (N := 7) rfl 25 _ _ rfl (l0.length : Int) rfl rfl Tryd.underlying25 (.agg #[(.string ⟨#[]⟩), (.slice none 0 0), (.int .i64 0)]) 48 info41 rfl (by decide) (by omega) z41 (ok := fun _ => True) (okp := fun _ => True) (k41_mkM _ _ _ z41 (Kd.R_nil _ _ _ _ _)) (fun _ hk => hk) trivial (dt_) (Nat.le_trans (Nat.mul_le_mul_right _ (dt_ : (l0.length : Int).toNat ≤ 5864062014805)) (by omega)) (Below.refl _ _) (Nat.le_refl _) ?_; intro vz1 wz1 hoz1 hb hg_ hnew_; clear hg_ hnew_; (first | rw [← Nyz1.out] at hoz1 | (simp only [Int.reduceToNat] at hoz1; rw [← Nyz1.out] at hoz1)); have HOz1 := Aside0.mk (Kd.S_lower hoz1 (below_size be_)); replace HB := bw_ hb; clear hb hoz1))
  go_loopg [4] k (fun kq v4 w' => ∃ (x3_1 : List (S41)) (x4_1 : Int), v4 = .int .i64 x4_1 ∧ Aside0 (laws_toKeptS.l0 kq l0 x3_1 x4_1 = some r) ∧ Aside0 (kq ≤ k) ∧ Aside0 (Kd.S k41 41 w' w.heap.size (fun _ => True) vz1 x3_1) ∧ Aside0 (Below w.heap.size w w'))
  case atStart => exact ⟨(yz1), (0), rs_, H', ⟨Nat.le_refl _⟩, ⟨lS_ HOz1.out⟩, ⟨be_⟩⟩
  case round =>
    clear H'
    try clear cz1
    try clear cz2
    try clear cz3
    try clear p2
    try clear cz4
    try clear cz5
    try clear cz6
    obtain ⟨xz1, xz2, rfl, HA, HKz1, HO_3, HB⟩ := hrel
    cases gk with
    | zero => exact absurd HA.out (by simp [laws_toKeptS.l0])
    | succ kz1 =>
      have H := HA.out
      clear HA
      simp only [laws_toKeptS.l0] at H
      by_cases cz7 : xz2 < (l0.length : Int)
      rotate_left
      · rw [if_neg cz7] at H
        have cz8 : decide (xz2 < (l0.length : Int)) = false := decide_eq_false cz7
        clear cz7
        obtain rfl := Option.some.inj H
        go_wp2
        go_ret
        exact ⟨_, er_, lS_ HO_3.out, be_⟩
      rw [if_pos cz7] at H
      have cz8 : decide (xz2 < (l0.length : Int)) = true := decide_eq_true cz7
      clear cz7
      by_cases cz9 : 0 ≤ xz2
      rotate_left
      · rw [if_neg cz9] at H
        exact absurd H (by simp)
      rw [if_pos cz9] at H
      have cz10 : decide (0 ≤ xz2) = true := decide_eq_true cz9
      clear cz9
      replace H := bo_ H
      obtain ⟨⟨tz1, tz2, tz3⟩, Az2, H⟩ := H
      (try dsimp only at H)
      by_cases cz11 : xz2 < (xz1.length : Int)
      rotate_left
      · rw [if_neg cz11] at H
        exact absurd H (by simp)
      rw [if_pos cz11] at H
      have cz12 : decide (xz2 < (xz1.length : Int)) = true := decide_eq_true cz11
      clear cz11
      obtain ⟨yz2, hyz2⟩ : ∃ y_ : List (S41), y_ = (xz1.set (xz2 : Int).toNat (⟨tz1, tz2, tz3⟩ : S41)) := ⟨_, rfl⟩
      (first | (with_reducible replace H := ys_ hyz2 H; (try dsimp only at H)) | rw [← hyz2] at H | skip)
      have Nyz2 := Aside0.mk hyz2
      clear hyz2
      have H' := Aside0.mk H
      clear H
      have pz1 : 0 ≤ (xz2 : Int) := dt_
      have qz1 : xz2 < (l0.length : Int) := dt_
      obtain ⟨adz1, Az3, cz13, ez1, hxz1, hxz2, hxz3, hlz1, hiz1⟩ := at_T43 HRz1.out xz2 pz1 qz1
      cases ez1
      replace hxz1 := cl_ HB hxz1
      replace hxz2 := cl_ HB hxz2
      replace hxz3 := cl_ HB hxz3
      have HRz2 := Aside0.mk hiz1
      have HCz2 := Aside0.mk hlz1
      clear hiz1 hlz1
      replace pz1 := eq_true pz1
      replace qz1 := eq_true qz1
      go_wp2_with (first | ((with_reducible refine gate_callee (f := 26) rfl ?_); refine ca_ 20 Tryd.func26 #[.agg #[.string ((rd_T43 l0 xz2).f0), .slice Az3 ((rd_T43 l0 xz2).f1).length cz13, .int .i64 ((rd_T43 l0 xz2).f2)]] ?_; (with_reducible refine (laws_toKept.calls kz1 ((rd_T43 l0 xz2).f0) _ _ ((rd_T43 l0 xz2).f1) ((rd_T43 l0 xz2).f2) tz1 tz2 tz3 _ ?side1 ?side2 Az2.out).mono ?_); (case side1 => exact Kd.C_below HRz2.out be_); (case side2 => exact HCz2.out); rintro e wz2 ⟨vz2, rfl, hoz2, hb⟩; refine ⟨_, rfl, ?_⟩; have one_v204 : vz2.oneCell' = true := (by first | (obtain ⟨_, _, e_⟩ := Kd.R_slice hoz2; rw [e_]; rfl) | (obtain ⟨_, _, e_⟩ := Kd.S_slice hoz2; rw [e_]; rfl) | (obtain ⟨_, _, e_⟩ := Kd.N_slice hoz2; rw [e_]; rfl)); replace HO_3 := eS_ HO_3 (Kd.R_base hoz2) hb; have HOz2 := Aside0.mk (Kd.R_lower hoz2 (below_size be_)); replace HB := bw_ hb; clear hb hoz2; have pz2 : 0 ≤ (xz2 : Int) := dt_; have qz2 : (xz2 : Int) < ((xz1.length : Int) : Int) := dt_; obtain ⟨goz1, coz1, eoz1, gbz1, glz1, clz1, HGz1⟩ := Kd.S_form HO_3.out (by omega); (first | cases eoz1 | (injection eoz1 with ea_ en_ ec_; (first | subst ea_ | (injection ea_ with ea_; subst ea_)); subst ec_; clear en_)); have GBz1 := Aside0.mk gbz1; have GGz1 := Aside0.mk HGz1; clear gbz1 glz1 HGz1; obtain ⟨_, cez1, hclz1, hMz1, hccz1, hfrz1, _, _⟩ := Kd.S_elem HO_3.out z41 (xz2 : Int) pz2 qz2; obtain ⟨vez1, rfl, gez1⟩ := k41_openM hMz1; have hxz4 : wz2.cell? ⟨goz1, (xz2 : Int).toNat * 3, none⟩ = some (.string ((rd_T41 xz1 xz2).f0)) := hccz1 0 _ rfl; have hxz5 : wz2.cell? ⟨goz1, (xz2 : Int).toNat * 3 + 1, none⟩ = some (vez1) := hccz1 1 _ rfl; have hxz6 : wz2.cell? ⟨goz1, (xz2 : Int).toNat * 3 + 2, none⟩ = some (.int .i64 ((rd_T41 xz1 xz2).f2)) := hccz1 2 _ rfl; have hfz1 : wz2.frozen? ⟨goz1, (xz2 : Int).toNat * 3, none⟩ = false := hfrz1 0; have hfz2 : wz2.frozen? ⟨goz1, (xz2 : Int).toNat * 3 + 1, none⟩ = false := hfrz1 1; have hfz3 : wz2.frozen? ⟨goz1, (xz2 : Int).toNat * 3 + 2, none⟩ = false := hfrz1 2; clear hclz1 hccz1 hfrz1 hMz1; replace pz2 := eq_true pz2; replace qz2 := eq_true qz2; have n_ := Aside0.mk (Kd.S_mono (ok' := (fun k_ => some k_ ≠ (vz2 : Value).ownBlock)) HO_3.out (fun k_ hk => hk.2)); clear HO_3; have HO_3 := n_; clear n_; have HXz1 := Aside0.mk (show Kd.S k41 41 wz2 w.heap.size (fun k_ => ((fun _ => True)) k_ ∧ ¬ ((fun k_ => some k_ = (vz2 : Value).ownBlock)) k_) (.slice (some ⟨goz1, 0, none⟩) xz1.length coz1) xz1 from (lS_ (Kd.S_mono HO_3.out (fun k_ hk => ⟨trivial, fun e_ => hk e_⟩)))); obtain ⟨okiz1, cez2, hclz2, hMz2, hccz2, hfrz2, hokiz1, hHz1⟩ := Kd.S_elem HXz1.out z41 (xz2 : Int) (dt_) (by have h_ : (xz2 : Int) < ((xz1.length : Int) : Int) := dt_; first | exact h_ | (have e_ := (Kd.S_reads' HO_3.out).1; omega) | simpa using h_); obtain ⟨vez2, rfl, gez2⟩ := k41_openM hMz2; have HPz1 := Kd.S_seg hHz1 (dt_) (by have h_ : (xz2 : Int) < ((xz1.length : Int) : Int) := dt_; first | exact h_ | (have e_ := (Kd.S_reads' HO_3.out).1; omega) | simpa using h_) (seg := [.string tz1, vz2, .int .i64 tz3]) (j := 0) (show 3 ≤ 3 from by decide) (x' := (⟨tz1, tz2, tz3⟩ : S41)) (k41_mkM _ _ _ (⟨tz1, tz2, tz3⟩ : S41) (Kd.R_mono (Kd.R_tight rfl (Kd.R_mono (ok' := fun k_ => ((fun _ => True)) k_ ∧ k_ ≠ goz1) (Kd.R_apart' (HOz2.out) (Kd.S_typed HO_3.out) (by decide)) (fun k_ hk => ⟨trivial, fun e_ => (hk.2) (by rw [e_]; rfl)⟩))) (fun _ h_ => Or.inr (h_)))) (fun _ hk => hk) (fun k_ hk_ => ((Kd.R_mono (ok' := fun k_ => ((fun _ => True)) k_ ∧ k_ ≠ goz1) (Kd.R_apart' (HOz2.out) (Kd.S_typed HO_3.out) (by decide)) (fun k_ hk => ⟨trivial, fun e_ => (hk.2) (by rw [e_]; rfl)⟩))).1 k_ hk_.symm); have hxz7 := hccz2 0 _ rfl; (try simp only [show (k41).sz = 3 from rfl, Nat.mul_one, Nat.add_zero] at hxz7); have hfz4 := hfrz2 0; (try simp only [show (k41).sz = 3 from rfl, Nat.mul_one, Nat.add_zero] at hfz4); have hxz8 := hccz2 1 _ rfl; (try simp only [show (k41).sz = 3 from rfl, Nat.mul_one, Nat.add_zero] at hxz8); have hfz5 := hfrz2 1; (try simp only [show (k41).sz = 3 from rfl, Nat.mul_one, Nat.add_zero] at hfz5); have hxz9 := hccz2 2 _ rfl; (try simp only [show (k41).sz = 3 from rfl, Nat.mul_one, Nat.add_zero] at hxz9); have hfz6 := hfrz2 2; (try simp only [show (k41).sz = 3 from rfl, Nat.mul_one, Nat.add_zero] at hfz6); clear hclz2 hccz2 hfrz2 hMz2 hokiz1 hHz1) | ((with_reducible refine gate_store (t := 41) (p := 21) rfl ?_); refine store_event (t := 41) (p := 21) (v := ?vo_w13) (w1 := (((wz2.setCell ⟨goz1, (xz2 : Int).toNat * 3, none⟩ (.string tz1)).setCell ⟨goz1, (xz2 : Int).toNat * 3 + 1, none⟩ (vz2)).setCell ⟨goz1, (xz2 : Int).toNat * 3 + 2, none⟩ (.int .i64 tz3))) ?hg ?ho ?hn ?hr ?_; (case ho => rfl); (case hg => rfl); (case hn => rfl); (case hr => first | (have rs_v204 := fun W_ (a_ : Addr) => run_store Tryd.prog W_ a_ vz2 .plain one_v204; go_simp; done) | (have rs_v204 := fun W_ (a_ : Addr) => run_store Tryd.prog W_ a_ vz2 .plain one_v204; go_simp; rfl) | (go_simp; done) | (go_simp; rfl)); intro wz3 hw; have hg : wz2.grownBy wz3 (some goz1) := (by rw [hw]; exact HPz1.2); have hp_ : Kd.S k41 41 wz3 w.heap.size (fun _ => True) (.slice (some ⟨goz1, 0, none⟩) xz1.length coz1) yz2 := (by rw [hw, Nyz2.out]; exact HPz1.1); clear HPz1; replace HO_3 := Aside0.mk (hp_); replace HB := Aside0.mk ((by rw [hw]; exact below_set (below_set (below_set (HB.out) GBz1.out) GBz1.out) GBz1.out : Below w.heap.size w wz3)); clear HOz2 hg hw hp_))
      go_roundg kz1
      case measure => have := HKz1.out; omega
      case rel => exact ⟨(yz2), (wrap64 (xz2 + 1)), rs_, H', ⟨by have := HKz1.out; omega⟩, ⟨lS_ HO_3.out⟩, ⟨be_⟩⟩

end Go.Proofs.YtpigbffaacilfaaDoor.P
