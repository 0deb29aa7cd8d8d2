-- Printed by a program over the kit's print.py (mp.sh), several laws in one namespace.
import Derived.Test.YtggokdobijhdhaaDoorPx0
import Derived.Test.YtggokdobijhdhaaDoorS
import Derived.Test.YtggokdobijhdhaaDoorPx3
import Derived.Test.YtggokdobijhdhaaDoorX7
namespace Go.Proofs.YtggokdobijhdhaaDoor.P
open Go.RowKit Go.Proofs.YtggokdobijhdhaaDoor.X Go.Proofs.YtggokdobijhdhaaDoorW.PrintWords Go.Proofs.YtggokdobijhdhaaDoorW.PrintLast Go.Proofs.YtggokdobijhdhaaDoorW.PrintMore
attribute [local go_sem] max2_int min2_int max_two min_two max_three min_three max_four min_four   -- for this text's walks alone
set_option maxHeartbeats 8000000
set_option maxRecDepth 100000
set_option linter.unusedVariables false
set_option linter.unusedSimpArgs false

def spec_TextOk.f (k : Nat) (a0 : ByteArray) : Option (Bool) := (spec_CountRunes.f k a0).bind fun t115 => (some (decide (t115 ≥ 0)))
theorem spec_TextOk.calls (k : Nat) (a0 : ByteArray) (r : Bool) (w : World) (h : spec_TextOk.f k a0 = some r) :
  Calls Tryd.prog 74 #[.string a0] w fun e w' => e = .returned (.bool r) ∧ Below w.heap.size w w' := by
 have HB := Aside0.mk (Below.refl w.heap.size w)
 have H : ((spec_CountRunes.f k a0).bind fun t115 => (some (decide (t115 ≥ 0)))) = some r := h
 clear h
 replace H := bo_ H
 obtain ⟨tz1, Az2, H⟩ := H
 (try dsimp only at H)
 obtain rfl := Option.some.inj H
 go_enter Tryd.func74, Tryd.ntmps74
 go_wp2_with (first | ((with_reducible refine gate_callee (f := 86) rfl ?_); refine ca_ 4 Tryd.func86 #[.string a0] ?_; (with_reducible refine (spec_CountRunes.calls k a0 tz1 _ Az2.out).mono ?_); rintro e wz1 ⟨rfl, hb⟩; refine ⟨_, rfl, ?_⟩; replace HB := bw_ hb; clear hb))
 go_ret
 exact ⟨er_, be_⟩

def spec_l8SubOk.f (k : Nat) (a0_0 : ByteArray) (a0_1 : Int) (a0_2 : Int) : Option (Bool) := (spec_TextOk.f k a0_0).bind fun t117 => (if t117 = true then (if a0_0.toList = ([] : List UInt8) then (some false) else ((spec_l1In.f a0_1 0 2).bind fun t118 => (if t118 = true then (some (decide (a0_2 ≥ 0))) else (some false)))) else (some false))
theorem spec_l8SubOk.calls (k : Nat) (a0_0 : ByteArray) (a0_1 : Int) (a0_2 : Int) (r : Bool) (w : World) (h : spec_l8SubOk.f k a0_0 a0_1 a0_2 = some r) :
  Calls Tryd.prog 65 #[.agg #[.string a0_0, .int .i64 a0_1, .int .i64 a0_2]] w fun e w' => e = .returned (.bool r) ∧ Below w.heap.size w w' := by
 have huz1 := Tryd.underlying86
 have HB := Aside0.mk (Below.refl w.heap.size w)
 have H : ((spec_TextOk.f k a0_0).bind fun t117 => (if t117 = true then (if a0_0.toList = ([] : List UInt8) then (some false) else ((spec_l1In.f a0_1 0 2).bind fun t118 => (if t118 = true then (some (decide (a0_2 ≥ 0))) else (some false)))) else (some false))) = some r := h
 clear h
 replace H := bo_ H
 obtain ⟨tz1, Az2, H⟩ := H
 (try dsimp only at H)
 by_cases cz1 : tz1 = true
 rotate_left
 ·replace cz1 := Bool.eq_false_iff.mpr cz1
  subst cz1
  replace H := bf_ H
  obtain rfl := Option.some.inj H
  go_enter Tryd.func65, Tryd.ntmps65
  go_wp2_with (first | ((with_reducible refine gate_dst (N := 1) rfl ?_); refine box_event ?hg (N := 1) ?hd (cs := #[.string a0_0, .int .i64 a0_1, .int .i64 a0_2]) (t := 86) ?hr ?_; (case hd => rfl); (case hg => rfl); (case hr => first | (go_simp; done) | (go_simp; rfl)); intro gbz1 hg wz1 hbox hb; have BKz1 := Aside0.mk (hbox); have GWz1 := Aside0.mk ((sz_ : w.heap.size ≤ gbz1)); have GEz1 := Aside0.mk ((sz_ : w.heap.size ≤ gbz1)); replace HB := bw_ hb; clear hb hbox hg; have hczz1 : wz1.cell? ⟨gbz1, 0, none⟩ = some (.string a0_0) := bc_ BKz1 0; have hczz2 : wz1.cell? ⟨gbz1, 1, none⟩ = some (.int .i64 a0_1) := bc_ BKz1 1; have hczz3 : wz1.cell? ⟨gbz1, 2, none⟩ = some (.int .i64 a0_2) := bc_ BKz1 2; have hfzz1 := blk_frozen BKz1.out 0; have hfzz2 := blk_frozen BKz1.out 1; have hfzz3 := blk_frozen BKz1.out 2) | ((with_reducible refine gate_callee (f := 74) rfl ?_); refine ca_ 5 Tryd.func74 #[.string a0_0] ?_; (with_reducible refine (spec_TextOk.calls k a0_0 false _ Az2.out).mono ?_); rintro e wz2 ⟨rfl, hb⟩; refine ⟨_, rfl, ?_⟩; replace HB := bw_ hb; replace BKz1 := kb_ BKz1 hb; clear hb))
  go_ret
  exact ⟨er_, be_⟩
 subst cz1
 replace H := bt_ H
 by_cases cz2 : a0_0.toList = ([] : List UInt8)
 ·rw [if_pos cz2] at H
  have cz3 : (a0_0.toList == ([] : List UInt8)) = true := beq_iff_eq.mpr cz2
  have cz4 : (a0_0.toList != ([] : List UInt8)) = false := bne_eq_false_iff_eq.mpr cz2
  clear cz2
  obtain rfl := Option.some.inj H
  go_enter Tryd.func65, Tryd.ntmps65
  go_wp2_with (first | ((with_reducible refine gate_dst (N := 1) rfl ?_); refine box_event ?hg (N := 1) ?hd (cs := #[.string a0_0, .int .i64 a0_1, .int .i64 a0_2]) (t := 86) ?hr ?_; (case hd => rfl); (case hg => rfl); (case hr => first | (go_simp; done) | (go_simp; rfl)); intro gbz1 hg wz1 hbox hb; have BKz1 := Aside0.mk (hbox); have GWz1 := Aside0.mk ((sz_ : w.heap.size ≤ gbz1)); have GEz1 := Aside0.mk ((sz_ : w.heap.size ≤ gbz1)); replace HB := bw_ hb; clear hb hbox hg; have hczz1 : wz1.cell? ⟨gbz1, 0, none⟩ = some (.string a0_0) := bc_ BKz1 0; have hczz2 : wz1.cell? ⟨gbz1, 1, none⟩ = some (.int .i64 a0_1) := bc_ BKz1 1; have hczz3 : wz1.cell? ⟨gbz1, 2, none⟩ = some (.int .i64 a0_2) := bc_ BKz1 2; have hfzz1 := blk_frozen BKz1.out 0; have hfzz2 := blk_frozen BKz1.out 1; have hfzz3 := blk_frozen BKz1.out 2) | ((with_reducible refine gate_callee (f := 74) rfl ?_); refine ca_ 5 Tryd.func74 #[.string a0_0] ?_; (with_reducible refine (spec_TextOk.calls k a0_0 true _ Az2.out).mono ?_); rintro e wz2 ⟨rfl, hb⟩; refine ⟨_, rfl, ?_⟩; replace HB := bw_ hb; replace BKz1 := kb_ BKz1 hb; clear hb; have hczz4 : wz2.cell? ⟨gbz1, 0, none⟩ = some (.string a0_0) := bc_ BKz1 0; have hczz5 : wz2.cell? ⟨gbz1, 1, none⟩ = some (.int .i64 a0_1) := bc_ BKz1 1; have hczz6 : wz2.cell? ⟨gbz1, 2, none⟩ = some (.int .i64 a0_2) := bc_ BKz1 2; have hfzz4 := blk_frozen BKz1.out 0; have hfzz5 := blk_frozen BKz1.out 1; have hfzz6 := blk_frozen BKz1.out 2))
  go_ret
  exact ⟨er_, be_⟩
 rw [if_neg cz2] at H
 have cz3 : (a0_0.toList == ([] : List UInt8)) = false := beq_eq_false_iff_ne.mpr cz2
 have cz4 : (a0_0.toList != ([] : List UInt8)) = true := bne_iff_ne.mpr cz2
 replace H := bo_ H
 obtain ⟨tz2, Az4, H⟩ := H
 (try dsimp only at H)
 by_cases cz5 : tz2 = true
 ·subst cz5
  replace H := bt_ H
  obtain rfl := Option.some.inj H
  go_enter Tryd.func65, Tryd.ntmps65
  go_wp2_with (first | ((with_reducible refine gate_dst (N := 1) rfl ?_); refine box_event ?hg (N := 1) ?hd (cs := #[.string a0_0, .int .i64 a0_1, .int .i64 a0_2]) (t := 86) ?hr ?_; (case hd => rfl); (case hg => rfl); (case hr => first | (go_simp; done) | (go_simp; rfl)); intro gbz1 hg wz1 hbox hb; have BKz1 := Aside0.mk (hbox); have GWz1 := Aside0.mk ((sz_ : w.heap.size ≤ gbz1)); have GEz1 := Aside0.mk ((sz_ : w.heap.size ≤ gbz1)); replace HB := bw_ hb; clear hb hbox hg; have hczz1 : wz1.cell? ⟨gbz1, 0, none⟩ = some (.string a0_0) := bc_ BKz1 0; have hczz2 : wz1.cell? ⟨gbz1, 1, none⟩ = some (.int .i64 a0_1) := bc_ BKz1 1; have hczz3 : wz1.cell? ⟨gbz1, 2, none⟩ = some (.int .i64 a0_2) := bc_ BKz1 2; have hfzz1 := blk_frozen BKz1.out 0; have hfzz2 := blk_frozen BKz1.out 1; have hfzz3 := blk_frozen BKz1.out 2) | ((with_reducible refine gate_callee (f := 74) rfl ?_); refine ca_ 5 Tryd.func74 #[.string a0_0] ?_; (with_reducible refine (spec_TextOk.calls k a0_0 true _ Az2.out).mono ?_); rintro e wz2 ⟨rfl, hb⟩; refine ⟨_, rfl, ?_⟩; replace HB := bw_ hb; replace BKz1 := kb_ BKz1 hb; clear hb; have hczz4 : wz2.cell? ⟨gbz1, 0, none⟩ = some (.string a0_0) := bc_ BKz1 0; have hczz5 : wz2.cell? ⟨gbz1, 1, none⟩ = some (.int .i64 a0_1) := bc_ BKz1 1; have hczz6 : wz2.cell? ⟨gbz1, 2, none⟩ = some (.int .i64 a0_2) := bc_ BKz1 2; have hfzz4 := blk_frozen BKz1.out 0; have hfzz5 := blk_frozen BKz1.out 1; have hfzz6 := blk_frozen BKz1.out 2) | (go_at_call 41; (with_reducible refine (spec_l1In.calls a0_1 0 2 true _ Az4.out).mono ?_); rintro e w' ⟨rfl, ⟨nd, rfl⟩⟩))
  go_ret
  exact ⟨er_, be_⟩
 replace cz5 := Bool.eq_false_iff.mpr cz5
 subst cz5
 replace H := bf_ H
 obtain rfl := Option.some.inj H
 go_enter Tryd.func65, Tryd.ntmps65
 go_wp2_with (first | ((with_reducible refine gate_dst (N := 1) rfl ?_); refine box_event ?hg (N := 1) ?hd (cs := #[.string a0_0, .int .i64 a0_1, .int .i64 a0_2]) (t := 86) ?hr ?_; (case hd => rfl); (case hg => rfl); (case hr => first | (go_simp; done) | (go_simp; rfl)); intro gbz1 hg wz1 hbox hb; have BKz1 := Aside0.mk (hbox); have GWz1 := Aside0.mk ((sz_ : w.heap.size ≤ gbz1)); have GEz1 := Aside0.mk ((sz_ : w.heap.size ≤ gbz1)); replace HB := bw_ hb; clear hb hbox hg; have hczz1 : wz1.cell? ⟨gbz1, 0, none⟩ = some (.string a0_0) := bc_ BKz1 0; have hczz2 : wz1.cell? ⟨gbz1, 1, none⟩ = some (.int .i64 a0_1) := bc_ BKz1 1; have hczz3 : wz1.cell? ⟨gbz1, 2, none⟩ = some (.int .i64 a0_2) := bc_ BKz1 2; have hfzz1 := blk_frozen BKz1.out 0; have hfzz2 := blk_frozen BKz1.out 1; have hfzz3 := blk_frozen BKz1.out 2) | ((with_reducible refine gate_callee (f := 74) rfl ?_); refine ca_ 5 Tryd.func74 #[.string a0_0] ?_; (with_reducible refine (spec_TextOk.calls k a0_0 true _ Az2.out).mono ?_); rintro e wz2 ⟨rfl, hb⟩; refine ⟨_, rfl, ?_⟩; replace HB := bw_ hb; replace BKz1 := kb_ BKz1 hb; clear hb; have hczz4 : wz2.cell? ⟨gbz1, 0, none⟩ = some (.string a0_0) := bc_ BKz1 0; have hczz5 : wz2.cell? ⟨gbz1, 1, none⟩ = some (.int .i64 a0_1) := bc_ BKz1 1; have hczz6 : wz2.cell? ⟨gbz1, 2, none⟩ = some (.int .i64 a0_2) := bc_ BKz1 2; have hfzz4 := blk_frozen BKz1.out 0; have hfzz5 := blk_frozen BKz1.out 1; have hfzz6 := blk_frozen BKz1.out 2) | (go_at_call 41; (with_reducible refine (spec_l1In.calls a0_1 0 2 false _ Az4.out).mono ?_); rintro e w' ⟨rfl, ⟨nd, rfl⟩⟩))
 go_ret
 exact ⟨er_, be_⟩

def spec_l3Has.l0 : Nat → ByteArray → Int → Int → Option (Bool)
 | 0, _, _, _ => none
 | k + 1, x0, x1, x5 => if x5 < (x0.size : Int) then (if 0 ≤ x5 then (if (bt x0 x5) = x1 then (some true) else (spec_l3Has.l0 k x0 x1 (wrap64 (x5 + 1)))) else (none)) else (some false)
def spec_l3Has.f (k : Nat) (a0 : ByteArray) (a1 : Int) : Option (Bool) := spec_l3Has.l0 k a0 a1 0
theorem spec_l3Has.calls (k : Nat) (a0 : ByteArray) (a1 : Int) (r : Bool) (w : World) (h : spec_l3Has.f k a0 a1 = some r) :
  Calls Tryd.prog 75 #[.string a0, .int .u8 a1] w fun e w' => e = .returned (.bool r) ∧ Drawn0 w w' := by
 have H : (spec_l3Has.l0 k a0 a1 0) = some r := h
 clear h
 have H' := Aside0.mk H
 clear H
 go_enter Tryd.func75, Tryd.ntmps75
 go_wp2
 go_loopg [5] k (fun kq v5 w' => ∃ (x5_1 : Int), v5 = .int .i64 x5_1 ∧ Aside0 (spec_l3Has.l0 kq a0 a1 x5_1 = some r) ∧ Aside0 (kq ≤ k) ∧ Drawn0 w w')
 case atStart => exact ⟨(0), rs_, H', ⟨Nat.le_refl _⟩, dr_⟩
 case round =>
  clear H'
  obtain ⟨xz1, rfl, HA, HKz1, ⟨mz1, rfl⟩⟩ := hrel
  cases gk with
  | zero => exact absurd HA.out (by simp [spec_l3Has.l0])
  | succ kz1 =>
   have H := HA.out
   clear HA
   simp only [spec_l3Has.l0] at H
   by_cases cz1 : xz1 < (a0.size : Int)
   rotate_left
   ·rw [if_neg cz1] at H
    have cz2 : decide (xz1 < (a0.size : Int)) = false := decide_eq_false cz1
    clear cz1
    obtain rfl := Option.some.inj H
    go_wp2
    go_ret
    exact ⟨rs_, dr_⟩
   rw [if_pos cz1] at H
   have cz2 : decide (xz1 < (a0.size : Int)) = true := decide_eq_true cz1
   clear cz1
   by_cases cz3 : 0 ≤ xz1
   rotate_left
   ·rw [if_neg cz3] at H
    exact absurd H (by simp)
   rw [if_pos cz3] at H
   have cz4 : decide (0 ≤ xz1) = true := decide_eq_true cz3
   clear cz3
   by_cases cz5 : (bt a0 xz1) = a1
   ·rw [if_pos cz5] at H
    have cz6 : ((bt a0 xz1) == a1) = true := beq_iff_eq.mpr cz5
    have cz7 : ((bt a0 xz1) != a1) = false := bne_eq_false_iff_eq.mpr cz5
    clear cz5
    obtain rfl := Option.some.inj H
    have pz1 : 0 ≤ (xz1 : Int) := dt_
    have qz1 : xz1 < (a0.size : Int) := dt_
    have hxz1 := bt_at a0 xz1
    replace pz1 := eq_true pz1
    replace qz1 := eq_true qz1
    go_wp2
    go_ret
    exact ⟨rs_, dr_⟩
   rw [if_neg cz5] at H
   have cz6 : ((bt a0 xz1) == a1) = false := beq_eq_false_iff_ne.mpr cz5
   have cz7 : ((bt a0 xz1) != a1) = true := bne_iff_ne.mpr cz5
   have H' := Aside0.mk H
   clear H
   have pz1 : 0 ≤ (xz1 : Int) := dt_
   have qz1 : xz1 < (a0.size : Int) := dt_
   have hxz1 := bt_at a0 xz1
   replace pz1 := eq_true pz1
   replace qz1 := eq_true qz1
   go_wp2
   go_roundg kz1
   case measure => have := HKz1.out; omega
   case rel => exact ⟨(wrap64 (xz1 + 1)), rs_, H', ⟨by have := HKz1.out; omega⟩, dr_⟩

def spec_Levels.l0 : Nat → ByteArray → List ByteArray → Int → Int → Option (List ByteArray)
 | 0, _, _, _, _ => none
 | k + 1, x0, x3, x4, x5 => if x5 ≤ (x0.size : Int) then (if x5 = (x0.size : Int) then (if 0 ≤ x4 then (if x4 ≤ x5 then (if x3.length < 8796093022208 then (spec_Levels.l0 k x0 (x3 ++ [x0.extract (x4 : Int).toNat (x5 : Int).toNat]) (wrap64 (x5 + 1)) (wrap64 (x5 + 1))) else (none)) else (none)) else (none)) else (if 0 ≤ x5 then (if x5 < (x0.size : Int) then (if (bt x0 x5) = 47 then (if 0 ≤ x4 then (if x4 ≤ x5 then (if x3.length < 8796093022208 then (spec_Levels.l0 k x0 (x3 ++ [x0.extract (x4 : Int).toNat (x5 : Int).toNat]) (wrap64 (x5 + 1)) (wrap64 (x5 + 1))) else (none)) else (none)) else (none)) else (spec_Levels.l0 k x0 x3 x4 (wrap64 (x5 + 1)))) else (none)) else (none))) else (some x3)
def spec_Levels.f (k : Nat) (a0 : ByteArray) : Option (List ByteArray) := spec_Levels.l0 k a0 (([] : List ByteArray)) 0 0
theorem spec_Levels_z0 {p : Prop} (h : p := by
 go_wp2_with (first | ((with_reducible refine gate_builtin (b := .append) (xs := #[.tmp 23, .tmp 28]) rfl ?_); at_builtin; refine Kd.R_append Kd.string (w0 := w) w.heap.size rfl (.tmp 23) (.tmp 28) 22 9 (.string ⟨#[]⟩) 16 rfl Tryd.underlying22 info9 rfl (by decide) (by omega) u3 xz1 (a0.extract (xz2 : Int).toNat (xz3 : Int).toNat) [.string (a0.extract (xz2 : Int).toNat (xz3 : Int).toNat)] (fun _ => True) (fun _ => False) rfl rfl ?aP (fun _ hk => hk.elim) ?aF ?aO ?aB ?aS ?aL ?_; (case aP => exact rfl); (case aB => exact be_); (case aF => exact (fun _ _ => trivial)); (case aO => exact (lR_ HO_3.out)); (case aS => exact (below_size be_)); (case aL => have := LMcz1.out; omega); intro vz2 wz2 ho hb hg hat; rw [← Nyz2.out] at ho; replace HB := Aside0.mk (hb); have HOz2 := Aside0.mk (ho); clear HO_3 ho hb hg hat))
 go_roundg kz1
 case measure => have := HKz1.out; omega
 case rel => exact ⟨(yz2), (wrap64 (xz3 + 1)), (wrap64 (xz3 + 1)), rs_, rs_, H', ⟨by have := HKz1.out; omega⟩, ⟨lR_ HOz2.out⟩, ⟨be_⟩⟩) : p := h
theorem spec_Levels.calls (k : Nat) (a0 : ByteArray) (r : List ByteArray) (w : World) (h : spec_Levels.f k a0 = some r) :
  Calls Tryd.prog 76 #[.string a0] w fun e w' => ∃ v0_ : Value, e = .returned (v0_) ∧ Kd.R Kd.string 9 w' w.heap.size (fun _ => True) v0_ r ∧ Below w.heap.size w w' := by
 have HB := Aside0.mk (Below.refl w.heap.size w)
 have H : (spec_Levels.l0 k a0 (([] : List ByteArray)) 0 0) = some r := h
 clear h
 obtain ⟨yz1, hyz1⟩ : ∃ y_ : List ByteArray, y_ = (([] : List ByteArray)) := ⟨_, rfl⟩
 (first | (with_reducible replace H := ys_ hyz1 H; (try dsimp only at H)) | rw [← hyz1] at H | skip)
 have Nyz1 := Aside0.mk hyz1
 clear hyz1
 have H' := Aside0.mk H
 clear H
 go_enter Tryd.func76, Tryd.ntmps76
 go_wp2_with (first | ((with_reducible refine gate_dst (N := 6) rfl ?_); refine Kd.R_lit Kd.string _ 9 ?hg (N := 6) ?hd (xs := ([] : List ByteArray)) (inner := []) (ok := fun _ => True) (okp := fun _ => True) ?hr ?hp (fun _ hk => hk) trivial (Below.refl _ _) (Nat.le_refl _) (by simp) ?_; (case hd => rfl); (case hg => rfl); (case hr => first | (go_simp; done) | (go_simp; rfl)); (case hp => exact (Reps.none _ _)); intro vz1 wz1 hoz1 hb hg_ hnew_; clear hg_ hnew_; (first | rw [← Nyz1.out] at hoz1 | (simp only [Int.reduceToNat] at hoz1; rw [← Nyz1.out] at hoz1)); have HOz1 := Aside0.mk (Kd.R_lower hoz1 (below_size be_)); replace HB := bw_ hb; clear hb hoz1))
 go_loopg [3, 4, 5] k (fun kq v3 v4 v5 w' => ∃ (x3_1 : List ByteArray) (x4_1 : Int) (x5_1 : Int), v4 = .int .i64 x4_1 ∧ v5 = .int .i64 x5_1 ∧ Aside0 (spec_Levels.l0 kq a0 x3_1 x4_1 x5_1 = some r) ∧ Aside0 (kq ≤ k) ∧ Aside0 (Kd.R Kd.string 9 w' w.heap.size (fun _ => True) v3 x3_1) ∧ Aside0 (Below w.heap.size w w'))
 case atStart => exact ⟨(yz1), (0), (0), rs_, rs_, H', ⟨Nat.le_refl _⟩, ⟨lR_ HOz1.out⟩, ⟨be_⟩⟩
 case round =>
  clear H'
  obtain ⟨xz1, xz2, xz3, rfl, rfl, HA, HKz1, HO_3, HB⟩ := hrel
  cases gk with
  | zero => exact absurd HA.out (by simp [spec_Levels.l0])
  | succ kz1 =>
   have H := HA.out
   clear HA
   simp only [spec_Levels.l0] at H
   by_cases cz1 : xz3 ≤ (a0.size : Int)
   rotate_left
   ·rw [if_neg cz1] at H
    have cz2 : decide (xz3 ≤ (a0.size : Int)) = false := decide_eq_false cz1
    clear cz1
    obtain rfl := Option.some.inj H
    go_wp2
    go_ret
    exact ⟨_, er_, lR_ HO_3.out, be_⟩
   rw [if_pos cz1] at H
   have cz2 : decide (xz3 ≤ (a0.size : Int)) = true := decide_eq_true cz1
   clear cz1
   by_cases cz3 : xz3 = (a0.size : Int)
   ·rw [if_pos cz3] at H
    have cz4 : (xz3 == (a0.size : Int)) = true := beq_iff_eq.mpr cz3
    have cz5 : (xz3 != (a0.size : Int)) = false := bne_eq_false_iff_eq.mpr cz3
    clear cz3
    by_cases cz6 : 0 ≤ xz2
    rotate_left
    ·rw [if_neg cz6] at H
     exact absurd H (by simp)
    rw [if_pos cz6] at H
    have cz7 := eq_true cz6
    have cz8 : decide (0 ≤ xz2) = true := decide_eq_true cz6
    clear cz6
    by_cases cz9 : xz2 ≤ xz3
    rotate_left
    ·rw [if_neg cz9] at H
     exact absurd H (by simp)
    rw [if_pos cz9] at H
    have cz10 := eq_true cz9
    have cz11 : decide (xz2 ≤ xz3) = true := decide_eq_true cz9
    clear cz9
    have cz12 := eq_true (dt_ : xz3 ≤ (a0.size : Int))
    by_cases cz13 : xz1.length < 8796093022208
    rotate_left
    ·rw [if_neg cz13] at H
     exact absurd H (by simp)
    rw [if_pos cz13] at H
    have LMcz1 := Aside0.mk cz13
    clear cz13
    obtain ⟨yz2, hyz2⟩ : ∃ y_ : List ByteArray, y_ = (xz1 ++ [a0.extract (xz2 : Int).toNat (xz3 : Int).toNat]) := ⟨_, rfl⟩
    (first | (with_reducible replace H := ys_ hyz2 H; (try dsimp only at H)) | rw [← hyz2] at H | skip)
    have Nyz2 := Aside0.mk hyz2
    clear hyz2
    have H' := Aside0.mk H
    clear H
    exact spec_Levels_z0
   rw [if_neg cz3] at H
   have cz4 : (xz3 == (a0.size : Int)) = false := beq_eq_false_iff_ne.mpr cz3
   have cz5 : (xz3 != (a0.size : Int)) = true := bne_iff_ne.mpr cz3
   by_cases cz6 : 0 ≤ xz3
   rotate_left
   ·rw [if_neg cz6] at H
    exact absurd H (by simp)
   rw [if_pos cz6] at H
   have cz7 : decide (0 ≤ xz3) = true := decide_eq_true cz6
   clear cz6
   by_cases cz8 : xz3 < (a0.size : Int)
   rotate_left
   ·rw [if_neg cz8] at H
    exact absurd H (by simp)
   rw [if_pos cz8] at H
   have cz9 : decide (xz3 < (a0.size : Int)) = true := decide_eq_true cz8
   clear cz8
   by_cases cz10 : (bt a0 xz3) = 47
   rotate_left
   ·rw [if_neg cz10] at H
    have cz11 : ((bt a0 xz3) == 47) = false := beq_eq_false_iff_ne.mpr cz10
    have cz12 : ((bt a0 xz3) != 47) = true := bne_iff_ne.mpr cz10
    have H' := Aside0.mk H
    clear H
    have pz1 : 0 ≤ (xz3 : Int) := dt_
    have qz1 : xz3 < (a0.size : Int) := dt_
    have hxz1 := bt_at a0 xz3
    replace pz1 := eq_true pz1
    replace qz1 := eq_true qz1
    go_wp2
    go_roundg kz1
    case measure => have := HKz1.out; omega
    case rel => exact ⟨(xz1), (xz2), (wrap64 (xz3 + 1)), rs_, rs_, H', ⟨by have := HKz1.out; omega⟩, ⟨lR_ HO_3.out⟩, ⟨be_⟩⟩
   rw [if_pos cz10] at H
   have cz11 : ((bt a0 xz3) == 47) = true := beq_iff_eq.mpr cz10
   have cz12 : ((bt a0 xz3) != 47) = false := bne_eq_false_iff_eq.mpr cz10
   clear cz10
   by_cases cz13 : 0 ≤ xz2
   rotate_left
   ·rw [if_neg cz13] at H
    exact absurd H (by simp)
   rw [if_pos cz13] at H
   have cz14 := eq_true cz13
   have cz15 : decide (0 ≤ xz2) = true := decide_eq_true cz13
   clear cz13
   by_cases cz16 : xz2 ≤ xz3
   rotate_left
   ·rw [if_neg cz16] at H
    exact absurd H (by simp)
   rw [if_pos cz16] at H
   have cz17 := eq_true cz16
   have cz18 : decide (xz2 ≤ xz3) = true := decide_eq_true cz16
   clear cz16
   have cz19 := eq_true (dt_ : xz3 ≤ (a0.size : Int))
   by_cases cz20 : xz1.length < 8796093022208
   rotate_left
   ·rw [if_neg cz20] at H
    exact absurd H (by simp)
   rw [if_pos cz20] at H
   have LMcz1 := Aside0.mk cz20
   clear cz20
   obtain ⟨yz2, hyz2⟩ : ∃ y_ : List ByteArray, y_ = (xz1 ++ [a0.extract (xz2 : Int).toNat (xz3 : Int).toNat]) := ⟨_, rfl⟩
   (first | (with_reducible replace H := ys_ hyz2 H; (try dsimp only at H)) | rw [← hyz2] at H | skip)
   have Nyz2 := Aside0.mk hyz2
   clear hyz2
   have H' := Aside0.mk H
   clear H
   have pz1 : 0 ≤ (xz3 : Int) := dt_
   have qz1 : xz3 < (a0.size : Int) := dt_
   have hxz1 := bt_at a0 xz3
   replace pz1 := eq_true pz1
   replace qz1 := eq_true qz1
   exact spec_Levels_z0

end Go.Proofs.YtggokdobijhdhaaDoor.P
