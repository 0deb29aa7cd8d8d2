-- Printed by a program over the kit's print.py (mp.sh), several laws in one namespace.
import Derived.Test.YtggokdobijhdhaaDoorPx0
import Derived.Test.YtggokdobijhdhaaDoorS
namespace Go.Proofs.YtggokdobijhdhaaDoor.P
open Go.RowKit Go.Proofs.YtggokdobijhdhaaDoor.X Go.Proofs.YtggokdobijhdhaaDoorW.PrintWords Go.Proofs.YtggokdobijhdhaaDoorW.PrintLast Go.Proofs.YtggokdobijhdhaaDoorW.PrintMore
attribute [local go_sem] max2_int min2_int max_two min_two max_three min_three max_four min_four   -- for this text's walks alone
set_option maxHeartbeats 8000000
set_option maxRecDepth 100000
set_option linter.unusedVariables false
set_option linter.unusedSimpArgs false

def laws_eqByteS.l0 : Nat → List Int → List Int → Int → Option (Bool)
 | 0, _, _, _ => none
 | k + 1, x0, x1, x5 => if x5 < (x0.length : Int) then (if 0 ≤ x5 then (if x5 < (x1.length : Int) then (if (rd x0 x5) = (rd x1 x5) then (laws_eqByteS.l0 k x0 x1 (wrap64 (x5 + 1))) else (some false)) else (none)) else (none)) else (some true)
def laws_eqByteS.f (k : Nat) (l0 : List Int) (l1 : List Int) : Option (Bool) := if (l0.length : Int) = (l1.length : Int) then (laws_eqByteS.l0 k l0 l1 0) else (some false)
theorem laws_eqByteS.calls (k : Nat) (A0 : Option Addr) (c0 : Nat) (l0 : List Int) (A1 : Option Addr) (c1 : Nat) (l1 : List Int) (r : Bool) (w : World) (hr0 : Kd.C (Kd.int .u8) w A0 l0.length l0) (hc0 : l0.length ≤ c0) (hr1 : Kd.C (Kd.int .u8) w A1 l1.length l1) (hc1 : l1.length ≤ c1) (h : laws_eqByteS.f k l0 l1 = some r) :
  Calls Tryd.prog 80 #[.slice A0 l0.length c0, .slice A1 l1.length c1] w fun e w' => e = .returned (.bool r) ∧ Drawn0 w w' := by
 have HRz1 := Aside0.mk hr0
 have HCz1 := Aside0.mk hc0
 clear hr0 hc0
 have HRz2 := Aside0.mk hr1
 have HCz2 := Aside0.mk hc1
 clear hr1 hc1
 have H : (if (l0.length : Int) = (l1.length : Int) then (laws_eqByteS.l0 k l0 l1 0) else (some false)) = some r := h
 clear h
 by_cases cz1 : (l0.length : Int) = (l1.length : Int)
 rotate_left
 ·rw [if_neg cz1] at H
  have cz2 : ((l0.length : Int) == (l1.length : Int)) = false := beq_eq_false_iff_ne.mpr cz1
  have cz3 : ((l0.length : Int) != (l1.length : Int)) = true := bne_iff_ne.mpr cz1
  have cz4 : (l0.length == l1.length) = false := by first | simpa using cz1 | (simp at cz1 ⊢; omega)
  obtain rfl := Option.some.inj H
  go_enter Tryd.func80, Tryd.ntmps80
  go_wp2
  repeat (go_quiet (fail); try go_wp2)
  go_ret
  exact ⟨rs_, dr_⟩
 rw [if_pos cz1] at H
 have cz2 : ((l0.length : Int) == (l1.length : Int)) = true := beq_iff_eq.mpr cz1
 have cz3 : ((l0.length : Int) != (l1.length : Int)) = false := bne_eq_false_iff_eq.mpr cz1
 have cz4 : (l0.length == l1.length) = true := by first | simpa using cz1 | (simp at cz1 ⊢; omega)
 clear cz1
 have H' := Aside0.mk H
 clear H
 go_enter Tryd.func80, Tryd.ntmps80
 go_wp2
 repeat (go_quiet (fail); try go_wp2)
 go_loopg [5] k (fun kq v5 w' => ∃ (x5_1 : Int), v5 = .int .i64 x5_1 ∧ Aside0 (laws_eqByteS.l0 kq l0 l1 x5_1 = some r) ∧ Aside0 (kq ≤ k) ∧ Drawn0 w w')
 case atStart => exact ⟨(0), rs_, H', ⟨Nat.le_refl _⟩, dr_⟩
 case round =>
  clear H'
  obtain ⟨xz1, rfl, HA, HKz1, ⟨mz1, rfl⟩⟩ := hrel
  cases gk with
  | zero => exact absurd HA.out (by simp [laws_eqByteS.l0])
  | succ kz1 =>
   have H := HA.out
   clear HA
   simp only [laws_eqByteS.l0] at H
   by_cases cz5 : xz1 < (l0.length : Int)
   rotate_left
   ·rw [if_neg cz5] at H
    have cz6 : decide (xz1 < (l0.length : Int)) = false := decide_eq_false cz5
    clear cz5
    obtain rfl := Option.some.inj H
    go_wp2
    repeat (go_quiet (fail); try go_wp2)
    go_ret
    exact ⟨rs_, dr_⟩
   rw [if_pos cz5] at H
   have cz6 : decide (xz1 < (l0.length : Int)) = true := decide_eq_true cz5
   clear cz5
   by_cases cz7 : 0 ≤ xz1
   rotate_left
   ·rw [if_neg cz7] at H
    exact absurd H (by simp)
   rw [if_pos cz7] at H
   have cz8 : decide (0 ≤ xz1) = true := decide_eq_true cz7
   clear cz7
   by_cases cz9 : xz1 < (l1.length : Int)
   rotate_left
   ·rw [if_neg cz9] at H
    exact absurd H (by simp)
   rw [if_pos cz9] at H
   have cz10 : decide (xz1 < (l1.length : Int)) = true := decide_eq_true cz9
   clear cz9
   by_cases cz11 : (rd l0 xz1) = (rd l1 xz1)
   rotate_left
   ·rw [if_neg cz11] at H
    have cz12 : ((rd l0 xz1) == (rd l1 xz1)) = false := beq_eq_false_iff_ne.mpr cz11
    have cz13 : ((rd l0 xz1) != (rd l1 xz1)) = true := bne_iff_ne.mpr cz11
    obtain rfl := Option.some.inj H
    have pz1 : 0 ≤ (xz1 : Int) := dt_
    have qz1 : xz1 < (l0.length : Int) := dt_
    obtain ⟨adz1, ez1, hxz1⟩ := Kd.at_int HRz1.out xz1 pz1 qz1
    cases ez1
    replace pz1 := eq_true pz1
    replace qz1 := eq_true qz1
    have pz2 : 0 ≤ (xz1 : Int) := dt_
    have qz2 : xz1 < (l1.length : Int) := dt_
    obtain ⟨adz2, ez2, hxz2⟩ := Kd.at_int HRz2.out xz1 pz2 qz2
    cases ez2
    replace pz2 := eq_true pz2
    replace qz2 := eq_true qz2
    go_wp2
    repeat (go_quiet (fail); try go_wp2)
    go_ret
    exact ⟨rs_, dr_⟩
   rw [if_pos cz11] at H
   have cz12 : ((rd l0 xz1) == (rd l1 xz1)) = true := beq_iff_eq.mpr cz11
   have cz13 : ((rd l0 xz1) != (rd l1 xz1)) = false := bne_eq_false_iff_eq.mpr cz11
   clear cz11
   have H' := Aside0.mk H
   clear H
   have pz1 : 0 ≤ (xz1 : Int) := dt_
   have qz1 : xz1 < (l0.length : Int) := dt_
   obtain ⟨adz1, ez1, hxz1⟩ := Kd.at_int HRz1.out xz1 pz1 qz1
   cases ez1
   replace pz1 := eq_true pz1
   replace qz1 := eq_true qz1
   have pz2 : 0 ≤ (xz1 : Int) := dt_
   have qz2 : xz1 < (l1.length : Int) := dt_
   obtain ⟨adz2, ez2, hxz2⟩ := Kd.at_int HRz2.out xz1 pz2 qz2
   cases ez2
   replace pz2 := eq_true pz2
   replace qz2 := eq_true qz2
   go_wp2
   repeat (go_quiet (fail); try go_wp2)
   go_roundg kz1
   case measure => have := HKz1.out; omega
   case rel => exact ⟨(wrap64 (xz1 + 1)), rs_, H', ⟨by have := HKz1.out; omega⟩, dr_⟩

def laws_eqKept.f (k : Nat) (a0_0 : ByteArray) (l0_1 : List Int) (a0_2 : Int) (a1_0 : ByteArray) (l1_1 : List Int) (a1_2 : Int) : Option (Bool) := if a0_0.toList = a1_0.toList then ((laws_eqByteS.f k l0_1 l1_1).bind fun t414 => (if t414 = true then (if a0_2 = a1_2 then (some true) else (some false)) else (some false))) else (some false)
theorem laws_eqKept_z1 {p : Prop} (h : p := by
 go_enter Tryd.func63, Tryd.ntmps63
 go_wp2_with (first | ((with_reducible refine gate_dst (N := 2) rfl ?_); refine box_event ?hg (N := 2) ?hd (cs := #[.string a0_0, .slice A0_1 l0_1.length c0_1, .int .i64 a0_2]) (t := 77) ?hr ?_; (case hd => rfl); (case hg => rfl); (case hr => first | (go_simp; done) | (go_simp; rfl)); intro gbz1 hg wz1 hbox hb; have BKz1 := Aside0.mk (hbox); have GWz1 := Aside0.mk ((sz_ : w.heap.size ≤ gbz1)); have GEz1 := Aside0.mk ((sz_ : w.heap.size ≤ gbz1)); replace HB := bw_ hb; clear hb hbox hg) | ((with_reducible refine gate_dst (N := 3) rfl ?_); refine box_event ?hg (N := 3) ?hd (cs := #[.string a1_0, .slice A1_1 l1_1.length c1_1, .int .i64 a1_2]) (t := 77) ?hr ?_; (case hd => rfl); (case hg => rfl); (case hr => first | (go_simp; done) | (go_simp; rfl)); intro gbz2 hg wz2 hbox hb; have BKz2 := Aside0.mk (hbox); have GWz2 := Aside0.mk ((sz_ : w.heap.size ≤ gbz2)); have GEz2 := Aside0.mk ((sz_ : w.heap.size ≤ gbz2)); replace HB := bw_ hb; have NBz1 := Aside0.mk ((by rw [hg]; exact Nat.ne_of_lt (blk_lt (g := gbz1) (o := .cells #[.string a0_0, .slice A0_1 l0_1.length c0_1, .int .i64 a0_2] 77 (0, 0)) bk_) : gbz1 ≠ gbz2)); have NBz2 := Aside0.mk ((by rw [hg]; exact Nat.ne_of_gt (blk_lt (g := gbz1) (o := .cells #[.string a0_0, .slice A0_1 l0_1.length c0_1, .int .i64 a0_2] 77 (0, 0)) bk_) : gbz2 ≠ gbz1)); replace BKz1 := kb_ BKz1 hb; clear hb hbox hg; have hnbz1 := NBz1.out; have hncz1 := NBz2.out; have hczz1 : wz2.cell? ⟨gbz1, 0, none⟩ = some (.string a0_0) := bc_ BKz1 0; have hczz2 : wz2.cell? ⟨gbz1, 1, none⟩ = some (.slice A0_1 l0_1.length c0_1) := bc_ BKz1 1; have hczz3 : wz2.cell? ⟨gbz1, 2, none⟩ = some (.int .i64 a0_2) := bc_ BKz1 2; have hfzz1 := blk_frozen BKz1.out 0; have hfzz2 := blk_frozen BKz1.out 1; have hfzz3 := blk_frozen BKz1.out 2; have hczz4 : wz2.cell? ⟨gbz2, 0, none⟩ = some (.string a1_0) := bc_ BKz2 0; have hczz5 : wz2.cell? ⟨gbz2, 1, none⟩ = some (.slice A1_1 l1_1.length c1_1) := bc_ BKz2 1; have hczz6 : wz2.cell? ⟨gbz2, 2, none⟩ = some (.int .i64 a1_2) := bc_ BKz2 2; have hfzz4 := blk_frozen BKz2.out 0; have hfzz5 := blk_frozen BKz2.out 1; have hfzz6 := blk_frozen BKz2.out 2) | ((with_reducible refine gate_callee (f := 80) rfl ?_); refine ca_ 14 Tryd.func80 #[.slice A0_1 l0_1.length c0_1, .slice A1_1 l1_1.length c1_1] ?_; (with_reducible refine (laws_eqByteS.calls k _ _ l0_1 _ _ l1_1 true _ ?side1 ?side2 ?side3 ?side4 Az2.out).mono ?_); (case side1 => exact Kd.C_below HRz1.out be_); (case side2 => exact HCz1.out); (case side3 => exact Kd.C_below HRz2.out be_); (case side4 => exact HCz2.out); rintro e w' ⟨rfl, ⟨nd, rfl⟩⟩; refine ⟨_, rfl, ?_⟩))
 go_ret
 exact ⟨er_, be_⟩) : p := h
theorem laws_eqKept_z0 {p : Prop} (h : p := by
 obtain rfl := Option.some.inj H
 exact laws_eqKept_z1) : p := h
theorem laws_eqKept.calls (k : Nat) (a0_0 : ByteArray) (A0_1 : Option Addr) (c0_1 : Nat) (l0_1 : List Int) (a0_2 : Int) (a1_0 : ByteArray) (A1_1 : Option Addr) (c1_1 : Nat) (l1_1 : List Int) (a1_2 : Int) (r : Bool) (w : World) (hr0_1 : Kd.C (Kd.int .u8) w A0_1 l0_1.length l0_1) (hc0_1 : l0_1.length ≤ c0_1) (hr1_1 : Kd.C (Kd.int .u8) w A1_1 l1_1.length l1_1) (hc1_1 : l1_1.length ≤ c1_1) (h : laws_eqKept.f k a0_0 l0_1 a0_2 a1_0 l1_1 a1_2 = some r) :
  Calls Tryd.prog 63 #[.agg #[.string a0_0, .slice A0_1 l0_1.length c0_1, .int .i64 a0_2], .agg #[.string a1_0, .slice A1_1 l1_1.length c1_1, .int .i64 a1_2]] w fun e w' => e = .returned (.bool r) ∧ Below w.heap.size w w' := by
 have huz1 := Tryd.underlying77
 have HRz1 := Aside0.mk hr0_1
 have HCz1 := Aside0.mk hc0_1
 clear hr0_1 hc0_1
 have HRz2 := Aside0.mk hr1_1
 have HCz2 := Aside0.mk hc1_1
 clear hr1_1 hc1_1
 have HB := Aside0.mk (Below.refl w.heap.size w)
 have H : (if a0_0.toList = a1_0.toList then ((laws_eqByteS.f k l0_1 l1_1).bind fun t414 => (if t414 = true then (if a0_2 = a1_2 then (some true) else (some false)) else (some false))) else (some false)) = some r := h
 clear h
 by_cases cz1 : a0_0.toList = a1_0.toList
 rotate_left
 ·rw [if_neg cz1] at H
  have cz2 : (a0_0.toList == a1_0.toList) = false := beq_eq_false_iff_ne.mpr cz1
  have cz3 : (a0_0.toList != a1_0.toList) = true := bne_iff_ne.mpr cz1
  obtain rfl := Option.some.inj H
  go_enter Tryd.func63, Tryd.ntmps63
  go_wp2_with (first | ((with_reducible refine gate_dst (N := 2) rfl ?_); refine box_event ?hg (N := 2) ?hd (cs := #[.string a0_0, .slice A0_1 l0_1.length c0_1, .int .i64 a0_2]) (t := 77) ?hr ?_; (case hd => rfl); (case hg => rfl); (case hr => first | (go_simp; done) | (go_simp; rfl)); intro gbz1 hg wz1 hbox hb; have BKz1 := Aside0.mk (hbox); have GWz1 := Aside0.mk ((sz_ : w.heap.size ≤ gbz1)); have GEz1 := Aside0.mk ((sz_ : w.heap.size ≤ gbz1)); replace HB := bw_ hb; clear hb hbox hg) | ((with_reducible refine gate_dst (N := 3) rfl ?_); refine box_event ?hg (N := 3) ?hd (cs := #[.string a1_0, .slice A1_1 l1_1.length c1_1, .int .i64 a1_2]) (t := 77) ?hr ?_; (case hd => rfl); (case hg => rfl); (case hr => first | (go_simp; done) | (go_simp; rfl)); intro gbz2 hg wz2 hbox hb; have BKz2 := Aside0.mk (hbox); have GWz2 := Aside0.mk ((sz_ : w.heap.size ≤ gbz2)); have GEz2 := Aside0.mk ((sz_ : w.heap.size ≤ gbz2)); replace HB := bw_ hb; have NBz1 := Aside0.mk ((by rw [hg]; exact Nat.ne_of_lt (blk_lt (g := gbz1) (o := .cells #[.string a0_0, .slice A0_1 l0_1.length c0_1, .int .i64 a0_2] 77 (0, 0)) bk_) : gbz1 ≠ gbz2)); have NBz2 := Aside0.mk ((by rw [hg]; exact Nat.ne_of_gt (blk_lt (g := gbz1) (o := .cells #[.string a0_0, .slice A0_1 l0_1.length c0_1, .int .i64 a0_2] 77 (0, 0)) bk_) : gbz2 ≠ gbz1)); replace BKz1 := kb_ BKz1 hb; clear hb hbox hg; have hnbz1 := NBz1.out; have hncz1 := NBz2.out; have hczz1 : wz2.cell? ⟨gbz1, 0, none⟩ = some (.string a0_0) := bc_ BKz1 0; have hczz2 : wz2.cell? ⟨gbz1, 1, none⟩ = some (.slice A0_1 l0_1.length c0_1) := bc_ BKz1 1; have hczz3 : wz2.cell? ⟨gbz1, 2, none⟩ = some (.int .i64 a0_2) := bc_ BKz1 2; have hfzz1 := blk_frozen BKz1.out 0; have hfzz2 := blk_frozen BKz1.out 1; have hfzz3 := blk_frozen BKz1.out 2; have hczz4 : wz2.cell? ⟨gbz2, 0, none⟩ = some (.string a1_0) := bc_ BKz2 0; have hczz5 : wz2.cell? ⟨gbz2, 1, none⟩ = some (.slice A1_1 l1_1.length c1_1) := bc_ BKz2 1; have hczz6 : wz2.cell? ⟨gbz2, 2, none⟩ = some (.int .i64 a1_2) := bc_ BKz2 2; have hfzz4 := blk_frozen BKz2.out 0; have hfzz5 := blk_frozen BKz2.out 1; have hfzz6 := blk_frozen BKz2.out 2))
  go_ret
  exact ⟨er_, be_⟩
 rw [if_pos cz1] at H
 have cz2 : (a0_0.toList == a1_0.toList) = true := beq_iff_eq.mpr cz1
 have cz3 : (a0_0.toList != a1_0.toList) = false := bne_eq_false_iff_eq.mpr cz1
 clear cz1
 replace H := bo_ H
 obtain ⟨tz1, Az2, H⟩ := H
 (try dsimp only at H)
 by_cases cz4 : tz1 = true
 rotate_left
 ·replace cz4 := Bool.eq_false_iff.mpr cz4
  subst cz4
  replace H := bf_ H
  obtain rfl := Option.some.inj H
  go_enter Tryd.func63, Tryd.ntmps63
  go_wp2_with (first | ((with_reducible refine gate_dst (N := 2) rfl ?_); refine box_event ?hg (N := 2) ?hd (cs := #[.string a0_0, .slice A0_1 l0_1.length c0_1, .int .i64 a0_2]) (t := 77) ?hr ?_; (case hd => rfl); (case hg => rfl); (case hr => first | (go_simp; done) | (go_simp; rfl)); intro gbz1 hg wz1 hbox hb; have BKz1 := Aside0.mk (hbox); have GWz1 := Aside0.mk ((sz_ : w.heap.size ≤ gbz1)); have GEz1 := Aside0.mk ((sz_ : w.heap.size ≤ gbz1)); replace HB := bw_ hb; clear hb hbox hg) | ((with_reducible refine gate_dst (N := 3) rfl ?_); refine box_event ?hg (N := 3) ?hd (cs := #[.string a1_0, .slice A1_1 l1_1.length c1_1, .int .i64 a1_2]) (t := 77) ?hr ?_; (case hd => rfl); (case hg => rfl); (case hr => first | (go_simp; done) | (go_simp; rfl)); intro gbz2 hg wz2 hbox hb; have BKz2 := Aside0.mk (hbox); have GWz2 := Aside0.mk ((sz_ : w.heap.size ≤ gbz2)); have GEz2 := Aside0.mk ((sz_ : w.heap.size ≤ gbz2)); replace HB := bw_ hb; have NBz1 := Aside0.mk ((by rw [hg]; exact Nat.ne_of_lt (blk_lt (g := gbz1) (o := .cells #[.string a0_0, .slice A0_1 l0_1.length c0_1, .int .i64 a0_2] 77 (0, 0)) bk_) : gbz1 ≠ gbz2)); have NBz2 := Aside0.mk ((by rw [hg]; exact Nat.ne_of_gt (blk_lt (g := gbz1) (o := .cells #[.string a0_0, .slice A0_1 l0_1.length c0_1, .int .i64 a0_2] 77 (0, 0)) bk_) : gbz2 ≠ gbz1)); replace BKz1 := kb_ BKz1 hb; clear hb hbox hg; have hnbz1 := NBz1.out; have hncz1 := NBz2.out; have hczz1 : wz2.cell? ⟨gbz1, 0, none⟩ = some (.string a0_0) := bc_ BKz1 0; have hczz2 : wz2.cell? ⟨gbz1, 1, none⟩ = some (.slice A0_1 l0_1.length c0_1) := bc_ BKz1 1; have hczz3 : wz2.cell? ⟨gbz1, 2, none⟩ = some (.int .i64 a0_2) := bc_ BKz1 2; have hfzz1 := blk_frozen BKz1.out 0; have hfzz2 := blk_frozen BKz1.out 1; have hfzz3 := blk_frozen BKz1.out 2; have hczz4 : wz2.cell? ⟨gbz2, 0, none⟩ = some (.string a1_0) := bc_ BKz2 0; have hczz5 : wz2.cell? ⟨gbz2, 1, none⟩ = some (.slice A1_1 l1_1.length c1_1) := bc_ BKz2 1; have hczz6 : wz2.cell? ⟨gbz2, 2, none⟩ = some (.int .i64 a1_2) := bc_ BKz2 2; have hfzz4 := blk_frozen BKz2.out 0; have hfzz5 := blk_frozen BKz2.out 1; have hfzz6 := blk_frozen BKz2.out 2) | ((with_reducible refine gate_callee (f := 80) rfl ?_); refine ca_ 14 Tryd.func80 #[.slice A0_1 l0_1.length c0_1, .slice A1_1 l1_1.length c1_1] ?_; (with_reducible refine (laws_eqByteS.calls k _ _ l0_1 _ _ l1_1 false _ ?side1 ?side2 ?side3 ?side4 Az2.out).mono ?_); (case side1 => exact Kd.C_below HRz1.out be_); (case side2 => exact HCz1.out); (case side3 => exact Kd.C_below HRz2.out be_); (case side4 => exact HCz2.out); rintro e w' ⟨rfl, ⟨nd, rfl⟩⟩; refine ⟨_, rfl, ?_⟩))
  go_ret
  exact ⟨er_, be_⟩
 subst cz4
 replace H := bt_ H
 by_cases cz5 : a0_2 = a1_2
 rotate_left
 ·rw [if_neg cz5] at H
  have cz6 : (a0_2 == a1_2) = false := beq_eq_false_iff_ne.mpr cz5
  have cz7 : (a0_2 != a1_2) = true := bne_iff_ne.mpr cz5
  exact laws_eqKept_z0
 rw [if_pos cz5] at H
 have cz6 : (a0_2 == a1_2) = true := beq_iff_eq.mpr cz5
 have cz7 : (a0_2 != a1_2) = false := bne_eq_false_iff_eq.mpr cz5
 clear cz5
 exact laws_eqKept_z0

end Go.Proofs.YtggokdobijhdhaaDoor.P
