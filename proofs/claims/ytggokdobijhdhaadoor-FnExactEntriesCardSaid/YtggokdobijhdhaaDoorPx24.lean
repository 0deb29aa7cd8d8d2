-- Printed by a program over the kit's print.py (mp.sh), several laws in one namespace.
import Derived.Test.YtggokdobijhdhaaDoorPx0
import Derived.Test.YtggokdobijhdhaaDoorS
import Derived.Test.YtggokdobijhdhaaDoorPx14
import Derived.Test.YtggokdobijhdhaaDoorPx20
import Derived.Test.YtggokdobijhdhaaDoorPx22
namespace Go.Proofs.YtggokdobijhdhaaDoor.P
open Go.RowKit Go.Proofs.YtggokdobijhdhaaDoor.X Go.Proofs.YtggokdobijhdhaaDoorW.PrintWords Go.Proofs.YtggokdobijhdhaaDoorW.PrintLast Go.Proofs.YtggokdobijhdhaaDoorW.PrintMore
attribute [local go_sem] max2_int min2_int max_two min_two max_three min_three max_four min_four   -- for this text's walks alone
set_option maxHeartbeats 8000000
set_option maxRecDepth 100000
set_option linter.unusedVariables false
set_option linter.unusedSimpArgs false

def laws_eqStringS.l0 : Nat → List ByteArray → List ByteArray → Int → Option (Bool)
 | 0, _, _, _ => none
 | k + 1, x0, x1, x5 => if x5 < (x0.length : Int) then (if 0 ≤ x5 then (if x5 < (x1.length : Int) then (if (rdOf ByteArray.empty x0 x5).toList = (rdOf ByteArray.empty x1 x5).toList then (laws_eqStringS.l0 k x0 x1 (wrap64 (x5 + 1))) else (some false)) else (none)) else (none)) else (some true)
def laws_eqStringS.f (k : Nat) (l0 : List ByteArray) (l1 : List ByteArray) : Option (Bool) := if (l0.length : Int) = (l1.length : Int) then (laws_eqStringS.l0 k l0 l1 0) else (some false)
theorem laws_eqStringS.calls (k : Nat) (A0 : Option Addr) (c0 : Nat) (l0 : List ByteArray) (A1 : Option Addr) (c1 : Nat) (l1 : List ByteArray) (r : Bool) (w : World) (hr0 : Kd.C Kd.string w A0 l0.length l0) (hc0 : l0.length ≤ c0) (hr1 : Kd.C Kd.string w A1 l1.length l1) (hc1 : l1.length ≤ c1) (h : laws_eqStringS.f k l0 l1 = some r) :
  Calls Tryd.prog 33 #[.slice A0 l0.length c0, .slice A1 l1.length c1] w fun e w' => e = .returned (.bool r) ∧ Drawn0 w w' := by
 have HRz1 := Aside0.mk hr0
 have HCz1 := Aside0.mk hc0
 clear hr0 hc0
 have HRz2 := Aside0.mk hr1
 have HCz2 := Aside0.mk hc1
 clear hr1 hc1
 have H : (if (l0.length : Int) = (l1.length : Int) then (laws_eqStringS.l0 k l0 l1 0) else (some false)) = some r := h
 clear h
 by_cases cz1 : (l0.length : Int) = (l1.length : Int)
 rotate_left
 ·rw [if_neg cz1] at H
  have cz2 : ((l0.length : Int) == (l1.length : Int)) = false := beq_eq_false_iff_ne.mpr cz1
  have cz3 : ((l0.length : Int) != (l1.length : Int)) = true := bne_iff_ne.mpr cz1
  have cz4 : (l0.length == l1.length) = false := by first | simpa using cz1 | (simp at cz1 ⊢; omega)
  obtain rfl := Option.some.inj H
  go_enter Tryd.func33, Tryd.ntmps33
  go_wp2
  repeat (go_quiet (fail); try go_wp2)
  go_ret
  exact ⟨rs_, dr_⟩
 rw [if_pos cz1] at H
 have cz2 : ((l0.length : Int) == (l1.length : Int)) = true := beq_iff_eq.mpr cz1
 have cz3 : ((l0.length : Int) != (l1.length : Int)) = false := bne_eq_false_iff_eq.mpr cz1
 have cz4 : (l0.length == l1.length) = true := by first | simpa using cz1 | (simp at cz1 ⊢; omega)
 clear cz1
 have H' := Aside0.mk H
 clear H
 go_enter Tryd.func33, Tryd.ntmps33
 go_wp2
 repeat (go_quiet (fail); try go_wp2)
 go_loopg [5] k (fun kq v5 w' => ∃ (x5_1 : Int), v5 = .int .i64 x5_1 ∧ Aside0 (laws_eqStringS.l0 kq l0 l1 x5_1 = some r) ∧ Aside0 (kq ≤ k) ∧ Drawn0 w w')
 case atStart => exact ⟨(0), rs_, H', ⟨Nat.le_refl _⟩, dr_⟩
 case round =>
  clear H'
  obtain ⟨xz1, rfl, HA, HKz1, ⟨mz1, rfl⟩⟩ := hrel
  cases gk with
  | zero => exact absurd HA.out (by simp [laws_eqStringS.l0])
  | succ kz1 =>
   have H := HA.out
   clear HA
   simp only [laws_eqStringS.l0] at H
   by_cases cz5 : xz1 < (l0.length : Int)
   rotate_left
   ·rw [if_neg cz5] at H
    have cz6 : decide (xz1 < (l0.length : Int)) = false := decide_eq_false cz5
    clear cz5
    obtain rfl := Option.some.inj H
    go_wp2
    repeat (go_quiet (fail); try go_wp2)
    go_ret
    exact ⟨rs_, dr_⟩
   rw [if_pos cz5] at H
   have cz6 : decide (xz1 < (l0.length : Int)) = true := decide_eq_true cz5
   clear cz5
   by_cases cz7 : 0 ≤ xz1
   rotate_left
   ·rw [if_neg cz7] at H
    exact absurd H (by simp)
   rw [if_pos cz7] at H
   have cz8 : decide (0 ≤ xz1) = true := decide_eq_true cz7
   clear cz7
   by_cases cz9 : xz1 < (l1.length : Int)
   rotate_left
   ·rw [if_neg cz9] at H
    exact absurd H (by simp)
   rw [if_pos cz9] at H
   have cz10 : decide (xz1 < (l1.length : Int)) = true := decide_eq_true cz9
   clear cz9
   by_cases cz11 : (rdOf ByteArray.empty l0 xz1).toList = (rdOf ByteArray.empty l1 xz1).toList
   rotate_left
   ·rw [if_neg cz11] at H
    have cz12 : ((rdOf ByteArray.empty l0 xz1).toList == (rdOf ByteArray.empty l1 xz1).toList) = false := beq_eq_false_iff_ne.mpr cz11
    have cz13 : ((rdOf ByteArray.empty l0 xz1).toList != (rdOf ByteArray.empty l1 xz1).toList) = true := bne_iff_ne.mpr cz11
    obtain rfl := Option.some.inj H
    have pz1 : 0 ≤ (xz1 : Int) := dt_
    have qz1 : xz1 < (l0.length : Int) := dt_
    obtain ⟨adz1, ez1, hxz1⟩ := Kd.at_string HRz1.out xz1 pz1 qz1
    cases ez1
    replace pz1 := eq_true pz1
    replace qz1 := eq_true qz1
    have pz2 : 0 ≤ (xz1 : Int) := dt_
    have qz2 : xz1 < (l1.length : Int) := dt_
    obtain ⟨adz2, ez2, hxz2⟩ := Kd.at_string HRz2.out xz1 pz2 qz2
    cases ez2
    replace pz2 := eq_true pz2
    replace qz2 := eq_true qz2
    go_wp2
    repeat (go_quiet (fail); try go_wp2)
    go_ret
    exact ⟨rs_, dr_⟩
   rw [if_pos cz11] at H
   have cz12 : ((rdOf ByteArray.empty l0 xz1).toList == (rdOf ByteArray.empty l1 xz1).toList) = true := beq_iff_eq.mpr cz11
   have cz13 : ((rdOf ByteArray.empty l0 xz1).toList != (rdOf ByteArray.empty l1 xz1).toList) = false := bne_eq_false_iff_eq.mpr cz11
   clear cz11
   have H' := Aside0.mk H
   clear H
   have pz1 : 0 ≤ (xz1 : Int) := dt_
   have qz1 : xz1 < (l0.length : Int) := dt_
   obtain ⟨adz1, ez1, hxz1⟩ := Kd.at_string HRz1.out xz1 pz1 qz1
   cases ez1
   replace pz1 := eq_true pz1
   replace qz1 := eq_true qz1
   have pz2 : 0 ≤ (xz1 : Int) := dt_
   have qz2 : xz1 < (l1.length : Int) := dt_
   obtain ⟨adz2, ez2, hxz2⟩ := Kd.at_string HRz2.out xz1 pz2 qz2
   cases ez2
   replace pz2 := eq_true pz2
   replace qz2 := eq_true qz2
   go_wp2
   repeat (go_quiet (fail); try go_wp2)
   go_roundg kz1
   case measure => have := HKz1.out; omega
   case rel => exact ⟨(wrap64 (xz1 + 1)), rs_, H', ⟨by have := HKz1.out; omega⟩, dr_⟩

def laws_eqSub.f (a0_0 : ByteArray) (a0_1 : Int) (a0_2 : Int) (a1_0 : ByteArray) (a1_1 : Int) (a1_2 : Int) : Option (Bool) := if a0_0.toList = a1_0.toList then (if a0_1 = a1_1 then (if a0_2 = a1_2 then (some true) else (some false)) else (some false)) else (some false)
theorem laws_eqSub_z1 {p : Prop} (h : p := by
 go_enter Tryd.func57, Tryd.ntmps57
 go_wp2_with (first | ((with_reducible refine gate_dst (N := 2) rfl ?_); refine box_event ?hg (N := 2) ?hd (cs := #[.string a0_0, .int .i64 a0_1, .int .i64 a0_2]) (t := 86) ?hr ?_; (case hd => rfl); (case hg => rfl); (case hr => first | (go_simp; done) | (go_simp; rfl)); intro gbz1 hg wz1 hbox hb; have BKz1 := Aside0.mk (hbox); have GWz1 := Aside0.mk ((sz_ : w.heap.size ≤ gbz1)); have GEz1 := Aside0.mk ((sz_ : w.heap.size ≤ gbz1)); replace HB := bw_ hb; clear hb hbox hg) | ((with_reducible refine gate_dst (N := 3) rfl ?_); refine box_event ?hg (N := 3) ?hd (cs := #[.string a1_0, .int .i64 a1_1, .int .i64 a1_2]) (t := 86) ?hr ?_; (case hd => rfl); (case hg => rfl); (case hr => first | (go_simp; done) | (go_simp; rfl)); intro gbz2 hg wz2 hbox hb; have BKz2 := Aside0.mk (hbox); have GWz2 := Aside0.mk ((sz_ : w.heap.size ≤ gbz2)); have GEz2 := Aside0.mk ((sz_ : w.heap.size ≤ gbz2)); replace HB := bw_ hb; have NBz1 := Aside0.mk ((by rw [hg]; exact Nat.ne_of_lt (blk_lt (g := gbz1) (o := .cells #[.string a0_0, .int .i64 a0_1, .int .i64 a0_2] 86 (0, 0)) bk_) : gbz1 ≠ gbz2)); have NBz2 := Aside0.mk ((by rw [hg]; exact Nat.ne_of_gt (blk_lt (g := gbz1) (o := .cells #[.string a0_0, .int .i64 a0_1, .int .i64 a0_2] 86 (0, 0)) bk_) : gbz2 ≠ gbz1)); replace BKz1 := kb_ BKz1 hb; clear hb hbox hg; have hnbz1 := NBz1.out; have hncz1 := NBz2.out; have hczz1 : wz2.cell? ⟨gbz1, 0, none⟩ = some (.string a0_0) := bc_ BKz1 0; have hczz2 : wz2.cell? ⟨gbz1, 1, none⟩ = some (.int .i64 a0_1) := bc_ BKz1 1; have hczz3 : wz2.cell? ⟨gbz1, 2, none⟩ = some (.int .i64 a0_2) := bc_ BKz1 2; have hfzz1 := blk_frozen BKz1.out 0; have hfzz2 := blk_frozen BKz1.out 1; have hfzz3 := blk_frozen BKz1.out 2; have hczz4 : wz2.cell? ⟨gbz2, 0, none⟩ = some (.string a1_0) := bc_ BKz2 0; have hczz5 : wz2.cell? ⟨gbz2, 1, none⟩ = some (.int .i64 a1_1) := bc_ BKz2 1; have hczz6 : wz2.cell? ⟨gbz2, 2, none⟩ = some (.int .i64 a1_2) := bc_ BKz2 2; have hfzz4 := blk_frozen BKz2.out 0; have hfzz5 := blk_frozen BKz2.out 1; have hfzz6 := blk_frozen BKz2.out 2))
 go_ret
 exact ⟨er_, be_⟩) : p := h
theorem laws_eqSub_z0 {p : Prop} (h : p := by
 obtain rfl := Option.some.inj H
 exact laws_eqSub_z1) : p := h
theorem laws_eqSub.calls (a0_0 : ByteArray) (a0_1 : Int) (a0_2 : Int) (a1_0 : ByteArray) (a1_1 : Int) (a1_2 : Int) (r : Bool) (w : World) (h : laws_eqSub.f a0_0 a0_1 a0_2 a1_0 a1_1 a1_2 = some r) :
  Calls Tryd.prog 57 #[.agg #[.string a0_0, .int .i64 a0_1, .int .i64 a0_2], .agg #[.string a1_0, .int .i64 a1_1, .int .i64 a1_2]] w fun e w' => e = .returned (.bool r) ∧ Below w.heap.size w w' := by
 have huz1 := Tryd.underlying86
 have HB := Aside0.mk (Below.refl w.heap.size w)
 have H : (if a0_0.toList = a1_0.toList then (if a0_1 = a1_1 then (if a0_2 = a1_2 then (some true) else (some false)) else (some false)) else (some false)) = some r := h
 clear h
 by_cases cz1 : a0_0.toList = a1_0.toList
 rotate_left
 ·rw [if_neg cz1] at H
  have cz2 : (a0_0.toList == a1_0.toList) = false := beq_eq_false_iff_ne.mpr cz1
  have cz3 : (a0_0.toList != a1_0.toList) = true := bne_iff_ne.mpr cz1
  exact laws_eqSub_z0
 rw [if_pos cz1] at H
 have cz2 : (a0_0.toList == a1_0.toList) = true := beq_iff_eq.mpr cz1
 have cz3 : (a0_0.toList != a1_0.toList) = false := bne_eq_false_iff_eq.mpr cz1
 clear cz1
 by_cases cz4 : a0_1 = a1_1
 rotate_left
 ·rw [if_neg cz4] at H
  have cz5 : (a0_1 == a1_1) = false := beq_eq_false_iff_ne.mpr cz4
  have cz6 : (a0_1 != a1_1) = true := bne_iff_ne.mpr cz4
  exact laws_eqSub_z0
 rw [if_pos cz4] at H
 have cz5 : (a0_1 == a1_1) = true := beq_iff_eq.mpr cz4
 have cz6 : (a0_1 != a1_1) = false := bne_eq_false_iff_eq.mpr cz4
 clear cz4
 by_cases cz7 : a0_2 = a1_2
 ·rw [if_pos cz7] at H
  have cz8 : (a0_2 == a1_2) = true := beq_iff_eq.mpr cz7
  have cz9 : (a0_2 != a1_2) = false := bne_eq_false_iff_eq.mpr cz7
  clear cz7
  exact laws_eqSub_z0
 rw [if_neg cz7] at H
 have cz8 : (a0_2 == a1_2) = false := beq_eq_false_iff_ne.mpr cz7
 have cz9 : (a0_2 != a1_2) = true := bne_iff_ne.mpr cz7
 exact laws_eqSub_z0

end Go.Proofs.YtggokdobijhdhaaDoor.P
