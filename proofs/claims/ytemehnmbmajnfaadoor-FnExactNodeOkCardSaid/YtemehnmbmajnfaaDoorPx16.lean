-- Printed by a program over the kit's print.py (mp.sh), several laws in one namespace.
import Derived.Test.YtemehnmbmajnfaaDoorPx0
import Derived.Test.YtemehnmbmajnfaaDoorS
import Derived.Test.YtemehnmbmajnfaaDoorPx15
namespace Go.Proofs.YtemehnmbmajnfaaDoor.P
open Go.RowKit Go.Proofs.YtemehnmbmajnfaaDoor.X Go.Proofs.YtemehnmbmajnfaaDoorW.PrintWords Go.Proofs.YtemehnmbmajnfaaDoorW.PrintLast Go.Proofs.YtemehnmbmajnfaaDoorW.PrintMore
attribute [local go_sem] max2_int min2_int max_two min_two max_three min_three max_four min_four   -- for this text's walks alone
set_option linter.unusedVariables false
set_option linter.unusedSimpArgs false

/-! ### impl_NodeOk: function 9 -/
def impl_NodeOk.f (k : Nat) (l0_0 : List ByteArray) (l0_1 : List (S32)) (l0_2 : List (S81)) : Option (Bool) := if (l0_2.length : Int) = 0 then ((impl_branchOk.f k l0_0 l0_1 l0_2 ([] : List ByteArray)).bind fun t248 => (some t248)) else (some false)
theorem impl_NodeOk.mono : ∀ a0 a1 a2 k, LeO (impl_NodeOk.f k a0 a1 a2) (impl_NodeOk.f (k + 1) a0 a1 a2) := by
  intro a0 a1 a2 k
  unfold impl_NodeOk.f
  repeat' first
      | (with_reducible exact impl_branchOk.mono _ _ _ _ _)
      | (with_reducible exact LeO.refl _)
      | (with_reducible exact LeO.none _)
      | (with_reducible refine LeO.ite ?_ ?_)
      | (with_reducible refine LeO.bind ?_ (fun _ => ?_))
      | exact impl_branchOk.mono _ _ _ _ _
      | exact LeO.none _
      | refine LeO.ite ?_ ?_
      | refine LeO.bind ?_ (fun _ => ?_)
set_option maxHeartbeats 8000000 in
set_option maxRecDepth 100000 in
theorem impl_NodeOk.calls (k : Nat) (A0_0 : Option Addr) (c0_0 : Nat) (l0_0 : List ByteArray) (A0_1 : Option Addr) (c0_1 : Nat) (l0_1 : List (S32)) (A0_2 : Option Addr) (c0_2 : Nat) (l0_2 : List (S81)) (r : Bool) (w : World) (hr0_0 : Kd.C Kd.string w A0_0 l0_0.length l0_0) (hc0_0 : l0_0.length ≤ c0_0) (hr0_1 : Kd.C k32 w A0_1 l0_1.length l0_1) (hc0_1 : l0_1.length ≤ c0_1) (hr0_2 : Kd.C k81 w A0_2 l0_2.length l0_2) (hc0_2 : l0_2.length ≤ c0_2) (hT : Tabs w) (h : impl_NodeOk.f k l0_0 l0_1 l0_2 = some r) :
    Calls Tryd.prog 9 #[.agg #[.slice A0_0 l0_0.length c0_0, .slice A0_1 l0_1.length c0_1, .slice A0_2 l0_2.length c0_2]] w fun e w' => e = .returned (.bool r) ∧ Below w.heap.size w w' := by
  have huz1 := Tryd.underlying32
  have HT := Aside0.mk hT
  clear hT
  have HRz1 := Aside0.mk hr0_0
  have HCz1 := Aside0.mk hc0_0
  clear hr0_0 hc0_0
  have HRz2 := Aside0.mk hr0_1
  have HCz2 := Aside0.mk hc0_1
  clear hr0_1 hc0_1
  have HRz3 := Aside0.mk hr0_2
  have HCz3 := Aside0.mk hc0_2
  clear hr0_2 hc0_2
  have HB := Aside0.mk (Below.refl w.heap.size w)
  have H : (if (l0_2.length : Int) = 0 then ((impl_branchOk.f k l0_0 l0_1 l0_2 ([] : List ByteArray)).bind fun t248 => (some t248)) else (some false)) = some r := h
  clear h
  by_cases cz1 : (l0_2.length : Int) = 0
  rotate_left
  · rw [if_neg cz1] at H
    have c2b0 : ((l0_2.length : Int) == 0) = false := beq_eq_false_iff_ne.mpr cz1
    have c2b1 : ((l0_2.length : Int) != 0) = true := bne_iff_ne.mpr cz1
    have c2b2 : ¬ (l0_2 = []) := fun h_ => cz1 (by rw [h_]; rfl)
    obtain rfl := Option.some.inj H
    go_enter Tryd.func9, Tryd.ntmps9
    go_wp2_with (first | ((with_reducible refine gate_dst (N := 1) rfl ?_); refine box_event ?hg (N := 1) ?hd (cs := #[.slice A0_0 l0_0.length c0_0, .slice A0_1 l0_1.length c0_1, .slice A0_2 l0_2.length c0_2]) (t := 32) ?hr ?_; (case hd => rfl); (case hg => rfl); (case hr => first | (go_simp; done) | (go_simp; rfl)); intro gbz1 hg wz1 hbox hb; have nz1 := Aside0.mk (below_step be_ hb); have nz2 := Aside0.mk (hbox); have nz3 := Aside0.mk ((sz_ : w.heap.size ≤ gbz1)); have nz4 := Aside0.mk ((sz_ : w.heap.size ≤ gbz1)); clear HB; have HB := nz1; have BKz1 := nz2; have GWz1 := nz3; have GEz1 := nz4; clear nz1 nz2 nz3 nz4; clear hb hbox hg; have hczz1 : wz1.cell? ⟨gbz1, 0, none⟩ = some (.slice A0_0 l0_0.length c0_0) := (blk_cell BKz1.out 0).trans rfl; have hczz2 : wz1.cell? ⟨gbz1, 1, none⟩ = some (.slice A0_1 l0_1.length c0_1) := (blk_cell BKz1.out 1).trans rfl; have hczz3 : wz1.cell? ⟨gbz1, 2, none⟩ = some (.slice A0_2 l0_2.length c0_2) := (blk_cell BKz1.out 2).trans rfl; have hfzz1 := blk_frozen BKz1.out 0; have hfzz2 := blk_frozen BKz1.out 1; have hfzz3 := blk_frozen BKz1.out 2))
    go_ret
    exact ⟨by first | rfl | (simp [errW_none, errW_some] <;> rfl) | (simp [*, errW_none, errW_some] <;> rfl), be_⟩
  rw [if_pos cz1] at H
  have c2b0 : ((l0_2.length : Int) == 0) = true := beq_iff_eq.mpr cz1
  have c2b1 : ((l0_2.length : Int) != 0) = false := bne_eq_false_iff_eq.mpr cz1
  clear cz1
  replace H := Option.bind_eq_some_iff.mp H
  obtain ⟨tz1, Az1, H⟩ := H
  replace H : (some tz1) = some r := H
  have Az2 := Aside0.mk Az1
  clear Az1
  obtain rfl := Option.some.inj H
  go_enter Tryd.func9, Tryd.ntmps9
  go_wp2_with (first | ((with_reducible refine gate_dst (N := 1) rfl ?_); refine box_event ?hg (N := 1) ?hd (cs := #[.slice A0_0 l0_0.length c0_0, .slice A0_1 l0_1.length c0_1, .slice A0_2 l0_2.length c0_2]) (t := 32) ?hr ?_; (case hd => rfl); (case hg => rfl); (case hr => first | (go_simp; done) | (go_simp; rfl)); intro gbz1 hg wz1 hbox hb; have nz1 := Aside0.mk (below_step be_ hb); have nz2 := Aside0.mk (hbox); have nz3 := Aside0.mk ((sz_ : w.heap.size ≤ gbz1)); have nz4 := Aside0.mk ((sz_ : w.heap.size ≤ gbz1)); clear HB; have HB := nz1; have BKz1 := nz2; have GWz1 := nz3; have GEz1 := nz4; clear nz1 nz2 nz3 nz4; clear hb hbox hg; have hczz1 : wz1.cell? ⟨gbz1, 0, none⟩ = some (.slice A0_0 l0_0.length c0_0) := (blk_cell BKz1.out 0).trans rfl; have hczz2 : wz1.cell? ⟨gbz1, 1, none⟩ = some (.slice A0_1 l0_1.length c0_1) := (blk_cell BKz1.out 1).trans rfl; have hczz3 : wz1.cell? ⟨gbz1, 2, none⟩ = some (.slice A0_2 l0_2.length c0_2) := (blk_cell BKz1.out 2).trans rfl; have hfzz1 := blk_frozen BKz1.out 0; have hfzz2 := blk_frozen BKz1.out 1; have hfzz3 := blk_frozen BKz1.out 2) | (go_at_call 30; (refine (impl_branchOk.calls k _ _ l0_0 _ _ l0_1 _ _ l0_2 _ _ ([] : List ByteArray) tz1 _ ?side1 ?side2 ?side3 ?side4 ?side5 ?side6 ?side7 ?side8 ?side9 Az2.out).mono ?_); (case side1 => exact Kd.C_below HRz1.out be_); (case side2 => exact HCz1.out); (case side3 => exact Kd.C_below HRz2.out be_); (case side4 => exact HCz2.out); (case side5 => exact Kd.C_below HRz3.out be_); (case side6 => exact HCz3.out); (case side7 => exact Kd.C_nil _ _); (case side8 => exact Nat.le_refl _); (case side9 => exact Tabs.below HT.out be_); rintro e wz2 ⟨rfl, hb⟩; have nz1 := Aside0.mk (blk_below (g := gbz1) (o := .cells #[.slice A0_0 l0_0.length c0_0, .slice A0_1 l0_1.length c0_1, .slice A0_2 l0_2.length c0_2] 32 (0, 0)) bk_ hb); have nz2 := Aside0.mk (below_step be_ hb); clear BKz1; clear HB; have BKz1 := nz1; have HB := nz2; clear nz1 nz2; (try clear hb); (try clear hb2); (try clear hk); (try clear hi)))
  go_ret
  exact ⟨by first | rfl | (simp [errW_none, errW_some] <;> rfl) | (simp [*, errW_none, errW_some] <;> rfl), be_⟩

/-! ### laws_eqStringS: function 31 -/
def laws_eqStringS.l0 : Nat → List ByteArray → List ByteArray → Int → Option (Bool)
  | 0, _, _, _ => none
  | k + 1, x0, x1, x5 => if x5 < (x0.length : Int) then (if 0 ≤ x5 then (if x5 < (x1.length : Int) then (if (rdOf ByteArray.empty x0 x5).toList = (rdOf ByteArray.empty x1 x5).toList then (laws_eqStringS.l0 k x0 x1 (wrap64 (x5 + 1))) else (some false)) else (none)) else (none)) else (some true)
def laws_eqStringS.f (k : Nat) (l0 : List ByteArray) (l1 : List ByteArray) : Option (Bool) := if (l0.length : Int) = (l1.length : Int) then (laws_eqStringS.l0 k l0 l1 0) else (some false)
theorem laws_eqStringS.mono_l : ∀ k, (∀ y0 y1 y2, LeO (laws_eqStringS.l0 k y0 y1 y2) (laws_eqStringS.l0 (k + 1) y0 y1 y2))
  | 0 => fun _ _ _ r h => by simp [laws_eqStringS.l0] at h
  | k + 1 => by
    have ih0 := laws_eqStringS.mono_l k
    · intro y0 y1 y2
      unfold laws_eqStringS.l0
      repeat' first
      | (with_reducible exact ih0 _ _ _)
      | (with_reducible exact LeO.refl _)
      | (with_reducible exact LeO.none _)
      | (with_reducible refine LeO.ite ?_ ?_)
      | (with_reducible refine LeO.bind ?_ (fun _ => ?_))
      | exact ih0 _ _ _
      | exact LeO.none _
      | refine LeO.ite ?_ ?_
      | refine LeO.bind ?_ (fun _ => ?_)
theorem laws_eqStringS.mono : ∀ a0 a1 k, LeO (laws_eqStringS.f k a0 a1) (laws_eqStringS.f (k + 1) a0 a1) := by
  intro a0 a1 k
  have ih0 := laws_eqStringS.mono_l k
  unfold laws_eqStringS.f
  repeat' first
      | (with_reducible exact ih0 _ _ _)
      | (with_reducible exact LeO.refl _)
      | (with_reducible exact LeO.none _)
      | (with_reducible refine LeO.ite ?_ ?_)
      | (with_reducible refine LeO.bind ?_ (fun _ => ?_))
      | exact ih0 _ _ _
      | exact LeO.none _
      | refine LeO.ite ?_ ?_
      | refine LeO.bind ?_ (fun _ => ?_)
set_option maxHeartbeats 8000000 in
set_option maxRecDepth 100000 in
theorem laws_eqStringS.calls (k : Nat) (A0 : Option Addr) (c0 : Nat) (l0 : List ByteArray) (A1 : Option Addr) (c1 : Nat) (l1 : List ByteArray) (r : Bool) (w : World) (hr0 : Kd.C Kd.string w A0 l0.length l0) (hc0 : l0.length ≤ c0) (hr1 : Kd.C Kd.string w A1 l1.length l1) (hc1 : l1.length ≤ c1) (h : laws_eqStringS.f k l0 l1 = some r) :
    Calls Tryd.prog 31 #[.slice A0 l0.length c0, .slice A1 l1.length c1] w fun e w' => e = .returned (.bool r) ∧ Drawn0 w w' := by
  have HRz1 := Aside0.mk hr0
  have HCz1 := Aside0.mk hc0
  clear hr0 hc0
  have HRz2 := Aside0.mk hr1
  have HCz2 := Aside0.mk hc1
  clear hr1 hc1
  have H : (if (l0.length : Int) = (l1.length : Int) then (laws_eqStringS.l0 k l0 l1 0) else (some false)) = some r := h
  clear h
  by_cases cz1 : (l0.length : Int) = (l1.length : Int)
  rotate_left
  · rw [if_neg cz1] at H
    have c3b0 : ((l0.length : Int) == (l1.length : Int)) = false := beq_eq_false_iff_ne.mpr cz1
    have c3b1 : ((l0.length : Int) != (l1.length : Int)) = true := bne_iff_ne.mpr cz1
    have c3b2 : (l0.length == l1.length) = false := by first | simpa using cz1 | (simp at cz1 ⊢; omega)
    obtain rfl := Option.some.inj H
    go_enter Tryd.func31, Tryd.ntmps31
    go_wp2
    repeat (go_quiet (fail); try go_wp2)
    go_ret
    exact ⟨by first | rfl | (simp; done) | (simp [*]; done), by repeat (first | exact Drawn0.refl _ | apply Drawn0.step)⟩
  rw [if_pos cz1] at H
  have c3b0 : ((l0.length : Int) == (l1.length : Int)) = true := beq_iff_eq.mpr cz1
  have c3b1 : ((l0.length : Int) != (l1.length : Int)) = false := bne_eq_false_iff_eq.mpr cz1
  have c3b2 : (l0.length == l1.length) = true := by first | simpa using cz1 | (simp at cz1 ⊢; omega)
  clear cz1
  have H' := Aside0.mk H
  clear H
  go_enter Tryd.func31, Tryd.ntmps31
  go_wp2
  repeat (go_quiet (fail); try go_wp2)
  go_loopg [5] k (fun kq v5 w' => ∃ (x5_1 : Int), v5 = .int .i64 x5_1 ∧ Aside0 (laws_eqStringS.l0 kq l0 l1 x5_1 = some r) ∧ Aside0 (kq ≤ k) ∧ Drawn0 w w')
  case atStart => exact ⟨(0), (by first | rfl | (simp; done) | (simp [*]; done)), H', ⟨Nat.le_refl _⟩, by repeat (first | exact Drawn0.refl _ | apply Drawn0.step)⟩
  case round =>
    clear H'
    try clear c1
    try clear p2
    try clear cz1
    try clear c3b0
    try clear c3b1
    try clear c3b2
    obtain ⟨xz1, rfl, HA, HKz1, ⟨mz1, rfl⟩⟩ := hrel
    cases gk with
    | zero => exact absurd HA.out (by simp [laws_eqStringS.l0])
    | succ kz1 =>
      have H := HA.out
      clear HA
      simp only [laws_eqStringS.l0] at H
      by_cases cz2 : xz1 < (l0.length : Int)
      rotate_left
      · rw [if_neg cz2] at H
        have c4b0 : decide (xz1 < (l0.length : Int)) = false := decide_eq_false cz2
        clear cz2
        obtain rfl := Option.some.inj H
        go_wp2
        repeat (go_quiet (fail); try go_wp2)
        go_ret
        exact ⟨by first | rfl | (simp; done) | (simp [*]; done), by repeat (first | exact Drawn0.refl _ | apply Drawn0.step)⟩
      rw [if_pos cz2] at H
      have c4b0 : decide (xz1 < (l0.length : Int)) = true := decide_eq_true cz2
      clear cz2
      by_cases cz3 : 0 ≤ xz1
      rotate_left
      · rw [if_neg cz3] at H
        exact absurd H (by simp)
      rw [if_pos cz3] at H
      have c5b0 : decide (0 ≤ xz1) = true := decide_eq_true cz3
      clear cz3
      by_cases cz4 : xz1 < (l1.length : Int)
      rotate_left
      · rw [if_neg cz4] at H
        exact absurd H (by simp)
      rw [if_pos cz4] at H
      have c6b0 : decide (xz1 < (l1.length : Int)) = true := decide_eq_true cz4
      clear cz4
      by_cases cz5 : (rdOf ByteArray.empty l0 xz1).toList = (rdOf ByteArray.empty l1 xz1).toList
      rotate_left
      · rw [if_neg cz5] at H
        have c7b0 : ((rdOf ByteArray.empty l0 xz1).toList == (rdOf ByteArray.empty l1 xz1).toList) = false := beq_eq_false_iff_ne.mpr cz5
        have c7b1 : ((rdOf ByteArray.empty l0 xz1).toList != (rdOf ByteArray.empty l1 xz1).toList) = true := bne_iff_ne.mpr cz5
        obtain rfl := Option.some.inj H
        have pz1 : 0 ≤ (xz1 : Int) := of_decide_eq_true as_
        have qz1 : xz1 < (l0.length : Int) := of_decide_eq_true as_
        obtain ⟨adz1, ez1, hxz1⟩ := Kd.at_string HRz1.out xz1 pz1 qz1
        cases ez1
        replace pz1 := eq_true pz1
        replace qz1 := eq_true qz1
        have pz2 : 0 ≤ (xz1 : Int) := of_decide_eq_true as_
        have qz2 : xz1 < (l1.length : Int) := of_decide_eq_true as_
        obtain ⟨adz2, ez2, hxz2⟩ := Kd.at_string HRz2.out xz1 pz2 qz2
        cases ez2
        replace pz2 := eq_true pz2
        replace qz2 := eq_true qz2
        go_wp2
        repeat (go_quiet (fail); try go_wp2)
        go_ret
        exact ⟨by first | rfl | (simp; done) | (simp [*]; done), by repeat (first | exact Drawn0.refl _ | apply Drawn0.step)⟩
      rw [if_pos cz5] at H
      have c7b0 : ((rdOf ByteArray.empty l0 xz1).toList == (rdOf ByteArray.empty l1 xz1).toList) = true := beq_iff_eq.mpr cz5
      have c7b1 : ((rdOf ByteArray.empty l0 xz1).toList != (rdOf ByteArray.empty l1 xz1).toList) = false := bne_eq_false_iff_eq.mpr cz5
      clear cz5
      have H' := Aside0.mk H
      clear H
      have pz1 : 0 ≤ (xz1 : Int) := of_decide_eq_true as_
      have qz1 : xz1 < (l0.length : Int) := of_decide_eq_true as_
      obtain ⟨adz1, ez1, hxz1⟩ := Kd.at_string HRz1.out xz1 pz1 qz1
      cases ez1
      replace pz1 := eq_true pz1
      replace qz1 := eq_true qz1
      have pz2 : 0 ≤ (xz1 : Int) := of_decide_eq_true as_
      have qz2 : xz1 < (l1.length : Int) := of_decide_eq_true as_
      obtain ⟨adz2, ez2, hxz2⟩ := Kd.at_string HRz2.out xz1 pz2 qz2
      cases ez2
      replace pz2 := eq_true pz2
      replace qz2 := eq_true qz2
      go_wp2
      repeat (go_quiet (fail); try go_wp2)
      go_roundg kz1
      case measure => have := HKz1.out; omega
      case rel => exact ⟨(wrap64 (xz1 + 1)), (by first | rfl | (simp; done) | (simp [*]; done)), H', ⟨by have := HKz1.out; omega⟩, by repeat (first | exact Drawn0.refl _ | apply Drawn0.step)⟩

/-! ### laws_eqSub: function 58 -/
def laws_eqSub.f (a0_0 : ByteArray) (a0_1 : Int) (a0_2 : Int) (a1_0 : ByteArray) (a1_1 : Int) (a1_2 : Int) : Option (Bool) := if a0_0.toList = a1_0.toList then (if a0_1 = a1_1 then (if a0_2 = a1_2 then (some true) else (some false)) else (some false)) else (some false)
theorem laws_eqSub_z1 {p : Prop} (h : p := by
  go_enter Tryd.func58, Tryd.ntmps58
  go_wp2_with (first | ((with_reducible refine gate_dst (N := 2) rfl ?_); refine box_event ?hg (N := 2) ?hd (cs := #[.string a0_0, .int .i64 a0_1, .int .i64 a0_2]) (t := 81) ?hr ?_; (case hd => rfl); (case hg => rfl); (case hr => first | (go_simp; done) | (go_simp; rfl)); intro gbz1 hg wz1 hbox hb; have nz1 := Aside0.mk (below_step be_ hb); have nz2 := Aside0.mk (hbox); have nz3 := Aside0.mk ((sz_ : w.heap.size ≤ gbz1)); have nz4 := Aside0.mk ((sz_ : w.heap.size ≤ gbz1)); clear HB; have HB := nz1; have BKz1 := nz2; have GWz1 := nz3; have GEz1 := nz4; clear nz1 nz2 nz3 nz4; clear hb hbox hg) | ((with_reducible refine gate_dst (N := 3) rfl ?_); refine box_event ?hg (N := 3) ?hd (cs := #[.string a1_0, .int .i64 a1_1, .int .i64 a1_2]) (t := 81) ?hr ?_; (case hd => rfl); (case hg => rfl); (case hr => first | (go_simp; done) | (go_simp; rfl)); intro gbz2 hg wz2 hbox hb; have nz1 := Aside0.mk (blk_below (g := gbz1) (o := .cells #[.string a0_0, .int .i64 a0_1, .int .i64 a0_2] 81 (0, 0)) bk_ hb); have nz2 := Aside0.mk (below_step be_ hb); have nz3 := Aside0.mk (hbox); have nz4 := Aside0.mk ((sz_ : w.heap.size ≤ gbz2)); have nz5 := Aside0.mk ((sz_ : w.heap.size ≤ gbz2)); have nz6 := Aside0.mk ((by rw [hg]; exact Nat.ne_of_lt (blk_lt (g := gbz1) (o := .cells #[.string a0_0, .int .i64 a0_1, .int .i64 a0_2] 81 (0, 0)) bk_) : gbz1 ≠ gbz2)); have nz7 := Aside0.mk ((by rw [hg]; exact Nat.ne_of_gt (blk_lt (g := gbz1) (o := .cells #[.string a0_0, .int .i64 a0_1, .int .i64 a0_2] 81 (0, 0)) bk_) : gbz2 ≠ gbz1)); clear BKz1; clear HB; have BKz1 := nz1; have HB := nz2; have BKz2 := nz3; have GWz2 := nz4; have GEz2 := nz5; have NBz1 := nz6; have NBz2 := nz7; clear nz1 nz2 nz3 nz4 nz5 nz6 nz7; clear hb hbox hg; have hnbz1 := NBz1.out; have hncz1 := NBz2.out; have hczz1 : wz2.cell? ⟨gbz1, 0, none⟩ = some (.string a0_0) := (blk_cell BKz1.out 0).trans rfl; have hczz2 : wz2.cell? ⟨gbz1, 1, none⟩ = some (.int .i64 a0_1) := (blk_cell BKz1.out 1).trans rfl; have hczz3 : wz2.cell? ⟨gbz1, 2, none⟩ = some (.int .i64 a0_2) := (blk_cell BKz1.out 2).trans rfl; have hfzz1 := blk_frozen BKz1.out 0; have hfzz2 := blk_frozen BKz1.out 1; have hfzz3 := blk_frozen BKz1.out 2; have hczz4 : wz2.cell? ⟨gbz2, 0, none⟩ = some (.string a1_0) := (blk_cell BKz2.out 0).trans rfl; have hczz5 : wz2.cell? ⟨gbz2, 1, none⟩ = some (.int .i64 a1_1) := (blk_cell BKz2.out 1).trans rfl; have hczz6 : wz2.cell? ⟨gbz2, 2, none⟩ = some (.int .i64 a1_2) := (blk_cell BKz2.out 2).trans rfl; have hfzz4 := blk_frozen BKz2.out 0; have hfzz5 := blk_frozen BKz2.out 1; have hfzz6 := blk_frozen BKz2.out 2))
  go_ret
  exact ⟨by first | rfl | (simp [errW_none, errW_some] <;> rfl) | (simp [*, errW_none, errW_some] <;> rfl), be_⟩) : p := h
theorem laws_eqSub_z0 {p : Prop} (h : p := by
  obtain rfl := Option.some.inj H
  exact laws_eqSub_z1) : p := h
set_option maxHeartbeats 8000000 in
set_option maxRecDepth 100000 in
theorem laws_eqSub.calls (a0_0 : ByteArray) (a0_1 : Int) (a0_2 : Int) (a1_0 : ByteArray) (a1_1 : Int) (a1_2 : Int) (r : Bool) (w : World) (h : laws_eqSub.f a0_0 a0_1 a0_2 a1_0 a1_1 a1_2 = some r) :
    Calls Tryd.prog 58 #[.agg #[.string a0_0, .int .i64 a0_1, .int .i64 a0_2], .agg #[.string a1_0, .int .i64 a1_1, .int .i64 a1_2]] w fun e w' => e = .returned (.bool r) ∧ Below w.heap.size w w' := by
  have huz1 := Tryd.underlying81
  have HB := Aside0.mk (Below.refl w.heap.size w)
  have H : (if a0_0.toList = a1_0.toList then (if a0_1 = a1_1 then (if a0_2 = a1_2 then (some true) else (some false)) else (some false)) else (some false)) = some r := h
  clear h
  by_cases cz1 : a0_0.toList = a1_0.toList
  rotate_left
  · rw [if_neg cz1] at H
    have c3b0 : (a0_0.toList == a1_0.toList) = false := beq_eq_false_iff_ne.mpr cz1
    have c3b1 : (a0_0.toList != a1_0.toList) = true := bne_iff_ne.mpr cz1
    exact laws_eqSub_z0
  rw [if_pos cz1] at H
  have c3b0 : (a0_0.toList == a1_0.toList) = true := beq_iff_eq.mpr cz1
  have c3b1 : (a0_0.toList != a1_0.toList) = false := bne_eq_false_iff_eq.mpr cz1
  clear cz1
  by_cases cz2 : a0_1 = a1_1
  rotate_left
  · rw [if_neg cz2] at H
    have c4b0 : (a0_1 == a1_1) = false := beq_eq_false_iff_ne.mpr cz2
    have c4b1 : (a0_1 != a1_1) = true := bne_iff_ne.mpr cz2
    exact laws_eqSub_z0
  rw [if_pos cz2] at H
  have c4b0 : (a0_1 == a1_1) = true := beq_iff_eq.mpr cz2
  have c4b1 : (a0_1 != a1_1) = false := bne_eq_false_iff_eq.mpr cz2
  clear cz2
  by_cases cz3 : a0_2 = a1_2
  · rw [if_pos cz3] at H
    have c5b0 : (a0_2 == a1_2) = true := beq_iff_eq.mpr cz3
    have c5b1 : (a0_2 != a1_2) = false := bne_eq_false_iff_eq.mpr cz3
    clear cz3
    exact laws_eqSub_z0
  rw [if_neg cz3] at H
  have c5b0 : (a0_2 == a1_2) = false := beq_eq_false_iff_ne.mpr cz3
  have c5b1 : (a0_2 != a1_2) = true := bne_iff_ne.mpr cz3
  exact laws_eqSub_z0

end Go.Proofs.YtemehnmbmajnfaaDoor.P
