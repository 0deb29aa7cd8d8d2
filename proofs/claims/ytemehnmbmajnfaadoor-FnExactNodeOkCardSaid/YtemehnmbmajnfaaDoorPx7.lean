-- Printed by a program over the kit's print.py (mp.sh), several laws in one namespace.
import Derived.Test.YtemehnmbmajnfaaDoorPx0
import Derived.Test.YtemehnmbmajnfaaDoorS
import Derived.Test.YtemehnmbmajnfaaDoorPx5
import Derived.Test.YtemehnmbmajnfaaDoorPx6
namespace Go.Proofs.YtemehnmbmajnfaaDoor.P
open Go.RowKit Go.Proofs.YtemehnmbmajnfaaDoor.X Go.Proofs.YtemehnmbmajnfaaDoorW.PrintWords Go.Proofs.YtemehnmbmajnfaaDoorW.PrintLast Go.Proofs.YtemehnmbmajnfaaDoorW.PrintMore
attribute [local go_sem] max2_int min2_int max_two min_two max_three min_three max_four min_four   -- for this text's walks alone
set_option linter.unusedVariables false
set_option linter.unusedSimpArgs false

/-! ### spec_l8Texts: function 26 -/
mutual
def spec_l8Texts.j0 : Nat → ByteArray → Int → Bool → List ByteArray → List (S32) → List (S81) → Option (Bool)
  | 0, _, _, _, _, _, _ => none
  | k + 1, x1, x2, x21, x160000, x160001, x160002 => if x21 = true then (some false) else (spec_l8Texts.l0 k x1 x2 0 x160000 x160001 x160002)
def spec_l8Texts.l0 : Nat → ByteArray → Int → Int → List ByteArray → List (S32) → List (S81) → Option (Bool)
  | 0, _, _, _, _, _, _ => none
  | k + 1, x1, x2, x7, x160000, x160001, x160002 => if x7 < (x160000.length : Int) then (if 0 ≤ x7 then (if x2 > 0 then (if x1.size + 1 ≤ 9223372036854775807 then (if (x1 ++ (⟨#[47]⟩ : ByteArray)).size + (rdOf ByteArray.empty x160000 x7).size ≤ 9223372036854775807 then (if x7 < (x160001.length : Int) then ((spec_l8Texts.f k ((rd_T32 x160001 x7).f0) ((rd_T32 x160001 x7).f1) ((rd_T32 x160001 x7).f2) ((x1 ++ (⟨#[47]⟩ : ByteArray)) ++ (rdOf ByteArray.empty x160000 x7)) (wrap64 (x2 + 1))).bind fun t163 => (if t163 = true then (spec_l8Texts.l0 k x1 x2 (wrap64 (x7 + 1)) x160000 x160001 x160002) else (some false))) else (none)) else (none)) else (none)) else (if x7 < (x160001.length : Int) then ((spec_l8Texts.f k ((rd_T32 x160001 x7).f0) ((rd_T32 x160001 x7).f1) ((rd_T32 x160001 x7).f2) (rdOf ByteArray.empty x160000 x7) (wrap64 (x2 + 1))).bind fun t165 => (if t165 = true then (spec_l8Texts.l0 k x1 x2 (wrap64 (x7 + 1)) x160000 x160001 x160002) else (some false))) else (none))) else (none)) else (some true)
def spec_l8Texts.f : Nat → List ByteArray → List (S32) → List (S81) → ByteArray → Int → Option (Bool)
  | 0, _, _, _, _, _ => none
  | k + 1, l0_0, l0_1, l0_2, a1, a2 => if a2 > 0 then (if (l0_2.length : Int) > 0 then ((spec_FilterOk.f k a1).bind fun t160 => (spec_l8Texts.j0 k a1 a2 (!t160) l0_0 l0_1 l0_2)) else (spec_l8Texts.j0 k a1 a2 false l0_0 l0_1 l0_2)) else (spec_l8Texts.j0 k a1 a2 false l0_0 l0_1 l0_2)
end
theorem spec_l8Texts.mono_l : ∀ k, (∀ y0 y1 y2 y3 y4, LeO (spec_l8Texts.f k y0 y1 y2 y3 y4) (spec_l8Texts.f (k + 1) y0 y1 y2 y3 y4)) ∧ (∀ y0 y1 y2 y3 y4 y5, LeO (spec_l8Texts.j0 k y0 y1 y2 y3 y4 y5) (spec_l8Texts.j0 (k + 1) y0 y1 y2 y3 y4 y5)) ∧ (∀ y0 y1 y2 y3 y4 y5, LeO (spec_l8Texts.l0 k y0 y1 y2 y3 y4 y5) (spec_l8Texts.l0 (k + 1) y0 y1 y2 y3 y4 y5))
  | 0 => ⟨fun _ _ _ _ _ r h => by simp [spec_l8Texts.f] at h, fun _ _ _ _ _ _ r h => by simp [spec_l8Texts.j0] at h, fun _ _ _ _ _ _ r h => by simp [spec_l8Texts.l0] at h⟩
  | k + 1 => by
    obtain ⟨ih0, ih1, ih2⟩ := spec_l8Texts.mono_l k
    refine ⟨?_, ?_, ?_⟩
    · intro y0 y1 y2 y3 y4
      unfold spec_l8Texts.f
      repeat' first
      | (with_reducible exact ih0 _ _ _ _ _)
      | (with_reducible exact ih1 _ _ _ _ _ _)
      | (with_reducible exact ih2 _ _ _ _ _ _)
      | (with_reducible exact spec_FilterOk.mono _ _)
      | (with_reducible exact LeO.refl _)
      | (with_reducible exact LeO.none _)
      | (with_reducible refine LeO.ite ?_ ?_)
      | (with_reducible refine LeO.bind ?_ (fun _ => ?_))
      | exact ih0 _ _ _ _ _
      | exact ih1 _ _ _ _ _ _
      | exact ih2 _ _ _ _ _ _
      | exact spec_FilterOk.mono _ _
      | exact LeO.none _
      | refine LeO.ite ?_ ?_
      | refine LeO.bind ?_ (fun _ => ?_)
    · intro y0 y1 y2 y3 y4 y5
      unfold spec_l8Texts.j0
      repeat' first
      | (with_reducible exact ih0 _ _ _ _ _)
      | (with_reducible exact ih1 _ _ _ _ _ _)
      | (with_reducible exact ih2 _ _ _ _ _ _)
      | (with_reducible exact spec_FilterOk.mono _ _)
      | (with_reducible exact LeO.refl _)
      | (with_reducible exact LeO.none _)
      | (with_reducible refine LeO.ite ?_ ?_)
      | (with_reducible refine LeO.bind ?_ (fun _ => ?_))
      | exact ih0 _ _ _ _ _
      | exact ih1 _ _ _ _ _ _
      | exact ih2 _ _ _ _ _ _
      | exact spec_FilterOk.mono _ _
      | exact LeO.none _
      | refine LeO.ite ?_ ?_
      | refine LeO.bind ?_ (fun _ => ?_)
    · intro y0 y1 y2 y3 y4 y5
      unfold spec_l8Texts.l0
      repeat' first
      | (with_reducible exact ih0 _ _ _ _ _)
      | (with_reducible exact ih1 _ _ _ _ _ _)
      | (with_reducible exact ih2 _ _ _ _ _ _)
      | (with_reducible exact spec_FilterOk.mono _ _)
      | (with_reducible exact LeO.refl _)
      | (with_reducible exact LeO.none _)
      | (with_reducible refine LeO.ite ?_ ?_)
      | (with_reducible refine LeO.bind ?_ (fun _ => ?_))
      | exact ih0 _ _ _ _ _
      | exact ih1 _ _ _ _ _ _
      | exact ih2 _ _ _ _ _ _
      | exact spec_FilterOk.mono _ _
      | exact LeO.none _
      | refine LeO.ite ?_ ?_
      | refine LeO.bind ?_ (fun _ => ?_)
theorem spec_l8Texts.mono : ∀ a0 a1 a2 a3 a4 k, LeO (spec_l8Texts.f k a0 a1 a2 a3 a4) (spec_l8Texts.f (k + 1) a0 a1 a2 a3 a4) := by
  intro a0 a1 a2 a3 a4 k
  obtain ⟨ih0, ih1, ih2⟩ := spec_l8Texts.mono_l k
  exact ih0 a0 a1 a2 a3 a4
set_option maxHeartbeats 8000000 in
set_option maxRecDepth 100000 in
theorem spec_l8Texts.calls (k : Nat) : ∀ (A0_0 : Option Addr) (c0_0 : Nat) (l0_0 : List ByteArray) (A0_1 : Option Addr) (c0_1 : Nat) (l0_1 : List (S32)) (A0_2 : Option Addr) (c0_2 : Nat) (l0_2 : List (S81)) (a1 : ByteArray) (a2 : Int) (r : Bool) (w : World) (hr0_0 : Kd.C Kd.string w A0_0 l0_0.length l0_0) (hc0_0 : l0_0.length ≤ c0_0) (hr0_1 : Kd.C k32 w A0_1 l0_1.length l0_1) (hc0_1 : l0_1.length ≤ c0_1) (hr0_2 : Kd.C k81 w A0_2 l0_2.length l0_2) (hc0_2 : l0_2.length ≤ c0_2) (h : spec_l8Texts.f k l0_0 l0_1 l0_2 a1 a2 = some r),
    Calls Tryd.prog 26 #[.agg #[.slice A0_0 l0_0.length c0_0, .slice A0_1 l0_1.length c0_1, .slice A0_2 l0_2.length c0_2], .string a1, .int .i64 a2] w fun e w' => e = .returned (.bool r) ∧ Below w.heap.size w w' := by
  induction k using Nat.strongRecOn with
  | _ k ih =>
  intro Az1 cz1 lz1 Az2 cz2 lz2 Az3 cz3 lz3 az1 az2 r w hrz1 hcz1 hrz2 hcz2 hrz3 hcz3 h
  cases k with
  | zero => exact absurd h (by simp [spec_l8Texts.f])
  | succ k =>
  simp only [spec_l8Texts.f] at h
  have huz1 := Tryd.underlying32
  have HRz1 := Aside0.mk hrz1
  have HCz1 := Aside0.mk hcz1
  clear hrz1 hcz1
  have HRz2 := Aside0.mk hrz2
  have HCz2 := Aside0.mk hcz2
  clear hrz2 hcz2
  have HRz3 := Aside0.mk hrz3
  have HCz3 := Aside0.mk hcz3
  clear hrz3 hcz3
  have HB := Aside0.mk (Below.refl w.heap.size w)
  have H : (if az2 > 0 then (if (lz3.length : Int) > 0 then ((spec_FilterOk.f k az1).bind fun t160 => (spec_l8Texts.j0 k az1 az2 (!t160) lz1 lz2 lz3)) else (spec_l8Texts.j0 k az1 az2 false lz1 lz2 lz3)) else (spec_l8Texts.j0 k az1 az2 false lz1 lz2 lz3)) = some r := h
  clear h
  have HCz4 := Aside0.mk H
  clear H
  go_enter Tryd.func26, Tryd.ntmps26
  go_upto_region 1 with (first | ((with_reducible refine gate_dst (N := 3) rfl ?_); (try (refine gate_guard (by rfl) ?_; dsimp only)); refine box_event ?hg (N := 3) ?hd (cs := #[.slice Az1 lz1.length cz1, .slice Az2 lz2.length cz2, .slice Az3 lz3.length cz3]) (t := 32) ?hr ?_; (case hd => rfl); (case hg => rfl); (case hr => first | (go_simp; done) | (go_simp; rfl)); intro gbz1 hg wz1 hbox hb; have nz1 := Aside0.mk (below_step be_ hb); have nz2 := Aside0.mk (hbox); have nz3 := Aside0.mk ((sz_ : w.heap.size ≤ gbz1)); have nz4 := Aside0.mk ((sz_ : w.heap.size ≤ gbz1)); clear HB; have HB := nz1; have BKz1 := nz2; have GWz1 := nz3; have GEz1 := nz4; clear nz1 nz2 nz3 nz4; clear hb hbox hg))
  (try simp only [Act.put, List.setIfInBounds_toArray, List.set_cons_zero, List.set_cons_succ])
  go_cut [21] (fun v21 wc => ∃ (kq : Nat) (x21_3 : Bool), v21 = .bool x21_3 ∧ Aside0 (spec_l8Texts.j0 kq az1 az2 x21_3 lz1 lz2 lz3 = some r) ∧ Aside0 (kq ≤ k) ∧ Aside0 (wc.heap[gbz1]? = some (.cells #[(.slice Az1 lz1.length cz1), (.slice Az2 lz2.length cz2), (.slice Az3 lz3.length cz3)] 32 (0, 0))) ∧ Aside0 (Below w.heap.size w wc))
  case first =>
    have H := HCz4.out
    clear HCz4
    by_cases cz4 : az2 > 0
    rotate_left
    · rw [if_neg cz4] at H
      have c6b0 : decide (0 < az2) = false := decide_eq_false cz4
      clear cz4
      (first | rw [c6b0] | (simp only [i64_w, i32_w]; rw [c6b0]) | skip)
      have H' := Aside0.mk H
      clear H
      go_wp2
      go_meet
      case rel => exact ⟨_, (false), (by first | rfl | (simp; done) | (simp [*]; done)), H', ⟨by first | omega | exact Nat.le_refl _⟩, ⟨bk_⟩, ⟨be_⟩⟩
    rw [if_pos cz4] at H
    have c6b0 : decide (0 < az2) = true := decide_eq_true cz4
    clear cz4
    (first | rw [c6b0] | (simp only [i64_w, i32_w]; rw [c6b0]) | skip)
    by_cases cz5 : (lz3.length : Int) > 0
    rotate_left
    · rw [if_neg cz5] at H
      have c7b0 : decide (0 < (lz3.length : Int)) = false := decide_eq_false cz5
      have c7b1 : decide (0 < lz3.length) = false := decide_eq_false (by omega)
      clear cz5
      have H' := Aside0.mk H
      clear H
      have hczz1 : wz1.cell? ⟨gbz1, 0, none⟩ = some (.slice Az1 lz1.length cz1) := (blk_cell BKz1.out 0).trans rfl
      have hczz2 : wz1.cell? ⟨gbz1, 1, none⟩ = some (.slice Az2 lz2.length cz2) := (blk_cell BKz1.out 1).trans rfl
      have hczz3 : wz1.cell? ⟨gbz1, 2, none⟩ = some (.slice Az3 lz3.length cz3) := (blk_cell BKz1.out 2).trans rfl
      have hfzz1 := blk_frozen BKz1.out 0
      have hfzz2 := blk_frozen BKz1.out 1
      have hfzz3 := blk_frozen BKz1.out 2
      go_wp2
      go_meet
      case rel => exact ⟨_, (false), (by first | rfl | (simp; done) | (simp [*]; done)), H', ⟨by first | omega | exact Nat.le_refl _⟩, ⟨bk_⟩, ⟨be_⟩⟩
    rw [if_pos cz5] at H
    have c7b0 : decide (0 < (lz3.length : Int)) = true := decide_eq_true cz5
    have c7b1 : decide (0 < lz3.length) = true := decide_eq_true (by omega)
    clear cz5
    replace H := Option.bind_eq_some_iff.mp H
    obtain ⟨tz1, Az4, H⟩ := H
    replace H : (spec_l8Texts.j0 k az1 az2 (!tz1) lz1 lz2 lz3) = some r := H
    have Az5 := Aside0.mk Az4
    clear Az4
    have H' := Aside0.mk H
    clear H
    have hczz1 : wz1.cell? ⟨gbz1, 0, none⟩ = some (.slice Az1 lz1.length cz1) := (blk_cell BKz1.out 0).trans rfl
    have hczz2 : wz1.cell? ⟨gbz1, 1, none⟩ = some (.slice Az2 lz2.length cz2) := (blk_cell BKz1.out 1).trans rfl
    have hczz3 : wz1.cell? ⟨gbz1, 2, none⟩ = some (.slice Az3 lz3.length cz3) := (blk_cell BKz1.out 2).trans rfl
    have hfzz1 := blk_frozen BKz1.out 0
    have hfzz2 := blk_frozen BKz1.out 1
    have hfzz3 := blk_frozen BKz1.out 2
    go_wp2_with (first | (go_at_call 51; (with_reducible refine (spec_FilterOk.calls k az1 tz1 _ Az5.out).mono ?_); rintro e wz2 ⟨rfl, hb⟩; have nz1 := Aside0.mk (blk_below (g := gbz1) (o := .cells #[.slice Az1 lz1.length cz1, .slice Az2 lz2.length cz2, .slice Az3 lz3.length cz3] 32 (0, 0)) bk_ hb); have nz2 := Aside0.mk (below_step be_ hb); clear BKz1; clear HB; have BKz1 := nz1; have HB := nz2; clear nz1 nz2; (try clear hb); (try clear hb2); (try clear hk); (try clear hi)))
    go_meet
    case rel => exact ⟨_, (!tz1), (by first | rfl | (simp; done) | (simp [*]; done)), H', ⟨by first | omega | exact Nat.le_refl _⟩, ⟨bk_⟩, ⟨be_⟩⟩
  case rest =>
    clear HCz4
    try clear c2
    try clear p2
    try clear c6
    try clear c6b0
    try clear c7
    try clear c7b0
    try clear c7b1
    try clear hcz11_0
    try clear hcz11_1
    try clear hcz11_2
    try clear hcz9_0
    try clear hcz9_1
    try clear hcz9_2
    try clear hfz11_0
    try clear hfz11_1
    try clear hfz11_2
    try clear hfz9_0
    try clear hfz9_1
    try clear hfz9_2
    obtain ⟨kq, xz1, rfl, HA, HJz1, BKz1, HB⟩ := hcut
    cases kq with
    | zero => exact absurd HA.out (by simp [spec_l8Texts.j0])
    | succ kjz1 =>
      have H := HA.out
      clear HA
      simp only [spec_l8Texts.j0] at H
      by_cases cz4 : xz1 = true
      · subst cz4
        have Hz1 : (some false) = some r := by rw [if_pos rfl] at H; exact H
        clear H
        have H := Hz1
        clear Hz1
        obtain rfl := Option.some.inj H
        go_wp2
        go_ret
        exact ⟨by first | rfl | (simp [errW_none, errW_some] <;> rfl) | (simp [*, errW_none, errW_some] <;> rfl), be_⟩
      replace cz4 := Bool.eq_false_iff.mpr cz4
      subst cz4
      have Hz1 : (spec_l8Texts.l0 kjz1 az1 az2 0 lz1 lz2 lz3) = some r := by rw [if_neg (show ¬ (false = true) by decide)] at H; exact H
      clear H
      have H := Hz1
      clear Hz1
      have H' := Aside0.mk H
      clear H
      go_wp2
      go_loopg [7] kjz1 (fun kq v7 w' => ∃ (x7_2 : Int), v7 = .int .i64 x7_2 ∧ Aside0 (spec_l8Texts.l0 kq az1 az2 x7_2 lz1 lz2 lz3 = some r) ∧ Aside0 (kq ≤ kjz1) ∧ Aside0 (w'.heap[gbz1]? = some (.cells #[(.slice Az1 lz1.length cz1), (.slice Az2 lz2.length cz2), (.slice Az3 lz3.length cz3)] 32 (0, 0))) ∧ Aside0 (Below w.heap.size w w'))
      case atStart => exact ⟨(0), (by first | rfl | (simp; done) | (simp [*]; done)), H', ⟨Nat.le_refl _⟩, ⟨bk_⟩, ⟨be_⟩⟩
      case round =>
        clear H'
        try clear c1
        try clear c2
        try clear p2
        try clear c6
        try clear c6b0
        try clear c7
        try clear c7b0
        try clear c7b1
        try clear cz4
        try clear hcz11_0
        try clear hcz11_1
        try clear hcz11_2
        try clear hcz9_0
        try clear hcz9_1
        try clear hcz9_2
        try clear hfz11_0
        try clear hfz11_1
        try clear hfz11_2
        try clear hfz9_0
        try clear hfz9_1
        try clear hfz9_2
        try clear p2
        obtain ⟨xz2, rfl, HA, HKz1, BKz1, HB⟩ := hrel
        cases gk with
        | zero => exact absurd HA.out (by simp [spec_l8Texts.l0])
        | succ kz1 =>
          have H := HA.out
          clear HA
          simp only [spec_l8Texts.l0] at H
          by_cases cz5 : xz2 < (lz1.length : Int)
          rotate_left
          · rw [if_neg cz5] at H
            have c13b0 : decide (xz2 < (lz1.length : Int)) = false := decide_eq_false cz5
            clear cz5
            obtain rfl := Option.some.inj H
            have hczz1 : wr.cell? ⟨gbz1, 0, none⟩ = some (.slice Az1 lz1.length cz1) := (blk_cell BKz1.out 0).trans rfl
            have hczz2 : wr.cell? ⟨gbz1, 1, none⟩ = some (.slice Az2 lz2.length cz2) := (blk_cell BKz1.out 1).trans rfl
            have hczz3 : wr.cell? ⟨gbz1, 2, none⟩ = some (.slice Az3 lz3.length cz3) := (blk_cell BKz1.out 2).trans rfl
            have hfzz1 := blk_frozen BKz1.out 0
            have hfzz2 := blk_frozen BKz1.out 1
            have hfzz3 := blk_frozen BKz1.out 2
            go_wp2
            go_ret
            exact ⟨by first | rfl | (simp [errW_none, errW_some] <;> rfl) | (simp [*, errW_none, errW_some] <;> rfl), be_⟩
          rw [if_pos cz5] at H
          have c13b0 : decide (xz2 < (lz1.length : Int)) = true := decide_eq_true cz5
          clear cz5
          by_cases cz6 : 0 ≤ xz2
          rotate_left
          · rw [if_neg cz6] at H
            exact absurd H (by simp)
          rw [if_pos cz6] at H
          have c14b0 : decide (0 ≤ xz2) = true := decide_eq_true cz6
          clear cz6
          by_cases cz7 : az2 > 0
          rotate_left
          · rw [if_neg cz7] at H
            have c15b0 : decide (0 < az2) = false := decide_eq_false cz7
            clear cz7
            by_cases cz8 : xz2 < (lz2.length : Int)
            rotate_left
            · rw [if_neg cz8] at H
              exact absurd H (by simp)
            rw [if_pos cz8] at H
            have c25b0 : decide (xz2 < (lz2.length : Int)) = true := decide_eq_true cz8
            clear cz8
            replace H := Option.bind_eq_some_iff.mp H
            obtain ⟨tz1, Az4, H⟩ := H
            replace H : (if tz1 = true then (spec_l8Texts.l0 kz1 az1 az2 (wrap64 (xz2 + 1)) lz1 lz2 lz3) else (some false)) = some r := H
            have Az5 := Aside0.mk Az4
            clear Az4
            by_cases cz9 : tz1 = true
            rotate_left
            · replace cz9 := Bool.eq_false_iff.mpr cz9
              subst cz9
              have Hz1 : (some false) = some r := by rw [if_neg (show ¬ (false = true) by decide)] at H; exact H
              clear H
              have H := Hz1
              clear Hz1
              obtain rfl := Option.some.inj H
              have hczz1 : wr.cell? ⟨gbz1, 0, none⟩ = some (.slice Az1 lz1.length cz1) := (blk_cell BKz1.out 0).trans rfl
              have hczz2 : wr.cell? ⟨gbz1, 1, none⟩ = some (.slice Az2 lz2.length cz2) := (blk_cell BKz1.out 1).trans rfl
              have hczz3 : wr.cell? ⟨gbz1, 2, none⟩ = some (.slice Az3 lz3.length cz3) := (blk_cell BKz1.out 2).trans rfl
              have hfzz1 := blk_frozen BKz1.out 0
              have hfzz2 := blk_frozen BKz1.out 1
              have hfzz3 := blk_frozen BKz1.out 2
              have pz1 : 0 ≤ (xz2 : Int) := of_decide_eq_true as_
              have qz1 : xz2 < (lz1.length : Int) := of_decide_eq_true as_
              obtain ⟨adz1, ez1, hxz1⟩ := Kd.at_string HRz1.out xz2 pz1 qz1
              cases ez1
              replace hxz1 := (HB.out.cell (World.block_lt_of_cell? w _ hxz1)).trans hxz1
              replace pz1 := eq_true pz1
              replace qz1 := eq_true qz1
              have pz2 : 0 ≤ (xz2 : Int) := of_decide_eq_true as_
              have qz2 : xz2 < (lz2.length : Int) := of_decide_eq_true as_
              obtain ⟨adz2, Az6, cz10, Az7, cz11, Az8, cz12, ez2, hxz2, hxz3, hxz4, hlz1, hiz1, hlz2, hiz2, hlz3, hiz3⟩ := at_T32 HRz2.out xz2 pz2 qz2
              cases ez2
              replace hxz2 := (HB.out.cell (World.block_lt_of_cell? w _ hxz2)).trans hxz2
              replace hxz3 := (HB.out.cell (World.block_lt_of_cell? w _ hxz3)).trans hxz3
              replace hxz4 := (HB.out.cell (World.block_lt_of_cell? w _ hxz4)).trans hxz4
              have HRz4 := Aside0.mk hiz1
              have HCz5 := Aside0.mk hlz1
              clear hiz1 hlz1
              have HRz5 := Aside0.mk hiz2
              have HCz6 := Aside0.mk hlz2
              clear hiz2 hlz2
              have HRz6 := Aside0.mk hiz3
              have HCz7 := Aside0.mk hlz3
              clear hiz3 hlz3
              replace pz2 := eq_true pz2
              replace qz2 := eq_true qz2
              go_wp2_with (first | ((with_reducible refine gate_callee (f := 26) rfl ?_); refine goesL_ (some 48) rfl rfl Tryd.func26 (by kernel_rfl) rfl #[.agg #[.slice Az6 ((rd_T32 lz2 xz2).f0).length cz10, .slice Az7 ((rd_T32 lz2 xz2).f1).length cz11, .slice Az8 ((rd_T32 lz2 xz2).f2).length cz12], .string (rdOf ByteArray.empty lz1 xz2), .int .i64 (wrap64 (az2 + 1))] rfl ar_ ?_; (with_reducible refine (ih kz1 (by have := HJz1.out; have := HKz1.out; omega) _ _ ((rd_T32 lz2 xz2).f0) _ _ ((rd_T32 lz2 xz2).f1) _ _ ((rd_T32 lz2 xz2).f2) (rdOf ByteArray.empty lz1 xz2) (wrap64 (az2 + 1)) false _ ?side1 ?side2 ?side3 ?side4 ?side5 ?side6 Az5.out).mono ?_); (case side1 => exact Kd.C_below HRz4.out be_); (case side2 => exact HCz5.out); (case side3 => exact Kd.C_below HRz5.out be_); (case side4 => exact HCz6.out); (case side5 => exact Kd.C_below HRz6.out be_); (case side6 => exact HCz7.out); rintro e wz2 ⟨rfl, hb⟩; refine ⟨_, rfl, ?_⟩; have nz1 := Aside0.mk (blk_below (g := gbz1) (o := .cells #[.slice (some adz1) lz1.length cz1, .slice (some adz2) lz2.length cz2, .slice Az3 lz3.length cz3] 32 (0, 0)) bk_ hb); have nz2 := Aside0.mk (below_step be_ hb); clear BKz1; clear HB; have BKz1 := nz1; have HB := nz2; clear nz1 nz2; (try clear hb); (try clear hb2); (try clear hk); (try clear hi)))
              go_ret
              exact ⟨by first | rfl | (simp [errW_none, errW_some] <;> rfl) | (simp [*, errW_none, errW_some] <;> rfl), be_⟩
            subst cz9
            have Hz1 : (spec_l8Texts.l0 kz1 az1 az2 (wrap64 (xz2 + 1)) lz1 lz2 lz3) = some r := by rw [if_pos rfl] at H; exact H
            clear H
            have H := Hz1
            clear Hz1
            have H' := Aside0.mk H
            clear H
            have hczz1 : wr.cell? ⟨gbz1, 0, none⟩ = some (.slice Az1 lz1.length cz1) := (blk_cell BKz1.out 0).trans rfl
            have hczz2 : wr.cell? ⟨gbz1, 1, none⟩ = some (.slice Az2 lz2.length cz2) := (blk_cell BKz1.out 1).trans rfl
            have hczz3 : wr.cell? ⟨gbz1, 2, none⟩ = some (.slice Az3 lz3.length cz3) := (blk_cell BKz1.out 2).trans rfl
            have hfzz1 := blk_frozen BKz1.out 0
            have hfzz2 := blk_frozen BKz1.out 1
            have hfzz3 := blk_frozen BKz1.out 2
            have pz1 : 0 ≤ (xz2 : Int) := of_decide_eq_true as_
            have qz1 : xz2 < (lz1.length : Int) := of_decide_eq_true as_
            obtain ⟨adz1, ez1, hxz1⟩ := Kd.at_string HRz1.out xz2 pz1 qz1
            cases ez1
            replace hxz1 := (HB.out.cell (World.block_lt_of_cell? w _ hxz1)).trans hxz1
            replace pz1 := eq_true pz1
            replace qz1 := eq_true qz1
            have pz2 : 0 ≤ (xz2 : Int) := of_decide_eq_true as_
            have qz2 : xz2 < (lz2.length : Int) := of_decide_eq_true as_
            obtain ⟨adz2, Az6, cz10, Az7, cz11, Az8, cz12, ez2, hxz2, hxz3, hxz4, hlz1, hiz1, hlz2, hiz2, hlz3, hiz3⟩ := at_T32 HRz2.out xz2 pz2 qz2
            cases ez2
            replace hxz2 := (HB.out.cell (World.block_lt_of_cell? w _ hxz2)).trans hxz2
            replace hxz3 := (HB.out.cell (World.block_lt_of_cell? w _ hxz3)).trans hxz3
            replace hxz4 := (HB.out.cell (World.block_lt_of_cell? w _ hxz4)).trans hxz4
            have HRz4 := Aside0.mk hiz1
            have HCz5 := Aside0.mk hlz1
            clear hiz1 hlz1
            have HRz5 := Aside0.mk hiz2
            have HCz6 := Aside0.mk hlz2
            clear hiz2 hlz2
            have HRz6 := Aside0.mk hiz3
            have HCz7 := Aside0.mk hlz3
            clear hiz3 hlz3
            replace pz2 := eq_true pz2
            replace qz2 := eq_true qz2
            go_wp2_with (first | ((with_reducible refine gate_callee (f := 26) rfl ?_); refine goesL_ (some 48) rfl rfl Tryd.func26 (by kernel_rfl) rfl #[.agg #[.slice Az6 ((rd_T32 lz2 xz2).f0).length cz10, .slice Az7 ((rd_T32 lz2 xz2).f1).length cz11, .slice Az8 ((rd_T32 lz2 xz2).f2).length cz12], .string (rdOf ByteArray.empty lz1 xz2), .int .i64 (wrap64 (az2 + 1))] rfl ar_ ?_; (with_reducible refine (ih kz1 (by have := HJz1.out; have := HKz1.out; omega) _ _ ((rd_T32 lz2 xz2).f0) _ _ ((rd_T32 lz2 xz2).f1) _ _ ((rd_T32 lz2 xz2).f2) (rdOf ByteArray.empty lz1 xz2) (wrap64 (az2 + 1)) true _ ?side1 ?side2 ?side3 ?side4 ?side5 ?side6 Az5.out).mono ?_); (case side1 => exact Kd.C_below HRz4.out be_); (case side2 => exact HCz5.out); (case side3 => exact Kd.C_below HRz5.out be_); (case side4 => exact HCz6.out); (case side5 => exact Kd.C_below HRz6.out be_); (case side6 => exact HCz7.out); rintro e wz2 ⟨rfl, hb⟩; refine ⟨_, rfl, ?_⟩; have nz1 := Aside0.mk (blk_below (g := gbz1) (o := .cells #[.slice (some adz1) lz1.length cz1, .slice (some adz2) lz2.length cz2, .slice Az3 lz3.length cz3] 32 (0, 0)) bk_ hb); have nz2 := Aside0.mk (below_step be_ hb); clear BKz1; clear HB; have BKz1 := nz1; have HB := nz2; clear nz1 nz2; (try clear hb); (try clear hb2); (try clear hk); (try clear hi)))
            go_roundg kz1
            case measure => have := HJz1.out; have := HKz1.out; omega
            case rel => exact ⟨(wrap64 (xz2 + 1)), (by first | rfl | (simp; done) | (simp [*]; done)), H', ⟨by have := HJz1.out; have := HKz1.out; omega⟩, ⟨bk_⟩, ⟨be_⟩⟩
          rw [if_pos cz7] at H
          have c15b0 : decide (0 < az2) = true := decide_eq_true cz7
          clear cz7
          by_cases cz8 : az1.size + 1 ≤ 9223372036854775807
          rotate_left
          · rw [if_neg cz8] at H
            exact absurd H (by simp)
          rw [if_pos cz8] at H
          have c16b0 := eq_true cz8
          have c16b1 : decide (az1.size + 1 ≤ 9223372036854775807) = true := decide_eq_true cz8
          try have c16b2 : (9223372036854775807 < az1.size + 1) = False := eq_false (Nat.not_lt.2 cz8)
          by_cases cz9 : (az1 ++ (⟨#[47]⟩ : ByteArray)).size + (rdOf ByteArray.empty lz1 xz2).size ≤ 9223372036854775807
          rotate_left
          · rw [if_neg cz9] at H
            exact absurd H (by simp)
          rw [if_pos cz9] at H
          have c17b0 := eq_true cz9
          have c17b1 : decide ((az1 ++ (⟨#[47]⟩ : ByteArray)).size + (rdOf ByteArray.empty lz1 xz2).size ≤ 9223372036854775807) = true := decide_eq_true cz9
          try have c17b2 : (9223372036854775807 < (az1 ++ (⟨#[47]⟩ : ByteArray)).size + (rdOf ByteArray.empty lz1 xz2).size) = False := eq_false (Nat.not_lt.2 cz9)
          by_cases cz10 : xz2 < (lz2.length : Int)
          rotate_left
          · rw [if_neg cz10] at H
            exact absurd H (by simp)
          rw [if_pos cz10] at H
          have c18b0 : decide (xz2 < (lz2.length : Int)) = true := decide_eq_true cz10
          clear cz10
          replace H := Option.bind_eq_some_iff.mp H
          obtain ⟨tz1, Az4, H⟩ := H
          replace H : (if tz1 = true then (spec_l8Texts.l0 kz1 az1 az2 (wrap64 (xz2 + 1)) lz1 lz2 lz3) else (some false)) = some r := H
          have Az5 := Aside0.mk Az4
          clear Az4
          by_cases cz11 : tz1 = true
          rotate_left
          · replace cz11 := Bool.eq_false_iff.mpr cz11
            subst cz11
            have Hz1 : (some false) = some r := by rw [if_neg (show ¬ (false = true) by decide)] at H; exact H
            clear H
            have H := Hz1
            clear Hz1
            obtain rfl := Option.some.inj H
            have hczz1 : wr.cell? ⟨gbz1, 0, none⟩ = some (.slice Az1 lz1.length cz1) := (blk_cell BKz1.out 0).trans rfl
            have hczz2 : wr.cell? ⟨gbz1, 1, none⟩ = some (.slice Az2 lz2.length cz2) := (blk_cell BKz1.out 1).trans rfl
            have hczz3 : wr.cell? ⟨gbz1, 2, none⟩ = some (.slice Az3 lz3.length cz3) := (blk_cell BKz1.out 2).trans rfl
            have hfzz1 := blk_frozen BKz1.out 0
            have hfzz2 := blk_frozen BKz1.out 1
            have hfzz3 := blk_frozen BKz1.out 2
            have pz1 : 0 ≤ (xz2 : Int) := of_decide_eq_true as_
            have qz1 : xz2 < (lz1.length : Int) := of_decide_eq_true as_
            obtain ⟨adz1, ez1, hxz1⟩ := Kd.at_string HRz1.out xz2 pz1 qz1
            cases ez1
            replace hxz1 := (HB.out.cell (World.block_lt_of_cell? w _ hxz1)).trans hxz1
            replace pz1 := eq_true pz1
            replace qz1 := eq_true qz1
            have pz2 : 0 ≤ (xz2 : Int) := of_decide_eq_true as_
            have qz2 : xz2 < (lz2.length : Int) := of_decide_eq_true as_
            obtain ⟨adz2, Az6, cz12, Az7, cz13, Az8, cz14, ez2, hxz2, hxz3, hxz4, hlz1, hiz1, hlz2, hiz2, hlz3, hiz3⟩ := at_T32 HRz2.out xz2 pz2 qz2
            cases ez2
            replace hxz2 := (HB.out.cell (World.block_lt_of_cell? w _ hxz2)).trans hxz2
            replace hxz3 := (HB.out.cell (World.block_lt_of_cell? w _ hxz3)).trans hxz3
            replace hxz4 := (HB.out.cell (World.block_lt_of_cell? w _ hxz4)).trans hxz4
            have HRz4 := Aside0.mk hiz1
            have HCz5 := Aside0.mk hlz1
            clear hiz1 hlz1
            have HRz5 := Aside0.mk hiz2
            have HCz6 := Aside0.mk hlz2
            clear hiz2 hlz2
            have HRz6 := Aside0.mk hiz3
            have HCz7 := Aside0.mk hlz3
            clear hiz3 hlz3
            replace pz2 := eq_true pz2
            replace qz2 := eq_true qz2
            go_wp2_with (first | ((with_reducible refine gate_callee (f := 26) rfl ?_); refine goesL_ (some 48) rfl rfl Tryd.func26 (by kernel_rfl) rfl #[.agg #[.slice Az6 ((rd_T32 lz2 xz2).f0).length cz12, .slice Az7 ((rd_T32 lz2 xz2).f1).length cz13, .slice Az8 ((rd_T32 lz2 xz2).f2).length cz14], .string ((az1 ++ (⟨#[47]⟩ : ByteArray)) ++ (rdOf ByteArray.empty lz1 xz2)), .int .i64 (wrap64 (az2 + 1))] rfl ar_ ?_; (with_reducible refine (ih kz1 (by have := HJz1.out; have := HKz1.out; omega) _ _ ((rd_T32 lz2 xz2).f0) _ _ ((rd_T32 lz2 xz2).f1) _ _ ((rd_T32 lz2 xz2).f2) ((az1 ++ (⟨#[47]⟩ : ByteArray)) ++ (rdOf ByteArray.empty lz1 xz2)) (wrap64 (az2 + 1)) false _ ?side1 ?side2 ?side3 ?side4 ?side5 ?side6 Az5.out).mono ?_); (case side1 => exact Kd.C_below HRz4.out be_); (case side2 => exact HCz5.out); (case side3 => exact Kd.C_below HRz5.out be_); (case side4 => exact HCz6.out); (case side5 => exact Kd.C_below HRz6.out be_); (case side6 => exact HCz7.out); rintro e wz2 ⟨rfl, hb⟩; refine ⟨_, rfl, ?_⟩; have nz1 := Aside0.mk (blk_below (g := gbz1) (o := .cells #[.slice (some adz1) lz1.length cz1, .slice (some adz2) lz2.length cz2, .slice Az3 lz3.length cz3] 32 (0, 0)) bk_ hb); have nz2 := Aside0.mk (below_step be_ hb); clear BKz1; clear HB; have BKz1 := nz1; have HB := nz2; clear nz1 nz2; (try clear hb); (try clear hb2); (try clear hk); (try clear hi)))
            go_ret
            exact ⟨by first | rfl | (simp [errW_none, errW_some] <;> rfl) | (simp [*, errW_none, errW_some] <;> rfl), be_⟩
          subst cz11
          have Hz1 : (spec_l8Texts.l0 kz1 az1 az2 (wrap64 (xz2 + 1)) lz1 lz2 lz3) = some r := by rw [if_pos rfl] at H; exact H
          clear H
          have H := Hz1
          clear Hz1
          have H' := Aside0.mk H
          clear H
          have hczz1 : wr.cell? ⟨gbz1, 0, none⟩ = some (.slice Az1 lz1.length cz1) := (blk_cell BKz1.out 0).trans rfl
          have hczz2 : wr.cell? ⟨gbz1, 1, none⟩ = some (.slice Az2 lz2.length cz2) := (blk_cell BKz1.out 1).trans rfl
          have hczz3 : wr.cell? ⟨gbz1, 2, none⟩ = some (.slice Az3 lz3.length cz3) := (blk_cell BKz1.out 2).trans rfl
          have hfzz1 := blk_frozen BKz1.out 0
          have hfzz2 := blk_frozen BKz1.out 1
          have hfzz3 := blk_frozen BKz1.out 2
          have pz1 : 0 ≤ (xz2 : Int) := of_decide_eq_true as_
          have qz1 : xz2 < (lz1.length : Int) := of_decide_eq_true as_
          obtain ⟨adz1, ez1, hxz1⟩ := Kd.at_string HRz1.out xz2 pz1 qz1
          cases ez1
          replace hxz1 := (HB.out.cell (World.block_lt_of_cell? w _ hxz1)).trans hxz1
          replace pz1 := eq_true pz1
          replace qz1 := eq_true qz1
          have pz2 : 0 ≤ (xz2 : Int) := of_decide_eq_true as_
          have qz2 : xz2 < (lz2.length : Int) := of_decide_eq_true as_
          obtain ⟨adz2, Az6, cz12, Az7, cz13, Az8, cz14, ez2, hxz2, hxz3, hxz4, hlz1, hiz1, hlz2, hiz2, hlz3, hiz3⟩ := at_T32 HRz2.out xz2 pz2 qz2
          cases ez2
          replace hxz2 := (HB.out.cell (World.block_lt_of_cell? w _ hxz2)).trans hxz2
          replace hxz3 := (HB.out.cell (World.block_lt_of_cell? w _ hxz3)).trans hxz3
          replace hxz4 := (HB.out.cell (World.block_lt_of_cell? w _ hxz4)).trans hxz4
          have HRz4 := Aside0.mk hiz1
          have HCz5 := Aside0.mk hlz1
          clear hiz1 hlz1
          have HRz5 := Aside0.mk hiz2
          have HCz6 := Aside0.mk hlz2
          clear hiz2 hlz2
          have HRz6 := Aside0.mk hiz3
          have HCz7 := Aside0.mk hlz3
          clear hiz3 hlz3
          replace pz2 := eq_true pz2
          replace qz2 := eq_true qz2
          go_wp2_with (first | ((with_reducible refine gate_callee (f := 26) rfl ?_); refine goesL_ (some 48) rfl rfl Tryd.func26 (by kernel_rfl) rfl #[.agg #[.slice Az6 ((rd_T32 lz2 xz2).f0).length cz12, .slice Az7 ((rd_T32 lz2 xz2).f1).length cz13, .slice Az8 ((rd_T32 lz2 xz2).f2).length cz14], .string ((az1 ++ (⟨#[47]⟩ : ByteArray)) ++ (rdOf ByteArray.empty lz1 xz2)), .int .i64 (wrap64 (az2 + 1))] rfl ar_ ?_; (with_reducible refine (ih kz1 (by have := HJz1.out; have := HKz1.out; omega) _ _ ((rd_T32 lz2 xz2).f0) _ _ ((rd_T32 lz2 xz2).f1) _ _ ((rd_T32 lz2 xz2).f2) ((az1 ++ (⟨#[47]⟩ : ByteArray)) ++ (rdOf ByteArray.empty lz1 xz2)) (wrap64 (az2 + 1)) true _ ?side1 ?side2 ?side3 ?side4 ?side5 ?side6 Az5.out).mono ?_); (case side1 => exact Kd.C_below HRz4.out be_); (case side2 => exact HCz5.out); (case side3 => exact Kd.C_below HRz5.out be_); (case side4 => exact HCz6.out); (case side5 => exact Kd.C_below HRz6.out be_); (case side6 => exact HCz7.out); rintro e wz2 ⟨rfl, hb⟩; refine ⟨_, rfl, ?_⟩; have nz1 := Aside0.mk (blk_below (g := gbz1) (o := .cells #[.slice (some adz1) lz1.length cz1, .slice (some adz2) lz2.length cz2, .slice Az3 lz3.length cz3] 32 (0, 0)) bk_ hb); have nz2 := Aside0.mk (below_step be_ hb); clear BKz1; clear HB; have BKz1 := nz1; have HB := nz2; clear nz1 nz2; (try clear hb); (try clear hb2); (try clear hk); (try clear hi)))
          go_roundg kz1
          case measure => have := HJz1.out; have := HKz1.out; omega
          case rel => exact ⟨(wrap64 (xz2 + 1)), (by first | rfl | (simp; done) | (simp [*]; done)), H', ⟨by have := HJz1.out; have := HKz1.out; omega⟩, ⟨bk_⟩, ⟨be_⟩⟩

/-! ### spec_NodeOk: function 7 -/
def spec_NodeOk.f (k : Nat) (l0_0 : List ByteArray) (l0_1 : List (S32)) (l0_2 : List (S81)) : Option (Bool) := if (l0_2.length : Int) = 0 then ((spec_l8Ok.f k l0_0 l0_1 l0_2 0).bind fun t167 => (if t167 = true then ((spec_l8Texts.f k l0_0 l0_1 l0_2 (⟨#[]⟩ : ByteArray) 0).bind fun t168 => (some t168)) else (some false))) else (some false)
theorem spec_NodeOk.mono : ∀ a0 a1 a2 k, LeO (spec_NodeOk.f k a0 a1 a2) (spec_NodeOk.f (k + 1) a0 a1 a2) := by
  intro a0 a1 a2 k
  unfold spec_NodeOk.f
  repeat' first
      | (with_reducible exact spec_l8Ok.mono _ _ _ _ _)
      | (with_reducible exact spec_l8Texts.mono _ _ _ _ _ _)
      | (with_reducible exact LeO.refl _)
      | (with_reducible exact LeO.none _)
      | (with_reducible refine LeO.ite ?_ ?_)
      | (with_reducible refine LeO.bind ?_ (fun _ => ?_))
      | exact spec_l8Ok.mono _ _ _ _ _
      | exact spec_l8Texts.mono _ _ _ _ _ _
      | exact LeO.none _
      | refine LeO.ite ?_ ?_
      | refine LeO.bind ?_ (fun _ => ?_)
set_option maxHeartbeats 8000000 in
set_option maxRecDepth 100000 in
theorem spec_NodeOk.calls (k : Nat) (A0_0 : Option Addr) (c0_0 : Nat) (l0_0 : List ByteArray) (A0_1 : Option Addr) (c0_1 : Nat) (l0_1 : List (S32)) (A0_2 : Option Addr) (c0_2 : Nat) (l0_2 : List (S81)) (r : Bool) (w : World) (hr0_0 : Kd.C Kd.string w A0_0 l0_0.length l0_0) (hc0_0 : l0_0.length ≤ c0_0) (hr0_1 : Kd.C k32 w A0_1 l0_1.length l0_1) (hc0_1 : l0_1.length ≤ c0_1) (hr0_2 : Kd.C k81 w A0_2 l0_2.length l0_2) (hc0_2 : l0_2.length ≤ c0_2) (h : spec_NodeOk.f k l0_0 l0_1 l0_2 = some r) :
    Calls Tryd.prog 7 #[.agg #[.slice A0_0 l0_0.length c0_0, .slice A0_1 l0_1.length c0_1, .slice A0_2 l0_2.length c0_2]] w fun e w' => e = .returned (.bool r) ∧ Below w.heap.size w w' := by
  have huz1 := Tryd.underlying32
  have HRz1 := Aside0.mk hr0_0
  have HCz1 := Aside0.mk hc0_0
  clear hr0_0 hc0_0
  have HRz2 := Aside0.mk hr0_1
  have HCz2 := Aside0.mk hc0_1
  clear hr0_1 hc0_1
  have HRz3 := Aside0.mk hr0_2
  have HCz3 := Aside0.mk hc0_2
  clear hr0_2 hc0_2
  have HB := Aside0.mk (Below.refl w.heap.size w)
  have H : (if (l0_2.length : Int) = 0 then ((spec_l8Ok.f k l0_0 l0_1 l0_2 0).bind fun t167 => (if t167 = true then ((spec_l8Texts.f k l0_0 l0_1 l0_2 (⟨#[]⟩ : ByteArray) 0).bind fun t168 => (some t168)) else (some false))) else (some false)) = some r := h
  clear h
  by_cases cz1 : (l0_2.length : Int) = 0
  rotate_left
  · rw [if_neg cz1] at H
    have c2b0 : ((l0_2.length : Int) == 0) = false := beq_eq_false_iff_ne.mpr cz1
    have c2b1 : ((l0_2.length : Int) != 0) = true := bne_iff_ne.mpr cz1
    have c2b2 : ¬ (l0_2 = []) := fun h_ => cz1 (by rw [h_]; rfl)
    obtain rfl := Option.some.inj H
    go_enter Tryd.func7, Tryd.ntmps7
    go_wp2_with (first | ((with_reducible refine gate_dst (N := 1) rfl ?_); refine box_event ?hg (N := 1) ?hd (cs := #[.slice A0_0 l0_0.length c0_0, .slice A0_1 l0_1.length c0_1, .slice A0_2 l0_2.length c0_2]) (t := 32) ?hr ?_; (case hd => rfl); (case hg => rfl); (case hr => first | (go_simp; done) | (go_simp; rfl)); intro gbz1 hg wz1 hbox hb; have nz1 := Aside0.mk (below_step be_ hb); have nz2 := Aside0.mk (hbox); have nz3 := Aside0.mk ((sz_ : w.heap.size ≤ gbz1)); have nz4 := Aside0.mk ((sz_ : w.heap.size ≤ gbz1)); clear HB; have HB := nz1; have BKz1 := nz2; have GWz1 := nz3; have GEz1 := nz4; clear nz1 nz2 nz3 nz4; clear hb hbox hg; have hczz1 : wz1.cell? ⟨gbz1, 0, none⟩ = some (.slice A0_0 l0_0.length c0_0) := (blk_cell BKz1.out 0).trans rfl; have hczz2 : wz1.cell? ⟨gbz1, 1, none⟩ = some (.slice A0_1 l0_1.length c0_1) := (blk_cell BKz1.out 1).trans rfl; have hczz3 : wz1.cell? ⟨gbz1, 2, none⟩ = some (.slice A0_2 l0_2.length c0_2) := (blk_cell BKz1.out 2).trans rfl; have hfzz1 := blk_frozen BKz1.out 0; have hfzz2 := blk_frozen BKz1.out 1; have hfzz3 := blk_frozen BKz1.out 2))
    go_ret
    exact ⟨by first | rfl | (simp [errW_none, errW_some] <;> rfl) | (simp [*, errW_none, errW_some] <;> rfl), be_⟩
  rw [if_pos cz1] at H
  have c2b0 : ((l0_2.length : Int) == 0) = true := beq_iff_eq.mpr cz1
  have c2b1 : ((l0_2.length : Int) != 0) = false := bne_eq_false_iff_eq.mpr cz1
  clear cz1
  replace H := Option.bind_eq_some_iff.mp H
  obtain ⟨tz1, Az1, H⟩ := H
  replace H : (if tz1 = true then ((spec_l8Texts.f k l0_0 l0_1 l0_2 (⟨#[]⟩ : ByteArray) 0).bind fun t168 => (some t168)) else (some false)) = some r := H
  have Az2 := Aside0.mk Az1
  clear Az1
  by_cases cz2 : tz1 = true
  rotate_left
  · replace cz2 := Bool.eq_false_iff.mpr cz2
    subst cz2
    have Hz1 : (some false) = some r := by rw [if_neg (show ¬ (false = true) by decide)] at H; exact H
    clear H
    have H := Hz1
    clear Hz1
    obtain rfl := Option.some.inj H
    go_enter Tryd.func7, Tryd.ntmps7
    go_wp2_with (first | ((with_reducible refine gate_dst (N := 1) rfl ?_); refine box_event ?hg (N := 1) ?hd (cs := #[.slice A0_0 l0_0.length c0_0, .slice A0_1 l0_1.length c0_1, .slice A0_2 l0_2.length c0_2]) (t := 32) ?hr ?_; (case hd => rfl); (case hg => rfl); (case hr => first | (go_simp; done) | (go_simp; rfl)); intro gbz1 hg wz1 hbox hb; have nz1 := Aside0.mk (below_step be_ hb); have nz2 := Aside0.mk (hbox); have nz3 := Aside0.mk ((sz_ : w.heap.size ≤ gbz1)); have nz4 := Aside0.mk ((sz_ : w.heap.size ≤ gbz1)); clear HB; have HB := nz1; have BKz1 := nz2; have GWz1 := nz3; have GEz1 := nz4; clear nz1 nz2 nz3 nz4; clear hb hbox hg; have hczz1 : wz1.cell? ⟨gbz1, 0, none⟩ = some (.slice A0_0 l0_0.length c0_0) := (blk_cell BKz1.out 0).trans rfl; have hczz2 : wz1.cell? ⟨gbz1, 1, none⟩ = some (.slice A0_1 l0_1.length c0_1) := (blk_cell BKz1.out 1).trans rfl; have hczz3 : wz1.cell? ⟨gbz1, 2, none⟩ = some (.slice A0_2 l0_2.length c0_2) := (blk_cell BKz1.out 2).trans rfl; have hfzz1 := blk_frozen BKz1.out 0; have hfzz2 := blk_frozen BKz1.out 1; have hfzz3 := blk_frozen BKz1.out 2) | (go_at_call 25; (with_reducible refine (spec_l8Ok.calls k _ _ l0_0 _ _ l0_1 _ _ l0_2 0 false _ ?side1 ?side2 ?side3 ?side4 ?side5 ?side6 Az2.out).mono ?_); (case side1 => exact Kd.C_below HRz1.out be_); (case side2 => exact HCz1.out); (case side3 => exact Kd.C_below HRz2.out be_); (case side4 => exact HCz2.out); (case side5 => exact Kd.C_below HRz3.out be_); (case side6 => exact HCz3.out); rintro e wz2 ⟨rfl, hb⟩; have nz1 := Aside0.mk (blk_below (g := gbz1) (o := .cells #[.slice A0_0 l0_0.length c0_0, .slice A0_1 l0_1.length c0_1, .slice A0_2 l0_2.length c0_2] 32 (0, 0)) bk_ hb); have nz2 := Aside0.mk (below_step be_ hb); clear BKz1; clear HB; have BKz1 := nz1; have HB := nz2; clear nz1 nz2; (try clear hb); (try clear hb2); (try clear hk); (try clear hi)))
    go_ret
    exact ⟨by first | rfl | (simp [errW_none, errW_some] <;> rfl) | (simp [*, errW_none, errW_some] <;> rfl), be_⟩
  subst cz2
  have Hz1 : ((spec_l8Texts.f k l0_0 l0_1 l0_2 (⟨#[]⟩ : ByteArray) 0).bind fun t168 => (some t168)) = some r := by rw [if_pos rfl] at H; exact H
  clear H
  have H := Hz1
  clear Hz1
  replace H := Option.bind_eq_some_iff.mp H
  obtain ⟨tz2, Az3, H⟩ := H
  replace H : (some tz2) = some r := H
  have Az4 := Aside0.mk Az3
  clear Az3
  obtain rfl := Option.some.inj H
  go_enter Tryd.func7, Tryd.ntmps7
  go_wp2_with (first | ((with_reducible refine gate_dst (N := 1) rfl ?_); refine box_event ?hg (N := 1) ?hd (cs := #[.slice A0_0 l0_0.length c0_0, .slice A0_1 l0_1.length c0_1, .slice A0_2 l0_2.length c0_2]) (t := 32) ?hr ?_; (case hd => rfl); (case hg => rfl); (case hr => first | (go_simp; done) | (go_simp; rfl)); intro gbz1 hg wz1 hbox hb; have nz1 := Aside0.mk (below_step be_ hb); have nz2 := Aside0.mk (hbox); have nz3 := Aside0.mk ((sz_ : w.heap.size ≤ gbz1)); have nz4 := Aside0.mk ((sz_ : w.heap.size ≤ gbz1)); clear HB; have HB := nz1; have BKz1 := nz2; have GWz1 := nz3; have GEz1 := nz4; clear nz1 nz2 nz3 nz4; clear hb hbox hg; have hczz1 : wz1.cell? ⟨gbz1, 0, none⟩ = some (.slice A0_0 l0_0.length c0_0) := (blk_cell BKz1.out 0).trans rfl; have hczz2 : wz1.cell? ⟨gbz1, 1, none⟩ = some (.slice A0_1 l0_1.length c0_1) := (blk_cell BKz1.out 1).trans rfl; have hczz3 : wz1.cell? ⟨gbz1, 2, none⟩ = some (.slice A0_2 l0_2.length c0_2) := (blk_cell BKz1.out 2).trans rfl; have hfzz1 := blk_frozen BKz1.out 0; have hfzz2 := blk_frozen BKz1.out 1; have hfzz3 := blk_frozen BKz1.out 2) | (go_at_call 25; (with_reducible refine (spec_l8Ok.calls k _ _ l0_0 _ _ l0_1 _ _ l0_2 0 true _ ?side1 ?side2 ?side3 ?side4 ?side5 ?side6 Az2.out).mono ?_); (case side1 => exact Kd.C_below HRz1.out be_); (case side2 => exact HCz1.out); (case side3 => exact Kd.C_below HRz2.out be_); (case side4 => exact HCz2.out); (case side5 => exact Kd.C_below HRz3.out be_); (case side6 => exact HCz3.out); rintro e wz2 ⟨rfl, hb⟩; have nz1 := Aside0.mk (blk_below (g := gbz1) (o := .cells #[.slice A0_0 l0_0.length c0_0, .slice A0_1 l0_1.length c0_1, .slice A0_2 l0_2.length c0_2] 32 (0, 0)) bk_ hb); have nz2 := Aside0.mk (below_step be_ hb); clear BKz1; clear HB; have BKz1 := nz1; have HB := nz2; clear nz1 nz2; (try clear hb); (try clear hb2); (try clear hk); (try clear hi); have hczz4 : wz2.cell? ⟨gbz1, 0, none⟩ = some (.slice A0_0 l0_0.length c0_0) := (blk_cell BKz1.out 0).trans rfl; have hczz5 : wz2.cell? ⟨gbz1, 1, none⟩ = some (.slice A0_1 l0_1.length c0_1) := (blk_cell BKz1.out 1).trans rfl; have hczz6 : wz2.cell? ⟨gbz1, 2, none⟩ = some (.slice A0_2 l0_2.length c0_2) := (blk_cell BKz1.out 2).trans rfl; have hfzz4 := blk_frozen BKz1.out 0; have hfzz5 := blk_frozen BKz1.out 1; have hfzz6 := blk_frozen BKz1.out 2) | (go_at_call 26; (with_reducible refine (spec_l8Texts.calls k _ _ l0_0 _ _ l0_1 _ _ l0_2 (⟨#[]⟩ : ByteArray) 0 tz2 _ ?side1 ?side2 ?side3 ?side4 ?side5 ?side6 Az4.out).mono ?_); (case side1 => exact Kd.C_below HRz1.out be_); (case side2 => exact HCz1.out); (case side3 => exact Kd.C_below HRz2.out be_); (case side4 => exact HCz2.out); (case side5 => exact Kd.C_below HRz3.out be_); (case side6 => exact HCz3.out); rintro e wz3 ⟨rfl, hb⟩; have nz1 := Aside0.mk (blk_below (g := gbz1) (o := .cells #[.slice A0_0 l0_0.length c0_0, .slice A0_1 l0_1.length c0_1, .slice A0_2 l0_2.length c0_2] 32 (0, 0)) bk_ hb); have nz2 := Aside0.mk (below_step be_ hb); clear BKz1; clear HB; have BKz1 := nz1; have HB := nz2; clear nz1 nz2; (try clear hb); (try clear hb2); (try clear hk); (try clear hi)))
  go_ret
  exact ⟨by first | rfl | (simp [errW_none, errW_some] <;> rfl) | (simp [*, errW_none, errW_some] <;> rfl), be_⟩

end Go.Proofs.YtemehnmbmajnfaaDoor.P
