-- Printed by a program over the kit's print.py (mp.sh), several laws in one namespace.
import Derived.Test.YtpigbffaacilfaaDoorPx0
import Derived.Test.YtpigbffaacilfaaDoorS
import Derived.Test.YtpigbffaacilfaaDoorPx11
namespace Go.Proofs.YtpigbffaacilfaaDoor.P
open Go.RowKit Go.Proofs.YtpigbffaacilfaaDoor.X Go.Proofs.YtpigbffaacilfaaDoorW.PrintWords Go.Proofs.YtpigbffaacilfaaDoorW.PrintLast Go.Proofs.YtpigbffaacilfaaDoorW.PrintMore
attribute [local go_sem] max2_int min2_int max_two min_two max_three min_three max_four min_four   -- for this text's walks alone
set_option linter.unusedVariables false
set_option linter.unusedSimpArgs false

def laws_eqKeptS_bools0_ : Array Bool := bs_ 10 0
def laws_eqKeptS_bools1_ : Array Bool := bs_ 10 1
def laws_eqKeptS_bools2_ : Array Bool := bs_ 10 3
def laws_eqKeptS_bools3_ : Array Bool := bs_ 10 7
def laws_eqKeptS_bools4_ : Array Bool := bs_ 10 23
def laws_eqKeptS_bools5_ : Array Bool := bs_ 10 55
def laws_eqKeptS_bools6_ : Array Bool := bs_ 10 119
def laws_eqKeptS_bools7_ : Array Bool := bs_ 10 127
def laws_eqKeptS_bools8_ : Array Bool := bs_ 10 255
def laws_eqKeptS_bools9_ : Array Bool := bs_ 10 511
def laws_eqKeptS_bools10_ : Array Bool := bs_ 10 1023
def laws_eqKeptS.l0 : Nat → List (S41) → List (S41) → Int → Option (Bool)
  | 0, _, _, _ => none
  | k + 1, x0, x1, x5 => if x5 < (x0.length : Int) then (if 0 ≤ x5 then (if x5 < (x1.length : Int) then ((laws_eqKept.f k ((rd_T41 x0 x5).f0) ((rd_T41 x0 x5).f1) ((rd_T41 x0 x5).f2) ((rd_T41 x1 x5).f0) ((rd_T41 x1 x5).f1) ((rd_T41 x1 x5).f2)).bind fun t251 => (if t251 = true then (laws_eqKeptS.l0 k x0 x1 (wrap64 (x5 + 1))) else (some false))) else (none)) else (none)) else (some true)
def laws_eqKeptS.f (k : Nat) (l0 : List (S41)) (l1 : List (S41)) : Option (Bool) := if (l0.length : Int) = (l1.length : Int) then (laws_eqKeptS.l0 k l0 l1 0) else (some false)
theorem laws_eqKeptS.mono_l : ∀ k, (∀ y0 y1 y2, LeO (laws_eqKeptS.l0 k y0 y1 y2) (laws_eqKeptS.l0 (k + 1) y0 y1 y2))
  | 0 => fun _ _ _ r h => by simp [laws_eqKeptS.l0] at h
  | k + 1 => by
    have ih0 := laws_eqKeptS.mono_l k
    · intro y0 y1 y2
      unfold laws_eqKeptS.l0
      repeat' first
      | (with_reducible exact ih0 _ _ _)
      | (with_reducible exact laws_eqKept.mono _ _ _ _ _ _ _)
      | (with_reducible exact LeO.refl _)
      | (with_reducible exact LeO.none _)
      | (with_reducible refine LeO.ite ?_ ?_)
      | (with_reducible refine LeO.bind ?_ (fun _ => ?_))
      | exact ih0 _ _ _
      | exact laws_eqKept.mono _ _ _ _ _ _ _
      | exact LeO.none _
      | refine LeO.ite ?_ ?_
      | refine LeO.bind ?_ (fun _ => ?_)
theorem laws_eqKeptS.mono : ∀ a0 a1 k, LeO (laws_eqKeptS.f k a0 a1) (laws_eqKeptS.f (k + 1) a0 a1) := by
  intro a0 a1 k
  have ih0 := laws_eqKeptS.mono_l k
  unfold laws_eqKeptS.f
  repeat' first
      | (with_reducible exact ih0 _ _ _)
      | (with_reducible exact laws_eqKept.mono _ _ _ _ _ _ _)
      | (with_reducible exact LeO.refl _)
      | (with_reducible exact LeO.none _)
      | (with_reducible refine LeO.ite ?_ ?_)
      | (with_reducible refine LeO.bind ?_ (fun _ => ?_))
      | exact ih0 _ _ _
      | exact laws_eqKept.mono _ _ _ _ _ _ _
      | exact LeO.none _
      | refine LeO.ite ?_ ?_
      | refine LeO.bind ?_ (fun _ => ?_)
def laws_eqKeptS.T6 : Bool × List (List Nat × List Nat) := (true, [([], []), ([], []), ([0, 1], [0, 1]), ([2], [2]), ([], []), ([], []), ([4, 5], [4, 5]), ([6], [6]), ([3, 7], [3, 7]), ([8], [8])])
def laws_eqKeptS.B6 : List Nat := [0, 0, 3, 7, 0, 0, 48, 112, 255, 511]
theorem laws_eqKeptS.tab6 : rtab .any (opsOf Tryd.f10 6) = laws_eqKeptS.T6 := by kernel_rfl
theorem laws_eqKeptS.bits6 : waitsOk laws_eqKeptS.T6.2 laws_eqKeptS.B6 = true := by kernel_rfl
set_option maxHeartbeats 8000000 in
set_option maxRecDepth 100000 in
theorem laws_eqKeptS.calls (k : Nat) (A0 : Option Addr) (c0 : Nat) (l0 : List (S41)) (A1 : Option Addr) (c1 : Nat) (l1 : List (S41)) (r : Bool) (w : World) (hr0 : Kd.C k41 w A0 l0.length l0) (hc0 : l0.length ≤ c0) (hr1 : Kd.C k41 w A1 l1.length l1) (hc1 : l1.length ≤ c1) (h : laws_eqKeptS.f k l0 l1 = some r) :
    Calls Tryd.prog 10 #[.slice A0 l0.length c0, .slice A1 l1.length c1] w fun e w' => e = .returned (.bool r) ∧ Below w.heap.size w w' := by
  have huz1 := Tryd.underlying41
  have HRz1 := Aside0.mk hr0
  have HCz1 := Aside0.mk hc0
  clear hr0 hc0
  have HRz2 := Aside0.mk hr1
  have HCz2 := Aside0.mk hc1
  clear hr1 hc1
  have HB := Aside0.mk (Below.refl w.heap.size w)
  have H : (if (l0.length : Int) = (l1.length : Int) then (laws_eqKeptS.l0 k l0 l1 0) else (some false)) = some r := h
  clear h
  by_cases cz1 : (l0.length : Int) = (l1.length : Int)
  rotate_left
  · rw [if_neg cz1] at H
    have cz2 : ((l0.length : Int) == (l1.length : Int)) = false := beq_eq_false_iff_ne.mpr cz1
    have cz3 : ((l0.length : Int) != (l1.length : Int)) = true := bne_iff_ne.mpr cz1
    have cz4 : (l0.length == l1.length) = false := by first | simpa using cz1 | (simp at cz1 ⊢; omega)
    obtain rfl := Option.some.inj H
    go_enter Tryd.func10, Tryd.ntmps10
    go_wp2
    go_ret
    exact ⟨er_, be_⟩
  rw [if_pos cz1] at H
  have cz2 : ((l0.length : Int) == (l1.length : Int)) = true := beq_iff_eq.mpr cz1
  have cz3 : ((l0.length : Int) != (l1.length : Int)) = false := bne_eq_false_iff_eq.mpr cz1
  have cz4 : (l0.length == l1.length) = true := by first | simpa using cz1 | (simp at cz1 ⊢; omega)
  clear cz1
  have H' := Aside0.mk H
  clear H
  go_enter Tryd.func10, Tryd.ntmps10
  go_wp2
  go_loopg [5] k (fun kq v5 w' => ∃ (x5_1 : Int), v5 = .int .i64 x5_1 ∧ Aside0 (laws_eqKeptS.l0 kq l0 l1 x5_1 = some r) ∧ Aside0 (kq ≤ k) ∧ Aside0 (Below w.heap.size w w'))
  case atStart => exact ⟨(0), rs_, H', ⟨Nat.le_refl _⟩, ⟨be_⟩⟩
  case round =>
    clear H'
    try clear c1
    try clear p2
    try clear cz1
    try clear cz2
    try clear cz3
    try clear cz4
    obtain ⟨xz1, rfl, HA, HKz1, HB⟩ := hrel
    cases gk with
    | zero => exact absurd HA.out (by simp [laws_eqKeptS.l0])
    | succ kz1 =>
      have H := HA.out
      clear HA
      simp only [laws_eqKeptS.l0] at H
      by_cases cz5 : xz1 < (l0.length : Int)
      rotate_left
      · rw [if_neg cz5] at H
        have cz6 : decide (xz1 < (l0.length : Int)) = false := decide_eq_false cz5
        clear cz5
        obtain rfl := Option.some.inj H
        go_wp2
        go_ret
        exact ⟨er_, be_⟩
      rw [if_pos cz5] at H
      have cz6 : decide (xz1 < (l0.length : Int)) = true := decide_eq_true cz5
      clear cz5
      by_cases cz7 : 0 ≤ xz1
      rotate_left
      · rw [if_neg cz7] at H
        exact absurd H (by simp)
      rw [if_pos cz7] at H
      have cz8 : decide (0 ≤ xz1) = true := decide_eq_true cz7
      clear cz7
      by_cases cz9 : xz1 < (l1.length : Int)
      rotate_left
      · rw [if_neg cz9] at H
        exact absurd H (by simp)
      rw [if_pos cz9] at H
      have cz10 : decide (xz1 < (l1.length : Int)) = true := decide_eq_true cz9
      clear cz9
      replace H := bo_ H
      obtain ⟨tz1, Az2, H⟩ := H
      (try dsimp only at H)
      by_cases cz11 : tz1 = true
      rotate_left
      · replace cz11 := Bool.eq_false_iff.mpr cz11
        subst cz11
        replace H := bf_ H
        obtain rfl := Option.some.inj H
        try go_wp2
        replace HB := Aside0.mk (below_drew1 HB.out)
        have pz1 : 0 ≤ (xz1 : Int) := dt_
        have qz1 : xz1 < (l0.length : Int) := dt_
        obtain ⟨adz1, Az3, cz12, ez1, hxz1, hxz2, hxz3, hlz1, hiz1⟩ := at_T41 HRz1.out xz1 pz1 qz1
        have hwz1 := hxz3
        have hwz2 := hxz2
        have hwz3 := hxz1
        cases ez1
        replace hxz1 := cl_ HB hxz1
        replace hxz2 := cl_ HB hxz2
        replace hxz3 := cl_ HB hxz3
        have HRz3 := Aside0.mk hiz1
        have HCz3 := Aside0.mk hlz1
        clear hiz1 hlz1
        replace pz1 := eq_true pz1
        replace qz1 := eq_true qz1
        have pz2 : 0 ≤ (xz1 : Int) := dt_
        have qz2 : xz1 < (l1.length : Int) := dt_
        obtain ⟨adz2, Az4, cz13, ez2, hxz4, hxz5, hxz6, hlz2, hiz2⟩ := at_T41 HRz2.out xz1 pz2 qz2
        have hwz4 := hxz6
        have hwz5 := hxz5
        have hwz6 := hxz4
        cases ez2
        replace hxz4 := cl_ HB hxz4
        replace hxz5 := cl_ HB hxz5
        replace hxz6 := cl_ HB hxz6
        have HRz4 := Aside0.mk hiz2
        have HCz4 := Aside0.mk hlz2
        clear hiz2 hlz2
        replace pz2 := eq_true pz2
        replace qz2 := eq_true qz2
        refine start_ (n := 10) (S := fun w' => w'.cell? (adz1.add ((xz1).toNat * 3)) = some (.string ((rd_T41 l0 xz1).f0)) ∧ w'.cell? ⟨(adz1.add ((xz1).toNat * 3)).block, (adz1.add ((xz1).toNat * 3)).off + 1, none⟩ = some (.slice Az3 ((rd_T41 l0 xz1).f1).length cz12) ∧ w'.cell? ⟨(adz1.add ((xz1).toNat * 3)).block, (adz1.add ((xz1).toNat * 3)).off + 2, none⟩ = some (.int .i64 ((rd_T41 l0 xz1).f2)) ∧ w'.cell? (adz2.add ((xz1).toNat * 3)) = some (.string ((rd_T41 l1 xz1).f0)) ∧ w'.cell? ⟨(adz2.add ((xz1).toNat * 3)).block, (adz2.add ((xz1).toNat * 3)).off + 1, none⟩ = some (.slice Az4 ((rd_T41 l1 xz1).f1).length cz13) ∧ w'.cell? ⟨(adz2.add ((xz1).toNat * 3)).block, (adz2.add ((xz1).toNat * 3)).off + 2, none⟩ = some (.int .i64 ((rd_T41 l1 xz1).f2))) (ds := []) laws_eqKeptS_bools0_ (by kernel_rfl) rfl (by kernel_rfl) ⟨(cl_ HB hwz3), (cl_ HB hwz2), (cl_ HB hwz1), (cl_ HB hwz6), (cl_ HB hwz5), (cl_ HB hwz4)⟩ (fun hHeld => ?_); refine with_tabW laws_eqKeptS.tab6 laws_eqKeptS.bits6 (fun HT_ HW_ => ?_)
        generalize wr.drew = wz1 at HB HRz3 HRz4 hxz1 hxz2 hxz3 hxz4 hxz5 hxz6 hHeld ⊢
        refine pu_ HT_ 0 17 laws_eqKeptS_bools1_ ?_
        refine pu_ HT_ 1 18 laws_eqKeptS_bools2_ ?_
        refine pu_ HT_ 2 19 laws_eqKeptS_bools3_ ?_
        refine pu_ HT_ 4 21 laws_eqKeptS_bools4_ ?_
        refine pu_ HT_ 5 22 laws_eqKeptS_bools5_ ?_
        refine pu_ HT_ 6 23 laws_eqKeptS_bools6_ ?_
        refine ta_ HT_ HW_ hHeld 3 20 laws_eqKeptS_bools7_ ?_
        refine ta_ HT_ HW_ hHeld 7 24 laws_eqKeptS_bools8_ ?_
        refine on_ HT_ 8 25 laws_eqKeptS_bools9_ (fun K hK => ?_)
        refine goes_ Tryd.func34 (by kernel_rfl) rfl #[.agg #[.string ((rd_T41 l0 xz1).f0), .slice Az3 ((rd_T41 l0 xz1).f1).length cz12, .int .i64 ((rd_T41 l0 xz1).f2)], .agg #[.string ((rd_T41 l1 xz1).f0), .slice Az4 ((rd_T41 l1 xz1).f1).length cz13, .int .i64 ((rd_T41 l1 xz1).f2)]] (by rfl) rfl rfl ar_ ?_
        with_reducible refine (laws_eqKept.calls kz1 ((rd_T41 l0 xz1).f0) _ _ ((rd_T41 l0 xz1).f1) ((rd_T41 l0 xz1).f2) ((rd_T41 l1 xz1).f0) _ _ ((rd_T41 l1 xz1).f1) ((rd_T41 l1 xz1).f2) false _ ?side1 ?side2 ?side3 ?side4 Az2.out).mono ?_
        (case side1 => exact Kd.C_below HRz3.out be_)
        (case side2 => exact HCz3.out)
        (case side3 => exact Kd.C_below HRz4.out be_)
        (case side4 => exact HCz4.out)
        rintro e wz2 ⟨rfl, hb⟩
        refine ⟨_, rfl, ?_⟩
        replace HB := bw_ hb
        clear hb
        refine hK.out _ _ ⟨(cl_ HB hwz3), (cl_ HB hwz2), (cl_ HB hwz1), (cl_ HB hwz6), (cl_ HB hwz5), (cl_ HB hwz4)⟩ (fun hHeld => ?_)
        clear hK K
        refine nm_ 25 ?_
        refine pu_ HT_ 9 26 laws_eqKeptS_bools10_ ?_
        refine done_ (done_of HT_.out (by kernel_rfl)) ?_
        try go_wp2
        go_ret
        exact ⟨er_, be_⟩
      subst cz11
      replace H := bt_ H
      have H' := Aside0.mk H
      clear H
      try go_wp2
      replace HB := Aside0.mk (below_drew1 HB.out)
      have pz1 : 0 ≤ (xz1 : Int) := dt_
      have qz1 : xz1 < (l0.length : Int) := dt_
      obtain ⟨adz1, Az3, cz12, ez1, hxz1, hxz2, hxz3, hlz1, hiz1⟩ := at_T41 HRz1.out xz1 pz1 qz1
      have hwz1 := hxz3
      have hwz2 := hxz2
      have hwz3 := hxz1
      cases ez1
      replace hxz1 := cl_ HB hxz1
      replace hxz2 := cl_ HB hxz2
      replace hxz3 := cl_ HB hxz3
      have HRz3 := Aside0.mk hiz1
      have HCz3 := Aside0.mk hlz1
      clear hiz1 hlz1
      replace pz1 := eq_true pz1
      replace qz1 := eq_true qz1
      have pz2 : 0 ≤ (xz1 : Int) := dt_
      have qz2 : xz1 < (l1.length : Int) := dt_
      obtain ⟨adz2, Az4, cz13, ez2, hxz4, hxz5, hxz6, hlz2, hiz2⟩ := at_T41 HRz2.out xz1 pz2 qz2
      have hwz4 := hxz6
      have hwz5 := hxz5
      have hwz6 := hxz4
      cases ez2
      replace hxz4 := cl_ HB hxz4
      replace hxz5 := cl_ HB hxz5
      replace hxz6 := cl_ HB hxz6
      have HRz4 := Aside0.mk hiz2
      have HCz4 := Aside0.mk hlz2
      clear hiz2 hlz2
      replace pz2 := eq_true pz2
      replace qz2 := eq_true qz2
      refine start_ (n := 10) (S := fun w' => w'.cell? (adz1.add ((xz1).toNat * 3)) = some (.string ((rd_T41 l0 xz1).f0)) ∧ w'.cell? ⟨(adz1.add ((xz1).toNat * 3)).block, (adz1.add ((xz1).toNat * 3)).off + 1, none⟩ = some (.slice Az3 ((rd_T41 l0 xz1).f1).length cz12) ∧ w'.cell? ⟨(adz1.add ((xz1).toNat * 3)).block, (adz1.add ((xz1).toNat * 3)).off + 2, none⟩ = some (.int .i64 ((rd_T41 l0 xz1).f2)) ∧ w'.cell? (adz2.add ((xz1).toNat * 3)) = some (.string ((rd_T41 l1 xz1).f0)) ∧ w'.cell? ⟨(adz2.add ((xz1).toNat * 3)).block, (adz2.add ((xz1).toNat * 3)).off + 1, none⟩ = some (.slice Az4 ((rd_T41 l1 xz1).f1).length cz13) ∧ w'.cell? ⟨(adz2.add ((xz1).toNat * 3)).block, (adz2.add ((xz1).toNat * 3)).off + 2, none⟩ = some (.int .i64 ((rd_T41 l1 xz1).f2))) (ds := []) laws_eqKeptS_bools0_ (by kernel_rfl) rfl (by kernel_rfl) ⟨(cl_ HB hwz3), (cl_ HB hwz2), (cl_ HB hwz1), (cl_ HB hwz6), (cl_ HB hwz5), (cl_ HB hwz4)⟩ (fun hHeld => ?_); refine with_tabW laws_eqKeptS.tab6 laws_eqKeptS.bits6 (fun HT_ HW_ => ?_)
      generalize wr.drew = wz1 at HB HRz3 HRz4 hxz1 hxz2 hxz3 hxz4 hxz5 hxz6 hHeld ⊢
      refine pu_ HT_ 0 17 laws_eqKeptS_bools1_ ?_
      refine pu_ HT_ 1 18 laws_eqKeptS_bools2_ ?_
      refine pu_ HT_ 2 19 laws_eqKeptS_bools3_ ?_
      refine pu_ HT_ 4 21 laws_eqKeptS_bools4_ ?_
      refine pu_ HT_ 5 22 laws_eqKeptS_bools5_ ?_
      refine pu_ HT_ 6 23 laws_eqKeptS_bools6_ ?_
      refine ta_ HT_ HW_ hHeld 3 20 laws_eqKeptS_bools7_ ?_
      refine ta_ HT_ HW_ hHeld 7 24 laws_eqKeptS_bools8_ ?_
      refine on_ HT_ 8 25 laws_eqKeptS_bools9_ (fun K hK => ?_)
      refine goes_ Tryd.func34 (by kernel_rfl) rfl #[.agg #[.string ((rd_T41 l0 xz1).f0), .slice Az3 ((rd_T41 l0 xz1).f1).length cz12, .int .i64 ((rd_T41 l0 xz1).f2)], .agg #[.string ((rd_T41 l1 xz1).f0), .slice Az4 ((rd_T41 l1 xz1).f1).length cz13, .int .i64 ((rd_T41 l1 xz1).f2)]] (by rfl) rfl rfl ar_ ?_
      with_reducible refine (laws_eqKept.calls kz1 ((rd_T41 l0 xz1).f0) _ _ ((rd_T41 l0 xz1).f1) ((rd_T41 l0 xz1).f2) ((rd_T41 l1 xz1).f0) _ _ ((rd_T41 l1 xz1).f1) ((rd_T41 l1 xz1).f2) true _ ?side1 ?side2 ?side3 ?side4 Az2.out).mono ?_
      (case side1 => exact Kd.C_below HRz3.out be_)
      (case side2 => exact HCz3.out)
      (case side3 => exact Kd.C_below HRz4.out be_)
      (case side4 => exact HCz4.out)
      rintro e wz2 ⟨rfl, hb⟩
      refine ⟨_, rfl, ?_⟩
      replace HB := bw_ hb
      clear hb
      refine hK.out _ _ ⟨(cl_ HB hwz3), (cl_ HB hwz2), (cl_ HB hwz1), (cl_ HB hwz6), (cl_ HB hwz5), (cl_ HB hwz4)⟩ (fun hHeld => ?_)
      clear hK K
      refine nm_ 25 ?_
      refine pu_ HT_ 9 26 laws_eqKeptS_bools10_ ?_
      refine done_ (done_of HT_.out (by kernel_rfl)) ?_
      try go_wp2
      go_roundg kz1
      case measure => have := HKz1.out; omega
      case rel => exact ⟨(wrap64 (xz1 + 1)), rs_, H', ⟨by have := HKz1.out; omega⟩, ⟨be_⟩⟩

def laws_markByteS.l0 : Nat → List Int → Int → Int → Option (Int × List Int)
  | 0, _, _, _ => none
  | k + 1, x0, x1, x5 => if x5 < (x0.length : Int) then (if 0 ≤ x5 then (laws_markByteS.l0 k (x0.set (x5 : Int).toNat ((x1) % 256)) (wrap64 (x1 + 1)) (wrap64 (x5 + 1))) else (none)) else (some (x1, x0))
def laws_markByteS.f (k : Nat) (l0 : List Int) (a1 : Int) : Option (Int × List Int) := laws_markByteS.l0 k l0 a1 0
theorem laws_markByteS.mono_l : ∀ k, (∀ y0 y1 y2, LeO (laws_markByteS.l0 k y0 y1 y2) (laws_markByteS.l0 (k + 1) y0 y1 y2))
  | 0 => fun _ _ _ r h => by simp [laws_markByteS.l0] at h
  | k + 1 => by
    have ih0 := laws_markByteS.mono_l k
    · intro y0 y1 y2
      unfold laws_markByteS.l0
      repeat' first
      | (with_reducible exact ih0 _ _ _)
      | (with_reducible exact LeO.refl _)
      | (with_reducible exact LeO.none _)
      | (with_reducible refine LeO.ite ?_ ?_)
      | (with_reducible refine LeO.bind ?_ (fun _ => ?_))
      | exact ih0 _ _ _
      | exact LeO.none _
      | refine LeO.ite ?_ ?_
      | refine LeO.bind ?_ (fun _ => ?_)
theorem laws_markByteS.mono : ∀ a0 a1 k, LeO (laws_markByteS.f k a0 a1) (laws_markByteS.f (k + 1) a0 a1) := by
  intro a0 a1 k
  have ih0 := laws_markByteS.mono_l k
  unfold laws_markByteS.f
  repeat' first
      | (with_reducible exact ih0 _ _ _)
      | (with_reducible exact LeO.refl _)
      | (with_reducible exact LeO.none _)
      | (with_reducible refine LeO.ite ?_ ?_)
      | (with_reducible refine LeO.bind ?_ (fun _ => ?_))
      | exact ih0 _ _ _
      | exact LeO.none _
      | refine LeO.ite ?_ ?_
      | refine LeO.bind ?_ (fun _ => ?_)
set_option maxHeartbeats 8000000 in
set_option maxRecDepth 100000 in
theorem laws_markByteS.calls (k : Nat) (P0_ : Nat → Prop) (u9000_ : Value) (l0 : List Int) (a1 : Int) (r1 : Int) (r2 : List Int) (w0 w : World) (hB : Below w0.heap.size w0 w) (ho0 : Kd.R (Kd.int .u8) 5 w w0.heap.size P0_ u9000_ l0) (h : laws_markByteS.f k l0 a1 = some (r1, r2)) :
    Calls Tryd.prog 13 #[u9000_, .int .i64 a1] w fun e w' => e = .returned (.int .i64 r1) ∧ Kd.R (Kd.int .u8) 5 w' w0.heap.size (fun k_ => (P0_ k_ ∨ w.heap.size ≤ k_)) u9000_ r2 ∧ Below w0.heap.size w0 w' ∧ Kept w w' (fun k_ => P0_ k_) := by
  have HOz1 := Aside0.mk (show Kd.R (Kd.int .u8) 5 w w0.heap.size (fun k_ => (P0_ k_ ∨ w.heap.size ≤ k_)) u9000_ l0 from Kd.R_mono ho0 (fun k_ hk => (.inl hk)))
  have HK := Aside0.mk (Kept.refl w (fun k_ => P0_ k_))
  have HWz1 := Aside0.mk hB.size
  have HB := Aside0.mk hB
  clear hB
  have H : (laws_markByteS.l0 k l0 a1 0) = some (r1, r2) := h
  clear h
  have H' := Aside0.mk H
  clear H
  go_enter Tryd.func13, Tryd.ntmps13
  go_wp2
  go_loopg [1, 5] k (fun kq v1 v5 w' => ∃ (x0_1 : List Int) (x1_1 : Int) (x5_1 : Int), v1 = .int .i64 x1_1 ∧ v5 = .int .i64 x5_1 ∧ Aside0 (laws_markByteS.l0 kq x0_1 x1_1 x5_1 = some (r1, r2)) ∧ Aside0 (kq ≤ k) ∧ Aside0 (Kd.R (Kd.int .u8) 5 w' w0.heap.size (fun k_ => (P0_ k_ ∨ w.heap.size ≤ k_)) u9000_ x0_1) ∧ Aside0 (Kept w w' (fun k_ => P0_ k_)) ∧ Aside0 (Below w0.heap.size w0 w'))
  case atStart => exact ⟨(l0), (a1), (0), rs_, rs_, H', ⟨Nat.le_refl _⟩, ⟨lR_ HOz1.out⟩, ⟨by repeat (first | (with_reducible first | exact HK.out | apply Kept.alloc | apply Kept.drewN | apply Kept.drew) | exact HK.out)⟩, ⟨be_⟩⟩
  case round =>
    clear H'
    try clear c1
    try clear p2
    obtain ⟨xz1, xz2, xz3, rfl, rfl, HA, HKz1, HO_0, HK, HB⟩ := hrel
    cases gk with
    | zero => exact absurd HA.out (by simp [laws_markByteS.l0])
    | succ kz1 =>
      have H := HA.out
      clear HA
      simp only [laws_markByteS.l0] at H
      by_cases cz1 : xz3 < (xz1.length : Int)
      rotate_left
      · rw [if_neg cz1] at H
        have cz2 : decide (xz3 < (xz1.length : Int)) = false := decide_eq_false cz1
        clear cz1
        simp only [Option.some.injEq, Prod.mk.injEq] at H
        obtain ⟨rfl, rfl⟩ := H
        obtain ⟨Aoz1, coz1, eoz1⟩ := Kd.R_slice HO_0.out
        subst eoz1
        go_wp2
        go_ret
        exact ⟨er_, lR_ HO_0.out, be_, by repeat (first | (with_reducible first | exact HK.out | apply Kept.alloc | apply Kept.drewN | apply Kept.drew) | exact HK.out)⟩
      rw [if_pos cz1] at H
      have cz2 : decide (xz3 < (xz1.length : Int)) = true := decide_eq_true cz1
      clear cz1
      by_cases cz3 : 0 ≤ xz3
      rotate_left
      · rw [if_neg cz3] at H
        exact absurd H (by simp)
      rw [if_pos cz3] at H
      have cz4 : decide (0 ≤ xz3) = true := decide_eq_true cz3
      clear cz3
      obtain ⟨yz1, hyz1⟩ : ∃ y_ : List Int, y_ = (xz1.set (xz3 : Int).toNat ((xz2) % 256)) := ⟨_, rfl⟩
      (first | (with_reducible replace H := ys_ hyz1 H; (try dsimp only at H)) | rw [← hyz1] at H | skip)
      have Nyz1 := Aside0.mk hyz1
      clear hyz1
      have H' := Aside0.mk H
      clear H
      obtain ⟨Aoz1, coz1, eoz1⟩ := Kd.R_slice HO_0.out
      subst eoz1
      have pz1 : 0 ≤ (xz3 : Int) := dt_
      have qz1 : (xz3 : Int) < ((xz1.length : Int) : Int) := dt_
      obtain ⟨goz1, coz2, eoz2, gbz1, glz1, clz1, HGz1⟩ := Kd.R_form HO_0.out (by omega)
      (first | cases eoz2 | (injection eoz2 with ea_ en_ ec_; (first | subst ea_ | (injection ea_ with ea_; subst ea_)); subst ec_; clear en_))
      have GBz1 := Aside0.mk gbz1
      have GGz1 := Aside0.mk HGz1
      clear gbz1 glz1 HGz1
      have HMgoz1 := Aside0.mk (show (P0_ goz1 ∨ w.heap.size ≤ goz1) from (HO_0.out.1 _ rfl))
      obtain ⟨hxz1, hfz1⟩ := Kd.R_celln 0 HO_0.out (xz3 : Int) pz1 qz1
      replace pz1 := eq_true pz1
      replace qz1 := eq_true qz1
      have HPz1 := Kd.R_putg HO_0.out (xz3 : Int) ((xz2) % 256)
      go_wp2_with (first | ((with_reducible refine gate_store (t := 5) (p := 16) rfl ?_); refine store_event (t := 5) (p := 16) (v := ?vo_w8) (w1 := (wr.setCell ⟨goz1, (xz3 : Int).toNat, none⟩ (.int .u8 ((xz2) % 256)))) ?hg ?ho ?hn ?hr ?_; (case ho => rfl); (case hg => rfl); (case hn => rfl); (case hr => first | (go_simp; done) | (go_simp; rfl)); intro wz1 hw; have hg : wr.grownBy wz1 (some goz1) := (by rw [hw]; exact HPz1.2); have hp_ : Kd.R (Kd.int .u8) 5 wz1 w0.heap.size (fun k_ => (P0_ k_ ∨ w.heap.size ≤ k_)) (.slice (some ⟨goz1, 0, none⟩) xz1.length coz1) yz1 := (by rw [hw, Nyz1.out]; exact HPz1.1); clear HPz1; replace HB := Aside0.mk ((by rw [hw]; exact below_set (HB.out) GBz1.out : Below w0.heap.size w0 wz1)); replace HK := Aside0.mk (Kept.of_grown (S := (fun k_ => P0_ k_)) hg (by repeat (first | (with_reducible first | exact HK.out | apply Kept.alloc | apply Kept.drewN | apply Kept.drew) | exact HK.out)) (fun k_ e_ => (HO_0.out.1 k_ e_))); replace HO_0 := Aside0.mk (hp_); clear hg hw hp_))
      go_roundg kz1
      case measure => have := HKz1.out; omega
      case rel => exact ⟨(yz1), (wrap64 (xz2 + 1)), (wrap64 (xz3 + 1)), rs_, rs_, H', ⟨by have := HKz1.out; omega⟩, ⟨lR_ HO_0.out⟩, ⟨by repeat (first | (with_reducible first | exact HK.out | apply Kept.alloc | apply Kept.drewN | apply Kept.drew) | exact HK.out)⟩, ⟨be_⟩⟩

end Go.Proofs.YtpigbffaacilfaaDoor.P
