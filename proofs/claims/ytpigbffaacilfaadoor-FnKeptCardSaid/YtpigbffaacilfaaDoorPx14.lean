-- Printed by a program over the kit's print.py (mp.sh), several laws in one namespace.
import Derived.Test.YtpigbffaacilfaaDoorPx0
import Derived.Test.YtpigbffaacilfaaDoorS
import Derived.Test.YtpigbffaacilfaaDoorPx13
namespace Go.Proofs.YtpigbffaacilfaaDoor.P
open Go.RowKit Go.Proofs.YtpigbffaacilfaaDoor.X Go.Proofs.YtpigbffaacilfaaDoorW.PrintWords Go.Proofs.YtpigbffaacilfaaDoorW.PrintLast Go.Proofs.YtpigbffaacilfaaDoorW.PrintMore
attribute [local go_sem] max2_int min2_int max_two min_two max_three min_three max_four min_four   -- for this text's walks alone
set_option linter.unusedVariables false
set_option linter.unusedSimpArgs false

def laws_heldKeptS.l0 : Nat → List (S41) → Int → Int → Option (Int)
  | 0, _, _, _ => none
  | k + 1, x0, x1, x5 => if x5 < (x0.length : Int) then (if 0 ≤ x5 then ((laws_markText.f k x1).bind fun t259 => (if ((rd_T41 x0 x5).f0).toList = t259.toList then ((laws_heldByteS.f k ((rd_T41 x0 x5).f1) (wrap64 (x1 + 1))).bind fun t261 => (if t261 < 0 then (some (-1)) else (if ((rd_T41 x0 x5).f2) = t261 then (laws_heldKeptS.l0 k x0 (wrap64 (t261 + 1)) (wrap64 (x5 + 1))) else (some (-1))))) else (some (-1)))) else (none)) else (some x1)
def laws_heldKeptS.f (k : Nat) (l0 : List (S41)) (a1 : Int) : Option (Int) := laws_heldKeptS.l0 k l0 a1 0
theorem laws_heldKeptS.mono_l : ∀ k, (∀ y0 y1 y2, LeO (laws_heldKeptS.l0 k y0 y1 y2) (laws_heldKeptS.l0 (k + 1) y0 y1 y2))
  | 0 => fun _ _ _ r h => by simp [laws_heldKeptS.l0] at h
  | k + 1 => by
    have ih0 := laws_heldKeptS.mono_l k
    · intro y0 y1 y2
      unfold laws_heldKeptS.l0
      repeat' first
      | (with_reducible exact ih0 _ _ _)
      | (with_reducible exact laws_heldByteS.mono _ _ _)
      | (with_reducible exact laws_markText.mono _ _)
      | (with_reducible exact LeO.refl _)
      | (with_reducible exact LeO.none _)
      | (with_reducible refine LeO.ite ?_ ?_)
      | (with_reducible refine LeO.bind ?_ (fun _ => ?_))
      | exact ih0 _ _ _
      | exact laws_heldByteS.mono _ _ _
      | exact laws_markText.mono _ _
      | exact LeO.none _
      | refine LeO.ite ?_ ?_
      | refine LeO.bind ?_ (fun _ => ?_)
theorem laws_heldKeptS.mono : ∀ a0 a1 k, LeO (laws_heldKeptS.f k a0 a1) (laws_heldKeptS.f (k + 1) a0 a1) := by
  intro a0 a1 k
  have ih0 := laws_heldKeptS.mono_l k
  unfold laws_heldKeptS.f
  repeat' first
      | (with_reducible exact ih0 _ _ _)
      | (with_reducible exact laws_heldByteS.mono _ _ _)
      | (with_reducible exact laws_markText.mono _ _)
      | (with_reducible exact LeO.refl _)
      | (with_reducible exact LeO.none _)
      | (with_reducible refine LeO.ite ?_ ?_)
      | (with_reducible refine LeO.bind ?_ (fun _ => ?_))
      | exact ih0 _ _ _
      | exact laws_heldByteS.mono _ _ _
      | exact laws_markText.mono _ _
      | exact LeO.none _
      | refine LeO.ite ?_ ?_
      | refine LeO.bind ?_ (fun _ => ?_)
def laws_heldKeptS.T4 : Bool × List (List Nat × List Nat) := (true, [([], []), ([], []), ([0, 1], [0, 1]), ([2], [2]), ([3], [3]), ([], []), ([5], [5]), ([4, 6], [4, 6])])
def laws_heldKeptS.B4 : List Nat := [0, 0, 3, 7, 15, 0, 32, 127]
theorem laws_heldKeptS.tab4 : rtab .any (opsOf Tryd.f14 4) = laws_heldKeptS.T4 := by kernel_rfl
theorem laws_heldKeptS.bits4 : waitsOk laws_heldKeptS.T4.2 laws_heldKeptS.B4 = true := by kernel_rfl
set_option maxHeartbeats 8000000 in
set_option maxRecDepth 100000 in
theorem laws_heldKeptS.calls (k : Nat) (A0 : Option Addr) (c0 : Nat) (l0 : List (S41)) (a1 : Int) (r : Int) (w : World) (hr0 : Kd.C k41 w A0 l0.length l0) (hc0 : l0.length ≤ c0) (h : laws_heldKeptS.f k l0 a1 = some r) :
    Calls Tryd.prog 14 #[.slice A0 l0.length c0, .int .i64 a1] w fun e w' => e = .returned (.int .i64 r) ∧ Below w.heap.size w w' := by
  have HRz1 := Aside0.mk hr0
  have HCz1 := Aside0.mk hc0
  clear hr0 hc0
  have HB := Aside0.mk (Below.refl w.heap.size w)
  have H : (laws_heldKeptS.l0 k l0 a1 0) = some r := h
  clear h
  have H' := Aside0.mk H
  clear H
  go_enter Tryd.func14, Tryd.ntmps14
  go_wp2
  go_loopg [1, 5] k (fun kq v1 v5 w' => ∃ (x1_1 : Int) (x5_1 : Int), v1 = .int .i64 x1_1 ∧ v5 = .int .i64 x5_1 ∧ Aside0 (laws_heldKeptS.l0 kq l0 x1_1 x5_1 = some r) ∧ Aside0 (kq ≤ k) ∧ Aside0 (Below w.heap.size w w'))
  case atStart => exact ⟨(a1), (0), rs_, rs_, H', ⟨Nat.le_refl _⟩, ⟨be_⟩⟩
  case round =>
    clear H'
    try clear c1
    try clear p2
    obtain ⟨xz1, xz2, rfl, rfl, HA, HKz1, HB⟩ := hrel
    cases gk with
    | zero => exact absurd HA.out (by simp [laws_heldKeptS.l0])
    | succ kz1 =>
      have H := HA.out
      clear HA
      simp only [laws_heldKeptS.l0] at H
      by_cases cz1 : xz2 < (l0.length : Int)
      rotate_left
      · rw [if_neg cz1] at H
        have cz2 : decide (xz2 < (l0.length : Int)) = false := decide_eq_false cz1
        clear cz1
        obtain rfl := Option.some.inj H
        go_wp2
        go_ret
        exact ⟨er_, be_⟩
      rw [if_pos cz1] at H
      have cz2 : decide (xz2 < (l0.length : Int)) = true := decide_eq_true cz1
      clear cz1
      by_cases cz3 : 0 ≤ xz2
      rotate_left
      · rw [if_neg cz3] at H
        exact absurd H (by simp)
      rw [if_pos cz3] at H
      have cz4 : decide (0 ≤ xz2) = true := decide_eq_true cz3
      clear cz3
      replace H := bo_ H
      obtain ⟨tz1, Az2, H⟩ := H
      (try dsimp only at H)
      by_cases cz5 : ((rd_T41 l0 xz2).f0).toList = tz1.toList
      rotate_left
      · rw [if_neg cz5] at H
        have cz6 : (((rd_T41 l0 xz2).f0).toList == tz1.toList) = false := beq_eq_false_iff_ne.mpr cz5
        have cz7 : (((rd_T41 l0 xz2).f0).toList != tz1.toList) = true := bne_iff_ne.mpr cz5
        obtain rfl := Option.some.inj H
        try go_wp2
        replace HB := Aside0.mk (below_drew1 HB.out)
        have pz1 : 0 ≤ (xz2 : Int) := dt_
        have qz1 : xz2 < (l0.length : Int) := dt_
        obtain ⟨adz1, Az3, cz8, ez1, hxz1, hxz2, hxz3, hlz1, hiz1⟩ := at_T41 HRz1.out xz2 pz1 qz1
        have kxz1 := Aside0.mk hxz2
        have hwz1 := hxz3
        have hwz2 := hxz2
        have hwz3 := hxz1
        cases ez1
        replace hxz1 := cl_ HB hxz1
        replace hxz2 := cl_ HB hxz2
        replace hxz3 := cl_ HB hxz3
        have HRz2 := Aside0.mk hiz1
        have HCz2 := Aside0.mk hlz1
        clear hiz1 hlz1
        replace pz1 := eq_true pz1
        replace qz1 := eq_true qz1
        refine start_ (n := 8) (S := fun w' => w'.cell? (adz1.add ((xz2).toNat * 3)) = some (.string ((rd_T41 l0 xz2).f0)) ∧ w'.cell? ⟨(adz1.add ((xz2).toNat * 3)).block, (adz1.add ((xz2).toNat * 3)).off + 1, none⟩ = some (.slice Az3 ((rd_T41 l0 xz2).f1).length cz8) ∧ w'.cell? ⟨(adz1.add ((xz2).toNat * 3)).block, (adz1.add ((xz2).toNat * 3)).off + 2, none⟩ = some (.int .i64 ((rd_T41 l0 xz2).f2))) (ds := []) #[false, false, false, false, false, false, false, false] (by kernel_rfl) rfl rfl ⟨(cl_ HB hwz3), (cl_ HB hwz2), (cl_ HB hwz1)⟩ (fun hHeld => ?_); refine with_tabW laws_heldKeptS.tab4 laws_heldKeptS.bits4 (fun HT_ HW_ => ?_)
        generalize wr.drew = wz1 at HB HRz2 hxz1 hxz2 hxz3 hHeld ⊢
        refine pu_ HT_ 0 12 #[true, false, false, false, false, false, false, false] ?_
        refine pu_ HT_ 1 13 #[true, true, false, false, false, false, false, false] ?_
        refine pu_ HT_ 2 14 #[true, true, true, false, false, false, false, false] ?_
        refine pu_ HT_ 3 15 #[true, true, true, true, false, false, false, false] ?_
        refine pu_ HT_ 5 17 #[true, true, true, true, false, true, false, false] ?_
        refine ta_ HT_ HW_ hHeld 4 16 #[true, true, true, true, true, true, false, false] ?_
        refine on_ HT_ 6 18 #[true, true, true, true, true, true, true, false] (fun K hK => ?_)
        refine goes_ Tryd.func35 (by kernel_rfl) rfl #[.int .i64 xz1] (by rfl) rfl rfl ar_ ?_
        with_reducible refine (laws_markText.calls kz1 xz1 tz1 _ Az2.out).mono ?_
        rintro e wz2 ⟨rfl, hb⟩
        refine ⟨_, rfl, ?_⟩
        replace HB := bw_ hb
        clear hb
        refine hK.out _ _ ⟨(cl_ HB hwz3), (cl_ HB hwz2), (cl_ HB hwz1)⟩ (fun hHeld => ?_)
        clear hK K
        refine nm_ 18 ?_
        refine pu_ HT_ 7 19 #[true, true, true, true, true, true, true, true] ?_
        refine done_ (done_of HT_.out (by kernel_rfl)) ?_
        try go_wp2
        go_ret
        exact ⟨er_, be_⟩
      rw [if_pos cz5] at H
      have cz6 : (((rd_T41 l0 xz2).f0).toList == tz1.toList) = true := beq_iff_eq.mpr cz5
      have cz7 : (((rd_T41 l0 xz2).f0).toList != tz1.toList) = false := bne_eq_false_iff_eq.mpr cz5
      clear cz5
      replace H := bo_ H
      obtain ⟨tz2, Az4, H⟩ := H
      (try dsimp only at H)
      by_cases cz8 : tz2 < 0
      · rw [if_pos cz8] at H
        have cz9 : decide (tz2 < 0) = true := decide_eq_true cz8
        clear cz8
        obtain rfl := Option.some.inj H
        try go_wp2
        replace HB := Aside0.mk (below_drew1 HB.out)
        have pz1 : 0 ≤ (xz2 : Int) := dt_
        have qz1 : xz2 < (l0.length : Int) := dt_
        obtain ⟨adz1, Az5, cz10, ez1, hxz1, hxz2, hxz3, hlz1, hiz1⟩ := at_T41 HRz1.out xz2 pz1 qz1
        have kxz1 := Aside0.mk hxz2
        have hwz1 := hxz3
        have hwz2 := hxz2
        have hwz3 := hxz1
        cases ez1
        replace hxz1 := cl_ HB hxz1
        replace hxz2 := cl_ HB hxz2
        replace hxz3 := cl_ HB hxz3
        have HRz2 := Aside0.mk hiz1
        have HCz2 := Aside0.mk hlz1
        clear hiz1 hlz1
        replace pz1 := eq_true pz1
        replace qz1 := eq_true qz1
        refine start_ (n := 8) (S := fun w' => w'.cell? (adz1.add ((xz2).toNat * 3)) = some (.string ((rd_T41 l0 xz2).f0)) ∧ w'.cell? ⟨(adz1.add ((xz2).toNat * 3)).block, (adz1.add ((xz2).toNat * 3)).off + 1, none⟩ = some (.slice Az5 ((rd_T41 l0 xz2).f1).length cz10) ∧ w'.cell? ⟨(adz1.add ((xz2).toNat * 3)).block, (adz1.add ((xz2).toNat * 3)).off + 2, none⟩ = some (.int .i64 ((rd_T41 l0 xz2).f2))) (ds := []) #[false, false, false, false, false, false, false, false] (by kernel_rfl) rfl rfl ⟨(cl_ HB hwz3), (cl_ HB hwz2), (cl_ HB hwz1)⟩ (fun hHeld => ?_); refine with_tabW laws_heldKeptS.tab4 laws_heldKeptS.bits4 (fun HT_ HW_ => ?_)
        generalize wr.drew = wz1 at HB HRz2 hxz1 hxz2 hxz3 hHeld ⊢
        refine pu_ HT_ 0 12 #[true, false, false, false, false, false, false, false] ?_
        refine pu_ HT_ 1 13 #[true, true, false, false, false, false, false, false] ?_
        refine pu_ HT_ 2 14 #[true, true, true, false, false, false, false, false] ?_
        refine pu_ HT_ 3 15 #[true, true, true, true, false, false, false, false] ?_
        refine pu_ HT_ 5 17 #[true, true, true, true, false, true, false, false] ?_
        refine ta_ HT_ HW_ hHeld 4 16 #[true, true, true, true, true, true, false, false] ?_
        refine on_ HT_ 6 18 #[true, true, true, true, true, true, true, false] (fun K hK => ?_)
        refine goes_ Tryd.func35 (by kernel_rfl) rfl #[.int .i64 xz1] (by rfl) rfl rfl ar_ ?_
        with_reducible refine (laws_markText.calls kz1 xz1 tz1 _ Az2.out).mono ?_
        rintro e wz2 ⟨rfl, hb⟩
        refine ⟨_, rfl, ?_⟩
        replace HB := bw_ hb
        clear hb
        refine hK.out _ _ ⟨(cl_ HB hwz3), (cl_ HB hwz2), (cl_ HB hwz1)⟩ (fun hHeld => ?_)
        clear hK K
        refine nm_ 18 ?_
        refine pu_ HT_ 7 19 #[true, true, true, true, true, true, true, true] ?_
        refine done_ (done_of HT_.out (by kernel_rfl)) ?_
        have pz2 : 0 ≤ (xz2 : Int) := dt_
        have qz2 : xz2 < (l0.length : Int) := dt_
        obtain ⟨adz2, Az6, cz11, ez2, hxz4, hxz5, hxz6, hlz2, hiz2⟩ := at_T41 HRz1.out xz2 pz2 qz2
        obtain rfl : adz1 = adz2 := (by injection ez2)
        obtain ⟨rfl, rfl⟩ : Az6 = Az5 ∧ cz11 = cz10 := by simpa using hxz5.symm.trans kxz1.out
        replace hxz4 := cl_ HB hxz4
        replace hxz5 := cl_ HB hxz5
        replace hxz6 := cl_ HB hxz6
        have HRz3 := Aside0.mk hiz2
        have HCz3 := Aside0.mk hlz2
        clear hiz2 hlz2
        replace pz2 := eq_true pz2
        replace qz2 := eq_true qz2
        try go_wp2_with (first | ((with_reducible refine gate_callee (f := 36) rfl ?_); refine ca_ 28 Tryd.func36 #[.slice Az6 ((rd_T41 l0 xz2).f1).length cz11, .int .i64 (wrap64 (xz1 + 1))] ?_; (with_reducible refine (laws_heldByteS.calls kz1 _ _ ((rd_T41 l0 xz2).f1) (wrap64 (xz1 + 1)) tz2 _ ?side1 ?side2 Az4.out).mono ?_); (case side1 => exact Kd.C_below HRz3.out be_); (case side2 => exact HCz3.out); rintro e w' ⟨rfl, ⟨nd, rfl⟩⟩; refine ⟨_, rfl, ?_⟩))
        go_ret
        exact ⟨er_, be_⟩
      rw [if_neg cz8] at H
      have cz9 : decide (tz2 < 0) = false := decide_eq_false cz8
      clear cz8
      by_cases cz10 : ((rd_T41 l0 xz2).f2) = tz2
      rotate_left
      · rw [if_neg cz10] at H
        have cz11 : (((rd_T41 l0 xz2).f2) == tz2) = false := beq_eq_false_iff_ne.mpr cz10
        have cz12 : (((rd_T41 l0 xz2).f2) != tz2) = true := bne_iff_ne.mpr cz10
        obtain rfl := Option.some.inj H
        try go_wp2
        replace HB := Aside0.mk (below_drew1 HB.out)
        have pz1 : 0 ≤ (xz2 : Int) := dt_
        have qz1 : xz2 < (l0.length : Int) := dt_
        obtain ⟨adz1, Az5, cz13, ez1, hxz1, hxz2, hxz3, hlz1, hiz1⟩ := at_T41 HRz1.out xz2 pz1 qz1
        have kxz1 := Aside0.mk hxz2
        have hwz1 := hxz3
        have hwz2 := hxz2
        have hwz3 := hxz1
        cases ez1
        replace hxz1 := cl_ HB hxz1
        replace hxz2 := cl_ HB hxz2
        replace hxz3 := cl_ HB hxz3
        have HRz2 := Aside0.mk hiz1
        have HCz2 := Aside0.mk hlz1
        clear hiz1 hlz1
        replace pz1 := eq_true pz1
        replace qz1 := eq_true qz1
        refine start_ (n := 8) (S := fun w' => w'.cell? (adz1.add ((xz2).toNat * 3)) = some (.string ((rd_T41 l0 xz2).f0)) ∧ w'.cell? ⟨(adz1.add ((xz2).toNat * 3)).block, (adz1.add ((xz2).toNat * 3)).off + 1, none⟩ = some (.slice Az5 ((rd_T41 l0 xz2).f1).length cz13) ∧ w'.cell? ⟨(adz1.add ((xz2).toNat * 3)).block, (adz1.add ((xz2).toNat * 3)).off + 2, none⟩ = some (.int .i64 ((rd_T41 l0 xz2).f2))) (ds := []) #[false, false, false, false, false, false, false, false] (by kernel_rfl) rfl rfl ⟨(cl_ HB hwz3), (cl_ HB hwz2), (cl_ HB hwz1)⟩ (fun hHeld => ?_); refine with_tabW laws_heldKeptS.tab4 laws_heldKeptS.bits4 (fun HT_ HW_ => ?_)
        generalize wr.drew = wz1 at HB HRz2 hxz1 hxz2 hxz3 hHeld ⊢
        refine pu_ HT_ 0 12 #[true, false, false, false, false, false, false, false] ?_
        refine pu_ HT_ 1 13 #[true, true, false, false, false, false, false, false] ?_
        refine pu_ HT_ 2 14 #[true, true, true, false, false, false, false, false] ?_
        refine pu_ HT_ 3 15 #[true, true, true, true, false, false, false, false] ?_
        refine pu_ HT_ 5 17 #[true, true, true, true, false, true, false, false] ?_
        refine ta_ HT_ HW_ hHeld 4 16 #[true, true, true, true, true, true, false, false] ?_
        refine on_ HT_ 6 18 #[true, true, true, true, true, true, true, false] (fun K hK => ?_)
        refine goes_ Tryd.func35 (by kernel_rfl) rfl #[.int .i64 xz1] (by rfl) rfl rfl ar_ ?_
        with_reducible refine (laws_markText.calls kz1 xz1 tz1 _ Az2.out).mono ?_
        rintro e wz2 ⟨rfl, hb⟩
        refine ⟨_, rfl, ?_⟩
        replace HB := bw_ hb
        clear hb
        refine hK.out _ _ ⟨(cl_ HB hwz3), (cl_ HB hwz2), (cl_ HB hwz1)⟩ (fun hHeld => ?_)
        clear hK K
        refine nm_ 18 ?_
        refine pu_ HT_ 7 19 #[true, true, true, true, true, true, true, true] ?_
        refine done_ (done_of HT_.out (by kernel_rfl)) ?_
        have pz2 : 0 ≤ (xz2 : Int) := dt_
        have qz2 : xz2 < (l0.length : Int) := dt_
        obtain ⟨adz2, Az6, cz14, ez2, hxz4, hxz5, hxz6, hlz2, hiz2⟩ := at_T41 HRz1.out xz2 pz2 qz2
        obtain rfl : adz1 = adz2 := (by injection ez2)
        obtain ⟨rfl, rfl⟩ : Az6 = Az5 ∧ cz14 = cz13 := by simpa using hxz5.symm.trans kxz1.out
        replace hxz4 := cl_ HB hxz4
        replace hxz5 := cl_ HB hxz5
        replace hxz6 := cl_ HB hxz6
        have HRz3 := Aside0.mk hiz2
        have HCz3 := Aside0.mk hlz2
        clear hiz2 hlz2
        replace pz2 := eq_true pz2
        replace qz2 := eq_true qz2
        try go_wp2_with (first | ((with_reducible refine gate_callee (f := 36) rfl ?_); refine ca_ 28 Tryd.func36 #[.slice Az6 ((rd_T41 l0 xz2).f1).length cz14, .int .i64 (wrap64 (xz1 + 1))] ?_; (with_reducible refine (laws_heldByteS.calls kz1 _ _ ((rd_T41 l0 xz2).f1) (wrap64 (xz1 + 1)) tz2 _ ?side1 ?side2 Az4.out).mono ?_); (case side1 => exact Kd.C_below HRz3.out be_); (case side2 => exact HCz3.out); rintro e w' ⟨rfl, ⟨nd, rfl⟩⟩; refine ⟨_, rfl, ?_⟩; have pz3 : 0 ≤ (xz2 : Int) := dt_; have qz3 : xz2 < (l0.length : Int) := dt_; obtain ⟨adz3, Az7, cz15, ez3, hxz7, hxz8, hxz9, hlz3, hiz3⟩ := at_T41 HRz1.out xz2 pz3 qz3; obtain rfl : adz1 = adz3 := (by injection ez3); replace hxz7 := cl_ HB hxz7; replace hxz8 := cl_ HB hxz8; replace hxz9 := cl_ HB hxz9; have HRz4 := Aside0.mk hiz3; have HCz4 := Aside0.mk hlz3; clear hiz3 hlz3; replace pz3 := eq_true pz3; replace qz3 := eq_true qz3; have ea_ := Option.some.inj (hxz5.symm.trans hxz8); injection ea_ with ea_ en_ ec_; subst ea_; subst ec_; clear en_))
        go_ret
        exact ⟨er_, be_⟩
      rw [if_pos cz10] at H
      have cz11 : (((rd_T41 l0 xz2).f2) == tz2) = true := beq_iff_eq.mpr cz10
      have cz12 : (((rd_T41 l0 xz2).f2) != tz2) = false := bne_eq_false_iff_eq.mpr cz10
      clear cz10
      have H' := Aside0.mk H
      clear H
      try go_wp2
      replace HB := Aside0.mk (below_drew1 HB.out)
      have pz1 : 0 ≤ (xz2 : Int) := dt_
      have qz1 : xz2 < (l0.length : Int) := dt_
      obtain ⟨adz1, Az5, cz13, ez1, hxz1, hxz2, hxz3, hlz1, hiz1⟩ := at_T41 HRz1.out xz2 pz1 qz1
      have kxz1 := Aside0.mk hxz2
      have hwz1 := hxz3
      have hwz2 := hxz2
      have hwz3 := hxz1
      cases ez1
      replace hxz1 := cl_ HB hxz1
      replace hxz2 := cl_ HB hxz2
      replace hxz3 := cl_ HB hxz3
      have HRz2 := Aside0.mk hiz1
      have HCz2 := Aside0.mk hlz1
      clear hiz1 hlz1
      replace pz1 := eq_true pz1
      replace qz1 := eq_true qz1
      refine start_ (n := 8) (S := fun w' => w'.cell? (adz1.add ((xz2).toNat * 3)) = some (.string ((rd_T41 l0 xz2).f0)) ∧ w'.cell? ⟨(adz1.add ((xz2).toNat * 3)).block, (adz1.add ((xz2).toNat * 3)).off + 1, none⟩ = some (.slice Az5 ((rd_T41 l0 xz2).f1).length cz13) ∧ w'.cell? ⟨(adz1.add ((xz2).toNat * 3)).block, (adz1.add ((xz2).toNat * 3)).off + 2, none⟩ = some (.int .i64 ((rd_T41 l0 xz2).f2))) (ds := []) #[false, false, false, false, false, false, false, false] (by kernel_rfl) rfl rfl ⟨(cl_ HB hwz3), (cl_ HB hwz2), (cl_ HB hwz1)⟩ (fun hHeld => ?_); refine with_tabW laws_heldKeptS.tab4 laws_heldKeptS.bits4 (fun HT_ HW_ => ?_)
      generalize wr.drew = wz1 at HB HRz2 hxz1 hxz2 hxz3 hHeld ⊢
      refine pu_ HT_ 0 12 #[true, false, false, false, false, false, false, false] ?_
      refine pu_ HT_ 1 13 #[true, true, false, false, false, false, false, false] ?_
      refine pu_ HT_ 2 14 #[true, true, true, false, false, false, false, false] ?_
      refine pu_ HT_ 3 15 #[true, true, true, true, false, false, false, false] ?_
      refine pu_ HT_ 5 17 #[true, true, true, true, false, true, false, false] ?_
      refine ta_ HT_ HW_ hHeld 4 16 #[true, true, true, true, true, true, false, false] ?_
      refine on_ HT_ 6 18 #[true, true, true, true, true, true, true, false] (fun K hK => ?_)
      refine goes_ Tryd.func35 (by kernel_rfl) rfl #[.int .i64 xz1] (by rfl) rfl rfl ar_ ?_
      with_reducible refine (laws_markText.calls kz1 xz1 tz1 _ Az2.out).mono ?_
      rintro e wz2 ⟨rfl, hb⟩
      refine ⟨_, rfl, ?_⟩
      replace HB := bw_ hb
      clear hb
      refine hK.out _ _ ⟨(cl_ HB hwz3), (cl_ HB hwz2), (cl_ HB hwz1)⟩ (fun hHeld => ?_)
      clear hK K
      refine nm_ 18 ?_
      refine pu_ HT_ 7 19 #[true, true, true, true, true, true, true, true] ?_
      refine done_ (done_of HT_.out (by kernel_rfl)) ?_
      have pz2 : 0 ≤ (xz2 : Int) := dt_
      have qz2 : xz2 < (l0.length : Int) := dt_
      obtain ⟨adz2, Az6, cz14, ez2, hxz4, hxz5, hxz6, hlz2, hiz2⟩ := at_T41 HRz1.out xz2 pz2 qz2
      obtain rfl : adz1 = adz2 := (by injection ez2)
      obtain ⟨rfl, rfl⟩ : Az6 = Az5 ∧ cz14 = cz13 := by simpa using hxz5.symm.trans kxz1.out
      replace hxz4 := cl_ HB hxz4
      replace hxz5 := cl_ HB hxz5
      replace hxz6 := cl_ HB hxz6
      have HRz3 := Aside0.mk hiz2
      have HCz3 := Aside0.mk hlz2
      clear hiz2 hlz2
      replace pz2 := eq_true pz2
      replace qz2 := eq_true qz2
      try go_wp2_with (first | ((with_reducible refine gate_callee (f := 36) rfl ?_); refine ca_ 28 Tryd.func36 #[.slice Az6 ((rd_T41 l0 xz2).f1).length cz14, .int .i64 (wrap64 (xz1 + 1))] ?_; (with_reducible refine (laws_heldByteS.calls kz1 _ _ ((rd_T41 l0 xz2).f1) (wrap64 (xz1 + 1)) tz2 _ ?side1 ?side2 Az4.out).mono ?_); (case side1 => exact Kd.C_below HRz3.out be_); (case side2 => exact HCz3.out); rintro e w' ⟨rfl, ⟨nd, rfl⟩⟩; refine ⟨_, rfl, ?_⟩; have pz3 : 0 ≤ (xz2 : Int) := dt_; have qz3 : xz2 < (l0.length : Int) := dt_; obtain ⟨adz3, Az7, cz15, ez3, hxz7, hxz8, hxz9, hlz3, hiz3⟩ := at_T41 HRz1.out xz2 pz3 qz3; obtain rfl : adz1 = adz3 := (by injection ez3); replace hxz7 := cl_ HB hxz7; replace hxz8 := cl_ HB hxz8; replace hxz9 := cl_ HB hxz9; have HRz4 := Aside0.mk hiz3; have HCz4 := Aside0.mk hlz3; clear hiz3 hlz3; replace pz3 := eq_true pz3; replace qz3 := eq_true qz3; have ea_ := Option.some.inj (hxz5.symm.trans hxz8); injection ea_ with ea_ en_ ec_; subst ea_; subst ec_; clear en_))
      go_roundg kz1
      case measure => have := HKz1.out; omega
      case rel => exact ⟨(wrap64 (tz2 + 1)), (wrap64 (xz2 + 1)), rs_, rs_, H', ⟨by have := HKz1.out; omega⟩, ⟨be_⟩⟩

-- NOT PRINTED: function 3 (laws_FnExactSetKept)

def laws_big.f (l0 : List Int) : Option (Bool) := some (decide ((l0.length : Int) > 1048576))
set_option maxHeartbeats 8000000 in
set_option maxRecDepth 100000 in
theorem laws_big.calls (A0 : Option Addr) (c0 : Nat) (l0 : List Int) (r : Bool) (w : World) (hr0 : Kd.C (Kd.int .u8) w A0 l0.length l0) (hc0 : l0.length ≤ c0) (h : laws_big.f l0 = some r) :
    Calls Tryd.prog 15 #[.slice A0 l0.length c0] w fun e w' => e = .returned (.bool r) ∧ Drawn0 w w' := by
  have HRz1 := Aside0.mk hr0
  have HCz1 := Aside0.mk hc0
  clear hr0 hc0
  have H : (some (decide ((l0.length : Int) > 1048576))) = some r := h
  clear h
  obtain rfl := Option.some.inj H
  go_enter Tryd.func15, Tryd.ntmps15
  go_wp2
  go_ret
  exact ⟨rs_, dr_⟩

end Go.Proofs.YtpigbffaacilfaaDoor.P
