-- Printed by a program over the kit's print.py (mp.sh), several laws in one namespace.
import Derived.Test.YtpigbffaacilfaaDoorPx0
import Derived.Test.YtpigbffaacilfaaDoorS
import Derived.Test.YtpigbffaacilfaaDoorPx17
namespace Go.Proofs.YtpigbffaacilfaaDoor.P
open Go.RowKit Go.Proofs.YtpigbffaacilfaaDoor.X Go.Proofs.YtpigbffaacilfaaDoorW.PrintWords Go.Proofs.YtpigbffaacilfaaDoorW.PrintLast Go.Proofs.YtpigbffaacilfaaDoorW.PrintMore
attribute [local go_sem] max2_int min2_int max_two min_two max_three min_three max_four min_four   -- for this text's walks alone
set_option linter.unusedVariables false
set_option linter.unusedSimpArgs false

def laws_sameKept_bools0_ : Array Bool := bs_ 38 0
def laws_sameKept_bools1_ : Array Bool := bs_ 38 1
def laws_sameKept_bools2_ : Array Bool := bs_ 38 3
def laws_sameKept_bools3_ : Array Bool := bs_ 38 7
def laws_sameKept_bools4_ : Array Bool := bs_ 38 15
def laws_sameKept_bools5_ : Array Bool := bs_ 38 47
def laws_sameKept_bools6_ : Array Bool := bs_ 38 111
def laws_sameKept_bools7_ : Array Bool := bs_ 38 239
def laws_sameKept_bools8_ : Array Bool := bs_ 38 495
def laws_sameKept_bools9_ : Array Bool := bs_ 38 511
def laws_sameKept_bools10_ : Array Bool := bs_ 38 1023
def laws_sameKept_bools11_ : Array Bool := bs_ 38 2047
def laws_sameKept_bools12_ : Array Bool := bs_ 38 4095
def laws_sameKept_bools13_ : Array Bool := bs_ 38 8191
def laws_sameKept_bools14_ : Array Bool := bs_ 38 16383
def laws_sameKept_bools15_ : Array Bool := bs_ 38 32767
def laws_sameKept_bools16_ : Array Bool := bs_ 38 65535
def laws_sameKept_bools17_ : Array Bool := bs_ 38 131071
def laws_sameKept_bools18_ : Array Bool := bs_ 38 262143
def laws_sameKept_bools19_ : Array Bool := bs_ 38 524287
def laws_sameKept_bools20_ : Array Bool := bs_ 38 1048575
def laws_sameKept_bools21_ : Array Bool := bs_ 38 2097151
def laws_sameKept_bools22_ : Array Bool := bs_ 38 4194303
def laws_sameKept_bools23_ : Array Bool := bs_ 38 8388607
def laws_sameKept_bools24_ : Array Bool := bs_ 38 16777215
def laws_sameKept_bools25_ : Array Bool := bs_ 38 33554431
def laws_sameKept_bools26_ : Array Bool := bs_ 38 67108863
def laws_sameKept_bools27_ : Array Bool := bs_ 38 134217727
def laws_sameKept_bools28_ : Array Bool := bs_ 38 268435455
def laws_sameKept_bools29_ : Array Bool := bs_ 38 536870911
def laws_sameKept_bools30_ : Array Bool := bs_ 38 1073741823
def laws_sameKept_bools31_ : Array Bool := bs_ 38 2147483647
def laws_sameKept_bools32_ : Array Bool := bs_ 38 4294967295
def laws_sameKept_bools33_ : Array Bool := bs_ 38 8589934591
def laws_sameKept_bools34_ : Array Bool := bs_ 38 17179869183
def laws_sameKept_bools35_ : Array Bool := bs_ 38 34359738367
def laws_sameKept_bools36_ : Array Bool := bs_ 38 68719476735
def laws_sameKept_bools37_ : Array Bool := bs_ 38 137438953471
def laws_sameKept_bools38_ : Array Bool := bs_ 38 274877906943
def laws_sameKept_bools39_ : Array Bool := bs_ 38 196607
def laws_sameKept_bools40_ : Array Bool := bs_ 38 458751
def laws_sameKept_bools41_ : Array Bool := bs_ 38 983039
def laws_sameKept_bools42_ : Array Bool := bs_ 38 2031615
def laws_sameKept_bools43_ : Array Bool := bs_ 38 3221225471
def laws_sameKept_bools44_ : Array Bool := bs_ 38 7516192767
def laws_sameKept_bools45_ : Array Bool := bs_ 38 16106127359
def laws_sameKept_bools46_ : Array Bool := bs_ 38 33285996543
def laws_sameKept.l0 : Nat → List (S41) → List (S41) → Int → Option (Bool)
  | 0, _, _, _ => none
  | k + 1, x0, x1, x5 => if x5 < (x0.length : Int) then (if 0 ≤ x5 then (if x5 < (x1.length : Int) then (if ((rd_T41 x0 x5).f0).toList = ((rd_T41 x1 x5).f0).toList then ((laws_same.f ((rd_T41 x0 x5).f1) ((rd_T41 x1 x5).f1)).bind fun t480 => (if t480 = true then (if ((rd_T41 x0 x5).f2) = ((rd_T41 x1 x5).f2) then (laws_sameKept.l0 k x0 x1 (wrap64 (x5 + 1))) else (some false)) else (some false))) else (some false)) else (none)) else (none)) else (some true)
def laws_sameKept.f (k : Nat) (l0 : List (S41)) (l1 : List (S41)) : Option (Bool) := if (l0.length : Int) = (l1.length : Int) then (laws_sameKept.l0 k l0 l1 0) else (some false)
theorem laws_sameKept.mono_l : ∀ k, (∀ y0 y1 y2, LeO (laws_sameKept.l0 k y0 y1 y2) (laws_sameKept.l0 (k + 1) y0 y1 y2))
  | 0 => fun _ _ _ r h => by simp [laws_sameKept.l0] at h
  | k + 1 => by
    have ih0 := laws_sameKept.mono_l k
    · intro y0 y1 y2
      unfold laws_sameKept.l0
      repeat' first
      | (with_reducible exact ih0 _ _ _)
      | (with_reducible exact LeO.refl _)
      | (with_reducible exact LeO.none _)
      | (with_reducible refine LeO.ite ?_ ?_)
      | (with_reducible refine LeO.bind ?_ (fun _ => ?_))
      | exact ih0 _ _ _
      | exact LeO.none _
      | refine LeO.ite ?_ ?_
      | refine LeO.bind ?_ (fun _ => ?_)
theorem laws_sameKept.mono : ∀ a0 a1 k, LeO (laws_sameKept.f k a0 a1) (laws_sameKept.f (k + 1) a0 a1) := by
  intro a0 a1 k
  have ih0 := laws_sameKept.mono_l k
  unfold laws_sameKept.f
  repeat' first
      | (with_reducible exact ih0 _ _ _)
      | (with_reducible exact LeO.refl _)
      | (with_reducible exact LeO.none _)
      | (with_reducible refine LeO.ite ?_ ?_)
      | (with_reducible refine LeO.bind ?_ (fun _ => ?_))
      | exact ih0 _ _ _
      | exact LeO.none _
      | refine LeO.ite ?_ ?_
      | refine LeO.bind ?_ (fun _ => ?_)
def laws_sameKept.T6 : Bool × List (List Nat × List Nat) := (true, [([], []), ([], []), ([0, 1], [0, 1]), ([2], [2]), ([3], [3]), ([], []), ([], []), ([5, 6], [5, 6]), ([7], [7]), ([8], [8]), ([4, 9], [4, 9]), ([10], [10]), ([11], [11]), ([11], [11]), ([12, 13, 11], [11, 12, 13]), ([14, 11], [11, 14]), ([15, 11], [11, 15]), ([11], [11]), ([11], [11]), ([17, 18, 11], [11, 17, 18]), ([19, 11], [11, 19]), ([20, 11], [11, 20]), ([16, 21, 11, 11], [11, 16, 21]), ([22, 11], [11, 22]), ([11, 23], [11, 23]), ([24, 22], [24]), ([25], [25]), ([25], [25]), ([26, 27, 25], [25, 26, 27]), ([28, 25], [25, 28]), ([29, 25], [25, 29]), ([25], [25]), ([25], [25]), ([31, 32, 25], [25, 31, 32]), ([33, 25], [25, 33]), ([34, 25], [25, 34]), ([30, 35, 25], [25, 30, 35]), ([25, 36], [25, 36])])
def laws_sameKept.B6 : List Nat := [0, 0, 3, 7, 15, 0, 0, 96, 224, 480, 1023, 2047, 4095, 4095, 16383, 32767, 65535, 4095, 4095, 397311, 921599, 1970175, 4194303, 8388607, 16777215, 33554431, 67108863, 67108863, 268435455, 536870911, 1073741823, 67108863, 67108863, 6509559807, 15099494399, 32279363583, 68719476735, 137438953471]
theorem laws_sameKept.tab6 : rtab .any (opsOf Tryd.f19 6) = laws_sameKept.T6 := by kernel_rfl
theorem laws_sameKept.bits6 : waitsOk laws_sameKept.T6.2 laws_sameKept.B6 = true := by kernel_rfl
set_option maxHeartbeats 8000000 in
set_option maxRecDepth 100000 in
theorem laws_sameKept.calls (k : Nat) (A0 : Option Addr) (c0 : Nat) (l0 : List (S41)) (A1 : Option Addr) (c1 : Nat) (l1 : List (S41)) (r : Bool) (w : World) (hr0 : Kd.C k41 w A0 l0.length l0) (hc0 : l0.length ≤ c0) (hr1 : Kd.C k41 w A1 l1.length l1) (hc1 : l1.length ≤ c1) (h : laws_sameKept.f k l0 l1 = some r) :
    Calls Tryd.prog 19 #[.slice A0 l0.length c0, .slice A1 l1.length c1] w fun e w' => e = .returned (.bool r) ∧ Below w.heap.size w w' := by
  have HRz1 := Aside0.mk hr0
  have HCz1 := Aside0.mk hc0
  clear hr0 hc0
  have HRz2 := Aside0.mk hr1
  have HCz2 := Aside0.mk hc1
  clear hr1 hc1
  have HB := Aside0.mk (Below.refl w.heap.size w)
  have H : (if (l0.length : Int) = (l1.length : Int) then (laws_sameKept.l0 k l0 l1 0) else (some false)) = some r := h
  clear h
  by_cases cz1 : (l0.length : Int) = (l1.length : Int)
  rotate_left
  · rw [if_neg cz1] at H
    have cz2 : ((l0.length : Int) == (l1.length : Int)) = false := beq_eq_false_iff_ne.mpr cz1
    have cz3 : ((l0.length : Int) != (l1.length : Int)) = true := bne_iff_ne.mpr cz1
    have cz4 : (l0.length == l1.length) = false := by first | simpa using cz1 | (simp at cz1 ⊢; omega)
    obtain rfl := Option.some.inj H
    go_enter Tryd.func19, Tryd.ntmps19
    go_wp2
    go_ret
    exact ⟨er_, be_⟩
  rw [if_pos cz1] at H
  have cz2 : ((l0.length : Int) == (l1.length : Int)) = true := beq_iff_eq.mpr cz1
  have cz3 : ((l0.length : Int) != (l1.length : Int)) = false := bne_eq_false_iff_eq.mpr cz1
  have cz4 : (l0.length == l1.length) = true := by first | simpa using cz1 | (simp at cz1 ⊢; omega)
  clear cz1
  have H' := Aside0.mk H
  clear H
  go_enter Tryd.func19, Tryd.ntmps19
  go_wp2
  go_loopg [5] k (fun kq v5 w' => ∃ (x5_1 : Int), v5 = .int .i64 x5_1 ∧ Aside0 (laws_sameKept.l0 kq l0 l1 x5_1 = some r) ∧ Aside0 (kq ≤ k) ∧ Aside0 (Below w.heap.size w w'))
  case atStart => exact ⟨(0), rs_, H', ⟨Nat.le_refl _⟩, ⟨be_⟩⟩
  case round =>
    clear H'
    try clear c1
    try clear p2
    try clear cz1
    try clear cz2
    try clear cz3
    try clear cz4
    obtain ⟨xz1, rfl, HA, HKz1, HB⟩ := hrel
    cases gk with
    | zero => exact absurd HA.out (by simp [laws_sameKept.l0])
    | succ kz1 =>
      have H := HA.out
      clear HA
      simp only [laws_sameKept.l0] at H
      by_cases cz5 : xz1 < (l0.length : Int)
      rotate_left
      · rw [if_neg cz5] at H
        have cz6 : decide (xz1 < (l0.length : Int)) = false := decide_eq_false cz5
        clear cz5
        obtain rfl := Option.some.inj H
        go_wp2
        go_ret
        exact ⟨er_, be_⟩
      rw [if_pos cz5] at H
      have cz6 : decide (xz1 < (l0.length : Int)) = true := decide_eq_true cz5
      clear cz5
      by_cases cz7 : 0 ≤ xz1
      rotate_left
      · rw [if_neg cz7] at H
        exact absurd H (by simp)
      rw [if_pos cz7] at H
      have cz8 : decide (0 ≤ xz1) = true := decide_eq_true cz7
      clear cz7
      by_cases cz9 : xz1 < (l1.length : Int)
      rotate_left
      · rw [if_neg cz9] at H
        exact absurd H (by simp)
      rw [if_pos cz9] at H
      have cz10 : decide (xz1 < (l1.length : Int)) = true := decide_eq_true cz9
      clear cz9
      by_cases cz11 : ((rd_T41 l0 xz1).f0).toList = ((rd_T41 l1 xz1).f0).toList
      rotate_left
      · rw [if_neg cz11] at H
        have cz12 : (((rd_T41 l0 xz1).f0).toList == ((rd_T41 l1 xz1).f0).toList) = false := beq_eq_false_iff_ne.mpr cz11
        have cz13 : (((rd_T41 l0 xz1).f0).toList != ((rd_T41 l1 xz1).f0).toList) = true := bne_iff_ne.mpr cz11
        obtain rfl := Option.some.inj H
        try go_wp2
        replace HB := Aside0.mk (below_drew1 HB.out)
        have pz1 : 0 ≤ (xz1 : Int) := dt_
        have qz1 : xz1 < (l0.length : Int) := dt_
        obtain ⟨adz1, Az1, cz14, ez1, hxz1, hxz2, hxz3, hlz1, hiz1⟩ := at_T41 HRz1.out xz1 pz1 qz1
        have hwz1 := hxz3
        have hwz2 := hxz2
        have hwz3 := hxz1
        cases ez1
        replace hxz1 := cl_ HB hxz1
        replace hxz2 := cl_ HB hxz2
        replace hxz3 := cl_ HB hxz3
        have HRz3 := Aside0.mk hiz1
        have HCz3 := Aside0.mk hlz1
        clear hiz1 hlz1
        replace pz1 := eq_true pz1
        replace qz1 := eq_true qz1
        have pz2 : 0 ≤ (xz1 : Int) := dt_
        have qz2 : xz1 < (l1.length : Int) := dt_
        obtain ⟨adz2, Az2, cz15, ez2, hxz4, hxz5, hxz6, hlz2, hiz2⟩ := at_T41 HRz2.out xz1 pz2 qz2
        have hwz4 := hxz6
        have hwz5 := hxz5
        have hwz6 := hxz4
        cases ez2
        replace hxz4 := cl_ HB hxz4
        replace hxz5 := cl_ HB hxz5
        replace hxz6 := cl_ HB hxz6
        have HRz4 := Aside0.mk hiz2
        have HCz4 := Aside0.mk hlz2
        clear hiz2 hlz2
        replace pz2 := eq_true pz2
        replace qz2 := eq_true qz2
        refine start_ (n := 38) (S := fun w' => w'.cell? (adz1.add ((xz1).toNat * 3)) = some (.string ((rd_T41 l0 xz1).f0)) ∧ w'.cell? ⟨(adz1.add ((xz1).toNat * 3)).block, (adz1.add ((xz1).toNat * 3)).off + 1, none⟩ = some (.slice Az1 ((rd_T41 l0 xz1).f1).length cz14) ∧ w'.cell? ⟨(adz1.add ((xz1).toNat * 3)).block, (adz1.add ((xz1).toNat * 3)).off + 2, none⟩ = some (.int .i64 ((rd_T41 l0 xz1).f2)) ∧ w'.cell? (adz2.add ((xz1).toNat * 3)) = some (.string ((rd_T41 l1 xz1).f0)) ∧ w'.cell? ⟨(adz2.add ((xz1).toNat * 3)).block, (adz2.add ((xz1).toNat * 3)).off + 1, none⟩ = some (.slice Az2 ((rd_T41 l1 xz1).f1).length cz15) ∧ w'.cell? ⟨(adz2.add ((xz1).toNat * 3)).block, (adz2.add ((xz1).toNat * 3)).off + 2, none⟩ = some (.int .i64 ((rd_T41 l1 xz1).f2))) (ds := []) laws_sameKept_bools0_ (by kernel_rfl) rfl (by kernel_rfl) ⟨(cl_ HB hwz3), (cl_ HB hwz2), (cl_ HB hwz1), (cl_ HB hwz6), (cl_ HB hwz5), (cl_ HB hwz4)⟩ (fun hHeld => ?_); refine with_tabW laws_sameKept.tab6 laws_sameKept.bits6 (fun HT_ HW_ => ?_)
        generalize wr.drew = wz1 at HB HRz3 HRz4 hxz1 hxz2 hxz3 hxz4 hxz5 hxz6 hHeld ⊢
        refine pu_ HT_ 0 17 laws_sameKept_bools1_ ?_
        refine pu_ HT_ 1 18 laws_sameKept_bools2_ ?_
        refine pu_ HT_ 2 19 laws_sameKept_bools3_ ?_
        refine pu_ HT_ 3 20 laws_sameKept_bools4_ ?_
        refine pu_ HT_ 5 22 laws_sameKept_bools5_ ?_
        refine pu_ HT_ 6 23 laws_sameKept_bools6_ ?_
        refine pu_ HT_ 7 24 laws_sameKept_bools7_ ?_
        refine pu_ HT_ 8 25 laws_sameKept_bools8_ ?_
        refine ta_ HT_ HW_ hHeld 4 21 laws_sameKept_bools9_ ?_
        refine ta_ HT_ HW_ hHeld 9 26 laws_sameKept_bools10_ ?_
        refine pu_ HT_ 10 27 laws_sameKept_bools11_ ?_
        refine pu_ HT_ 11 28 laws_sameKept_bools12_ ?_
        refine un_ HT_ 12 29 laws_sameKept_bools13_ ?_
        refine un_ HT_ 13 30 laws_sameKept_bools14_ ?_
        refine un_ HT_ 14 31 laws_sameKept_bools15_ ?_
        refine un_ HT_ 15 32 laws_sameKept_bools16_ ?_
        refine un_ HT_ 16 33 laws_sameKept_bools17_ ?_
        refine un_ HT_ 17 34 laws_sameKept_bools18_ ?_
        refine un_ HT_ 18 35 laws_sameKept_bools19_ ?_
        refine un_ HT_ 19 36 laws_sameKept_bools20_ ?_
        refine un_ HT_ 20 37 laws_sameKept_bools21_ ?_
        refine un_ HT_ 21 38 laws_sameKept_bools22_ ?_
        refine un_ HT_ 22 39 laws_sameKept_bools23_ ?_
        refine un_ HT_ 23 40 laws_sameKept_bools24_ ?_
        refine pu_ HT_ 24 41 laws_sameKept_bools25_ ?_
        refine pu_ HT_ 25 42 laws_sameKept_bools26_ ?_
        refine un_ HT_ 26 43 laws_sameKept_bools27_ ?_
        refine un_ HT_ 27 44 laws_sameKept_bools28_ ?_
        refine un_ HT_ 28 45 laws_sameKept_bools29_ ?_
        refine un_ HT_ 29 46 laws_sameKept_bools30_ ?_
        refine un_ HT_ 30 47 laws_sameKept_bools31_ ?_
        refine un_ HT_ 31 48 laws_sameKept_bools32_ ?_
        refine un_ HT_ 32 49 laws_sameKept_bools33_ ?_
        refine un_ HT_ 33 50 laws_sameKept_bools34_ ?_
        refine un_ HT_ 34 51 laws_sameKept_bools35_ ?_
        refine un_ HT_ 35 52 laws_sameKept_bools36_ ?_
        refine un_ HT_ 36 53 laws_sameKept_bools37_ ?_
        refine pu_ HT_ 37 54 laws_sameKept_bools38_ ?_
        refine done_ (done_of HT_.out (by kernel_rfl)) ?_
        try go_wp2
        go_ret
        exact ⟨er_, be_⟩
      rw [if_pos cz11] at H
      have cz12 : (((rd_T41 l0 xz1).f0).toList == ((rd_T41 l1 xz1).f0).toList) = true := beq_iff_eq.mpr cz11
      have cz13 : (((rd_T41 l0 xz1).f0).toList != ((rd_T41 l1 xz1).f0).toList) = false := bne_eq_false_iff_eq.mpr cz11
      clear cz11
      replace H := bo_ H
      obtain ⟨tz1, Az2, H⟩ := H
      (try dsimp only at H)
      by_cases cz14 : tz1 = true
      rotate_left
      · replace cz14 := Bool.eq_false_iff.mpr cz14
        subst cz14
        replace H := bf_ H
        obtain rfl := Option.some.inj H
        try go_wp2
        replace HB := Aside0.mk (below_drew1 HB.out)
        have pz1 : 0 ≤ (xz1 : Int) := dt_
        have qz1 : xz1 < (l0.length : Int) := dt_
        obtain ⟨adz1, Az3, cz15, ez1, hxz1, hxz2, hxz3, hlz1, hiz1⟩ := at_T41 HRz1.out xz1 pz1 qz1
        have hwz1 := hxz3
        have hwz2 := hxz2
        have hwz3 := hxz1
        cases ez1
        replace hxz1 := cl_ HB hxz1
        replace hxz2 := cl_ HB hxz2
        replace hxz3 := cl_ HB hxz3
        have HRz3 := Aside0.mk hiz1
        have HCz3 := Aside0.mk hlz1
        clear hiz1 hlz1
        replace pz1 := eq_true pz1
        replace qz1 := eq_true qz1
        have pz2 : 0 ≤ (xz1 : Int) := dt_
        have qz2 : xz1 < (l1.length : Int) := dt_
        obtain ⟨adz2, Az4, cz16, ez2, hxz4, hxz5, hxz6, hlz2, hiz2⟩ := at_T41 HRz2.out xz1 pz2 qz2
        have hwz4 := hxz6
        have hwz5 := hxz5
        have hwz6 := hxz4
        cases ez2
        replace hxz4 := cl_ HB hxz4
        replace hxz5 := cl_ HB hxz5
        replace hxz6 := cl_ HB hxz6
        have HRz4 := Aside0.mk hiz2
        have HCz4 := Aside0.mk hlz2
        clear hiz2 hlz2
        replace pz2 := eq_true pz2
        replace qz2 := eq_true qz2
        have pz3 : 0 ≤ (xz1 : Int) := dt_
        have qz3 : xz1 < (l0.length : Int) := dt_
        obtain ⟨adz3, Az5, cz17, ez3, hxz7, hxz8, hxz9, hlz3, hiz3⟩ := at_T41 HRz1.out xz1 pz3 qz3
        have hwz7 := hxz9
        have hwz8 := hxz8
        have hwz9 := hxz7
        obtain rfl : adz1 = adz3 := (by injection ez3)
        replace hxz7 := cl_ HB hxz7
        replace hxz8 := cl_ HB hxz8
        replace hxz9 := cl_ HB hxz9
        have HRz5 := Aside0.mk hiz3
        have HCz5 := Aside0.mk hlz3
        clear hiz3 hlz3
        replace pz3 := eq_true pz3
        replace qz3 := eq_true qz3
        have ea_ := Option.some.inj (hxz2.symm.trans hxz8)
        injection ea_ with ea_ en_ ec_
        subst ea_
        subst ec_
        clear en_
        have pz4 : 0 ≤ (xz1 : Int) := dt_
        have qz4 : xz1 < (l1.length : Int) := dt_
        obtain ⟨adz4, Az6, cz18, ez4, hxz10, hxz11, hxz12, hlz4, hiz4⟩ := at_T41 HRz2.out xz1 pz4 qz4
        have hwz10 := hxz12
        have hwz11 := hxz11
        have hwz12 := hxz10
        obtain rfl : adz2 = adz4 := (by injection ez4)
        replace hxz10 := cl_ HB hxz10
        replace hxz11 := cl_ HB hxz11
        replace hxz12 := cl_ HB hxz12
        have HRz6 := Aside0.mk hiz4
        have HCz6 := Aside0.mk hlz4
        clear hiz4 hlz4
        replace pz4 := eq_true pz4
        replace qz4 := eq_true qz4
        have ea_ := Option.some.inj (hxz5.symm.trans hxz11)
        injection ea_ with ea_ en_ ec_
        subst ea_
        subst ec_
        clear en_
        refine start_ (n := 38) (S := fun w' => w'.cell? (adz1.add ((xz1).toNat * 3)) = some (.string ((rd_T41 l0 xz1).f0)) ∧ w'.cell? ⟨(adz1.add ((xz1).toNat * 3)).block, (adz1.add ((xz1).toNat * 3)).off + 1, none⟩ = some (.slice Az3 ((rd_T41 l0 xz1).f1).length cz15) ∧ w'.cell? ⟨(adz1.add ((xz1).toNat * 3)).block, (adz1.add ((xz1).toNat * 3)).off + 2, none⟩ = some (.int .i64 ((rd_T41 l0 xz1).f2)) ∧ w'.cell? (adz2.add ((xz1).toNat * 3)) = some (.string ((rd_T41 l1 xz1).f0)) ∧ w'.cell? ⟨(adz2.add ((xz1).toNat * 3)).block, (adz2.add ((xz1).toNat * 3)).off + 1, none⟩ = some (.slice Az4 ((rd_T41 l1 xz1).f1).length cz16) ∧ w'.cell? ⟨(adz2.add ((xz1).toNat * 3)).block, (adz2.add ((xz1).toNat * 3)).off + 2, none⟩ = some (.int .i64 ((rd_T41 l1 xz1).f2)) ∧ w'.cell? (adz1.add ((xz1).toNat * 3)) = some (.string ((rd_T41 l0 xz1).f0)) ∧ w'.cell? ⟨(adz1.add ((xz1).toNat * 3)).block, (adz1.add ((xz1).toNat * 3)).off + 1, none⟩ = some (.slice Az3 ((rd_T41 l0 xz1).f1).length cz15) ∧ w'.cell? ⟨(adz1.add ((xz1).toNat * 3)).block, (adz1.add ((xz1).toNat * 3)).off + 2, none⟩ = some (.int .i64 ((rd_T41 l0 xz1).f2)) ∧ w'.cell? (adz2.add ((xz1).toNat * 3)) = some (.string ((rd_T41 l1 xz1).f0)) ∧ w'.cell? ⟨(adz2.add ((xz1).toNat * 3)).block, (adz2.add ((xz1).toNat * 3)).off + 1, none⟩ = some (.slice Az4 ((rd_T41 l1 xz1).f1).length cz16) ∧ w'.cell? ⟨(adz2.add ((xz1).toNat * 3)).block, (adz2.add ((xz1).toNat * 3)).off + 2, none⟩ = some (.int .i64 ((rd_T41 l1 xz1).f2))) (ds := []) laws_sameKept_bools0_ (by kernel_rfl) rfl (by kernel_rfl) ⟨(cl_ HB hwz3), (cl_ HB hwz2), (cl_ HB hwz1), (cl_ HB hwz6), (cl_ HB hwz5), (cl_ HB hwz4), (cl_ HB hwz9), (cl_ HB hwz8), (cl_ HB hwz7), (cl_ HB hwz12), (cl_ HB hwz11), (cl_ HB hwz10)⟩ (fun hHeld => ?_); refine with_tabW laws_sameKept.tab6 laws_sameKept.bits6 (fun HT_ HW_ => ?_)
        generalize wr.drew = wz1 at HB HRz3 HRz4 HRz5 HRz6 hxz1 hxz2 hxz3 hxz4 hxz5 hxz6 hxz7 hxz8 hxz9 hxz10 hxz11 hxz12 hHeld ⊢
        refine pu_ HT_ 0 17 laws_sameKept_bools1_ ?_
        refine pu_ HT_ 1 18 laws_sameKept_bools2_ ?_
        refine pu_ HT_ 2 19 laws_sameKept_bools3_ ?_
        refine pu_ HT_ 3 20 laws_sameKept_bools4_ ?_
        refine pu_ HT_ 5 22 laws_sameKept_bools5_ ?_
        refine pu_ HT_ 6 23 laws_sameKept_bools6_ ?_
        refine pu_ HT_ 7 24 laws_sameKept_bools7_ ?_
        refine pu_ HT_ 8 25 laws_sameKept_bools8_ ?_
        refine ta_ HT_ HW_ hHeld 4 21 laws_sameKept_bools9_ ?_
        refine ta_ HT_ HW_ hHeld 9 26 laws_sameKept_bools10_ ?_
        refine pu_ HT_ 10 27 laws_sameKept_bools11_ ?_
        refine pu_ HT_ 11 28 laws_sameKept_bools12_ ?_
        refine pu_ HT_ 12 29 laws_sameKept_bools13_ ?_
        refine pu_ HT_ 13 30 laws_sameKept_bools14_ ?_
        refine pu_ HT_ 14 31 laws_sameKept_bools15_ ?_
        refine pu_ HT_ 15 32 laws_sameKept_bools16_ ?_
        refine pu_ HT_ 17 34 laws_sameKept_bools39_ ?_
        refine pu_ HT_ 18 35 laws_sameKept_bools40_ ?_
        refine pu_ HT_ 19 36 laws_sameKept_bools41_ ?_
        refine pu_ HT_ 20 37 laws_sameKept_bools42_ ?_
        refine ta_ HT_ HW_ hHeld 16 33 laws_sameKept_bools21_ ?_
        refine ta_ HT_ HW_ hHeld 21 38 laws_sameKept_bools22_ ?_
        refine on_ HT_ 22 39 laws_sameKept_bools23_ (fun K hK => ?_)
        refine goes_ Tryd.func21 (by kernel_rfl) rfl #[.slice Az3 ((rd_T41 l0 xz1).f1).length cz15, .slice Az4 ((rd_T41 l1 xz1).f1).length cz16] (by rfl) rfl rfl ar_ ?_
        with_reducible refine (laws_same.calls _ _ ((rd_T41 l0 xz1).f1) _ _ ((rd_T41 l1 xz1).f1) false _ ?side1 ?side2 ?side3 ?side4 Az2.out).mono ?_
        (case side1 => exact Kd.C_below HRz5.out be_)
        (case side2 => exact HCz5.out)
        (case side3 => exact Kd.C_below HRz6.out be_)
        (case side4 => exact HCz6.out)
        rintro e w' ⟨rfl, ⟨nd, rfl⟩⟩
        refine ⟨_, rfl, ?_⟩
        refine hK.out _ _ ⟨(cl_ HB hwz3), (cl_ HB hwz2), (cl_ HB hwz1), (cl_ HB hwz6), (cl_ HB hwz5), (cl_ HB hwz4), (cl_ HB hwz9), (cl_ HB hwz8), (cl_ HB hwz7), (cl_ HB hwz12), (cl_ HB hwz11), (cl_ HB hwz10)⟩ (fun hHeld => ?_)
        clear hK K
        refine nm_ 39 ?_
        refine pu_ HT_ 23 40 laws_sameKept_bools24_ ?_
        refine pu_ HT_ 24 41 laws_sameKept_bools25_ ?_
        refine pu_ HT_ 25 42 laws_sameKept_bools26_ ?_
        refine un_ HT_ 26 43 laws_sameKept_bools27_ ?_
        refine un_ HT_ 27 44 laws_sameKept_bools28_ ?_
        refine un_ HT_ 28 45 laws_sameKept_bools29_ ?_
        refine un_ HT_ 29 46 laws_sameKept_bools30_ ?_
        refine un_ HT_ 30 47 laws_sameKept_bools31_ ?_
        refine un_ HT_ 31 48 laws_sameKept_bools32_ ?_
        refine un_ HT_ 32 49 laws_sameKept_bools33_ ?_
        refine un_ HT_ 33 50 laws_sameKept_bools34_ ?_
        refine un_ HT_ 34 51 laws_sameKept_bools35_ ?_
        refine un_ HT_ 35 52 laws_sameKept_bools36_ ?_
        refine un_ HT_ 36 53 laws_sameKept_bools37_ ?_
        refine pu_ HT_ 37 54 laws_sameKept_bools38_ ?_
        refine done_ (done_of HT_.out (by kernel_rfl)) ?_
        try go_wp2
        go_ret
        exact ⟨er_, be_⟩
      subst cz14
      replace H := bt_ H
      by_cases cz15 : ((rd_T41 l0 xz1).f2) = ((rd_T41 l1 xz1).f2)
      rotate_left
      · rw [if_neg cz15] at H
        have cz16 : (((rd_T41 l0 xz1).f2) == ((rd_T41 l1 xz1).f2)) = false := beq_eq_false_iff_ne.mpr cz15
        have cz17 : (((rd_T41 l0 xz1).f2) != ((rd_T41 l1 xz1).f2)) = true := bne_iff_ne.mpr cz15
        obtain rfl := Option.some.inj H
        try go_wp2
        replace HB := Aside0.mk (below_drew1 HB.out)
        have pz1 : 0 ≤ (xz1 : Int) := dt_
        have qz1 : xz1 < (l0.length : Int) := dt_
        obtain ⟨adz1, Az3, cz18, ez1, hxz1, hxz2, hxz3, hlz1, hiz1⟩ := at_T41 HRz1.out xz1 pz1 qz1
        have hwz1 := hxz3
        have hwz2 := hxz2
        have hwz3 := hxz1
        cases ez1
        replace hxz1 := cl_ HB hxz1
        replace hxz2 := cl_ HB hxz2
        replace hxz3 := cl_ HB hxz3
        have HRz3 := Aside0.mk hiz1
        have HCz3 := Aside0.mk hlz1
        clear hiz1 hlz1
        replace pz1 := eq_true pz1
        replace qz1 := eq_true qz1
        have pz2 : 0 ≤ (xz1 : Int) := dt_
        have qz2 : xz1 < (l1.length : Int) := dt_
        obtain ⟨adz2, Az4, cz19, ez2, hxz4, hxz5, hxz6, hlz2, hiz2⟩ := at_T41 HRz2.out xz1 pz2 qz2
        have hwz4 := hxz6
        have hwz5 := hxz5
        have hwz6 := hxz4
        cases ez2
        replace hxz4 := cl_ HB hxz4
        replace hxz5 := cl_ HB hxz5
        replace hxz6 := cl_ HB hxz6
        have HRz4 := Aside0.mk hiz2
        have HCz4 := Aside0.mk hlz2
        clear hiz2 hlz2
        replace pz2 := eq_true pz2
        replace qz2 := eq_true qz2
        have pz3 : 0 ≤ (xz1 : Int) := dt_
        have qz3 : xz1 < (l0.length : Int) := dt_
        obtain ⟨adz3, Az5, cz20, ez3, hxz7, hxz8, hxz9, hlz3, hiz3⟩ := at_T41 HRz1.out xz1 pz3 qz3
        have hwz7 := hxz9
        have hwz8 := hxz8
        have hwz9 := hxz7
        obtain rfl : adz1 = adz3 := (by injection ez3)
        replace hxz7 := cl_ HB hxz7
        replace hxz8 := cl_ HB hxz8
        replace hxz9 := cl_ HB hxz9
        have HRz5 := Aside0.mk hiz3
        have HCz5 := Aside0.mk hlz3
        clear hiz3 hlz3
        replace pz3 := eq_true pz3
        replace qz3 := eq_true qz3
        have ea_ := Option.some.inj (hxz2.symm.trans hxz8)
        injection ea_ with ea_ en_ ec_
        subst ea_
        subst ec_
        clear en_
        have pz4 : 0 ≤ (xz1 : Int) := dt_
        have qz4 : xz1 < (l1.length : Int) := dt_
        obtain ⟨adz4, Az6, cz21, ez4, hxz10, hxz11, hxz12, hlz4, hiz4⟩ := at_T41 HRz2.out xz1 pz4 qz4
        have hwz10 := hxz12
        have hwz11 := hxz11
        have hwz12 := hxz10
        obtain rfl : adz2 = adz4 := (by injection ez4)
        replace hxz10 := cl_ HB hxz10
        replace hxz11 := cl_ HB hxz11
        replace hxz12 := cl_ HB hxz12
        have HRz6 := Aside0.mk hiz4
        have HCz6 := Aside0.mk hlz4
        clear hiz4 hlz4
        replace pz4 := eq_true pz4
        replace qz4 := eq_true qz4
        have ea_ := Option.some.inj (hxz5.symm.trans hxz11)
        injection ea_ with ea_ en_ ec_
        subst ea_
        subst ec_
        clear en_
        have pz5 : 0 ≤ (xz1 : Int) := dt_
        have qz5 : xz1 < (l0.length : Int) := dt_
        obtain ⟨adz5, Az7, cz22, ez5, hxz13, hxz14, hxz15, hlz5, hiz5⟩ := at_T41 HRz1.out xz1 pz5 qz5
        have hwz13 := hxz15
        have hwz14 := hxz14
        have hwz15 := hxz13
        obtain rfl : adz1 = adz5 := (by injection ez5)
        replace hxz13 := cl_ HB hxz13
        replace hxz14 := cl_ HB hxz14
        replace hxz15 := cl_ HB hxz15
        have HRz7 := Aside0.mk hiz5
        have HCz7 := Aside0.mk hlz5
        clear hiz5 hlz5
        replace pz5 := eq_true pz5
        replace qz5 := eq_true qz5
        have ea_ := Option.some.inj (hxz2.symm.trans hxz14)
        injection ea_ with ea_ en_ ec_
        subst ea_
        subst ec_
        clear en_
        have pz6 : 0 ≤ (xz1 : Int) := dt_
        have qz6 : xz1 < (l1.length : Int) := dt_
        obtain ⟨adz6, Az8, cz23, ez6, hxz16, hxz17, hxz18, hlz6, hiz6⟩ := at_T41 HRz2.out xz1 pz6 qz6
        have hwz16 := hxz18
        have hwz17 := hxz17
        have hwz18 := hxz16
        obtain rfl : adz2 = adz6 := (by injection ez6)
        replace hxz16 := cl_ HB hxz16
        replace hxz17 := cl_ HB hxz17
        replace hxz18 := cl_ HB hxz18
        have HRz8 := Aside0.mk hiz6
        have HCz8 := Aside0.mk hlz6
        clear hiz6 hlz6
        replace pz6 := eq_true pz6
        replace qz6 := eq_true qz6
        have ea_ := Option.some.inj (hxz5.symm.trans hxz17)
        injection ea_ with ea_ en_ ec_
        subst ea_
        subst ec_
        clear en_
        refine start_ (n := 38) (S := fun w' => w'.cell? (adz1.add ((xz1).toNat * 3)) = some (.string ((rd_T41 l0 xz1).f0)) ∧ w'.cell? ⟨(adz1.add ((xz1).toNat * 3)).block, (adz1.add ((xz1).toNat * 3)).off + 1, none⟩ = some (.slice Az3 ((rd_T41 l0 xz1).f1).length cz18) ∧ w'.cell? ⟨(adz1.add ((xz1).toNat * 3)).block, (adz1.add ((xz1).toNat * 3)).off + 2, none⟩ = some (.int .i64 ((rd_T41 l0 xz1).f2)) ∧ w'.cell? (adz2.add ((xz1).toNat * 3)) = some (.string ((rd_T41 l1 xz1).f0)) ∧ w'.cell? ⟨(adz2.add ((xz1).toNat * 3)).block, (adz2.add ((xz1).toNat * 3)).off + 1, none⟩ = some (.slice Az4 ((rd_T41 l1 xz1).f1).length cz19) ∧ w'.cell? ⟨(adz2.add ((xz1).toNat * 3)).block, (adz2.add ((xz1).toNat * 3)).off + 2, none⟩ = some (.int .i64 ((rd_T41 l1 xz1).f2)) ∧ w'.cell? (adz1.add ((xz1).toNat * 3)) = some (.string ((rd_T41 l0 xz1).f0)) ∧ w'.cell? ⟨(adz1.add ((xz1).toNat * 3)).block, (adz1.add ((xz1).toNat * 3)).off + 1, none⟩ = some (.slice Az3 ((rd_T41 l0 xz1).f1).length cz18) ∧ w'.cell? ⟨(adz1.add ((xz1).toNat * 3)).block, (adz1.add ((xz1).toNat * 3)).off + 2, none⟩ = some (.int .i64 ((rd_T41 l0 xz1).f2)) ∧ w'.cell? (adz2.add ((xz1).toNat * 3)) = some (.string ((rd_T41 l1 xz1).f0)) ∧ w'.cell? ⟨(adz2.add ((xz1).toNat * 3)).block, (adz2.add ((xz1).toNat * 3)).off + 1, none⟩ = some (.slice Az4 ((rd_T41 l1 xz1).f1).length cz19) ∧ w'.cell? ⟨(adz2.add ((xz1).toNat * 3)).block, (adz2.add ((xz1).toNat * 3)).off + 2, none⟩ = some (.int .i64 ((rd_T41 l1 xz1).f2)) ∧ w'.cell? (adz1.add ((xz1).toNat * 3)) = some (.string ((rd_T41 l0 xz1).f0)) ∧ w'.cell? ⟨(adz1.add ((xz1).toNat * 3)).block, (adz1.add ((xz1).toNat * 3)).off + 1, none⟩ = some (.slice Az3 ((rd_T41 l0 xz1).f1).length cz18) ∧ w'.cell? ⟨(adz1.add ((xz1).toNat * 3)).block, (adz1.add ((xz1).toNat * 3)).off + 2, none⟩ = some (.int .i64 ((rd_T41 l0 xz1).f2)) ∧ w'.cell? (adz2.add ((xz1).toNat * 3)) = some (.string ((rd_T41 l1 xz1).f0)) ∧ w'.cell? ⟨(adz2.add ((xz1).toNat * 3)).block, (adz2.add ((xz1).toNat * 3)).off + 1, none⟩ = some (.slice Az4 ((rd_T41 l1 xz1).f1).length cz19) ∧ w'.cell? ⟨(adz2.add ((xz1).toNat * 3)).block, (adz2.add ((xz1).toNat * 3)).off + 2, none⟩ = some (.int .i64 ((rd_T41 l1 xz1).f2))) (ds := []) laws_sameKept_bools0_ (by kernel_rfl) rfl (by kernel_rfl) ⟨(cl_ HB hwz3), (cl_ HB hwz2), (cl_ HB hwz1), (cl_ HB hwz6), (cl_ HB hwz5), (cl_ HB hwz4), (cl_ HB hwz9), (cl_ HB hwz8), (cl_ HB hwz7), (cl_ HB hwz12), (cl_ HB hwz11), (cl_ HB hwz10), (cl_ HB hwz15), (cl_ HB hwz14), (cl_ HB hwz13), (cl_ HB hwz18), (cl_ HB hwz17), (cl_ HB hwz16)⟩ (fun hHeld => ?_); refine with_tabW laws_sameKept.tab6 laws_sameKept.bits6 (fun HT_ HW_ => ?_)
        generalize wr.drew = wz1 at HB HRz3 HRz4 HRz5 HRz6 HRz7 HRz8 hxz1 hxz2 hxz3 hxz4 hxz5 hxz6 hxz7 hxz8 hxz9 hxz10 hxz11 hxz12 hxz13 hxz14 hxz15 hxz16 hxz17 hxz18 hHeld ⊢
        refine pu_ HT_ 0 17 laws_sameKept_bools1_ ?_
        refine pu_ HT_ 1 18 laws_sameKept_bools2_ ?_
        refine pu_ HT_ 2 19 laws_sameKept_bools3_ ?_
        refine pu_ HT_ 3 20 laws_sameKept_bools4_ ?_
        refine pu_ HT_ 5 22 laws_sameKept_bools5_ ?_
        refine pu_ HT_ 6 23 laws_sameKept_bools6_ ?_
        refine pu_ HT_ 7 24 laws_sameKept_bools7_ ?_
        refine pu_ HT_ 8 25 laws_sameKept_bools8_ ?_
        refine ta_ HT_ HW_ hHeld 4 21 laws_sameKept_bools9_ ?_
        refine ta_ HT_ HW_ hHeld 9 26 laws_sameKept_bools10_ ?_
        refine pu_ HT_ 10 27 laws_sameKept_bools11_ ?_
        refine pu_ HT_ 11 28 laws_sameKept_bools12_ ?_
        refine pu_ HT_ 12 29 laws_sameKept_bools13_ ?_
        refine pu_ HT_ 13 30 laws_sameKept_bools14_ ?_
        refine pu_ HT_ 14 31 laws_sameKept_bools15_ ?_
        refine pu_ HT_ 15 32 laws_sameKept_bools16_ ?_
        refine pu_ HT_ 17 34 laws_sameKept_bools39_ ?_
        refine pu_ HT_ 18 35 laws_sameKept_bools40_ ?_
        refine pu_ HT_ 19 36 laws_sameKept_bools41_ ?_
        refine pu_ HT_ 20 37 laws_sameKept_bools42_ ?_
        refine ta_ HT_ HW_ hHeld 16 33 laws_sameKept_bools21_ ?_
        refine ta_ HT_ HW_ hHeld 21 38 laws_sameKept_bools22_ ?_
        refine on_ HT_ 22 39 laws_sameKept_bools23_ (fun K hK => ?_)
        refine goes_ Tryd.func21 (by kernel_rfl) rfl #[.slice Az3 ((rd_T41 l0 xz1).f1).length cz18, .slice Az4 ((rd_T41 l1 xz1).f1).length cz19] (by rfl) rfl rfl ar_ ?_
        with_reducible refine (laws_same.calls _ _ ((rd_T41 l0 xz1).f1) _ _ ((rd_T41 l1 xz1).f1) true _ ?side1 ?side2 ?side3 ?side4 Az2.out).mono ?_
        (case side1 => exact Kd.C_below HRz5.out be_)
        (case side2 => exact HCz5.out)
        (case side3 => exact Kd.C_below HRz6.out be_)
        (case side4 => exact HCz6.out)
        rintro e w' ⟨rfl, ⟨nd, rfl⟩⟩
        refine ⟨_, rfl, ?_⟩
        refine hK.out _ _ ⟨(cl_ HB hwz3), (cl_ HB hwz2), (cl_ HB hwz1), (cl_ HB hwz6), (cl_ HB hwz5), (cl_ HB hwz4), (cl_ HB hwz9), (cl_ HB hwz8), (cl_ HB hwz7), (cl_ HB hwz12), (cl_ HB hwz11), (cl_ HB hwz10), (cl_ HB hwz15), (cl_ HB hwz14), (cl_ HB hwz13), (cl_ HB hwz18), (cl_ HB hwz17), (cl_ HB hwz16)⟩ (fun hHeld => ?_)
        clear hK K
        refine nm_ 39 ?_
        refine pu_ HT_ 23 40 laws_sameKept_bools24_ ?_
        refine pu_ HT_ 24 41 laws_sameKept_bools25_ ?_
        refine pu_ HT_ 25 42 laws_sameKept_bools26_ ?_
        refine pu_ HT_ 26 43 laws_sameKept_bools27_ ?_
        refine pu_ HT_ 27 44 laws_sameKept_bools28_ ?_
        refine pu_ HT_ 28 45 laws_sameKept_bools29_ ?_
        refine pu_ HT_ 29 46 laws_sameKept_bools30_ ?_
        refine pu_ HT_ 31 48 laws_sameKept_bools43_ ?_
        refine pu_ HT_ 32 49 laws_sameKept_bools44_ ?_
        refine pu_ HT_ 33 50 laws_sameKept_bools45_ ?_
        refine pu_ HT_ 34 51 laws_sameKept_bools46_ ?_
        refine ta_ HT_ HW_ hHeld 30 47 laws_sameKept_bools35_ ?_
        refine ta_ HT_ HW_ hHeld 35 52 laws_sameKept_bools36_ ?_
        refine pu_ HT_ 36 53 laws_sameKept_bools37_ ?_
        refine pu_ HT_ 37 54 laws_sameKept_bools38_ ?_
        refine done_ (done_of HT_.out (by kernel_rfl)) ?_
        try go_wp2
        go_ret
        exact ⟨er_, be_⟩
      rw [if_pos cz15] at H
      have cz16 : (((rd_T41 l0 xz1).f2) == ((rd_T41 l1 xz1).f2)) = true := beq_iff_eq.mpr cz15
      have cz17 : (((rd_T41 l0 xz1).f2) != ((rd_T41 l1 xz1).f2)) = false := bne_eq_false_iff_eq.mpr cz15
      clear cz15
      have H' := Aside0.mk H
      clear H
      try go_wp2
      replace HB := Aside0.mk (below_drew1 HB.out)
      have pz1 : 0 ≤ (xz1 : Int) := dt_
      have qz1 : xz1 < (l0.length : Int) := dt_
      obtain ⟨adz1, Az3, cz18, ez1, hxz1, hxz2, hxz3, hlz1, hiz1⟩ := at_T41 HRz1.out xz1 pz1 qz1
      have hwz1 := hxz3
      have hwz2 := hxz2
      have hwz3 := hxz1
      cases ez1
      replace hxz1 := cl_ HB hxz1
      replace hxz2 := cl_ HB hxz2
      replace hxz3 := cl_ HB hxz3
      have HRz3 := Aside0.mk hiz1
      have HCz3 := Aside0.mk hlz1
      clear hiz1 hlz1
      replace pz1 := eq_true pz1
      replace qz1 := eq_true qz1
      have pz2 : 0 ≤ (xz1 : Int) := dt_
      have qz2 : xz1 < (l1.length : Int) := dt_
      obtain ⟨adz2, Az4, cz19, ez2, hxz4, hxz5, hxz6, hlz2, hiz2⟩ := at_T41 HRz2.out xz1 pz2 qz2
      have hwz4 := hxz6
      have hwz5 := hxz5
      have hwz6 := hxz4
      cases ez2
      replace hxz4 := cl_ HB hxz4
      replace hxz5 := cl_ HB hxz5
      replace hxz6 := cl_ HB hxz6
      have HRz4 := Aside0.mk hiz2
      have HCz4 := Aside0.mk hlz2
      clear hiz2 hlz2
      replace pz2 := eq_true pz2
      replace qz2 := eq_true qz2
      have pz3 : 0 ≤ (xz1 : Int) := dt_
      have qz3 : xz1 < (l0.length : Int) := dt_
      obtain ⟨adz3, Az5, cz20, ez3, hxz7, hxz8, hxz9, hlz3, hiz3⟩ := at_T41 HRz1.out xz1 pz3 qz3
      have hwz7 := hxz9
      have hwz8 := hxz8
      have hwz9 := hxz7
      obtain rfl : adz1 = adz3 := (by injection ez3)
      replace hxz7 := cl_ HB hxz7
      replace hxz8 := cl_ HB hxz8
      replace hxz9 := cl_ HB hxz9
      have HRz5 := Aside0.mk hiz3
      have HCz5 := Aside0.mk hlz3
      clear hiz3 hlz3
      replace pz3 := eq_true pz3
      replace qz3 := eq_true qz3
      have ea_ := Option.some.inj (hxz2.symm.trans hxz8)
      injection ea_ with ea_ en_ ec_
      subst ea_
      subst ec_
      clear en_
      have pz4 : 0 ≤ (xz1 : Int) := dt_
      have qz4 : xz1 < (l1.length : Int) := dt_
      obtain ⟨adz4, Az6, cz21, ez4, hxz10, hxz11, hxz12, hlz4, hiz4⟩ := at_T41 HRz2.out xz1 pz4 qz4
      have hwz10 := hxz12
      have hwz11 := hxz11
      have hwz12 := hxz10
      obtain rfl : adz2 = adz4 := (by injection ez4)
      replace hxz10 := cl_ HB hxz10
      replace hxz11 := cl_ HB hxz11
      replace hxz12 := cl_ HB hxz12
      have HRz6 := Aside0.mk hiz4
      have HCz6 := Aside0.mk hlz4
      clear hiz4 hlz4
      replace pz4 := eq_true pz4
      replace qz4 := eq_true qz4
      have ea_ := Option.some.inj (hxz5.symm.trans hxz11)
      injection ea_ with ea_ en_ ec_
      subst ea_
      subst ec_
      clear en_
      have pz5 : 0 ≤ (xz1 : Int) := dt_
      have qz5 : xz1 < (l0.length : Int) := dt_
      obtain ⟨adz5, Az7, cz22, ez5, hxz13, hxz14, hxz15, hlz5, hiz5⟩ := at_T41 HRz1.out xz1 pz5 qz5
      have hwz13 := hxz15
      have hwz14 := hxz14
      have hwz15 := hxz13
      obtain rfl : adz1 = adz5 := (by injection ez5)
      replace hxz13 := cl_ HB hxz13
      replace hxz14 := cl_ HB hxz14
      replace hxz15 := cl_ HB hxz15
      have HRz7 := Aside0.mk hiz5
      have HCz7 := Aside0.mk hlz5
      clear hiz5 hlz5
      replace pz5 := eq_true pz5
      replace qz5 := eq_true qz5
      have ea_ := Option.some.inj (hxz2.symm.trans hxz14)
      injection ea_ with ea_ en_ ec_
      subst ea_
      subst ec_
      clear en_
      have pz6 : 0 ≤ (xz1 : Int) := dt_
      have qz6 : xz1 < (l1.length : Int) := dt_
      obtain ⟨adz6, Az8, cz23, ez6, hxz16, hxz17, hxz18, hlz6, hiz6⟩ := at_T41 HRz2.out xz1 pz6 qz6
      have hwz16 := hxz18
      have hwz17 := hxz17
      have hwz18 := hxz16
      obtain rfl : adz2 = adz6 := (by injection ez6)
      replace hxz16 := cl_ HB hxz16
      replace hxz17 := cl_ HB hxz17
      replace hxz18 := cl_ HB hxz18
      have HRz8 := Aside0.mk hiz6
      have HCz8 := Aside0.mk hlz6
      clear hiz6 hlz6
      replace pz6 := eq_true pz6
      replace qz6 := eq_true qz6
      have ea_ := Option.some.inj (hxz5.symm.trans hxz17)
      injection ea_ with ea_ en_ ec_
      subst ea_
      subst ec_
      clear en_
      refine start_ (n := 38) (S := fun w' => w'.cell? (adz1.add ((xz1).toNat * 3)) = some (.string ((rd_T41 l0 xz1).f0)) ∧ w'.cell? ⟨(adz1.add ((xz1).toNat * 3)).block, (adz1.add ((xz1).toNat * 3)).off + 1, none⟩ = some (.slice Az3 ((rd_T41 l0 xz1).f1).length cz18) ∧ w'.cell? ⟨(adz1.add ((xz1).toNat * 3)).block, (adz1.add ((xz1).toNat * 3)).off + 2, none⟩ = some (.int .i64 ((rd_T41 l0 xz1).f2)) ∧ w'.cell? (adz2.add ((xz1).toNat * 3)) = some (.string ((rd_T41 l1 xz1).f0)) ∧ w'.cell? ⟨(adz2.add ((xz1).toNat * 3)).block, (adz2.add ((xz1).toNat * 3)).off + 1, none⟩ = some (.slice Az4 ((rd_T41 l1 xz1).f1).length cz19) ∧ w'.cell? ⟨(adz2.add ((xz1).toNat * 3)).block, (adz2.add ((xz1).toNat * 3)).off + 2, none⟩ = some (.int .i64 ((rd_T41 l1 xz1).f2)) ∧ w'.cell? (adz1.add ((xz1).toNat * 3)) = some (.string ((rd_T41 l0 xz1).f0)) ∧ w'.cell? ⟨(adz1.add ((xz1).toNat * 3)).block, (adz1.add ((xz1).toNat * 3)).off + 1, none⟩ = some (.slice Az3 ((rd_T41 l0 xz1).f1).length cz18) ∧ w'.cell? ⟨(adz1.add ((xz1).toNat * 3)).block, (adz1.add ((xz1).toNat * 3)).off + 2, none⟩ = some (.int .i64 ((rd_T41 l0 xz1).f2)) ∧ w'.cell? (adz2.add ((xz1).toNat * 3)) = some (.string ((rd_T41 l1 xz1).f0)) ∧ w'.cell? ⟨(adz2.add ((xz1).toNat * 3)).block, (adz2.add ((xz1).toNat * 3)).off + 1, none⟩ = some (.slice Az4 ((rd_T41 l1 xz1).f1).length cz19) ∧ w'.cell? ⟨(adz2.add ((xz1).toNat * 3)).block, (adz2.add ((xz1).toNat * 3)).off + 2, none⟩ = some (.int .i64 ((rd_T41 l1 xz1).f2)) ∧ w'.cell? (adz1.add ((xz1).toNat * 3)) = some (.string ((rd_T41 l0 xz1).f0)) ∧ w'.cell? ⟨(adz1.add ((xz1).toNat * 3)).block, (adz1.add ((xz1).toNat * 3)).off + 1, none⟩ = some (.slice Az3 ((rd_T41 l0 xz1).f1).length cz18) ∧ w'.cell? ⟨(adz1.add ((xz1).toNat * 3)).block, (adz1.add ((xz1).toNat * 3)).off + 2, none⟩ = some (.int .i64 ((rd_T41 l0 xz1).f2)) ∧ w'.cell? (adz2.add ((xz1).toNat * 3)) = some (.string ((rd_T41 l1 xz1).f0)) ∧ w'.cell? ⟨(adz2.add ((xz1).toNat * 3)).block, (adz2.add ((xz1).toNat * 3)).off + 1, none⟩ = some (.slice Az4 ((rd_T41 l1 xz1).f1).length cz19) ∧ w'.cell? ⟨(adz2.add ((xz1).toNat * 3)).block, (adz2.add ((xz1).toNat * 3)).off + 2, none⟩ = some (.int .i64 ((rd_T41 l1 xz1).f2))) (ds := []) laws_sameKept_bools0_ (by kernel_rfl) rfl (by kernel_rfl) ⟨(cl_ HB hwz3), (cl_ HB hwz2), (cl_ HB hwz1), (cl_ HB hwz6), (cl_ HB hwz5), (cl_ HB hwz4), (cl_ HB hwz9), (cl_ HB hwz8), (cl_ HB hwz7), (cl_ HB hwz12), (cl_ HB hwz11), (cl_ HB hwz10), (cl_ HB hwz15), (cl_ HB hwz14), (cl_ HB hwz13), (cl_ HB hwz18), (cl_ HB hwz17), (cl_ HB hwz16)⟩ (fun hHeld => ?_); refine with_tabW laws_sameKept.tab6 laws_sameKept.bits6 (fun HT_ HW_ => ?_)
      generalize wr.drew = wz1 at HB HRz3 HRz4 HRz5 HRz6 HRz7 HRz8 hxz1 hxz2 hxz3 hxz4 hxz5 hxz6 hxz7 hxz8 hxz9 hxz10 hxz11 hxz12 hxz13 hxz14 hxz15 hxz16 hxz17 hxz18 hHeld ⊢
      refine pu_ HT_ 0 17 laws_sameKept_bools1_ ?_
      refine pu_ HT_ 1 18 laws_sameKept_bools2_ ?_
      refine pu_ HT_ 2 19 laws_sameKept_bools3_ ?_
      refine pu_ HT_ 3 20 laws_sameKept_bools4_ ?_
      refine pu_ HT_ 5 22 laws_sameKept_bools5_ ?_
      refine pu_ HT_ 6 23 laws_sameKept_bools6_ ?_
      refine pu_ HT_ 7 24 laws_sameKept_bools7_ ?_
      refine pu_ HT_ 8 25 laws_sameKept_bools8_ ?_
      refine ta_ HT_ HW_ hHeld 4 21 laws_sameKept_bools9_ ?_
      refine ta_ HT_ HW_ hHeld 9 26 laws_sameKept_bools10_ ?_
      refine pu_ HT_ 10 27 laws_sameKept_bools11_ ?_
      refine pu_ HT_ 11 28 laws_sameKept_bools12_ ?_
      refine pu_ HT_ 12 29 laws_sameKept_bools13_ ?_
      refine pu_ HT_ 13 30 laws_sameKept_bools14_ ?_
      refine pu_ HT_ 14 31 laws_sameKept_bools15_ ?_
      refine pu_ HT_ 15 32 laws_sameKept_bools16_ ?_
      refine pu_ HT_ 17 34 laws_sameKept_bools39_ ?_
      refine pu_ HT_ 18 35 laws_sameKept_bools40_ ?_
      refine pu_ HT_ 19 36 laws_sameKept_bools41_ ?_
      refine pu_ HT_ 20 37 laws_sameKept_bools42_ ?_
      refine ta_ HT_ HW_ hHeld 16 33 laws_sameKept_bools21_ ?_
      refine ta_ HT_ HW_ hHeld 21 38 laws_sameKept_bools22_ ?_
      refine on_ HT_ 22 39 laws_sameKept_bools23_ (fun K hK => ?_)
      refine goes_ Tryd.func21 (by kernel_rfl) rfl #[.slice Az3 ((rd_T41 l0 xz1).f1).length cz18, .slice Az4 ((rd_T41 l1 xz1).f1).length cz19] (by rfl) rfl rfl ar_ ?_
      with_reducible refine (laws_same.calls _ _ ((rd_T41 l0 xz1).f1) _ _ ((rd_T41 l1 xz1).f1) true _ ?side1 ?side2 ?side3 ?side4 Az2.out).mono ?_
      (case side1 => exact Kd.C_below HRz5.out be_)
      (case side2 => exact HCz5.out)
      (case side3 => exact Kd.C_below HRz6.out be_)
      (case side4 => exact HCz6.out)
      rintro e w' ⟨rfl, ⟨nd, rfl⟩⟩
      refine ⟨_, rfl, ?_⟩
      refine hK.out _ _ ⟨(cl_ HB hwz3), (cl_ HB hwz2), (cl_ HB hwz1), (cl_ HB hwz6), (cl_ HB hwz5), (cl_ HB hwz4), (cl_ HB hwz9), (cl_ HB hwz8), (cl_ HB hwz7), (cl_ HB hwz12), (cl_ HB hwz11), (cl_ HB hwz10), (cl_ HB hwz15), (cl_ HB hwz14), (cl_ HB hwz13), (cl_ HB hwz18), (cl_ HB hwz17), (cl_ HB hwz16)⟩ (fun hHeld => ?_)
      clear hK K
      refine nm_ 39 ?_
      refine pu_ HT_ 23 40 laws_sameKept_bools24_ ?_
      refine pu_ HT_ 24 41 laws_sameKept_bools25_ ?_
      refine pu_ HT_ 25 42 laws_sameKept_bools26_ ?_
      refine pu_ HT_ 26 43 laws_sameKept_bools27_ ?_
      refine pu_ HT_ 27 44 laws_sameKept_bools28_ ?_
      refine pu_ HT_ 28 45 laws_sameKept_bools29_ ?_
      refine pu_ HT_ 29 46 laws_sameKept_bools30_ ?_
      refine pu_ HT_ 31 48 laws_sameKept_bools43_ ?_
      refine pu_ HT_ 32 49 laws_sameKept_bools44_ ?_
      refine pu_ HT_ 33 50 laws_sameKept_bools45_ ?_
      refine pu_ HT_ 34 51 laws_sameKept_bools46_ ?_
      refine ta_ HT_ HW_ hHeld 30 47 laws_sameKept_bools35_ ?_
      refine ta_ HT_ HW_ hHeld 35 52 laws_sameKept_bools36_ ?_
      refine pu_ HT_ 36 53 laws_sameKept_bools37_ ?_
      refine pu_ HT_ 37 54 laws_sameKept_bools38_ ?_
      refine done_ (done_of HT_.out (by kernel_rfl)) ?_
      try go_wp2
      go_roundg kz1
      case measure => have := HKz1.out; omega
      case rel => exact ⟨(wrap64 (xz1 + 1)), rs_, H', ⟨by have := HKz1.out; omega⟩, ⟨be_⟩⟩

end Go.Proofs.YtpigbffaacilfaaDoor.P
