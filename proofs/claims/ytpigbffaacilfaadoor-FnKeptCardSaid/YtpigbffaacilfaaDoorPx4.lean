-- Printed by a program over the kit's print.py (mp.sh), several laws in one namespace.
import Derived.Test.YtpigbffaacilfaaDoorPx0
import Derived.Test.YtpigbffaacilfaaDoorS
import Derived.Test.YtpigbffaacilfaaDoorPx1
import Derived.Test.YtpigbffaacilfaaDoorPx3
namespace Go.Proofs.YtpigbffaacilfaaDoor.P
open Go.RowKit Go.Proofs.YtpigbffaacilfaaDoor.X Go.Proofs.YtpigbffaacilfaaDoorW.PrintWords Go.Proofs.YtpigbffaacilfaaDoorW.PrintLast Go.Proofs.YtpigbffaacilfaaDoorW.PrintMore
attribute [local go_sem] max2_int min2_int max_two min_two max_three min_three max_four min_four   -- for this text's walks alone
set_option linter.unusedVariables false
set_option linter.unusedSimpArgs false

def spec_KeptOk_bools0_ : Array Bool := bs_ 44 0
def spec_KeptOk_bools1_ : Array Bool := bs_ 44 1
def spec_KeptOk_bools2_ : Array Bool := bs_ 44 3
def spec_KeptOk_bools3_ : Array Bool := bs_ 44 7
def spec_KeptOk_bools4_ : Array Bool := bs_ 44 15
def spec_KeptOk_bools5_ : Array Bool := bs_ 44 31
def spec_KeptOk_bools6_ : Array Bool := bs_ 44 63
def spec_KeptOk_bools7_ : Array Bool := bs_ 44 127
def spec_KeptOk_bools8_ : Array Bool := bs_ 44 255
def spec_KeptOk_bools9_ : Array Bool := bs_ 44 511
def spec_KeptOk_bools10_ : Array Bool := bs_ 44 1023
def spec_KeptOk_bools11_ : Array Bool := bs_ 44 2047
def spec_KeptOk_bools12_ : Array Bool := bs_ 44 4095
def spec_KeptOk_bools13_ : Array Bool := bs_ 44 8191
def spec_KeptOk_bools14_ : Array Bool := bs_ 44 16383
def spec_KeptOk_bools15_ : Array Bool := bs_ 44 32767
def spec_KeptOk_bools16_ : Array Bool := bs_ 44 65535
def spec_KeptOk_bools17_ : Array Bool := bs_ 44 131071
def spec_KeptOk_bools18_ : Array Bool := bs_ 44 262143
def spec_KeptOk_bools19_ : Array Bool := bs_ 44 524287
def spec_KeptOk_bools20_ : Array Bool := bs_ 44 1048575
def spec_KeptOk_bools21_ : Array Bool := bs_ 44 2097151
def spec_KeptOk_bools22_ : Array Bool := bs_ 44 4194303
def spec_KeptOk_bools23_ : Array Bool := bs_ 44 8388607
def spec_KeptOk_bools24_ : Array Bool := bs_ 44 16777215
def spec_KeptOk_bools25_ : Array Bool := bs_ 44 33554431
def spec_KeptOk_bools26_ : Array Bool := bs_ 44 67108863
def spec_KeptOk_bools27_ : Array Bool := bs_ 44 134217727
def spec_KeptOk_bools28_ : Array Bool := bs_ 44 268435455
def spec_KeptOk_bools29_ : Array Bool := bs_ 44 536870911
def spec_KeptOk_bools30_ : Array Bool := bs_ 44 1073741823
def spec_KeptOk_bools31_ : Array Bool := bs_ 44 2147483647
def spec_KeptOk_bools32_ : Array Bool := bs_ 44 4294967295
def spec_KeptOk_bools33_ : Array Bool := bs_ 44 8589934591
def spec_KeptOk_bools34_ : Array Bool := bs_ 44 17179869183
def spec_KeptOk_bools35_ : Array Bool := bs_ 44 34359738367
def spec_KeptOk_bools36_ : Array Bool := bs_ 44 68719476735
def spec_KeptOk_bools37_ : Array Bool := bs_ 44 137438953471
def spec_KeptOk_bools38_ : Array Bool := bs_ 44 274877906943
def spec_KeptOk_bools39_ : Array Bool := bs_ 44 549755813887
def spec_KeptOk_bools40_ : Array Bool := bs_ 44 1099511627775
def spec_KeptOk_bools41_ : Array Bool := bs_ 44 2199023255551
def spec_KeptOk_bools42_ : Array Bool := bs_ 44 4398046511103
def spec_KeptOk_bools43_ : Array Bool := bs_ 44 8796093022207
def spec_KeptOk_bools44_ : Array Bool := bs_ 44 17592186044415
def spec_KeptOk_bools45_ : Array Bool := bs_ 44 103079215103
def spec_KeptOk_bools46_ : Array Bool := bs_ 44 240518168575
def spec_KeptOk_bools47_ : Array Bool := bs_ 44 515396075519
def spec_KeptOk_bools48_ : Array Bool := bs_ 44 1065151889407
def spec_KeptOk.l0 : Nat → List (S41) → Int → Option (Bool)
  | 0, _, _ => none
  | k + 1, x0, x3 => if x3 < (x0.length : Int) then (if 0 ≤ x3 then ((spec_TopicOk.f k ((rd_T41 x0 x3).f0)).bind fun t125 => (if t125 = true then ((spec_l1In.f (((rd_T41 x0 x3).f1).length : Int) 1 40).bind fun t127 => (if t127 = true then ((spec_l1In.f ((rd_T41 x0 x3).f2) 0 2).bind fun t129 => (if t129 = true then (if x3 > 0 then (if 0 ≤ (wrap64 (x3 - 1)) then (if (wrap64 (x3 - 1)) < (x0.length : Int) then (if ((Op.bytesLess (((rd_T41 x0 (wrap64 (x3 - 1))).f0).toList) (((rd_T41 x0 x3).f0).toList)) = true) then (spec_KeptOk.l0 k x0 (wrap64 (x3 + 1))) else (some false)) else (none)) else (none)) else (spec_KeptOk.l0 k x0 (wrap64 (x3 + 1)))) else (some false))) else (some false))) else (some false))) else (none)) else (some (decide ((x0.length : Int) ≤ 8)))
def spec_KeptOk.f (k : Nat) (l0 : List (S41)) : Option (Bool) := spec_KeptOk.l0 k l0 0
theorem spec_KeptOk.mono_l : ∀ k, (∀ y0 y1, LeO (spec_KeptOk.l0 k y0 y1) (spec_KeptOk.l0 (k + 1) y0 y1))
  | 0 => fun _ _ r h => by simp [spec_KeptOk.l0] at h
  | k + 1 => by
    have ih0 := spec_KeptOk.mono_l k
    · intro y0 y1
      unfold spec_KeptOk.l0
      repeat' first
      | (with_reducible exact ih0 _ _)
      | (with_reducible exact spec_TopicOk.mono _ _)
      | (with_reducible exact LeO.refl _)
      | (with_reducible exact LeO.none _)
      | (with_reducible refine LeO.ite ?_ ?_)
      | (with_reducible refine LeO.bind ?_ (fun _ => ?_))
      | exact ih0 _ _
      | exact spec_TopicOk.mono _ _
      | exact LeO.none _
      | refine LeO.ite ?_ ?_
      | refine LeO.bind ?_ (fun _ => ?_)
theorem spec_KeptOk.mono : ∀ a0 k, LeO (spec_KeptOk.f k a0) (spec_KeptOk.f (k + 1) a0) := by
  intro a0 k
  have ih0 := spec_KeptOk.mono_l k
  unfold spec_KeptOk.f
  repeat' first
      | (with_reducible exact ih0 _ _)
      | (with_reducible exact spec_TopicOk.mono _ _)
      | (with_reducible exact LeO.refl _)
      | (with_reducible exact LeO.none _)
      | (with_reducible refine LeO.ite ?_ ?_)
      | (with_reducible refine LeO.bind ?_ (fun _ => ?_))
      | exact ih0 _ _
      | exact spec_TopicOk.mono _ _
      | exact LeO.none _
      | refine LeO.ite ?_ ?_
      | refine LeO.bind ?_ (fun _ => ?_)
def spec_KeptOk.T4 : Bool × List (List Nat × List Nat) := (true, [([], []), ([], []), ([0, 1], [0, 1]), ([2], [2]), ([3], [3]), ([4], [4]), ([5], [5]), ([6, 5], [6]), ([7], [7]), ([7], [7]), ([8, 9, 7], [7, 8, 9]), ([10, 7], [7, 10]), ([11, 7], [7, 11]), ([12, 7], [7, 12]), ([13, 7, 7], [7, 13]), ([14, 7], [7, 14]), ([7, 15], [7, 15]), ([16, 14], [16]), ([17], [17]), ([17], [17]), ([18, 19, 17], [17, 18, 19]), ([20, 17], [17, 20]), ([21, 17], [17, 21]), ([22, 17, 17], [17, 22]), ([23, 17], [17, 23]), ([17, 24], [17, 24]), ([25, 23], [25]), ([26], [26]), ([27, 26], [26, 27]), ([28, 26, 26], [26, 28]), ([29], [29]), ([29], [29]), ([31, 29], [29, 31]), ([30, 32, 29], [29, 30, 32]), ([33, 29], [29, 33]), ([34, 29], [29, 34]), ([29], [29]), ([29], [29]), ([36, 37, 29], [29, 36, 37]), ([38, 29], [29, 38]), ([39, 29], [29, 39]), ([35, 40, 29], [29, 35, 40]), ([29, 41, 26], [26, 29, 41]), ([26, 42], [26, 42])])
def spec_KeptOk.B4 : List Nat := [0, 0, 3, 7, 15, 31, 63, 127, 255, 255, 1023, 2047, 4095, 8191, 16383, 32767, 65535, 131071, 262143, 262143, 1048575, 2097151, 4194303, 8388607, 16777215, 33554431, 67108863, 134217727, 268435455, 536870911, 1073741823, 1073741823, 3221225471, 8589934591, 17179869183, 34359738367, 1073741823, 1073741823, 207232172031, 482110078975, 1031865892863, 2199023255551, 4398046511103, 8796093022207]
theorem spec_KeptOk.tab4 : rtab .any (opsOf Tryd.f18 4) = spec_KeptOk.T4 := by kernel_rfl
theorem spec_KeptOk.bits4 : waitsOk spec_KeptOk.T4.2 spec_KeptOk.B4 = true := by kernel_rfl
set_option maxHeartbeats 8000000 in
set_option maxRecDepth 100000 in
theorem spec_KeptOk.calls (k : Nat) (A0 : Option Addr) (c0 : Nat) (l0 : List (S41)) (r : Bool) (w : World) (hr0 : Kd.C k41 w A0 l0.length l0) (hc0 : l0.length ≤ c0) (h : spec_KeptOk.f k l0 = some r) :
    Calls Tryd.prog 18 #[.slice A0 l0.length c0] w fun e w' => e = .returned (.bool r) ∧ Below w.heap.size w w' := by
  have HRz1 := Aside0.mk hr0
  have HCz1 := Aside0.mk hc0
  clear hr0 hc0
  have HB := Aside0.mk (Below.refl w.heap.size w)
  have H : (spec_KeptOk.l0 k l0 0) = some r := h
  clear h
  have H' := Aside0.mk H
  clear H
  go_enter Tryd.func18, Tryd.ntmps18
  go_wp2
  go_loopg [3] k (fun kq v3 w' => ∃ (x3_1 : Int), v3 = .int .i64 x3_1 ∧ Aside0 (spec_KeptOk.l0 kq l0 x3_1 = some r) ∧ Aside0 (kq ≤ k) ∧ Aside0 (Below w.heap.size w w'))
  case atStart => exact ⟨(0), rs_, H', ⟨Nat.le_refl _⟩, ⟨be_⟩⟩
  case round =>
    clear H'
    try clear c1
    obtain ⟨xz1, rfl, HA, HKz1, HB⟩ := hrel
    cases gk with
    | zero => exact absurd HA.out (by simp [spec_KeptOk.l0])
    | succ kz1 =>
      have H := HA.out
      clear HA
      simp only [spec_KeptOk.l0] at H
      by_cases cz1 : xz1 < (l0.length : Int)
      rotate_left
      · rw [if_neg cz1] at H
        have cz2 : decide (xz1 < (l0.length : Int)) = false := decide_eq_false cz1
        clear cz1
        obtain rfl := Option.some.inj H
        go_wp2
        go_ret
        exact ⟨er_, be_⟩
      rw [if_pos cz1] at H
      have cz2 : decide (xz1 < (l0.length : Int)) = true := decide_eq_true cz1
      clear cz1
      by_cases cz3 : 0 ≤ xz1
      rotate_left
      · rw [if_neg cz3] at H
        exact absurd H (by simp)
      rw [if_pos cz3] at H
      have cz4 : decide (0 ≤ xz1) = true := decide_eq_true cz3
      clear cz3
      replace H := bo_ H
      obtain ⟨tz1, Az2, H⟩ := H
      (try dsimp only at H)
      by_cases cz5 : tz1 = true
      rotate_left
      · replace cz5 := Bool.eq_false_iff.mpr cz5
        subst cz5
        replace H := bf_ H
        obtain rfl := Option.some.inj H
        try go_wp2
        replace HB := Aside0.mk (below_drew1 HB.out)
        have pz1 : 0 ≤ (xz1 : Int) := dt_
        have qz1 : xz1 < (l0.length : Int) := dt_
        obtain ⟨adz1, Az3, cz6, ez1, hxz1, hxz2, hxz3, hlz1, hiz1⟩ := at_T41 HRz1.out xz1 pz1 qz1
        have hwz1 := hxz3
        have hwz2 := hxz2
        have hwz3 := hxz1
        cases ez1
        replace hxz1 := cl_ HB hxz1
        replace hxz2 := cl_ HB hxz2
        replace hxz3 := cl_ HB hxz3
        have HRz2 := Aside0.mk hiz1
        have HCz2 := Aside0.mk hlz1
        clear hiz1 hlz1
        replace pz1 := eq_true pz1
        replace qz1 := eq_true qz1
        refine start_ (n := 44) (S := fun w' => w'.cell? (adz1.add ((xz1).toNat * 3)) = some (.string ((rd_T41 l0 xz1).f0)) ∧ w'.cell? ⟨(adz1.add ((xz1).toNat * 3)).block, (adz1.add ((xz1).toNat * 3)).off + 1, none⟩ = some (.slice Az3 ((rd_T41 l0 xz1).f1).length cz6) ∧ w'.cell? ⟨(adz1.add ((xz1).toNat * 3)).block, (adz1.add ((xz1).toNat * 3)).off + 2, none⟩ = some (.int .i64 ((rd_T41 l0 xz1).f2))) (ds := []) spec_KeptOk_bools0_ (by kernel_rfl) rfl (by kernel_rfl) ⟨(cl_ HB hwz3), (cl_ HB hwz2), (cl_ HB hwz1)⟩ (fun hHeld => ?_); refine with_tabW spec_KeptOk.tab4 spec_KeptOk.bits4 (fun HT_ HW_ => ?_)
        generalize wr.drew = wz1 at HB HRz2 hxz1 hxz2 hxz3 hHeld ⊢
        refine pu_ HT_ 0 10 spec_KeptOk_bools1_ ?_
        refine pu_ HT_ 1 11 spec_KeptOk_bools2_ ?_
        refine pu_ HT_ 2 12 spec_KeptOk_bools3_ ?_
        refine pu_ HT_ 3 13 spec_KeptOk_bools4_ ?_
        refine ta_ HT_ HW_ hHeld 4 14 spec_KeptOk_bools5_ ?_
        refine on_ HT_ 5 15 spec_KeptOk_bools6_ (fun K hK => ?_)
        refine goes_ Tryd.func23 (by kernel_rfl) rfl #[.string ((rd_T41 l0 xz1).f0)] (by rfl) rfl rfl ar_ ?_
        with_reducible refine (spec_TopicOk.calls kz1 ((rd_T41 l0 xz1).f0) false _ Az2.out).mono ?_
        rintro e wz2 ⟨rfl, hb⟩
        refine ⟨_, rfl, ?_⟩
        replace HB := bw_ hb
        clear hb
        refine hK.out _ _ ⟨(cl_ HB hwz3), (cl_ HB hwz2), (cl_ HB hwz1)⟩ (fun hHeld => ?_)
        clear hK K
        refine nm_ 15 ?_
        refine pu_ HT_ 6 16 spec_KeptOk_bools7_ ?_
        refine pu_ HT_ 7 17 spec_KeptOk_bools8_ ?_
        refine un_ HT_ 8 18 spec_KeptOk_bools9_ ?_
        refine un_ HT_ 9 19 spec_KeptOk_bools10_ ?_
        refine un_ HT_ 10 20 spec_KeptOk_bools11_ ?_
        refine un_ HT_ 11 21 spec_KeptOk_bools12_ ?_
        refine un_ HT_ 12 22 spec_KeptOk_bools13_ ?_
        refine un_ HT_ 13 23 spec_KeptOk_bools14_ ?_
        refine un_ HT_ 14 24 spec_KeptOk_bools15_ ?_
        refine un_ HT_ 15 25 spec_KeptOk_bools16_ ?_
        refine pu_ HT_ 16 26 spec_KeptOk_bools17_ ?_
        refine pu_ HT_ 17 27 spec_KeptOk_bools18_ ?_
        refine un_ HT_ 18 28 spec_KeptOk_bools19_ ?_
        refine un_ HT_ 19 29 spec_KeptOk_bools20_ ?_
        refine un_ HT_ 20 30 spec_KeptOk_bools21_ ?_
        refine un_ HT_ 21 31 spec_KeptOk_bools22_ ?_
        refine un_ HT_ 22 32 spec_KeptOk_bools23_ ?_
        refine un_ HT_ 23 33 spec_KeptOk_bools24_ ?_
        refine un_ HT_ 24 34 spec_KeptOk_bools25_ ?_
        refine pu_ HT_ 25 35 spec_KeptOk_bools26_ ?_
        refine pu_ HT_ 26 36 spec_KeptOk_bools27_ ?_
        refine un_ HT_ 27 37 spec_KeptOk_bools28_ ?_
        refine un_ HT_ 28 38 spec_KeptOk_bools29_ ?_
        refine un_ HT_ 29 39 spec_KeptOk_bools30_ ?_
        refine un_ HT_ 30 40 spec_KeptOk_bools31_ ?_
        refine un_ HT_ 31 41 spec_KeptOk_bools32_ ?_
        refine un_ HT_ 32 42 spec_KeptOk_bools33_ ?_
        refine un_ HT_ 33 43 spec_KeptOk_bools34_ ?_
        refine un_ HT_ 34 44 spec_KeptOk_bools35_ ?_
        refine un_ HT_ 35 45 spec_KeptOk_bools36_ ?_
        refine un_ HT_ 36 46 spec_KeptOk_bools37_ ?_
        refine un_ HT_ 37 47 spec_KeptOk_bools38_ ?_
        refine un_ HT_ 38 48 spec_KeptOk_bools39_ ?_
        refine un_ HT_ 39 49 spec_KeptOk_bools40_ ?_
        refine un_ HT_ 40 50 spec_KeptOk_bools41_ ?_
        refine un_ HT_ 41 51 spec_KeptOk_bools42_ ?_
        refine un_ HT_ 42 52 spec_KeptOk_bools43_ ?_
        refine pu_ HT_ 43 53 spec_KeptOk_bools44_ ?_
        refine done_ (done_of HT_.out (by kernel_rfl)) ?_
        try go_wp2
        go_ret
        exact ⟨er_, be_⟩
      subst cz5
      replace H := bt_ H
      replace H := bo_ H
      obtain ⟨tz2, Az4, H⟩ := H
      (try dsimp only at H)
      by_cases cz6 : tz2 = true
      rotate_left
      · replace cz6 := Bool.eq_false_iff.mpr cz6
        subst cz6
        replace H := bf_ H
        obtain rfl := Option.some.inj H
        try go_wp2
        replace HB := Aside0.mk (below_drew1 HB.out)
        have pz1 : 0 ≤ (xz1 : Int) := dt_
        have qz1 : xz1 < (l0.length : Int) := dt_
        obtain ⟨adz1, Az5, cz7, ez1, hxz1, hxz2, hxz3, hlz1, hiz1⟩ := at_T41 HRz1.out xz1 pz1 qz1
        have hwz1 := hxz3
        have hwz2 := hxz2
        have hwz3 := hxz1
        cases ez1
        replace hxz1 := cl_ HB hxz1
        replace hxz2 := cl_ HB hxz2
        replace hxz3 := cl_ HB hxz3
        have HRz2 := Aside0.mk hiz1
        have HCz2 := Aside0.mk hlz1
        clear hiz1 hlz1
        replace pz1 := eq_true pz1
        replace qz1 := eq_true qz1
        have pz2 : 0 ≤ (xz1 : Int) := dt_
        have qz2 : xz1 < (l0.length : Int) := dt_
        obtain ⟨adz2, Az6, cz8, ez2, hxz4, hxz5, hxz6, hlz2, hiz2⟩ := at_T41 HRz1.out xz1 pz2 qz2
        have hwz4 := hxz6
        have hwz5 := hxz5
        have hwz6 := hxz4
        obtain rfl : adz1 = adz2 := (by injection ez2)
        replace hxz4 := cl_ HB hxz4
        replace hxz5 := cl_ HB hxz5
        replace hxz6 := cl_ HB hxz6
        have HRz3 := Aside0.mk hiz2
        have HCz3 := Aside0.mk hlz2
        clear hiz2 hlz2
        replace pz2 := eq_true pz2
        replace qz2 := eq_true qz2
        refine start_ (n := 44) (S := fun w' => w'.cell? (adz1.add ((xz1).toNat * 3)) = some (.string ((rd_T41 l0 xz1).f0)) ∧ w'.cell? ⟨(adz1.add ((xz1).toNat * 3)).block, (adz1.add ((xz1).toNat * 3)).off + 1, none⟩ = some (.slice Az5 ((rd_T41 l0 xz1).f1).length cz7) ∧ w'.cell? ⟨(adz1.add ((xz1).toNat * 3)).block, (adz1.add ((xz1).toNat * 3)).off + 2, none⟩ = some (.int .i64 ((rd_T41 l0 xz1).f2)) ∧ w'.cell? (adz1.add ((xz1).toNat * 3)) = some (.string ((rd_T41 l0 xz1).f0)) ∧ w'.cell? ⟨(adz1.add ((xz1).toNat * 3)).block, (adz1.add ((xz1).toNat * 3)).off + 1, none⟩ = some (.slice Az6 ((rd_T41 l0 xz1).f1).length cz8) ∧ w'.cell? ⟨(adz1.add ((xz1).toNat * 3)).block, (adz1.add ((xz1).toNat * 3)).off + 2, none⟩ = some (.int .i64 ((rd_T41 l0 xz1).f2))) (ds := []) spec_KeptOk_bools0_ (by kernel_rfl) rfl (by kernel_rfl) ⟨(cl_ HB hwz3), (cl_ HB hwz2), (cl_ HB hwz1), (cl_ HB hwz6), (cl_ HB hwz5), (cl_ HB hwz4)⟩ (fun hHeld => ?_); refine with_tabW spec_KeptOk.tab4 spec_KeptOk.bits4 (fun HT_ HW_ => ?_)
        generalize wr.drew = wz1 at HB HRz2 HRz3 hxz1 hxz2 hxz3 hxz4 hxz5 hxz6 hHeld ⊢
        refine pu_ HT_ 0 10 spec_KeptOk_bools1_ ?_
        refine pu_ HT_ 1 11 spec_KeptOk_bools2_ ?_
        refine pu_ HT_ 2 12 spec_KeptOk_bools3_ ?_
        refine pu_ HT_ 3 13 spec_KeptOk_bools4_ ?_
        refine ta_ HT_ HW_ hHeld 4 14 spec_KeptOk_bools5_ ?_
        refine on_ HT_ 5 15 spec_KeptOk_bools6_ (fun K hK => ?_)
        refine goes_ Tryd.func23 (by kernel_rfl) rfl #[.string ((rd_T41 l0 xz1).f0)] (by rfl) rfl rfl ar_ ?_
        with_reducible refine (spec_TopicOk.calls kz1 ((rd_T41 l0 xz1).f0) true _ Az2.out).mono ?_
        rintro e wz2 ⟨rfl, hb⟩
        refine ⟨_, rfl, ?_⟩
        replace HB := bw_ hb
        clear hb
        refine hK.out _ _ ⟨(cl_ HB hwz3), (cl_ HB hwz2), (cl_ HB hwz1), (cl_ HB hwz6), (cl_ HB hwz5), (cl_ HB hwz4)⟩ (fun hHeld => ?_)
        clear hK K
        refine nm_ 15 ?_
        refine pu_ HT_ 6 16 spec_KeptOk_bools7_ ?_
        refine pu_ HT_ 7 17 spec_KeptOk_bools8_ ?_
        refine pu_ HT_ 8 18 spec_KeptOk_bools9_ ?_
        refine pu_ HT_ 9 19 spec_KeptOk_bools10_ ?_
        refine pu_ HT_ 10 20 spec_KeptOk_bools11_ ?_
        refine pu_ HT_ 11 21 spec_KeptOk_bools12_ ?_
        refine ta_ HT_ HW_ hHeld 12 22 spec_KeptOk_bools13_ ?_
        refine pu_ HT_ 13 23 spec_KeptOk_bools14_ ?_
        refine on_ HT_ 14 24 spec_KeptOk_bools15_ (fun K hK => ?_)
        refine goes_ Tryd.func24 (by kernel_rfl) rfl #[.int .i64 (((rd_T41 l0 xz1).f1).length : Int), .int .i64 1, .int .i64 40] (by rfl) rfl rfl ar_ ?_
        with_reducible refine (spec_l1In.calls (((rd_T41 l0 xz1).f1).length : Int) 1 40 false _ Az4.out).mono ?_
        rintro e w' ⟨rfl, ⟨nd, rfl⟩⟩
        refine ⟨_, rfl, ?_⟩
        refine hK.out _ _ ⟨(cl_ HB hwz3), (cl_ HB hwz2), (cl_ HB hwz1), (cl_ HB hwz6), (cl_ HB hwz5), (cl_ HB hwz4)⟩ (fun hHeld => ?_)
        clear hK K
        refine nm_ 24 ?_
        refine pu_ HT_ 15 25 spec_KeptOk_bools16_ ?_
        refine pu_ HT_ 16 26 spec_KeptOk_bools17_ ?_
        refine pu_ HT_ 17 27 spec_KeptOk_bools18_ ?_
        refine un_ HT_ 18 28 spec_KeptOk_bools19_ ?_
        refine un_ HT_ 19 29 spec_KeptOk_bools20_ ?_
        refine un_ HT_ 20 30 spec_KeptOk_bools21_ ?_
        refine un_ HT_ 21 31 spec_KeptOk_bools22_ ?_
        refine un_ HT_ 22 32 spec_KeptOk_bools23_ ?_
        refine un_ HT_ 23 33 spec_KeptOk_bools24_ ?_
        refine un_ HT_ 24 34 spec_KeptOk_bools25_ ?_
        refine pu_ HT_ 25 35 spec_KeptOk_bools26_ ?_
        refine pu_ HT_ 26 36 spec_KeptOk_bools27_ ?_
        refine un_ HT_ 27 37 spec_KeptOk_bools28_ ?_
        refine un_ HT_ 28 38 spec_KeptOk_bools29_ ?_
        refine un_ HT_ 29 39 spec_KeptOk_bools30_ ?_
        refine un_ HT_ 30 40 spec_KeptOk_bools31_ ?_
        refine un_ HT_ 31 41 spec_KeptOk_bools32_ ?_
        refine un_ HT_ 32 42 spec_KeptOk_bools33_ ?_
        refine un_ HT_ 33 43 spec_KeptOk_bools34_ ?_
        refine un_ HT_ 34 44 spec_KeptOk_bools35_ ?_
        refine un_ HT_ 35 45 spec_KeptOk_bools36_ ?_
        refine un_ HT_ 36 46 spec_KeptOk_bools37_ ?_
        refine un_ HT_ 37 47 spec_KeptOk_bools38_ ?_
        refine un_ HT_ 38 48 spec_KeptOk_bools39_ ?_
        refine un_ HT_ 39 49 spec_KeptOk_bools40_ ?_
        refine un_ HT_ 40 50 spec_KeptOk_bools41_ ?_
        refine un_ HT_ 41 51 spec_KeptOk_bools42_ ?_
        refine un_ HT_ 42 52 spec_KeptOk_bools43_ ?_
        refine pu_ HT_ 43 53 spec_KeptOk_bools44_ ?_
        refine done_ (done_of HT_.out (by kernel_rfl)) ?_
        try go_wp2
        go_ret
        exact ⟨er_, be_⟩
      subst cz6
      replace H := bt_ H
      replace H := bo_ H
      obtain ⟨tz3, Az6, H⟩ := H
      (try dsimp only at H)
      by_cases cz7 : tz3 = true
      rotate_left
      · replace cz7 := Bool.eq_false_iff.mpr cz7
        subst cz7
        replace H := bf_ H
        obtain rfl := Option.some.inj H
        try go_wp2
        replace HB := Aside0.mk (below_drew1 HB.out)
        have pz1 : 0 ≤ (xz1 : Int) := dt_
        have qz1 : xz1 < (l0.length : Int) := dt_
        obtain ⟨adz1, Az7, cz8, ez1, hxz1, hxz2, hxz3, hlz1, hiz1⟩ := at_T41 HRz1.out xz1 pz1 qz1
        have hwz1 := hxz3
        have hwz2 := hxz2
        have hwz3 := hxz1
        cases ez1
        replace hxz1 := cl_ HB hxz1
        replace hxz2 := cl_ HB hxz2
        replace hxz3 := cl_ HB hxz3
        have HRz2 := Aside0.mk hiz1
        have HCz2 := Aside0.mk hlz1
        clear hiz1 hlz1
        replace pz1 := eq_true pz1
        replace qz1 := eq_true qz1
        have pz2 : 0 ≤ (xz1 : Int) := dt_
        have qz2 : xz1 < (l0.length : Int) := dt_
        obtain ⟨adz2, Az8, cz9, ez2, hxz4, hxz5, hxz6, hlz2, hiz2⟩ := at_T41 HRz1.out xz1 pz2 qz2
        have hwz4 := hxz6
        have hwz5 := hxz5
        have hwz6 := hxz4
        obtain rfl : adz1 = adz2 := (by injection ez2)
        replace hxz4 := cl_ HB hxz4
        replace hxz5 := cl_ HB hxz5
        replace hxz6 := cl_ HB hxz6
        have HRz3 := Aside0.mk hiz2
        have HCz3 := Aside0.mk hlz2
        clear hiz2 hlz2
        replace pz2 := eq_true pz2
        replace qz2 := eq_true qz2
        have pz3 : 0 ≤ (xz1 : Int) := dt_
        have qz3 : xz1 < (l0.length : Int) := dt_
        obtain ⟨adz3, Az9, cz10, ez3, hxz7, hxz8, hxz9, hlz3, hiz3⟩ := at_T41 HRz1.out xz1 pz3 qz3
        have hwz7 := hxz9
        have hwz8 := hxz8
        have hwz9 := hxz7
        obtain rfl : adz1 = adz3 := (by injection ez3)
        replace hxz7 := cl_ HB hxz7
        replace hxz8 := cl_ HB hxz8
        replace hxz9 := cl_ HB hxz9
        have HRz4 := Aside0.mk hiz3
        have HCz4 := Aside0.mk hlz3
        clear hiz3 hlz3
        replace pz3 := eq_true pz3
        replace qz3 := eq_true qz3
        have ea_ := Option.some.inj (hxz5.symm.trans hxz8)
        injection ea_ with ea_ en_ ec_
        subst ea_
        subst ec_
        clear en_
        refine start_ (n := 44) (S := fun w' => w'.cell? (adz1.add ((xz1).toNat * 3)) = some (.string ((rd_T41 l0 xz1).f0)) ∧ w'.cell? ⟨(adz1.add ((xz1).toNat * 3)).block, (adz1.add ((xz1).toNat * 3)).off + 1, none⟩ = some (.slice Az7 ((rd_T41 l0 xz1).f1).length cz8) ∧ w'.cell? ⟨(adz1.add ((xz1).toNat * 3)).block, (adz1.add ((xz1).toNat * 3)).off + 2, none⟩ = some (.int .i64 ((rd_T41 l0 xz1).f2)) ∧ w'.cell? (adz1.add ((xz1).toNat * 3)) = some (.string ((rd_T41 l0 xz1).f0)) ∧ w'.cell? ⟨(adz1.add ((xz1).toNat * 3)).block, (adz1.add ((xz1).toNat * 3)).off + 1, none⟩ = some (.slice Az8 ((rd_T41 l0 xz1).f1).length cz9) ∧ w'.cell? ⟨(adz1.add ((xz1).toNat * 3)).block, (adz1.add ((xz1).toNat * 3)).off + 2, none⟩ = some (.int .i64 ((rd_T41 l0 xz1).f2)) ∧ w'.cell? (adz1.add ((xz1).toNat * 3)) = some (.string ((rd_T41 l0 xz1).f0)) ∧ w'.cell? ⟨(adz1.add ((xz1).toNat * 3)).block, (adz1.add ((xz1).toNat * 3)).off + 1, none⟩ = some (.slice Az8 ((rd_T41 l0 xz1).f1).length cz9) ∧ w'.cell? ⟨(adz1.add ((xz1).toNat * 3)).block, (adz1.add ((xz1).toNat * 3)).off + 2, none⟩ = some (.int .i64 ((rd_T41 l0 xz1).f2))) (ds := []) spec_KeptOk_bools0_ (by kernel_rfl) rfl (by kernel_rfl) ⟨(cl_ HB hwz3), (cl_ HB hwz2), (cl_ HB hwz1), (cl_ HB hwz6), (cl_ HB hwz5), (cl_ HB hwz4), (cl_ HB hwz9), (cl_ HB hwz8), (cl_ HB hwz7)⟩ (fun hHeld => ?_); refine with_tabW spec_KeptOk.tab4 spec_KeptOk.bits4 (fun HT_ HW_ => ?_)
        generalize wr.drew = wz1 at HB HRz2 HRz3 HRz4 hxz1 hxz2 hxz3 hxz4 hxz5 hxz6 hxz7 hxz8 hxz9 hHeld ⊢
        refine pu_ HT_ 0 10 spec_KeptOk_bools1_ ?_
        refine pu_ HT_ 1 11 spec_KeptOk_bools2_ ?_
        refine pu_ HT_ 2 12 spec_KeptOk_bools3_ ?_
        refine pu_ HT_ 3 13 spec_KeptOk_bools4_ ?_
        refine ta_ HT_ HW_ hHeld 4 14 spec_KeptOk_bools5_ ?_
        refine on_ HT_ 5 15 spec_KeptOk_bools6_ (fun K hK => ?_)
        refine goes_ Tryd.func23 (by kernel_rfl) rfl #[.string ((rd_T41 l0 xz1).f0)] (by rfl) rfl rfl ar_ ?_
        with_reducible refine (spec_TopicOk.calls kz1 ((rd_T41 l0 xz1).f0) true _ Az2.out).mono ?_
        rintro e wz2 ⟨rfl, hb⟩
        refine ⟨_, rfl, ?_⟩
        replace HB := bw_ hb
        clear hb
        refine hK.out _ _ ⟨(cl_ HB hwz3), (cl_ HB hwz2), (cl_ HB hwz1), (cl_ HB hwz6), (cl_ HB hwz5), (cl_ HB hwz4), (cl_ HB hwz9), (cl_ HB hwz8), (cl_ HB hwz7)⟩ (fun hHeld => ?_)
        clear hK K
        refine nm_ 15 ?_
        refine pu_ HT_ 6 16 spec_KeptOk_bools7_ ?_
        refine pu_ HT_ 7 17 spec_KeptOk_bools8_ ?_
        refine pu_ HT_ 8 18 spec_KeptOk_bools9_ ?_
        refine pu_ HT_ 9 19 spec_KeptOk_bools10_ ?_
        refine pu_ HT_ 10 20 spec_KeptOk_bools11_ ?_
        refine pu_ HT_ 11 21 spec_KeptOk_bools12_ ?_
        refine ta_ HT_ HW_ hHeld 12 22 spec_KeptOk_bools13_ ?_
        refine pu_ HT_ 13 23 spec_KeptOk_bools14_ ?_
        refine on_ HT_ 14 24 spec_KeptOk_bools15_ (fun K hK => ?_)
        refine goes_ Tryd.func24 (by kernel_rfl) rfl #[.int .i64 (((rd_T41 l0 xz1).f1).length : Int), .int .i64 1, .int .i64 40] (by rfl) rfl rfl ar_ ?_
        with_reducible refine (spec_l1In.calls (((rd_T41 l0 xz1).f1).length : Int) 1 40 true _ Az4.out).mono ?_
        rintro e w' ⟨rfl, ⟨nd, rfl⟩⟩
        refine ⟨_, rfl, ?_⟩
        refine hK.out _ _ ⟨(cl_ HB hwz3), (cl_ HB hwz2), (cl_ HB hwz1), (cl_ HB hwz6), (cl_ HB hwz5), (cl_ HB hwz4), (cl_ HB hwz9), (cl_ HB hwz8), (cl_ HB hwz7)⟩ (fun hHeld => ?_)
        clear hK K
        refine nm_ 24 ?_
        refine pu_ HT_ 15 25 spec_KeptOk_bools16_ ?_
        refine pu_ HT_ 16 26 spec_KeptOk_bools17_ ?_
        refine pu_ HT_ 17 27 spec_KeptOk_bools18_ ?_
        refine pu_ HT_ 18 28 spec_KeptOk_bools19_ ?_
        refine pu_ HT_ 19 29 spec_KeptOk_bools20_ ?_
        refine pu_ HT_ 20 30 spec_KeptOk_bools21_ ?_
        refine pu_ HT_ 21 31 spec_KeptOk_bools22_ ?_
        refine ta_ HT_ HW_ hHeld 22 32 spec_KeptOk_bools23_ ?_
        refine on_ HT_ 23 33 spec_KeptOk_bools24_ (fun K hK => ?_)
        refine goes_ Tryd.func24 (by kernel_rfl) rfl #[.int .i64 ((rd_T41 l0 xz1).f2), .int .i64 0, .int .i64 2] (by rfl) rfl rfl ar_ ?_
        with_reducible refine (spec_l1In.calls ((rd_T41 l0 xz1).f2) 0 2 false _ Az6.out).mono ?_
        rintro e w' ⟨rfl, ⟨nd, rfl⟩⟩
        refine ⟨_, rfl, ?_⟩
        refine hK.out _ _ ⟨(cl_ HB hwz3), (cl_ HB hwz2), (cl_ HB hwz1), (cl_ HB hwz6), (cl_ HB hwz5), (cl_ HB hwz4), (cl_ HB hwz9), (cl_ HB hwz8), (cl_ HB hwz7)⟩ (fun hHeld => ?_)
        clear hK K
        refine nm_ 33 ?_
        refine pu_ HT_ 24 34 spec_KeptOk_bools25_ ?_
        refine pu_ HT_ 25 35 spec_KeptOk_bools26_ ?_
        refine pu_ HT_ 26 36 spec_KeptOk_bools27_ ?_
        refine un_ HT_ 27 37 spec_KeptOk_bools28_ ?_
        refine un_ HT_ 28 38 spec_KeptOk_bools29_ ?_
        refine un_ HT_ 29 39 spec_KeptOk_bools30_ ?_
        refine un_ HT_ 30 40 spec_KeptOk_bools31_ ?_
        refine un_ HT_ 31 41 spec_KeptOk_bools32_ ?_
        refine un_ HT_ 32 42 spec_KeptOk_bools33_ ?_
        refine un_ HT_ 33 43 spec_KeptOk_bools34_ ?_
        refine un_ HT_ 34 44 spec_KeptOk_bools35_ ?_
        refine un_ HT_ 35 45 spec_KeptOk_bools36_ ?_
        refine un_ HT_ 36 46 spec_KeptOk_bools37_ ?_
        refine un_ HT_ 37 47 spec_KeptOk_bools38_ ?_
        refine un_ HT_ 38 48 spec_KeptOk_bools39_ ?_
        refine un_ HT_ 39 49 spec_KeptOk_bools40_ ?_
        refine un_ HT_ 40 50 spec_KeptOk_bools41_ ?_
        refine un_ HT_ 41 51 spec_KeptOk_bools42_ ?_
        refine un_ HT_ 42 52 spec_KeptOk_bools43_ ?_
        refine pu_ HT_ 43 53 spec_KeptOk_bools44_ ?_
        refine done_ (done_of HT_.out (by kernel_rfl)) ?_
        try go_wp2
        go_ret
        exact ⟨er_, be_⟩
      subst cz7
      replace H := bt_ H
      by_cases cz8 : xz1 > 0
      rotate_left
      · rw [if_neg cz8] at H
        have cz9 : decide (0 < xz1) = false := decide_eq_false cz8
        clear cz8
        have H' := Aside0.mk H
        clear H
        try go_wp2
        replace HB := Aside0.mk (below_drew1 HB.out)
        have pz1 : 0 ≤ (xz1 : Int) := dt_
        have qz1 : xz1 < (l0.length : Int) := dt_
        obtain ⟨adz1, Az7, cz10, ez1, hxz1, hxz2, hxz3, hlz1, hiz1⟩ := at_T41 HRz1.out xz1 pz1 qz1
        have hwz1 := hxz3
        have hwz2 := hxz2
        have hwz3 := hxz1
        cases ez1
        replace hxz1 := cl_ HB hxz1
        replace hxz2 := cl_ HB hxz2
        replace hxz3 := cl_ HB hxz3
        have HRz2 := Aside0.mk hiz1
        have HCz2 := Aside0.mk hlz1
        clear hiz1 hlz1
        replace pz1 := eq_true pz1
        replace qz1 := eq_true qz1
        have pz2 : 0 ≤ (xz1 : Int) := dt_
        have qz2 : xz1 < (l0.length : Int) := dt_
        obtain ⟨adz2, Az8, cz11, ez2, hxz4, hxz5, hxz6, hlz2, hiz2⟩ := at_T41 HRz1.out xz1 pz2 qz2
        have hwz4 := hxz6
        have hwz5 := hxz5
        have hwz6 := hxz4
        obtain rfl : adz1 = adz2 := (by injection ez2)
        replace hxz4 := cl_ HB hxz4
        replace hxz5 := cl_ HB hxz5
        replace hxz6 := cl_ HB hxz6
        have HRz3 := Aside0.mk hiz2
        have HCz3 := Aside0.mk hlz2
        clear hiz2 hlz2
        replace pz2 := eq_true pz2
        replace qz2 := eq_true qz2
        have pz3 : 0 ≤ (xz1 : Int) := dt_
        have qz3 : xz1 < (l0.length : Int) := dt_
        obtain ⟨adz3, Az9, cz12, ez3, hxz7, hxz8, hxz9, hlz3, hiz3⟩ := at_T41 HRz1.out xz1 pz3 qz3
        have hwz7 := hxz9
        have hwz8 := hxz8
        have hwz9 := hxz7
        obtain rfl : adz1 = adz3 := (by injection ez3)
        replace hxz7 := cl_ HB hxz7
        replace hxz8 := cl_ HB hxz8
        replace hxz9 := cl_ HB hxz9
        have HRz4 := Aside0.mk hiz3
        have HCz4 := Aside0.mk hlz3
        clear hiz3 hlz3
        replace pz3 := eq_true pz3
        replace qz3 := eq_true qz3
        have ea_ := Option.some.inj (hxz5.symm.trans hxz8)
        injection ea_ with ea_ en_ ec_
        subst ea_
        subst ec_
        clear en_
        refine start_ (n := 44) (S := fun w' => w'.cell? (adz1.add ((xz1).toNat * 3)) = some (.string ((rd_T41 l0 xz1).f0)) ∧ w'.cell? ⟨(adz1.add ((xz1).toNat * 3)).block, (adz1.add ((xz1).toNat * 3)).off + 1, none⟩ = some (.slice Az7 ((rd_T41 l0 xz1).f1).length cz10) ∧ w'.cell? ⟨(adz1.add ((xz1).toNat * 3)).block, (adz1.add ((xz1).toNat * 3)).off + 2, none⟩ = some (.int .i64 ((rd_T41 l0 xz1).f2)) ∧ w'.cell? (adz1.add ((xz1).toNat * 3)) = some (.string ((rd_T41 l0 xz1).f0)) ∧ w'.cell? ⟨(adz1.add ((xz1).toNat * 3)).block, (adz1.add ((xz1).toNat * 3)).off + 1, none⟩ = some (.slice Az8 ((rd_T41 l0 xz1).f1).length cz11) ∧ w'.cell? ⟨(adz1.add ((xz1).toNat * 3)).block, (adz1.add ((xz1).toNat * 3)).off + 2, none⟩ = some (.int .i64 ((rd_T41 l0 xz1).f2)) ∧ w'.cell? (adz1.add ((xz1).toNat * 3)) = some (.string ((rd_T41 l0 xz1).f0)) ∧ w'.cell? ⟨(adz1.add ((xz1).toNat * 3)).block, (adz1.add ((xz1).toNat * 3)).off + 1, none⟩ = some (.slice Az8 ((rd_T41 l0 xz1).f1).length cz11) ∧ w'.cell? ⟨(adz1.add ((xz1).toNat * 3)).block, (adz1.add ((xz1).toNat * 3)).off + 2, none⟩ = some (.int .i64 ((rd_T41 l0 xz1).f2))) (ds := []) spec_KeptOk_bools0_ (by kernel_rfl) rfl (by kernel_rfl) ⟨(cl_ HB hwz3), (cl_ HB hwz2), (cl_ HB hwz1), (cl_ HB hwz6), (cl_ HB hwz5), (cl_ HB hwz4), (cl_ HB hwz9), (cl_ HB hwz8), (cl_ HB hwz7)⟩ (fun hHeld => ?_); refine with_tabW spec_KeptOk.tab4 spec_KeptOk.bits4 (fun HT_ HW_ => ?_)
        generalize wr.drew = wz1 at HB HRz2 HRz3 HRz4 hxz1 hxz2 hxz3 hxz4 hxz5 hxz6 hxz7 hxz8 hxz9 hHeld ⊢
        refine pu_ HT_ 0 10 spec_KeptOk_bools1_ ?_
        refine pu_ HT_ 1 11 spec_KeptOk_bools2_ ?_
        refine pu_ HT_ 2 12 spec_KeptOk_bools3_ ?_
        refine pu_ HT_ 3 13 spec_KeptOk_bools4_ ?_
        refine ta_ HT_ HW_ hHeld 4 14 spec_KeptOk_bools5_ ?_
        refine on_ HT_ 5 15 spec_KeptOk_bools6_ (fun K hK => ?_)
        refine goes_ Tryd.func23 (by kernel_rfl) rfl #[.string ((rd_T41 l0 xz1).f0)] (by rfl) rfl rfl ar_ ?_
        with_reducible refine (spec_TopicOk.calls kz1 ((rd_T41 l0 xz1).f0) true _ Az2.out).mono ?_
        rintro e wz2 ⟨rfl, hb⟩
        refine ⟨_, rfl, ?_⟩
        replace HB := bw_ hb
        clear hb
        refine hK.out _ _ ⟨(cl_ HB hwz3), (cl_ HB hwz2), (cl_ HB hwz1), (cl_ HB hwz6), (cl_ HB hwz5), (cl_ HB hwz4), (cl_ HB hwz9), (cl_ HB hwz8), (cl_ HB hwz7)⟩ (fun hHeld => ?_)
        clear hK K
        refine nm_ 15 ?_
        refine pu_ HT_ 6 16 spec_KeptOk_bools7_ ?_
        refine pu_ HT_ 7 17 spec_KeptOk_bools8_ ?_
        refine pu_ HT_ 8 18 spec_KeptOk_bools9_ ?_
        refine pu_ HT_ 9 19 spec_KeptOk_bools10_ ?_
        refine pu_ HT_ 10 20 spec_KeptOk_bools11_ ?_
        refine pu_ HT_ 11 21 spec_KeptOk_bools12_ ?_
        refine ta_ HT_ HW_ hHeld 12 22 spec_KeptOk_bools13_ ?_
        refine pu_ HT_ 13 23 spec_KeptOk_bools14_ ?_
        refine on_ HT_ 14 24 spec_KeptOk_bools15_ (fun K hK => ?_)
        refine goes_ Tryd.func24 (by kernel_rfl) rfl #[.int .i64 (((rd_T41 l0 xz1).f1).length : Int), .int .i64 1, .int .i64 40] (by rfl) rfl rfl ar_ ?_
        with_reducible refine (spec_l1In.calls (((rd_T41 l0 xz1).f1).length : Int) 1 40 true _ Az4.out).mono ?_
        rintro e w' ⟨rfl, ⟨nd, rfl⟩⟩
        refine ⟨_, rfl, ?_⟩
        refine hK.out _ _ ⟨(cl_ HB hwz3), (cl_ HB hwz2), (cl_ HB hwz1), (cl_ HB hwz6), (cl_ HB hwz5), (cl_ HB hwz4), (cl_ HB hwz9), (cl_ HB hwz8), (cl_ HB hwz7)⟩ (fun hHeld => ?_)
        clear hK K
        refine nm_ 24 ?_
        refine pu_ HT_ 15 25 spec_KeptOk_bools16_ ?_
        refine pu_ HT_ 16 26 spec_KeptOk_bools17_ ?_
        refine pu_ HT_ 17 27 spec_KeptOk_bools18_ ?_
        refine pu_ HT_ 18 28 spec_KeptOk_bools19_ ?_
        refine pu_ HT_ 19 29 spec_KeptOk_bools20_ ?_
        refine pu_ HT_ 20 30 spec_KeptOk_bools21_ ?_
        refine pu_ HT_ 21 31 spec_KeptOk_bools22_ ?_
        refine ta_ HT_ HW_ hHeld 22 32 spec_KeptOk_bools23_ ?_
        refine on_ HT_ 23 33 spec_KeptOk_bools24_ (fun K hK => ?_)
        refine goes_ Tryd.func24 (by kernel_rfl) rfl #[.int .i64 ((rd_T41 l0 xz1).f2), .int .i64 0, .int .i64 2] (by rfl) rfl rfl ar_ ?_
        with_reducible refine (spec_l1In.calls ((rd_T41 l0 xz1).f2) 0 2 true _ Az6.out).mono ?_
        rintro e w' ⟨rfl, ⟨nd, rfl⟩⟩
        refine ⟨_, rfl, ?_⟩
        refine hK.out _ _ ⟨(cl_ HB hwz3), (cl_ HB hwz2), (cl_ HB hwz1), (cl_ HB hwz6), (cl_ HB hwz5), (cl_ HB hwz4), (cl_ HB hwz9), (cl_ HB hwz8), (cl_ HB hwz7)⟩ (fun hHeld => ?_)
        clear hK K
        refine nm_ 33 ?_
        refine pu_ HT_ 24 34 spec_KeptOk_bools25_ ?_
        refine pu_ HT_ 25 35 spec_KeptOk_bools26_ ?_
        refine pu_ HT_ 26 36 spec_KeptOk_bools27_ ?_
        refine pu_ HT_ 27 37 spec_KeptOk_bools28_ ?_
        refine pu_ HT_ 28 38 spec_KeptOk_bools29_ ?_
        refine pu_ HT_ 29 39 spec_KeptOk_bools30_ ?_
        refine un_ HT_ 30 40 spec_KeptOk_bools31_ ?_
        refine un_ HT_ 31 41 spec_KeptOk_bools32_ ?_
        refine un_ HT_ 32 42 spec_KeptOk_bools33_ ?_
        refine un_ HT_ 33 43 spec_KeptOk_bools34_ ?_
        refine un_ HT_ 34 44 spec_KeptOk_bools35_ ?_
        refine un_ HT_ 35 45 spec_KeptOk_bools36_ ?_
        refine un_ HT_ 36 46 spec_KeptOk_bools37_ ?_
        refine un_ HT_ 37 47 spec_KeptOk_bools38_ ?_
        refine un_ HT_ 38 48 spec_KeptOk_bools39_ ?_
        refine un_ HT_ 39 49 spec_KeptOk_bools40_ ?_
        refine un_ HT_ 40 50 spec_KeptOk_bools41_ ?_
        refine un_ HT_ 41 51 spec_KeptOk_bools42_ ?_
        refine pu_ HT_ 42 52 spec_KeptOk_bools43_ ?_
        refine pu_ HT_ 43 53 spec_KeptOk_bools44_ ?_
        refine done_ (done_of HT_.out (by kernel_rfl)) ?_
        try go_wp2
        go_roundg kz1
        case measure => have := HKz1.out; omega
        case rel => exact ⟨(wrap64 (xz1 + 1)), rs_, H', ⟨by have := HKz1.out; omega⟩, ⟨be_⟩⟩
      rw [if_pos cz8] at H
      have cz9 : decide (0 < xz1) = true := decide_eq_true cz8
      clear cz8
      obtain ⟨jiz1, hjiz1⟩ : ∃ j_ : Int, (wrap64 (xz1 - 1)) = j_ := ⟨_, rfl⟩
      replace H : (if 0 ≤ (jiz1) then (if (jiz1) < (l0.length : Int) then (if ((Op.bytesLess (((rd_T41 l0 (jiz1)).f0).toList) (((rd_T41 l0 xz1).f0).toList)) = true) then (spec_KeptOk.l0 kz1 l0 (wrap64 (xz1 + 1))) else (some false)) else (none)) else (none)) = some r := by first | (rw [hjiz1] at H; exact H) | (simp only [hjiz1] at H ⊢; exact H)
      (try rw [hjiz1] at Az2)
      (try rw [hjiz1] at Az4)
      (try rw [hjiz1] at Az6)
      have hji11w : (IntKind.i64.wrap (xz1 - 1)) = jiz1 := (i64_w _).trans hjiz1
      by_cases cz10 : 0 ≤ (jiz1)
      rotate_left
      · rw [if_neg cz10] at H
        exact absurd H (by simp)
      rw [if_pos cz10] at H
      have cz11 : decide (0 ≤ (jiz1)) = true := decide_eq_true cz10
      clear cz10
      by_cases cz12 : (jiz1) < (l0.length : Int)
      rotate_left
      · rw [if_neg cz12] at H
        exact absurd H (by simp)
      rw [if_pos cz12] at H
      have cz13 : decide ((jiz1) < (l0.length : Int)) = true := decide_eq_true cz12
      clear cz12
      by_cases cz14 : ((Op.bytesLess (((rd_T41 l0 (jiz1)).f0).toList) (((rd_T41 l0 xz1).f0).toList)) = true)
      · rw [if_pos cz14] at H
        have cz15 : (Op.bytesLess (((rd_T41 l0 (jiz1)).f0).toList) (((rd_T41 l0 xz1).f0).toList)) = true := cz14
        clear cz14
        have H' := Aside0.mk H
        clear H
        try go_wp2
        replace HB := Aside0.mk (below_drew1 HB.out)
        have pz1 : 0 ≤ (xz1 : Int) := dt_
        have qz1 : xz1 < (l0.length : Int) := dt_
        obtain ⟨adz1, Az7, cz16, ez1, hxz1, hxz2, hxz3, hlz1, hiz1⟩ := at_T41 HRz1.out xz1 pz1 qz1
        have hwz1 := hxz3
        have hwz2 := hxz2
        have hwz3 := hxz1
        cases ez1
        replace hxz1 := cl_ HB hxz1
        replace hxz2 := cl_ HB hxz2
        replace hxz3 := cl_ HB hxz3
        have HRz2 := Aside0.mk hiz1
        have HCz2 := Aside0.mk hlz1
        clear hiz1 hlz1
        replace pz1 := eq_true pz1
        replace qz1 := eq_true qz1
        have pz2 : 0 ≤ (xz1 : Int) := dt_
        have qz2 : xz1 < (l0.length : Int) := dt_
        obtain ⟨adz2, Az8, cz17, ez2, hxz4, hxz5, hxz6, hlz2, hiz2⟩ := at_T41 HRz1.out xz1 pz2 qz2
        have hwz4 := hxz6
        have hwz5 := hxz5
        have hwz6 := hxz4
        obtain rfl : adz1 = adz2 := (by injection ez2)
        replace hxz4 := cl_ HB hxz4
        replace hxz5 := cl_ HB hxz5
        replace hxz6 := cl_ HB hxz6
        have HRz3 := Aside0.mk hiz2
        have HCz3 := Aside0.mk hlz2
        clear hiz2 hlz2
        replace pz2 := eq_true pz2
        replace qz2 := eq_true qz2
        have pz3 : 0 ≤ (xz1 : Int) := dt_
        have qz3 : xz1 < (l0.length : Int) := dt_
        obtain ⟨adz3, Az9, cz18, ez3, hxz7, hxz8, hxz9, hlz3, hiz3⟩ := at_T41 HRz1.out xz1 pz3 qz3
        have hwz7 := hxz9
        have hwz8 := hxz8
        have hwz9 := hxz7
        obtain rfl : adz1 = adz3 := (by injection ez3)
        replace hxz7 := cl_ HB hxz7
        replace hxz8 := cl_ HB hxz8
        replace hxz9 := cl_ HB hxz9
        have HRz4 := Aside0.mk hiz3
        have HCz4 := Aside0.mk hlz3
        clear hiz3 hlz3
        replace pz3 := eq_true pz3
        replace qz3 := eq_true qz3
        have ea_ := Option.some.inj (hxz5.symm.trans hxz8)
        injection ea_ with ea_ en_ ec_
        subst ea_
        subst ec_
        clear en_
        have pz4 : 0 ≤ ((jiz1) : Int) := dt_
        have qz4 : (jiz1) < (l0.length : Int) := dt_
        obtain ⟨adz4, Az10, cz19, ez4, hxz10, hxz11, hxz12, hlz4, hiz4⟩ := at_T41 HRz1.out (jiz1) pz4 qz4
        have hwz10 := hxz12
        have hwz11 := hxz11
        have hwz12 := hxz10
        obtain rfl : adz1 = adz4 := (by injection ez4)
        replace hxz10 := cl_ HB hxz10
        replace hxz11 := cl_ HB hxz11
        replace hxz12 := cl_ HB hxz12
        have HRz5 := Aside0.mk hiz4
        have HCz5 := Aside0.mk hlz4
        clear hiz4 hlz4
        replace pz4 := eq_true pz4
        replace qz4 := eq_true qz4
        have pz5 : 0 ≤ (xz1 : Int) := dt_
        have qz5 : xz1 < (l0.length : Int) := dt_
        obtain ⟨adz5, Az11, cz20, ez5, hxz13, hxz14, hxz15, hlz5, hiz5⟩ := at_T41 HRz1.out xz1 pz5 qz5
        have hwz13 := hxz15
        have hwz14 := hxz14
        have hwz15 := hxz13
        obtain rfl : adz1 = adz5 := (by injection ez5)
        replace hxz13 := cl_ HB hxz13
        replace hxz14 := cl_ HB hxz14
        replace hxz15 := cl_ HB hxz15
        have HRz6 := Aside0.mk hiz5
        have HCz6 := Aside0.mk hlz5
        clear hiz5 hlz5
        replace pz5 := eq_true pz5
        replace qz5 := eq_true qz5
        have ea_ := Option.some.inj (hxz5.symm.trans hxz14)
        injection ea_ with ea_ en_ ec_
        subst ea_
        subst ec_
        clear en_
        refine start_ (n := 44) (S := fun w' => w'.cell? (adz1.add ((xz1).toNat * 3)) = some (.string ((rd_T41 l0 xz1).f0)) ∧ w'.cell? ⟨(adz1.add ((xz1).toNat * 3)).block, (adz1.add ((xz1).toNat * 3)).off + 1, none⟩ = some (.slice Az7 ((rd_T41 l0 xz1).f1).length cz16) ∧ w'.cell? ⟨(adz1.add ((xz1).toNat * 3)).block, (adz1.add ((xz1).toNat * 3)).off + 2, none⟩ = some (.int .i64 ((rd_T41 l0 xz1).f2)) ∧ w'.cell? (adz1.add ((xz1).toNat * 3)) = some (.string ((rd_T41 l0 xz1).f0)) ∧ w'.cell? ⟨(adz1.add ((xz1).toNat * 3)).block, (adz1.add ((xz1).toNat * 3)).off + 1, none⟩ = some (.slice Az8 ((rd_T41 l0 xz1).f1).length cz17) ∧ w'.cell? ⟨(adz1.add ((xz1).toNat * 3)).block, (adz1.add ((xz1).toNat * 3)).off + 2, none⟩ = some (.int .i64 ((rd_T41 l0 xz1).f2)) ∧ w'.cell? (adz1.add ((xz1).toNat * 3)) = some (.string ((rd_T41 l0 xz1).f0)) ∧ w'.cell? ⟨(adz1.add ((xz1).toNat * 3)).block, (adz1.add ((xz1).toNat * 3)).off + 1, none⟩ = some (.slice Az8 ((rd_T41 l0 xz1).f1).length cz17) ∧ w'.cell? ⟨(adz1.add ((xz1).toNat * 3)).block, (adz1.add ((xz1).toNat * 3)).off + 2, none⟩ = some (.int .i64 ((rd_T41 l0 xz1).f2)) ∧ w'.cell? (adz1.add (((jiz1)).toNat * 3)) = some (.string ((rd_T41 l0 (jiz1)).f0)) ∧ w'.cell? ⟨(adz1.add (((jiz1)).toNat * 3)).block, (adz1.add (((jiz1)).toNat * 3)).off + 1, none⟩ = some (.slice Az10 ((rd_T41 l0 (jiz1)).f1).length cz19) ∧ w'.cell? ⟨(adz1.add (((jiz1)).toNat * 3)).block, (adz1.add (((jiz1)).toNat * 3)).off + 2, none⟩ = some (.int .i64 ((rd_T41 l0 (jiz1)).f2)) ∧ w'.cell? (adz1.add ((xz1).toNat * 3)) = some (.string ((rd_T41 l0 xz1).f0)) ∧ w'.cell? ⟨(adz1.add ((xz1).toNat * 3)).block, (adz1.add ((xz1).toNat * 3)).off + 1, none⟩ = some (.slice Az8 ((rd_T41 l0 xz1).f1).length cz17) ∧ w'.cell? ⟨(adz1.add ((xz1).toNat * 3)).block, (adz1.add ((xz1).toNat * 3)).off + 2, none⟩ = some (.int .i64 ((rd_T41 l0 xz1).f2))) (ds := []) spec_KeptOk_bools0_ (by kernel_rfl) rfl (by kernel_rfl) ⟨(cl_ HB hwz3), (cl_ HB hwz2), (cl_ HB hwz1), (cl_ HB hwz6), (cl_ HB hwz5), (cl_ HB hwz4), (cl_ HB hwz9), (cl_ HB hwz8), (cl_ HB hwz7), (cl_ HB hwz12), (cl_ HB hwz11), (cl_ HB hwz10), (cl_ HB hwz15), (cl_ HB hwz14), (cl_ HB hwz13)⟩ (fun hHeld => ?_); refine with_tabW spec_KeptOk.tab4 spec_KeptOk.bits4 (fun HT_ HW_ => ?_)
        generalize wr.drew = wz1 at HB HRz2 HRz3 HRz4 HRz5 HRz6 hxz1 hxz2 hxz3 hxz4 hxz5 hxz6 hxz7 hxz8 hxz9 hxz10 hxz11 hxz12 hxz13 hxz14 hxz15 hHeld ⊢
        refine pu_ HT_ 0 10 spec_KeptOk_bools1_ ?_
        refine pu_ HT_ 1 11 spec_KeptOk_bools2_ ?_
        refine pu_ HT_ 2 12 spec_KeptOk_bools3_ ?_
        refine pu_ HT_ 3 13 spec_KeptOk_bools4_ ?_
        refine ta_ HT_ HW_ hHeld 4 14 spec_KeptOk_bools5_ ?_
        refine on_ HT_ 5 15 spec_KeptOk_bools6_ (fun K hK => ?_)
        refine goes_ Tryd.func23 (by kernel_rfl) rfl #[.string ((rd_T41 l0 xz1).f0)] (by rfl) rfl rfl ar_ ?_
        with_reducible refine (spec_TopicOk.calls kz1 ((rd_T41 l0 xz1).f0) true _ Az2.out).mono ?_
        rintro e wz2 ⟨rfl, hb⟩
        refine ⟨_, rfl, ?_⟩
        replace HB := bw_ hb
        clear hb
        refine hK.out _ _ ⟨(cl_ HB hwz3), (cl_ HB hwz2), (cl_ HB hwz1), (cl_ HB hwz6), (cl_ HB hwz5), (cl_ HB hwz4), (cl_ HB hwz9), (cl_ HB hwz8), (cl_ HB hwz7), (cl_ HB hwz12), (cl_ HB hwz11), (cl_ HB hwz10), (cl_ HB hwz15), (cl_ HB hwz14), (cl_ HB hwz13)⟩ (fun hHeld => ?_)
        clear hK K
        refine nm_ 15 ?_
        refine pu_ HT_ 6 16 spec_KeptOk_bools7_ ?_
        refine pu_ HT_ 7 17 spec_KeptOk_bools8_ ?_
        refine pu_ HT_ 8 18 spec_KeptOk_bools9_ ?_
        refine pu_ HT_ 9 19 spec_KeptOk_bools10_ ?_
        refine pu_ HT_ 10 20 spec_KeptOk_bools11_ ?_
        refine pu_ HT_ 11 21 spec_KeptOk_bools12_ ?_
        refine ta_ HT_ HW_ hHeld 12 22 spec_KeptOk_bools13_ ?_
        refine pu_ HT_ 13 23 spec_KeptOk_bools14_ ?_
        refine on_ HT_ 14 24 spec_KeptOk_bools15_ (fun K hK => ?_)
        refine goes_ Tryd.func24 (by kernel_rfl) rfl #[.int .i64 (((rd_T41 l0 xz1).f1).length : Int), .int .i64 1, .int .i64 40] (by rfl) rfl rfl ar_ ?_
        with_reducible refine (spec_l1In.calls (((rd_T41 l0 xz1).f1).length : Int) 1 40 true _ Az4.out).mono ?_
        rintro e w' ⟨rfl, ⟨nd, rfl⟩⟩
        refine ⟨_, rfl, ?_⟩
        refine hK.out _ _ ⟨(cl_ HB hwz3), (cl_ HB hwz2), (cl_ HB hwz1), (cl_ HB hwz6), (cl_ HB hwz5), (cl_ HB hwz4), (cl_ HB hwz9), (cl_ HB hwz8), (cl_ HB hwz7), (cl_ HB hwz12), (cl_ HB hwz11), (cl_ HB hwz10), (cl_ HB hwz15), (cl_ HB hwz14), (cl_ HB hwz13)⟩ (fun hHeld => ?_)
        clear hK K
        refine nm_ 24 ?_
        refine pu_ HT_ 15 25 spec_KeptOk_bools16_ ?_
        refine pu_ HT_ 16 26 spec_KeptOk_bools17_ ?_
        refine pu_ HT_ 17 27 spec_KeptOk_bools18_ ?_
        refine pu_ HT_ 18 28 spec_KeptOk_bools19_ ?_
        refine pu_ HT_ 19 29 spec_KeptOk_bools20_ ?_
        refine pu_ HT_ 20 30 spec_KeptOk_bools21_ ?_
        refine pu_ HT_ 21 31 spec_KeptOk_bools22_ ?_
        refine ta_ HT_ HW_ hHeld 22 32 spec_KeptOk_bools23_ ?_
        refine on_ HT_ 23 33 spec_KeptOk_bools24_ (fun K hK => ?_)
        refine goes_ Tryd.func24 (by kernel_rfl) rfl #[.int .i64 ((rd_T41 l0 xz1).f2), .int .i64 0, .int .i64 2] (by rfl) rfl rfl ar_ ?_
        with_reducible refine (spec_l1In.calls ((rd_T41 l0 xz1).f2) 0 2 true _ Az6.out).mono ?_
        rintro e w' ⟨rfl, ⟨nd, rfl⟩⟩
        refine ⟨_, rfl, ?_⟩
        refine hK.out _ _ ⟨(cl_ HB hwz3), (cl_ HB hwz2), (cl_ HB hwz1), (cl_ HB hwz6), (cl_ HB hwz5), (cl_ HB hwz4), (cl_ HB hwz9), (cl_ HB hwz8), (cl_ HB hwz7), (cl_ HB hwz12), (cl_ HB hwz11), (cl_ HB hwz10), (cl_ HB hwz15), (cl_ HB hwz14), (cl_ HB hwz13)⟩ (fun hHeld => ?_)
        clear hK K
        refine nm_ 33 ?_
        refine pu_ HT_ 24 34 spec_KeptOk_bools25_ ?_
        refine pu_ HT_ 25 35 spec_KeptOk_bools26_ ?_
        refine pu_ HT_ 26 36 spec_KeptOk_bools27_ ?_
        refine pu_ HT_ 27 37 spec_KeptOk_bools28_ ?_
        refine pu_ HT_ 28 38 spec_KeptOk_bools29_ ?_
        refine pu_ HT_ 29 39 spec_KeptOk_bools30_ ?_
        refine pu_ HT_ 30 40 spec_KeptOk_bools31_ ?_
        refine pu_ HT_ 31 41 spec_KeptOk_bools32_ ?_
        refine pu_ HT_ 32 42 spec_KeptOk_bools33_ ?_
        refine pu_ HT_ 33 43 spec_KeptOk_bools34_ ?_
        refine pu_ HT_ 34 44 spec_KeptOk_bools35_ ?_
        refine pu_ HT_ 36 46 spec_KeptOk_bools45_ ?_
        refine pu_ HT_ 37 47 spec_KeptOk_bools46_ ?_
        refine pu_ HT_ 38 48 spec_KeptOk_bools47_ ?_
        refine pu_ HT_ 39 49 spec_KeptOk_bools48_ ?_
        refine ta_ HT_ HW_ hHeld 35 45 spec_KeptOk_bools40_ ?_
        refine ta_ HT_ HW_ hHeld 40 50 spec_KeptOk_bools41_ ?_
        refine pu_ HT_ 41 51 spec_KeptOk_bools42_ ?_
        refine pu_ HT_ 42 52 spec_KeptOk_bools43_ ?_
        refine pu_ HT_ 43 53 spec_KeptOk_bools44_ ?_
        refine done_ (done_of HT_.out (by kernel_rfl)) ?_
        try go_wp2
        go_roundg kz1
        case measure => have := HKz1.out; omega
        case rel => exact ⟨(wrap64 (xz1 + 1)), rs_, H', ⟨by have := HKz1.out; omega⟩, ⟨be_⟩⟩
      rw [if_neg cz14] at H
      have cz15 : (Op.bytesLess (((rd_T41 l0 (jiz1)).f0).toList) (((rd_T41 l0 xz1).f0).toList)) = false := by simpa using cz14
      clear cz14
      obtain rfl := Option.some.inj H
      try go_wp2
      replace HB := Aside0.mk (below_drew1 HB.out)
      have pz1 : 0 ≤ (xz1 : Int) := dt_
      have qz1 : xz1 < (l0.length : Int) := dt_
      obtain ⟨adz1, Az7, cz16, ez1, hxz1, hxz2, hxz3, hlz1, hiz1⟩ := at_T41 HRz1.out xz1 pz1 qz1
      have hwz1 := hxz3
      have hwz2 := hxz2
      have hwz3 := hxz1
      cases ez1
      replace hxz1 := cl_ HB hxz1
      replace hxz2 := cl_ HB hxz2
      replace hxz3 := cl_ HB hxz3
      have HRz2 := Aside0.mk hiz1
      have HCz2 := Aside0.mk hlz1
      clear hiz1 hlz1
      replace pz1 := eq_true pz1
      replace qz1 := eq_true qz1
      have pz2 : 0 ≤ (xz1 : Int) := dt_
      have qz2 : xz1 < (l0.length : Int) := dt_
      obtain ⟨adz2, Az8, cz17, ez2, hxz4, hxz5, hxz6, hlz2, hiz2⟩ := at_T41 HRz1.out xz1 pz2 qz2
      have hwz4 := hxz6
      have hwz5 := hxz5
      have hwz6 := hxz4
      obtain rfl : adz1 = adz2 := (by injection ez2)
      replace hxz4 := cl_ HB hxz4
      replace hxz5 := cl_ HB hxz5
      replace hxz6 := cl_ HB hxz6
      have HRz3 := Aside0.mk hiz2
      have HCz3 := Aside0.mk hlz2
      clear hiz2 hlz2
      replace pz2 := eq_true pz2
      replace qz2 := eq_true qz2
      have pz3 : 0 ≤ (xz1 : Int) := dt_
      have qz3 : xz1 < (l0.length : Int) := dt_
      obtain ⟨adz3, Az9, cz18, ez3, hxz7, hxz8, hxz9, hlz3, hiz3⟩ := at_T41 HRz1.out xz1 pz3 qz3
      have hwz7 := hxz9
      have hwz8 := hxz8
      have hwz9 := hxz7
      obtain rfl : adz1 = adz3 := (by injection ez3)
      replace hxz7 := cl_ HB hxz7
      replace hxz8 := cl_ HB hxz8
      replace hxz9 := cl_ HB hxz9
      have HRz4 := Aside0.mk hiz3
      have HCz4 := Aside0.mk hlz3
      clear hiz3 hlz3
      replace pz3 := eq_true pz3
      replace qz3 := eq_true qz3
      have ea_ := Option.some.inj (hxz5.symm.trans hxz8)
      injection ea_ with ea_ en_ ec_
      subst ea_
      subst ec_
      clear en_
      have pz4 : 0 ≤ ((jiz1) : Int) := dt_
      have qz4 : (jiz1) < (l0.length : Int) := dt_
      obtain ⟨adz4, Az10, cz19, ez4, hxz10, hxz11, hxz12, hlz4, hiz4⟩ := at_T41 HRz1.out (jiz1) pz4 qz4
      have hwz10 := hxz12
      have hwz11 := hxz11
      have hwz12 := hxz10
      obtain rfl : adz1 = adz4 := (by injection ez4)
      replace hxz10 := cl_ HB hxz10
      replace hxz11 := cl_ HB hxz11
      replace hxz12 := cl_ HB hxz12
      have HRz5 := Aside0.mk hiz4
      have HCz5 := Aside0.mk hlz4
      clear hiz4 hlz4
      replace pz4 := eq_true pz4
      replace qz4 := eq_true qz4
      have pz5 : 0 ≤ (xz1 : Int) := dt_
      have qz5 : xz1 < (l0.length : Int) := dt_
      obtain ⟨adz5, Az11, cz20, ez5, hxz13, hxz14, hxz15, hlz5, hiz5⟩ := at_T41 HRz1.out xz1 pz5 qz5
      have hwz13 := hxz15
      have hwz14 := hxz14
      have hwz15 := hxz13
      obtain rfl : adz1 = adz5 := (by injection ez5)
      replace hxz13 := cl_ HB hxz13
      replace hxz14 := cl_ HB hxz14
      replace hxz15 := cl_ HB hxz15
      have HRz6 := Aside0.mk hiz5
      have HCz6 := Aside0.mk hlz5
      clear hiz5 hlz5
      replace pz5 := eq_true pz5
      replace qz5 := eq_true qz5
      have ea_ := Option.some.inj (hxz5.symm.trans hxz14)
      injection ea_ with ea_ en_ ec_
      subst ea_
      subst ec_
      clear en_
      refine start_ (n := 44) (S := fun w' => w'.cell? (adz1.add ((xz1).toNat * 3)) = some (.string ((rd_T41 l0 xz1).f0)) ∧ w'.cell? ⟨(adz1.add ((xz1).toNat * 3)).block, (adz1.add ((xz1).toNat * 3)).off + 1, none⟩ = some (.slice Az7 ((rd_T41 l0 xz1).f1).length cz16) ∧ w'.cell? ⟨(adz1.add ((xz1).toNat * 3)).block, (adz1.add ((xz1).toNat * 3)).off + 2, none⟩ = some (.int .i64 ((rd_T41 l0 xz1).f2)) ∧ w'.cell? (adz1.add ((xz1).toNat * 3)) = some (.string ((rd_T41 l0 xz1).f0)) ∧ w'.cell? ⟨(adz1.add ((xz1).toNat * 3)).block, (adz1.add ((xz1).toNat * 3)).off + 1, none⟩ = some (.slice Az8 ((rd_T41 l0 xz1).f1).length cz17) ∧ w'.cell? ⟨(adz1.add ((xz1).toNat * 3)).block, (adz1.add ((xz1).toNat * 3)).off + 2, none⟩ = some (.int .i64 ((rd_T41 l0 xz1).f2)) ∧ w'.cell? (adz1.add ((xz1).toNat * 3)) = some (.string ((rd_T41 l0 xz1).f0)) ∧ w'.cell? ⟨(adz1.add ((xz1).toNat * 3)).block, (adz1.add ((xz1).toNat * 3)).off + 1, none⟩ = some (.slice Az8 ((rd_T41 l0 xz1).f1).length cz17) ∧ w'.cell? ⟨(adz1.add ((xz1).toNat * 3)).block, (adz1.add ((xz1).toNat * 3)).off + 2, none⟩ = some (.int .i64 ((rd_T41 l0 xz1).f2)) ∧ w'.cell? (adz1.add (((jiz1)).toNat * 3)) = some (.string ((rd_T41 l0 (jiz1)).f0)) ∧ w'.cell? ⟨(adz1.add (((jiz1)).toNat * 3)).block, (adz1.add (((jiz1)).toNat * 3)).off + 1, none⟩ = some (.slice Az10 ((rd_T41 l0 (jiz1)).f1).length cz19) ∧ w'.cell? ⟨(adz1.add (((jiz1)).toNat * 3)).block, (adz1.add (((jiz1)).toNat * 3)).off + 2, none⟩ = some (.int .i64 ((rd_T41 l0 (jiz1)).f2)) ∧ w'.cell? (adz1.add ((xz1).toNat * 3)) = some (.string ((rd_T41 l0 xz1).f0)) ∧ w'.cell? ⟨(adz1.add ((xz1).toNat * 3)).block, (adz1.add ((xz1).toNat * 3)).off + 1, none⟩ = some (.slice Az8 ((rd_T41 l0 xz1).f1).length cz17) ∧ w'.cell? ⟨(adz1.add ((xz1).toNat * 3)).block, (adz1.add ((xz1).toNat * 3)).off + 2, none⟩ = some (.int .i64 ((rd_T41 l0 xz1).f2))) (ds := []) spec_KeptOk_bools0_ (by kernel_rfl) rfl (by kernel_rfl) ⟨(cl_ HB hwz3), (cl_ HB hwz2), (cl_ HB hwz1), (cl_ HB hwz6), (cl_ HB hwz5), (cl_ HB hwz4), (cl_ HB hwz9), (cl_ HB hwz8), (cl_ HB hwz7), (cl_ HB hwz12), (cl_ HB hwz11), (cl_ HB hwz10), (cl_ HB hwz15), (cl_ HB hwz14), (cl_ HB hwz13)⟩ (fun hHeld => ?_); refine with_tabW spec_KeptOk.tab4 spec_KeptOk.bits4 (fun HT_ HW_ => ?_)
      generalize wr.drew = wz1 at HB HRz2 HRz3 HRz4 HRz5 HRz6 hxz1 hxz2 hxz3 hxz4 hxz5 hxz6 hxz7 hxz8 hxz9 hxz10 hxz11 hxz12 hxz13 hxz14 hxz15 hHeld ⊢
      refine pu_ HT_ 0 10 spec_KeptOk_bools1_ ?_
      refine pu_ HT_ 1 11 spec_KeptOk_bools2_ ?_
      refine pu_ HT_ 2 12 spec_KeptOk_bools3_ ?_
      refine pu_ HT_ 3 13 spec_KeptOk_bools4_ ?_
      refine ta_ HT_ HW_ hHeld 4 14 spec_KeptOk_bools5_ ?_
      refine on_ HT_ 5 15 spec_KeptOk_bools6_ (fun K hK => ?_)
      refine goes_ Tryd.func23 (by kernel_rfl) rfl #[.string ((rd_T41 l0 xz1).f0)] (by rfl) rfl rfl ar_ ?_
      with_reducible refine (spec_TopicOk.calls kz1 ((rd_T41 l0 xz1).f0) true _ Az2.out).mono ?_
      rintro e wz2 ⟨rfl, hb⟩
      refine ⟨_, rfl, ?_⟩
      replace HB := bw_ hb
      clear hb
      refine hK.out _ _ ⟨(cl_ HB hwz3), (cl_ HB hwz2), (cl_ HB hwz1), (cl_ HB hwz6), (cl_ HB hwz5), (cl_ HB hwz4), (cl_ HB hwz9), (cl_ HB hwz8), (cl_ HB hwz7), (cl_ HB hwz12), (cl_ HB hwz11), (cl_ HB hwz10), (cl_ HB hwz15), (cl_ HB hwz14), (cl_ HB hwz13)⟩ (fun hHeld => ?_)
      clear hK K
      refine nm_ 15 ?_
      refine pu_ HT_ 6 16 spec_KeptOk_bools7_ ?_
      refine pu_ HT_ 7 17 spec_KeptOk_bools8_ ?_
      refine pu_ HT_ 8 18 spec_KeptOk_bools9_ ?_
      refine pu_ HT_ 9 19 spec_KeptOk_bools10_ ?_
      refine pu_ HT_ 10 20 spec_KeptOk_bools11_ ?_
      refine pu_ HT_ 11 21 spec_KeptOk_bools12_ ?_
      refine ta_ HT_ HW_ hHeld 12 22 spec_KeptOk_bools13_ ?_
      refine pu_ HT_ 13 23 spec_KeptOk_bools14_ ?_
      refine on_ HT_ 14 24 spec_KeptOk_bools15_ (fun K hK => ?_)
      refine goes_ Tryd.func24 (by kernel_rfl) rfl #[.int .i64 (((rd_T41 l0 xz1).f1).length : Int), .int .i64 1, .int .i64 40] (by rfl) rfl rfl ar_ ?_
      with_reducible refine (spec_l1In.calls (((rd_T41 l0 xz1).f1).length : Int) 1 40 true _ Az4.out).mono ?_
      rintro e w' ⟨rfl, ⟨nd, rfl⟩⟩
      refine ⟨_, rfl, ?_⟩
      refine hK.out _ _ ⟨(cl_ HB hwz3), (cl_ HB hwz2), (cl_ HB hwz1), (cl_ HB hwz6), (cl_ HB hwz5), (cl_ HB hwz4), (cl_ HB hwz9), (cl_ HB hwz8), (cl_ HB hwz7), (cl_ HB hwz12), (cl_ HB hwz11), (cl_ HB hwz10), (cl_ HB hwz15), (cl_ HB hwz14), (cl_ HB hwz13)⟩ (fun hHeld => ?_)
      clear hK K
      refine nm_ 24 ?_
      refine pu_ HT_ 15 25 spec_KeptOk_bools16_ ?_
      refine pu_ HT_ 16 26 spec_KeptOk_bools17_ ?_
      refine pu_ HT_ 17 27 spec_KeptOk_bools18_ ?_
      refine pu_ HT_ 18 28 spec_KeptOk_bools19_ ?_
      refine pu_ HT_ 19 29 spec_KeptOk_bools20_ ?_
      refine pu_ HT_ 20 30 spec_KeptOk_bools21_ ?_
      refine pu_ HT_ 21 31 spec_KeptOk_bools22_ ?_
      refine ta_ HT_ HW_ hHeld 22 32 spec_KeptOk_bools23_ ?_
      refine on_ HT_ 23 33 spec_KeptOk_bools24_ (fun K hK => ?_)
      refine goes_ Tryd.func24 (by kernel_rfl) rfl #[.int .i64 ((rd_T41 l0 xz1).f2), .int .i64 0, .int .i64 2] (by rfl) rfl rfl ar_ ?_
      with_reducible refine (spec_l1In.calls ((rd_T41 l0 xz1).f2) 0 2 true _ Az6.out).mono ?_
      rintro e w' ⟨rfl, ⟨nd, rfl⟩⟩
      refine ⟨_, rfl, ?_⟩
      refine hK.out _ _ ⟨(cl_ HB hwz3), (cl_ HB hwz2), (cl_ HB hwz1), (cl_ HB hwz6), (cl_ HB hwz5), (cl_ HB hwz4), (cl_ HB hwz9), (cl_ HB hwz8), (cl_ HB hwz7), (cl_ HB hwz12), (cl_ HB hwz11), (cl_ HB hwz10), (cl_ HB hwz15), (cl_ HB hwz14), (cl_ HB hwz13)⟩ (fun hHeld => ?_)
      clear hK K
      refine nm_ 33 ?_
      refine pu_ HT_ 24 34 spec_KeptOk_bools25_ ?_
      refine pu_ HT_ 25 35 spec_KeptOk_bools26_ ?_
      refine pu_ HT_ 26 36 spec_KeptOk_bools27_ ?_
      refine pu_ HT_ 27 37 spec_KeptOk_bools28_ ?_
      refine pu_ HT_ 28 38 spec_KeptOk_bools29_ ?_
      refine pu_ HT_ 29 39 spec_KeptOk_bools30_ ?_
      refine pu_ HT_ 30 40 spec_KeptOk_bools31_ ?_
      refine pu_ HT_ 31 41 spec_KeptOk_bools32_ ?_
      refine pu_ HT_ 32 42 spec_KeptOk_bools33_ ?_
      refine pu_ HT_ 33 43 spec_KeptOk_bools34_ ?_
      refine pu_ HT_ 34 44 spec_KeptOk_bools35_ ?_
      refine pu_ HT_ 36 46 spec_KeptOk_bools45_ ?_
      refine pu_ HT_ 37 47 spec_KeptOk_bools46_ ?_
      refine pu_ HT_ 38 48 spec_KeptOk_bools47_ ?_
      refine pu_ HT_ 39 49 spec_KeptOk_bools48_ ?_
      refine ta_ HT_ HW_ hHeld 35 45 spec_KeptOk_bools40_ ?_
      refine ta_ HT_ HW_ hHeld 40 50 spec_KeptOk_bools41_ ?_
      refine pu_ HT_ 41 51 spec_KeptOk_bools42_ ?_
      refine pu_ HT_ 42 52 spec_KeptOk_bools43_ ?_
      refine pu_ HT_ 43 53 spec_KeptOk_bools44_ ?_
      refine done_ (done_of HT_.out (by kernel_rfl)) ?_
      try go_wp2
      go_ret
      exact ⟨by first | rfl | (simp [errW_none, errW_some] <;> rfl) | (simp only [← hjiz1]; first | rfl | (simp [errW_none, errW_some] <;> rfl)) | (simp [*, errW_none, errW_some] <;> rfl), be_⟩

end Go.Proofs.YtpigbffaacilfaaDoor.P
