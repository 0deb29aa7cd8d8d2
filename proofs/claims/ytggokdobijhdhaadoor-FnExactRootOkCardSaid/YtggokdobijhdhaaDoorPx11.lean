-- Printed by a program over the kit's print.py (mp.sh), several laws in one namespace.
import Derived.Test.YtggokdobijhdhaaDoorPx0
import Derived.Test.YtggokdobijhdhaaDoorS
import Derived.Test.YtggokdobijhdhaaDoorPx3
import Derived.Test.YtggokdobijhdhaaDoorPx10
namespace Go.Proofs.YtggokdobijhdhaaDoor.P
open Go.RowKit Go.Proofs.YtggokdobijhdhaaDoor.X Go.Proofs.YtggokdobijhdhaaDoorW.PrintWords Go.Proofs.YtggokdobijhdhaaDoorW.PrintLast Go.Proofs.YtggokdobijhdhaaDoorW.PrintMore
attribute [local go_sem] max2_int min2_int max_two min_two max_three min_three max_four min_four   -- for this text's walks alone
set_option maxHeartbeats 8000000
set_option maxRecDepth 100000
set_option linter.unusedVariables false
set_option linter.unusedSimpArgs false

def spec_KeptOk.l0 : Nat → List (S77) → Int → Option (Bool)
 | 0, _, _ => none
 | k + 1, x0, x3 => if x3 < (x0.length : Int) then (if 0 ≤ x3 then ((spec_TopicOk.f k ((rd_T77 x0 x3).f0)).bind fun t216 => (if t216 = true then ((spec_l1In.f (((rd_T77 x0 x3).f1).length : Int) 1 40).bind fun t218 => (if t218 = true then ((spec_l1In.f ((rd_T77 x0 x3).f2) 0 2).bind fun t220 => (if t220 = true then (if x3 > 0 then (if 0 ≤ (wrap64 (x3 - 1)) then (if (wrap64 (x3 - 1)) < (x0.length : Int) then (if ((Op.bytesLess (((rd_T77 x0 (wrap64 (x3 - 1))).f0).toList) (((rd_T77 x0 x3).f0).toList)) = true) then (spec_KeptOk.l0 k x0 (wrap64 (x3 + 1))) else (some false)) else (none)) else (none)) else (spec_KeptOk.l0 k x0 (wrap64 (x3 + 1)))) else (some false))) else (some false))) else (some false))) else (none)) else (some (decide ((x0.length : Int) ≤ 8)))
def spec_KeptOk.f (k : Nat) (l0 : List (S77)) : Option (Bool) := spec_KeptOk.l0 k l0 0
def spec_KeptOk.T4 : Bool × List (List Nat × List Nat) := (true, [([], []), ([], []), ([0, 1], [0, 1]), ([2], [2]), ([3], [3]), ([4], [4]), ([5], [5]), ([6, 5], [6]), ([7], [7]), ([7], [7]), ([8, 9, 7], [7, 8, 9]), ([10, 7], [7, 10]), ([11, 7], [7, 11]), ([12, 7], [7, 12]), ([13, 7, 7], [7, 13]), ([14, 7], [7, 14]), ([7, 15], [7, 15]), ([16, 14], [16]), ([17], [17]), ([17], [17]), ([18, 19, 17], [17, 18, 19]), ([20, 17], [17, 20]), ([21, 17], [17, 21]), ([22, 17, 17], [17, 22]), ([23, 17], [17, 23]), ([17, 24], [17, 24]), ([25, 23], [25]), ([26], [26]), ([27, 26], [26, 27]), ([28, 26, 26], [26, 28]), ([29], [29]), ([29], [29]), ([31, 29], [29, 31]), ([30, 32, 29], [29, 30, 32]), ([33, 29], [29, 33]), ([34, 29], [29, 34]), ([29], [29]), ([29], [29]), ([36, 37, 29], [29, 36, 37]), ([38, 29], [29, 38]), ([39, 29], [29, 39]), ([35, 40, 29], [29, 35, 40]), ([29, 41, 26], [26, 29, 41]), ([26, 42], [26, 42])])
def spec_KeptOk.B4 : List Nat := [0, 0, 3, 7, 15, 31, 63, 127, 255, 255, 1023, 2047, 4095, 8191, 16383, 32767, 65535, 131071, 262143, 262143, 1048575, 2097151, 4194303, 8388607, 16777215, 33554431, 67108863, 134217727, 268435455, 536870911, 1073741823, 1073741823, 3221225471, 8589934591, 17179869183, 34359738367, 1073741823, 1073741823, 207232172031, 482110078975, 1031865892863, 2199023255551, 4398046511103, 8796093022207]
theorem spec_KeptOk.tab4 : rtab .any (opsOf Tryd.f42 4) = spec_KeptOk.T4 := by kernel_rfl
theorem spec_KeptOk.bits4 : waitsOk spec_KeptOk.T4.2 spec_KeptOk.B4 = true := by kernel_rfl
theorem spec_KeptOk.calls (k : Nat) (A0 : Option Addr) (c0 : Nat) (l0 : List (S77)) (r : Bool) (w : World) (hr0 : Kd.C k77 w A0 l0.length l0) (hc0 : l0.length ≤ c0) (h : spec_KeptOk.f k l0 = some r) :
  Calls Tryd.prog 42 #[.slice A0 l0.length c0] w fun e w' => e = .returned (.bool r) ∧ Below w.heap.size w w' := by
 have HRz1 := Aside0.mk hr0
 have HCz1 := Aside0.mk hc0
 clear hr0 hc0
 have HB := Aside0.mk (Below.refl w.heap.size w)
 have H : (spec_KeptOk.l0 k l0 0) = some r := h
 clear h
 have H' := Aside0.mk H
 clear H
 go_enter Tryd.func42, Tryd.ntmps42
 go_wp2
 go_loopg [3] k (fun kq v3 w' => ∃ (x3_1 : Int), v3 = .int .i64 x3_1 ∧ Aside0 (spec_KeptOk.l0 kq l0 x3_1 = some r) ∧ Aside0 (kq ≤ k) ∧ Aside0 (Below w.heap.size w w'))
 case atStart => exact ⟨(0), rs_, H', ⟨Nat.le_refl _⟩, ⟨be_⟩⟩
 case round =>
  clear H'
  obtain ⟨xz1, rfl, HA, HKz1, HB⟩ := hrel
  cases gk with
  | zero => exact absurd HA.out (by simp [spec_KeptOk.l0])
  | succ kz1 =>
   have H := HA.out
   clear HA
   simp only [spec_KeptOk.l0] at H
   by_cases cz1 : xz1 < (l0.length : Int)
   rotate_left
   ·rw [if_neg cz1] at H
    have cz2 : decide (xz1 < (l0.length : Int)) = false := decide_eq_false cz1
    clear cz1
    obtain rfl := Option.some.inj H
    go_wp2
    go_ret
    exact ⟨er_, be_⟩
   rw [if_pos cz1] at H
   have cz2 : decide (xz1 < (l0.length : Int)) = true := decide_eq_true cz1
   clear cz1
   by_cases cz3 : 0 ≤ xz1
   rotate_left
   ·rw [if_neg cz3] at H
    exact absurd H (by simp)
   rw [if_pos cz3] at H
   have cz4 : decide (0 ≤ xz1) = true := decide_eq_true cz3
   clear cz3
   replace H := bo_ H
   obtain ⟨tz1, Az2, H⟩ := H
   (try dsimp only at H)
   by_cases cz5 : tz1 = true
   rotate_left
   ·replace cz5 := Bool.eq_false_iff.mpr cz5
    subst cz5
    replace H := bf_ H
    obtain rfl := Option.some.inj H
    try go_wp2
    replace HB := Aside0.mk (below_drew1 HB.out)
    obtain ⟨pz1, qz1, adz1, Az3, cz6, ez1, hxz1, hxz2, hxz3, hlz1, hiz1⟩ := aa_ (at_T77 HRz1.out xz1)
    have hwz1 := hxz3
    have hwz2 := hxz2
    have hwz3 := hxz1
    cases ez1
    replace hxz1 := cl_ HB hxz1
    replace hxz2 := cl_ HB hxz2
    replace hxz3 := cl_ HB hxz3
    have HRz2 := Aside0.mk hiz1
    have HCz2 := Aside0.mk hlz1
    clear hiz1 hlz1
    refine start_ (n := 44) (S := fun w' => w'.cell? (adz1.add ((xz1).toNat * 3)) = some (.string ((rd_T77 l0 xz1).f0)) ∧ w'.cell? ⟨(adz1.add ((xz1).toNat * 3)).block, (adz1.add ((xz1).toNat * 3)).off + 1, none⟩ = some (.slice Az3 ((rd_T77 l0 xz1).f1).length cz6) ∧ w'.cell? ⟨(adz1.add ((xz1).toNat * 3)).block, (adz1.add ((xz1).toNat * 3)).off + 2, none⟩ = some (.int .i64 ((rd_T77 l0 xz1).f2))) (ds := []) (bs_ 44 0) (by kernel_rfl) rfl (by kernel_rfl) ⟨(cl_ HB hwz3), (cl_ HB hwz2), (cl_ HB hwz1)⟩ (fun hHeld => ?_); refine with_tabW spec_KeptOk.tab4 spec_KeptOk.bits4 (fun HT_ HW_ => ?_)
    generalize wr.drew = wz1 at HB HRz2 hxz1 hxz2 hxz3 hHeld ⊢
    refine pv_ HT_ 0 ?_
    refine pv_ HT_ 1 ?_
    refine pv_ HT_ 2 ?_
    refine pv_ HT_ 3 ?_
    refine tv_ HT_ HW_ hHeld 4 ?_
    refine ov_ HT_ 5 (fun K hK => ?_)
    refine goes_ Tryd.func59 (by kernel_rfl) rfl #[.string ((rd_T77 l0 xz1).f0)] (by rfl) rfl rfl ar_ ?_
    with_reducible refine (spec_TopicOk.calls kz1 ((rd_T77 l0 xz1).f0) false _ Az2.out).mono ?_
    rintro e wz2 ⟨rfl, hb⟩
    refine ⟨_, rfl, ?_⟩
    replace HB := bw_ hb
    clear hb
    refine hK.out _ _ ⟨(cl_ HB hwz3), (cl_ HB hwz2), (cl_ HB hwz1)⟩ (fun hHeld => ?_)
    clear hK K
    refine nm_ 15 ?_
    refine pv_ HT_ 6 ?_
    refine pv_ HT_ 7 ?_
    refine uv_ HT_ 8 ?_
    refine uv_ HT_ 9 ?_
    refine uv_ HT_ 10 ?_
    refine uv_ HT_ 11 ?_
    refine uv_ HT_ 12 ?_
    refine uv_ HT_ 13 ?_
    refine uv_ HT_ 14 ?_
    refine uv_ HT_ 15 ?_
    refine pv_ HT_ 16 ?_
    refine pv_ HT_ 17 ?_
    refine uv_ HT_ 18 ?_
    refine uv_ HT_ 19 ?_
    refine uv_ HT_ 20 ?_
    refine uv_ HT_ 21 ?_
    refine uv_ HT_ 22 ?_
    refine uv_ HT_ 23 ?_
    refine uv_ HT_ 24 ?_
    refine pv_ HT_ 25 ?_
    refine pv_ HT_ 26 ?_
    refine uv_ HT_ 27 ?_
    refine uv_ HT_ 28 ?_
    refine uv_ HT_ 29 ?_
    refine uv_ HT_ 30 ?_
    refine uv_ HT_ 31 ?_
    refine uv_ HT_ 32 ?_
    refine uv_ HT_ 33 ?_
    refine uv_ HT_ 34 ?_
    refine uv_ HT_ 35 ?_
    refine uv_ HT_ 36 ?_
    refine uv_ HT_ 37 ?_
    refine uv_ HT_ 38 ?_
    refine uv_ HT_ 39 ?_
    refine uv_ HT_ 40 ?_
    refine uv_ HT_ 41 ?_
    refine uv_ HT_ 42 ?_
    refine pv_ HT_ 43 ?_
    refine done_ (done_of HT_.out (by kernel_rfl)) ?_
    try go_wp2
    go_ret
    exact ⟨er_, be_⟩
   subst cz5
   replace H := bt_ H
   replace H := bo_ H
   obtain ⟨tz2, Az4, H⟩ := H
   (try dsimp only at H)
   by_cases cz6 : tz2 = true
   rotate_left
   ·replace cz6 := Bool.eq_false_iff.mpr cz6
    subst cz6
    replace H := bf_ H
    obtain rfl := Option.some.inj H
    try go_wp2
    replace HB := Aside0.mk (below_drew1 HB.out)
    obtain ⟨pz1, qz1, adz1, Az5, cz7, ez1, hxz1, hxz2, hxz3, hlz1, hiz1⟩ := aa_ (at_T77 HRz1.out xz1)
    have hwz1 := hxz3
    have hwz2 := hxz2
    have hwz3 := hxz1
    cases ez1
    replace hxz1 := cl_ HB hxz1
    replace hxz2 := cl_ HB hxz2
    replace hxz3 := cl_ HB hxz3
    have HRz2 := Aside0.mk hiz1
    have HCz2 := Aside0.mk hlz1
    clear hiz1 hlz1
    obtain ⟨pz2, qz2, adz2, Az6, cz8, ez2, hxz4, hxz5, hxz6, hlz2, hiz2⟩ := aa_ (at_T77 HRz1.out xz1)
    have hwz4 := hxz6
    have hwz5 := hxz5
    have hwz6 := hxz4
    obtain rfl : adz1 = adz2 := (by injection ez2)
    replace hxz4 := cl_ HB hxz4
    replace hxz5 := cl_ HB hxz5
    replace hxz6 := cl_ HB hxz6
    have HRz3 := Aside0.mk hiz2
    have HCz3 := Aside0.mk hlz2
    clear hiz2 hlz2
    refine start_ (n := 44) (S := fun w' => w'.cell? (adz1.add ((xz1).toNat * 3)) = some (.string ((rd_T77 l0 xz1).f0)) ∧ w'.cell? ⟨(adz1.add ((xz1).toNat * 3)).block, (adz1.add ((xz1).toNat * 3)).off + 1, none⟩ = some (.slice Az5 ((rd_T77 l0 xz1).f1).length cz7) ∧ w'.cell? ⟨(adz1.add ((xz1).toNat * 3)).block, (adz1.add ((xz1).toNat * 3)).off + 2, none⟩ = some (.int .i64 ((rd_T77 l0 xz1).f2)) ∧ w'.cell? (adz1.add ((xz1).toNat * 3)) = some (.string ((rd_T77 l0 xz1).f0)) ∧ w'.cell? ⟨(adz1.add ((xz1).toNat * 3)).block, (adz1.add ((xz1).toNat * 3)).off + 1, none⟩ = some (.slice Az6 ((rd_T77 l0 xz1).f1).length cz8) ∧ w'.cell? ⟨(adz1.add ((xz1).toNat * 3)).block, (adz1.add ((xz1).toNat * 3)).off + 2, none⟩ = some (.int .i64 ((rd_T77 l0 xz1).f2))) (ds := []) (bs_ 44 0) (by kernel_rfl) rfl (by kernel_rfl) ⟨(cl_ HB hwz3), (cl_ HB hwz2), (cl_ HB hwz1), (cl_ HB hwz6), (cl_ HB hwz5), (cl_ HB hwz4)⟩ (fun hHeld => ?_); refine with_tabW spec_KeptOk.tab4 spec_KeptOk.bits4 (fun HT_ HW_ => ?_)
    generalize wr.drew = wz1 at HB HRz2 HRz3 hxz1 hxz2 hxz3 hxz4 hxz5 hxz6 hHeld ⊢
    refine pv_ HT_ 0 ?_
    refine pv_ HT_ 1 ?_
    refine pv_ HT_ 2 ?_
    refine pv_ HT_ 3 ?_
    refine tv_ HT_ HW_ hHeld 4 ?_
    refine ov_ HT_ 5 (fun K hK => ?_)
    refine goes_ Tryd.func59 (by kernel_rfl) rfl #[.string ((rd_T77 l0 xz1).f0)] (by rfl) rfl rfl ar_ ?_
    with_reducible refine (spec_TopicOk.calls kz1 ((rd_T77 l0 xz1).f0) true _ Az2.out).mono ?_
    rintro e wz2 ⟨rfl, hb⟩
    refine ⟨_, rfl, ?_⟩
    replace HB := bw_ hb
    clear hb
    refine hK.out _ _ ⟨(cl_ HB hwz3), (cl_ HB hwz2), (cl_ HB hwz1), (cl_ HB hwz6), (cl_ HB hwz5), (cl_ HB hwz4)⟩ (fun hHeld => ?_)
    clear hK K
    refine nm_ 15 ?_
    refine pv_ HT_ 6 ?_
    refine pv_ HT_ 7 ?_
    refine pv_ HT_ 8 ?_
    refine pv_ HT_ 9 ?_
    refine pv_ HT_ 10 ?_
    refine pv_ HT_ 11 ?_
    refine tv_ HT_ HW_ hHeld 12 ?_
    refine pv_ HT_ 13 ?_
    refine ov_ HT_ 14 (fun K hK => ?_)
    refine goes_ Tryd.func41 (by kernel_rfl) rfl #[.int .i64 (((rd_T77 l0 xz1).f1).length : Int), .int .i64 1, .int .i64 40] (by rfl) rfl rfl ar_ ?_
    with_reducible refine (spec_l1In.calls (((rd_T77 l0 xz1).f1).length : Int) 1 40 false _ Az4.out).mono ?_
    rintro e w' ⟨rfl, ⟨nd, rfl⟩⟩
    refine ⟨_, rfl, ?_⟩
    refine hK.out _ _ ⟨(cl_ HB hwz3), (cl_ HB hwz2), (cl_ HB hwz1), (cl_ HB hwz6), (cl_ HB hwz5), (cl_ HB hwz4)⟩ (fun hHeld => ?_)
    clear hK K
    refine nm_ 24 ?_
    refine pv_ HT_ 15 ?_
    refine pv_ HT_ 16 ?_
    refine pv_ HT_ 17 ?_
    refine uv_ HT_ 18 ?_
    refine uv_ HT_ 19 ?_
    refine uv_ HT_ 20 ?_
    refine uv_ HT_ 21 ?_
    refine uv_ HT_ 22 ?_
    refine uv_ HT_ 23 ?_
    refine uv_ HT_ 24 ?_
    refine pv_ HT_ 25 ?_
    refine pv_ HT_ 26 ?_
    refine uv_ HT_ 27 ?_
    refine uv_ HT_ 28 ?_
    refine uv_ HT_ 29 ?_
    refine uv_ HT_ 30 ?_
    refine uv_ HT_ 31 ?_
    refine uv_ HT_ 32 ?_
    refine uv_ HT_ 33 ?_
    refine uv_ HT_ 34 ?_
    refine uv_ HT_ 35 ?_
    refine uv_ HT_ 36 ?_
    refine uv_ HT_ 37 ?_
    refine uv_ HT_ 38 ?_
    refine uv_ HT_ 39 ?_
    refine uv_ HT_ 40 ?_
    refine uv_ HT_ 41 ?_
    refine uv_ HT_ 42 ?_
    refine pv_ HT_ 43 ?_
    refine done_ (done_of HT_.out (by kernel_rfl)) ?_
    try go_wp2
    go_ret
    exact ⟨er_, be_⟩
   subst cz6
   replace H := bt_ H
   replace H := bo_ H
   obtain ⟨tz3, Az6, H⟩ := H
   (try dsimp only at H)
   by_cases cz7 : tz3 = true
   rotate_left
   ·replace cz7 := Bool.eq_false_iff.mpr cz7
    subst cz7
    replace H := bf_ H
    obtain rfl := Option.some.inj H
    try go_wp2
    replace HB := Aside0.mk (below_drew1 HB.out)
    obtain ⟨pz1, qz1, adz1, Az7, cz8, ez1, hxz1, hxz2, hxz3, hlz1, hiz1⟩ := aa_ (at_T77 HRz1.out xz1)
    have hwz1 := hxz3
    have hwz2 := hxz2
    have hwz3 := hxz1
    cases ez1
    replace hxz1 := cl_ HB hxz1
    replace hxz2 := cl_ HB hxz2
    replace hxz3 := cl_ HB hxz3
    have HRz2 := Aside0.mk hiz1
    have HCz2 := Aside0.mk hlz1
    clear hiz1 hlz1
    obtain ⟨pz2, qz2, adz2, Az8, cz9, ez2, hxz4, hxz5, hxz6, hlz2, hiz2⟩ := aa_ (at_T77 HRz1.out xz1)
    have hwz4 := hxz6
    have hwz5 := hxz5
    have hwz6 := hxz4
    obtain rfl : adz1 = adz2 := (by injection ez2)
    replace hxz4 := cl_ HB hxz4
    replace hxz5 := cl_ HB hxz5
    replace hxz6 := cl_ HB hxz6
    have HRz3 := Aside0.mk hiz2
    have HCz3 := Aside0.mk hlz2
    clear hiz2 hlz2
    obtain ⟨pz3, qz3, adz3, Az9, cz10, ez3, hxz7, hxz8, hxz9, hlz3, hiz3⟩ := aa_ (at_T77 HRz1.out xz1)
    have hwz7 := hxz9
    have hwz8 := hxz8
    have hwz9 := hxz7
    obtain rfl : adz1 = adz3 := (by injection ez3)
    replace hxz7 := cl_ HB hxz7
    replace hxz8 := cl_ HB hxz8
    replace hxz9 := cl_ HB hxz9
    have HRz4 := Aside0.mk hiz3
    have HCz4 := Aside0.mk hlz3
    clear hiz3 hlz3
    have ea_ := Option.some.inj (hxz5.symm.trans hxz8)
    injection ea_ with ea_ en_ ec_
    subst ea_
    subst ec_
    clear en_
    refine start_ (n := 44) (S := fun w' => w'.cell? (adz1.add ((xz1).toNat * 3)) = some (.string ((rd_T77 l0 xz1).f0)) ∧ w'.cell? ⟨(adz1.add ((xz1).toNat * 3)).block, (adz1.add ((xz1).toNat * 3)).off + 1, none⟩ = some (.slice Az7 ((rd_T77 l0 xz1).f1).length cz8) ∧ w'.cell? ⟨(adz1.add ((xz1).toNat * 3)).block, (adz1.add ((xz1).toNat * 3)).off + 2, none⟩ = some (.int .i64 ((rd_T77 l0 xz1).f2)) ∧ w'.cell? (adz1.add ((xz1).toNat * 3)) = some (.string ((rd_T77 l0 xz1).f0)) ∧ w'.cell? ⟨(adz1.add ((xz1).toNat * 3)).block, (adz1.add ((xz1).toNat * 3)).off + 1, none⟩ = some (.slice Az8 ((rd_T77 l0 xz1).f1).length cz9) ∧ w'.cell? ⟨(adz1.add ((xz1).toNat * 3)).block, (adz1.add ((xz1).toNat * 3)).off + 2, none⟩ = some (.int .i64 ((rd_T77 l0 xz1).f2)) ∧ w'.cell? (adz1.add ((xz1).toNat * 3)) = some (.string ((rd_T77 l0 xz1).f0)) ∧ w'.cell? ⟨(adz1.add ((xz1).toNat * 3)).block, (adz1.add ((xz1).toNat * 3)).off + 1, none⟩ = some (.slice Az8 ((rd_T77 l0 xz1).f1).length cz9) ∧ w'.cell? ⟨(adz1.add ((xz1).toNat * 3)).block, (adz1.add ((xz1).toNat * 3)).off + 2, none⟩ = some (.int .i64 ((rd_T77 l0 xz1).f2))) (ds := []) (bs_ 44 0) (by kernel_rfl) rfl (by kernel_rfl) ⟨(cl_ HB hwz3), (cl_ HB hwz2), (cl_ HB hwz1), (cl_ HB hwz6), (cl_ HB hwz5), (cl_ HB hwz4), (cl_ HB hwz9), (cl_ HB hwz8), (cl_ HB hwz7)⟩ (fun hHeld => ?_); refine with_tabW spec_KeptOk.tab4 spec_KeptOk.bits4 (fun HT_ HW_ => ?_)
    generalize wr.drew = wz1 at HB HRz2 HRz3 HRz4 hxz1 hxz2 hxz3 hxz4 hxz5 hxz6 hxz7 hxz8 hxz9 hHeld ⊢
    refine pv_ HT_ 0 ?_
    refine pv_ HT_ 1 ?_
    refine pv_ HT_ 2 ?_
    refine pv_ HT_ 3 ?_
    refine tv_ HT_ HW_ hHeld 4 ?_
    refine ov_ HT_ 5 (fun K hK => ?_)
    refine goes_ Tryd.func59 (by kernel_rfl) rfl #[.string ((rd_T77 l0 xz1).f0)] (by rfl) rfl rfl ar_ ?_
    with_reducible refine (spec_TopicOk.calls kz1 ((rd_T77 l0 xz1).f0) true _ Az2.out).mono ?_
    rintro e wz2 ⟨rfl, hb⟩
    refine ⟨_, rfl, ?_⟩
    replace HB := bw_ hb
    clear hb
    refine hK.out _ _ ⟨(cl_ HB hwz3), (cl_ HB hwz2), (cl_ HB hwz1), (cl_ HB hwz6), (cl_ HB hwz5), (cl_ HB hwz4), (cl_ HB hwz9), (cl_ HB hwz8), (cl_ HB hwz7)⟩ (fun hHeld => ?_)
    clear hK K
    refine nm_ 15 ?_
    refine pv_ HT_ 6 ?_
    refine pv_ HT_ 7 ?_
    refine pv_ HT_ 8 ?_
    refine pv_ HT_ 9 ?_
    refine pv_ HT_ 10 ?_
    refine pv_ HT_ 11 ?_
    refine tv_ HT_ HW_ hHeld 12 ?_
    refine pv_ HT_ 13 ?_
    refine ov_ HT_ 14 (fun K hK => ?_)
    refine goes_ Tryd.func41 (by kernel_rfl) rfl #[.int .i64 (((rd_T77 l0 xz1).f1).length : Int), .int .i64 1, .int .i64 40] (by rfl) rfl rfl ar_ ?_
    with_reducible refine (spec_l1In.calls (((rd_T77 l0 xz1).f1).length : Int) 1 40 true _ Az4.out).mono ?_
    rintro e w' ⟨rfl, ⟨nd, rfl⟩⟩
    refine ⟨_, rfl, ?_⟩
    refine hK.out _ _ ⟨(cl_ HB hwz3), (cl_ HB hwz2), (cl_ HB hwz1), (cl_ HB hwz6), (cl_ HB hwz5), (cl_ HB hwz4), (cl_ HB hwz9), (cl_ HB hwz8), (cl_ HB hwz7)⟩ (fun hHeld => ?_)
    clear hK K
    refine nm_ 24 ?_
    refine pv_ HT_ 15 ?_
    refine pv_ HT_ 16 ?_
    refine pv_ HT_ 17 ?_
    refine pv_ HT_ 18 ?_
    refine pv_ HT_ 19 ?_
    refine pv_ HT_ 20 ?_
    refine pv_ HT_ 21 ?_
    refine tv_ HT_ HW_ hHeld 22 ?_
    refine ov_ HT_ 23 (fun K hK => ?_)
    refine goes_ Tryd.func41 (by kernel_rfl) rfl #[.int .i64 ((rd_T77 l0 xz1).f2), .int .i64 0, .int .i64 2] (by rfl) rfl rfl ar_ ?_
    with_reducible refine (spec_l1In.calls ((rd_T77 l0 xz1).f2) 0 2 false _ Az6.out).mono ?_
    rintro e w' ⟨rfl, ⟨nd, rfl⟩⟩
    refine ⟨_, rfl, ?_⟩
    refine hK.out _ _ ⟨(cl_ HB hwz3), (cl_ HB hwz2), (cl_ HB hwz1), (cl_ HB hwz6), (cl_ HB hwz5), (cl_ HB hwz4), (cl_ HB hwz9), (cl_ HB hwz8), (cl_ HB hwz7)⟩ (fun hHeld => ?_)
    clear hK K
    refine nm_ 33 ?_
    refine pv_ HT_ 24 ?_
    refine pv_ HT_ 25 ?_
    refine pv_ HT_ 26 ?_
    refine uv_ HT_ 27 ?_
    refine uv_ HT_ 28 ?_
    refine uv_ HT_ 29 ?_
    refine uv_ HT_ 30 ?_
    refine uv_ HT_ 31 ?_
    refine uv_ HT_ 32 ?_
    refine uv_ HT_ 33 ?_
    refine uv_ HT_ 34 ?_
    refine uv_ HT_ 35 ?_
    refine uv_ HT_ 36 ?_
    refine uv_ HT_ 37 ?_
    refine uv_ HT_ 38 ?_
    refine uv_ HT_ 39 ?_
    refine uv_ HT_ 40 ?_
    refine uv_ HT_ 41 ?_
    refine uv_ HT_ 42 ?_
    refine pv_ HT_ 43 ?_
    refine done_ (done_of HT_.out (by kernel_rfl)) ?_
    try go_wp2
    go_ret
    exact ⟨er_, be_⟩
   subst cz7
   replace H := bt_ H
   by_cases cz8 : xz1 > 0
   rotate_left
   ·rw [if_neg cz8] at H
    have cz9 : decide (0 < xz1) = false := decide_eq_false cz8
    clear cz8
    have H' := Aside0.mk H
    clear H
    try go_wp2
    replace HB := Aside0.mk (below_drew1 HB.out)
    obtain ⟨pz1, qz1, adz1, Az7, cz10, ez1, hxz1, hxz2, hxz3, hlz1, hiz1⟩ := aa_ (at_T77 HRz1.out xz1)
    have hwz1 := hxz3
    have hwz2 := hxz2
    have hwz3 := hxz1
    cases ez1
    replace hxz1 := cl_ HB hxz1
    replace hxz2 := cl_ HB hxz2
    replace hxz3 := cl_ HB hxz3
    have HRz2 := Aside0.mk hiz1
    have HCz2 := Aside0.mk hlz1
    clear hiz1 hlz1
    obtain ⟨pz2, qz2, adz2, Az8, cz11, ez2, hxz4, hxz5, hxz6, hlz2, hiz2⟩ := aa_ (at_T77 HRz1.out xz1)
    have hwz4 := hxz6
    have hwz5 := hxz5
    have hwz6 := hxz4
    obtain rfl : adz1 = adz2 := (by injection ez2)
    replace hxz4 := cl_ HB hxz4
    replace hxz5 := cl_ HB hxz5
    replace hxz6 := cl_ HB hxz6
    have HRz3 := Aside0.mk hiz2
    have HCz3 := Aside0.mk hlz2
    clear hiz2 hlz2
    obtain ⟨pz3, qz3, adz3, Az9, cz12, ez3, hxz7, hxz8, hxz9, hlz3, hiz3⟩ := aa_ (at_T77 HRz1.out xz1)
    have hwz7 := hxz9
    have hwz8 := hxz8
    have hwz9 := hxz7
    obtain rfl : adz1 = adz3 := (by injection ez3)
    replace hxz7 := cl_ HB hxz7
    replace hxz8 := cl_ HB hxz8
    replace hxz9 := cl_ HB hxz9
    have HRz4 := Aside0.mk hiz3
    have HCz4 := Aside0.mk hlz3
    clear hiz3 hlz3
    have ea_ := Option.some.inj (hxz5.symm.trans hxz8)
    injection ea_ with ea_ en_ ec_
    subst ea_
    subst ec_
    clear en_
    refine start_ (n := 44) (S := fun w' => w'.cell? (adz1.add ((xz1).toNat * 3)) = some (.string ((rd_T77 l0 xz1).f0)) ∧ w'.cell? ⟨(adz1.add ((xz1).toNat * 3)).block, (adz1.add ((xz1).toNat * 3)).off + 1, none⟩ = some (.slice Az7 ((rd_T77 l0 xz1).f1).length cz10) ∧ w'.cell? ⟨(adz1.add ((xz1).toNat * 3)).block, (adz1.add ((xz1).toNat * 3)).off + 2, none⟩ = some (.int .i64 ((rd_T77 l0 xz1).f2)) ∧ w'.cell? (adz1.add ((xz1).toNat * 3)) = some (.string ((rd_T77 l0 xz1).f0)) ∧ w'.cell? ⟨(adz1.add ((xz1).toNat * 3)).block, (adz1.add ((xz1).toNat * 3)).off + 1, none⟩ = some (.slice Az8 ((rd_T77 l0 xz1).f1).length cz11) ∧ w'.cell? ⟨(adz1.add ((xz1).toNat * 3)).block, (adz1.add ((xz1).toNat * 3)).off + 2, none⟩ = some (.int .i64 ((rd_T77 l0 xz1).f2)) ∧ w'.cell? (adz1.add ((xz1).toNat * 3)) = some (.string ((rd_T77 l0 xz1).f0)) ∧ w'.cell? ⟨(adz1.add ((xz1).toNat * 3)).block, (adz1.add ((xz1).toNat * 3)).off + 1, none⟩ = some (.slice Az8 ((rd_T77 l0 xz1).f1).length cz11) ∧ w'.cell? ⟨(adz1.add ((xz1).toNat * 3)).block, (adz1.add ((xz1).toNat * 3)).off + 2, none⟩ = some (.int .i64 ((rd_T77 l0 xz1).f2))) (ds := []) (bs_ 44 0) (by kernel_rfl) rfl (by kernel_rfl) ⟨(cl_ HB hwz3), (cl_ HB hwz2), (cl_ HB hwz1), (cl_ HB hwz6), (cl_ HB hwz5), (cl_ HB hwz4), (cl_ HB hwz9), (cl_ HB hwz8), (cl_ HB hwz7)⟩ (fun hHeld => ?_); refine with_tabW spec_KeptOk.tab4 spec_KeptOk.bits4 (fun HT_ HW_ => ?_)
    generalize wr.drew = wz1 at HB HRz2 HRz3 HRz4 hxz1 hxz2 hxz3 hxz4 hxz5 hxz6 hxz7 hxz8 hxz9 hHeld ⊢
    refine pv_ HT_ 0 ?_
    refine pv_ HT_ 1 ?_
    refine pv_ HT_ 2 ?_
    refine pv_ HT_ 3 ?_
    refine tv_ HT_ HW_ hHeld 4 ?_
    refine ov_ HT_ 5 (fun K hK => ?_)
    refine goes_ Tryd.func59 (by kernel_rfl) rfl #[.string ((rd_T77 l0 xz1).f0)] (by rfl) rfl rfl ar_ ?_
    with_reducible refine (spec_TopicOk.calls kz1 ((rd_T77 l0 xz1).f0) true _ Az2.out).mono ?_
    rintro e wz2 ⟨rfl, hb⟩
    refine ⟨_, rfl, ?_⟩
    replace HB := bw_ hb
    clear hb
    refine hK.out _ _ ⟨(cl_ HB hwz3), (cl_ HB hwz2), (cl_ HB hwz1), (cl_ HB hwz6), (cl_ HB hwz5), (cl_ HB hwz4), (cl_ HB hwz9), (cl_ HB hwz8), (cl_ HB hwz7)⟩ (fun hHeld => ?_)
    clear hK K
    refine nm_ 15 ?_
    refine pv_ HT_ 6 ?_
    refine pv_ HT_ 7 ?_
    refine pv_ HT_ 8 ?_
    refine pv_ HT_ 9 ?_
    refine pv_ HT_ 10 ?_
    refine pv_ HT_ 11 ?_
    refine tv_ HT_ HW_ hHeld 12 ?_
    refine pv_ HT_ 13 ?_
    refine ov_ HT_ 14 (fun K hK => ?_)
    refine goes_ Tryd.func41 (by kernel_rfl) rfl #[.int .i64 (((rd_T77 l0 xz1).f1).length : Int), .int .i64 1, .int .i64 40] (by rfl) rfl rfl ar_ ?_
    with_reducible refine (spec_l1In.calls (((rd_T77 l0 xz1).f1).length : Int) 1 40 true _ Az4.out).mono ?_
    rintro e w' ⟨rfl, ⟨nd, rfl⟩⟩
    refine ⟨_, rfl, ?_⟩
    refine hK.out _ _ ⟨(cl_ HB hwz3), (cl_ HB hwz2), (cl_ HB hwz1), (cl_ HB hwz6), (cl_ HB hwz5), (cl_ HB hwz4), (cl_ HB hwz9), (cl_ HB hwz8), (cl_ HB hwz7)⟩ (fun hHeld => ?_)
    clear hK K
    refine nm_ 24 ?_
    refine pv_ HT_ 15 ?_
    refine pv_ HT_ 16 ?_
    refine pv_ HT_ 17 ?_
    refine pv_ HT_ 18 ?_
    refine pv_ HT_ 19 ?_
    refine pv_ HT_ 20 ?_
    refine pv_ HT_ 21 ?_
    refine tv_ HT_ HW_ hHeld 22 ?_
    refine ov_ HT_ 23 (fun K hK => ?_)
    refine goes_ Tryd.func41 (by kernel_rfl) rfl #[.int .i64 ((rd_T77 l0 xz1).f2), .int .i64 0, .int .i64 2] (by rfl) rfl rfl ar_ ?_
    with_reducible refine (spec_l1In.calls ((rd_T77 l0 xz1).f2) 0 2 true _ Az6.out).mono ?_
    rintro e w' ⟨rfl, ⟨nd, rfl⟩⟩
    refine ⟨_, rfl, ?_⟩
    refine hK.out _ _ ⟨(cl_ HB hwz3), (cl_ HB hwz2), (cl_ HB hwz1), (cl_ HB hwz6), (cl_ HB hwz5), (cl_ HB hwz4), (cl_ HB hwz9), (cl_ HB hwz8), (cl_ HB hwz7)⟩ (fun hHeld => ?_)
    clear hK K
    refine nm_ 33 ?_
    refine pv_ HT_ 24 ?_
    refine pv_ HT_ 25 ?_
    refine pv_ HT_ 26 ?_
    refine pv_ HT_ 27 ?_
    refine pv_ HT_ 28 ?_
    refine pv_ HT_ 29 ?_
    refine uv_ HT_ 30 ?_
    refine uv_ HT_ 31 ?_
    refine uv_ HT_ 32 ?_
    refine uv_ HT_ 33 ?_
    refine uv_ HT_ 34 ?_
    refine uv_ HT_ 35 ?_
    refine uv_ HT_ 36 ?_
    refine uv_ HT_ 37 ?_
    refine uv_ HT_ 38 ?_
    refine uv_ HT_ 39 ?_
    refine uv_ HT_ 40 ?_
    refine uv_ HT_ 41 ?_
    refine pv_ HT_ 42 ?_
    refine pv_ HT_ 43 ?_
    refine done_ (done_of HT_.out (by kernel_rfl)) ?_
    try go_wp2
    go_roundg kz1
    case measure => have := HKz1.out; omega
    case rel => exact ⟨(wrap64 (xz1 + 1)), rs_, H', ⟨by have := HKz1.out; omega⟩, ⟨be_⟩⟩
   rw [if_pos cz8] at H
   have cz9 : decide (0 < xz1) = true := decide_eq_true cz8
   clear cz8
   obtain ⟨jiz1, hjiz1⟩ : ∃ j_ : Int, (wrap64 (xz1 - 1)) = j_ := ⟨_, rfl⟩
   replace H : (if 0 ≤ (jiz1) then (if (jiz1) < (l0.length : Int) then (if ((Op.bytesLess (((rd_T77 l0 (jiz1)).f0).toList) (((rd_T77 l0 xz1).f0).toList)) = true) then (spec_KeptOk.l0 kz1 l0 (wrap64 (xz1 + 1))) else (some false)) else (none)) else (none)) = some r := by first | (rw [hjiz1] at H; exact H) | (simp only [hjiz1] at H ⊢; exact H)
   (try rw [hjiz1] at Az2)
   (try rw [hjiz1] at Az4)
   (try rw [hjiz1] at Az6)
   have hji11w : (IntKind.i64.wrap (xz1 - 1)) = jiz1 := (i64_w _).trans hjiz1
   by_cases cz10 : 0 ≤ (jiz1)
   rotate_left
   ·rw [if_neg cz10] at H
    exact absurd H (by simp)
   rw [if_pos cz10] at H
   have cz11 : decide (0 ≤ (jiz1)) = true := decide_eq_true cz10
   clear cz10
   by_cases cz12 : (jiz1) < (l0.length : Int)
   rotate_left
   ·rw [if_neg cz12] at H
    exact absurd H (by simp)
   rw [if_pos cz12] at H
   have cz13 : decide ((jiz1) < (l0.length : Int)) = true := decide_eq_true cz12
   clear cz12
   by_cases cz14 : ((Op.bytesLess (((rd_T77 l0 (jiz1)).f0).toList) (((rd_T77 l0 xz1).f0).toList)) = true)
   ·rw [if_pos cz14] at H
    have cz15 : (Op.bytesLess (((rd_T77 l0 (jiz1)).f0).toList) (((rd_T77 l0 xz1).f0).toList)) = true := cz14
    clear cz14
    have H' := Aside0.mk H
    clear H
    try go_wp2
    replace HB := Aside0.mk (below_drew1 HB.out)
    obtain ⟨pz1, qz1, adz1, Az7, cz16, ez1, hxz1, hxz2, hxz3, hlz1, hiz1⟩ := aa_ (at_T77 HRz1.out xz1)
    have hwz1 := hxz3
    have hwz2 := hxz2
    have hwz3 := hxz1
    cases ez1
    replace hxz1 := cl_ HB hxz1
    replace hxz2 := cl_ HB hxz2
    replace hxz3 := cl_ HB hxz3
    have HRz2 := Aside0.mk hiz1
    have HCz2 := Aside0.mk hlz1
    clear hiz1 hlz1
    obtain ⟨pz2, qz2, adz2, Az8, cz17, ez2, hxz4, hxz5, hxz6, hlz2, hiz2⟩ := aa_ (at_T77 HRz1.out xz1)
    have hwz4 := hxz6
    have hwz5 := hxz5
    have hwz6 := hxz4
    obtain rfl : adz1 = adz2 := (by injection ez2)
    replace hxz4 := cl_ HB hxz4
    replace hxz5 := cl_ HB hxz5
    replace hxz6 := cl_ HB hxz6
    have HRz3 := Aside0.mk hiz2
    have HCz3 := Aside0.mk hlz2
    clear hiz2 hlz2
    obtain ⟨pz3, qz3, adz3, Az9, cz18, ez3, hxz7, hxz8, hxz9, hlz3, hiz3⟩ := aa_ (at_T77 HRz1.out xz1)
    have hwz7 := hxz9
    have hwz8 := hxz8
    have hwz9 := hxz7
    obtain rfl : adz1 = adz3 := (by injection ez3)
    replace hxz7 := cl_ HB hxz7
    replace hxz8 := cl_ HB hxz8
    replace hxz9 := cl_ HB hxz9
    have HRz4 := Aside0.mk hiz3
    have HCz4 := Aside0.mk hlz3
    clear hiz3 hlz3
    have ea_ := Option.some.inj (hxz5.symm.trans hxz8)
    injection ea_ with ea_ en_ ec_
    subst ea_
    subst ec_
    clear en_
    obtain ⟨pz4, qz4, adz4, Az10, cz19, ez4, hxz10, hxz11, hxz12, hlz4, hiz4⟩ := aa_ (at_T77 HRz1.out (jiz1))
    have hwz10 := hxz12
    have hwz11 := hxz11
    have hwz12 := hxz10
    obtain rfl : adz1 = adz4 := (by injection ez4)
    replace hxz10 := cl_ HB hxz10
    replace hxz11 := cl_ HB hxz11
    replace hxz12 := cl_ HB hxz12
    have HRz5 := Aside0.mk hiz4
    have HCz5 := Aside0.mk hlz4
    clear hiz4 hlz4
    obtain ⟨pz5, qz5, adz5, Az11, cz20, ez5, hxz13, hxz14, hxz15, hlz5, hiz5⟩ := aa_ (at_T77 HRz1.out xz1)
    have hwz13 := hxz15
    have hwz14 := hxz14
    have hwz15 := hxz13
    obtain rfl : adz1 = adz5 := (by injection ez5)
    replace hxz13 := cl_ HB hxz13
    replace hxz14 := cl_ HB hxz14
    replace hxz15 := cl_ HB hxz15
    have HRz6 := Aside0.mk hiz5
    have HCz6 := Aside0.mk hlz5
    clear hiz5 hlz5
    have ea_ := Option.some.inj (hxz5.symm.trans hxz14)
    injection ea_ with ea_ en_ ec_
    subst ea_
    subst ec_
    clear en_
    refine start_ (n := 44) (S := fun w' => w'.cell? (adz1.add ((xz1).toNat * 3)) = some (.string ((rd_T77 l0 xz1).f0)) ∧ w'.cell? ⟨(adz1.add ((xz1).toNat * 3)).block, (adz1.add ((xz1).toNat * 3)).off + 1, none⟩ = some (.slice Az7 ((rd_T77 l0 xz1).f1).length cz16) ∧ w'.cell? ⟨(adz1.add ((xz1).toNat * 3)).block, (adz1.add ((xz1).toNat * 3)).off + 2, none⟩ = some (.int .i64 ((rd_T77 l0 xz1).f2)) ∧ w'.cell? (adz1.add ((xz1).toNat * 3)) = some (.string ((rd_T77 l0 xz1).f0)) ∧ w'.cell? ⟨(adz1.add ((xz1).toNat * 3)).block, (adz1.add ((xz1).toNat * 3)).off + 1, none⟩ = some (.slice Az8 ((rd_T77 l0 xz1).f1).length cz17) ∧ w'.cell? ⟨(adz1.add ((xz1).toNat * 3)).block, (adz1.add ((xz1).toNat * 3)).off + 2, none⟩ = some (.int .i64 ((rd_T77 l0 xz1).f2)) ∧ w'.cell? (adz1.add ((xz1).toNat * 3)) = some (.string ((rd_T77 l0 xz1).f0)) ∧ w'.cell? ⟨(adz1.add ((xz1).toNat * 3)).block, (adz1.add ((xz1).toNat * 3)).off + 1, none⟩ = some (.slice Az8 ((rd_T77 l0 xz1).f1).length cz17) ∧ w'.cell? ⟨(adz1.add ((xz1).toNat * 3)).block, (adz1.add ((xz1).toNat * 3)).off + 2, none⟩ = some (.int .i64 ((rd_T77 l0 xz1).f2)) ∧ w'.cell? (adz1.add (((jiz1)).toNat * 3)) = some (.string ((rd_T77 l0 (jiz1)).f0)) ∧ w'.cell? ⟨(adz1.add (((jiz1)).toNat * 3)).block, (adz1.add (((jiz1)).toNat * 3)).off + 1, none⟩ = some (.slice Az10 ((rd_T77 l0 (jiz1)).f1).length cz19) ∧ w'.cell? ⟨(adz1.add (((jiz1)).toNat * 3)).block, (adz1.add (((jiz1)).toNat * 3)).off + 2, none⟩ = some (.int .i64 ((rd_T77 l0 (jiz1)).f2)) ∧ w'.cell? (adz1.add ((xz1).toNat * 3)) = some (.string ((rd_T77 l0 xz1).f0)) ∧ w'.cell? ⟨(adz1.add ((xz1).toNat * 3)).block, (adz1.add ((xz1).toNat * 3)).off + 1, none⟩ = some (.slice Az8 ((rd_T77 l0 xz1).f1).length cz17) ∧ w'.cell? ⟨(adz1.add ((xz1).toNat * 3)).block, (adz1.add ((xz1).toNat * 3)).off + 2, none⟩ = some (.int .i64 ((rd_T77 l0 xz1).f2))) (ds := []) (bs_ 44 0) (by kernel_rfl) rfl (by kernel_rfl) ⟨(cl_ HB hwz3), (cl_ HB hwz2), (cl_ HB hwz1), (cl_ HB hwz6), (cl_ HB hwz5), (cl_ HB hwz4), (cl_ HB hwz9), (cl_ HB hwz8), (cl_ HB hwz7), (cl_ HB hwz12), (cl_ HB hwz11), (cl_ HB hwz10), (cl_ HB hwz15), (cl_ HB hwz14), (cl_ HB hwz13)⟩ (fun hHeld => ?_); refine with_tabW spec_KeptOk.tab4 spec_KeptOk.bits4 (fun HT_ HW_ => ?_)
    generalize wr.drew = wz1 at HB HRz2 HRz3 HRz4 HRz5 HRz6 hxz1 hxz2 hxz3 hxz4 hxz5 hxz6 hxz7 hxz8 hxz9 hxz10 hxz11 hxz12 hxz13 hxz14 hxz15 hHeld ⊢
    refine pv_ HT_ 0 ?_
    refine pv_ HT_ 1 ?_
    refine pv_ HT_ 2 ?_
    refine pv_ HT_ 3 ?_
    refine tv_ HT_ HW_ hHeld 4 ?_
    refine ov_ HT_ 5 (fun K hK => ?_)
    refine goes_ Tryd.func59 (by kernel_rfl) rfl #[.string ((rd_T77 l0 xz1).f0)] (by rfl) rfl rfl ar_ ?_
    with_reducible refine (spec_TopicOk.calls kz1 ((rd_T77 l0 xz1).f0) true _ Az2.out).mono ?_
    rintro e wz2 ⟨rfl, hb⟩
    refine ⟨_, rfl, ?_⟩
    replace HB := bw_ hb
    clear hb
    refine hK.out _ _ ⟨(cl_ HB hwz3), (cl_ HB hwz2), (cl_ HB hwz1), (cl_ HB hwz6), (cl_ HB hwz5), (cl_ HB hwz4), (cl_ HB hwz9), (cl_ HB hwz8), (cl_ HB hwz7), (cl_ HB hwz12), (cl_ HB hwz11), (cl_ HB hwz10), (cl_ HB hwz15), (cl_ HB hwz14), (cl_ HB hwz13)⟩ (fun hHeld => ?_)
    clear hK K
    refine nm_ 15 ?_
    refine pv_ HT_ 6 ?_
    refine pv_ HT_ 7 ?_
    refine pv_ HT_ 8 ?_
    refine pv_ HT_ 9 ?_
    refine pv_ HT_ 10 ?_
    refine pv_ HT_ 11 ?_
    refine tv_ HT_ HW_ hHeld 12 ?_
    refine pv_ HT_ 13 ?_
    refine ov_ HT_ 14 (fun K hK => ?_)
    refine goes_ Tryd.func41 (by kernel_rfl) rfl #[.int .i64 (((rd_T77 l0 xz1).f1).length : Int), .int .i64 1, .int .i64 40] (by rfl) rfl rfl ar_ ?_
    with_reducible refine (spec_l1In.calls (((rd_T77 l0 xz1).f1).length : Int) 1 40 true _ Az4.out).mono ?_
    rintro e w' ⟨rfl, ⟨nd, rfl⟩⟩
    refine ⟨_, rfl, ?_⟩
    refine hK.out _ _ ⟨(cl_ HB hwz3), (cl_ HB hwz2), (cl_ HB hwz1), (cl_ HB hwz6), (cl_ HB hwz5), (cl_ HB hwz4), (cl_ HB hwz9), (cl_ HB hwz8), (cl_ HB hwz7), (cl_ HB hwz12), (cl_ HB hwz11), (cl_ HB hwz10), (cl_ HB hwz15), (cl_ HB hwz14), (cl_ HB hwz13)⟩ (fun hHeld => ?_)
    clear hK K
    refine nm_ 24 ?_
    refine pv_ HT_ 15 ?_
    refine pv_ HT_ 16 ?_
    refine pv_ HT_ 17 ?_
    refine pv_ HT_ 18 ?_
    refine pv_ HT_ 19 ?_
    refine pv_ HT_ 20 ?_
    refine pv_ HT_ 21 ?_
    refine tv_ HT_ HW_ hHeld 22 ?_
    refine ov_ HT_ 23 (fun K hK => ?_)
    refine goes_ Tryd.func41 (by kernel_rfl) rfl #[.int .i64 ((rd_T77 l0 xz1).f2), .int .i64 0, .int .i64 2] (by rfl) rfl rfl ar_ ?_
    with_reducible refine (spec_l1In.calls ((rd_T77 l0 xz1).f2) 0 2 true _ Az6.out).mono ?_
    rintro e w' ⟨rfl, ⟨nd, rfl⟩⟩
    refine ⟨_, rfl, ?_⟩
    refine hK.out _ _ ⟨(cl_ HB hwz3), (cl_ HB hwz2), (cl_ HB hwz1), (cl_ HB hwz6), (cl_ HB hwz5), (cl_ HB hwz4), (cl_ HB hwz9), (cl_ HB hwz8), (cl_ HB hwz7), (cl_ HB hwz12), (cl_ HB hwz11), (cl_ HB hwz10), (cl_ HB hwz15), (cl_ HB hwz14), (cl_ HB hwz13)⟩ (fun hHeld => ?_)
    clear hK K
    refine nm_ 33 ?_
    refine pv_ HT_ 24 ?_
    refine pv_ HT_ 25 ?_
    refine pv_ HT_ 26 ?_
    refine pv_ HT_ 27 ?_
    refine pv_ HT_ 28 ?_
    refine pv_ HT_ 29 ?_
    refine pv_ HT_ 30 ?_
    refine pv_ HT_ 31 ?_
    refine pv_ HT_ 32 ?_
    refine pv_ HT_ 33 ?_
    refine pv_ HT_ 34 ?_
    refine pv_ HT_ 36 ?_
    refine pv_ HT_ 37 ?_
    refine pv_ HT_ 38 ?_
    refine pv_ HT_ 39 ?_
    refine tv_ HT_ HW_ hHeld 35 ?_
    refine tv_ HT_ HW_ hHeld 40 ?_
    refine pv_ HT_ 41 ?_
    refine pv_ HT_ 42 ?_
    refine pv_ HT_ 43 ?_
    refine done_ (done_of HT_.out (by kernel_rfl)) ?_
    try go_wp2
    go_roundg kz1
    case measure => have := HKz1.out; omega
    case rel => exact ⟨(wrap64 (xz1 + 1)), rs_, H', ⟨by have := HKz1.out; omega⟩, ⟨be_⟩⟩
   rw [if_neg cz14] at H
   have cz15 : (Op.bytesLess (((rd_T77 l0 (jiz1)).f0).toList) (((rd_T77 l0 xz1).f0).toList)) = false := by simpa using cz14
   clear cz14
   obtain rfl := Option.some.inj H
   try go_wp2
   replace HB := Aside0.mk (below_drew1 HB.out)
   obtain ⟨pz1, qz1, adz1, Az7, cz16, ez1, hxz1, hxz2, hxz3, hlz1, hiz1⟩ := aa_ (at_T77 HRz1.out xz1)
   have hwz1 := hxz3
   have hwz2 := hxz2
   have hwz3 := hxz1
   cases ez1
   replace hxz1 := cl_ HB hxz1
   replace hxz2 := cl_ HB hxz2
   replace hxz3 := cl_ HB hxz3
   have HRz2 := Aside0.mk hiz1
   have HCz2 := Aside0.mk hlz1
   clear hiz1 hlz1
   obtain ⟨pz2, qz2, adz2, Az8, cz17, ez2, hxz4, hxz5, hxz6, hlz2, hiz2⟩ := aa_ (at_T77 HRz1.out xz1)
   have hwz4 := hxz6
   have hwz5 := hxz5
   have hwz6 := hxz4
   obtain rfl : adz1 = adz2 := (by injection ez2)
   replace hxz4 := cl_ HB hxz4
   replace hxz5 := cl_ HB hxz5
   replace hxz6 := cl_ HB hxz6
   have HRz3 := Aside0.mk hiz2
   have HCz3 := Aside0.mk hlz2
   clear hiz2 hlz2
   obtain ⟨pz3, qz3, adz3, Az9, cz18, ez3, hxz7, hxz8, hxz9, hlz3, hiz3⟩ := aa_ (at_T77 HRz1.out xz1)
   have hwz7 := hxz9
   have hwz8 := hxz8
   have hwz9 := hxz7
   obtain rfl : adz1 = adz3 := (by injection ez3)
   replace hxz7 := cl_ HB hxz7
   replace hxz8 := cl_ HB hxz8
   replace hxz9 := cl_ HB hxz9
   have HRz4 := Aside0.mk hiz3
   have HCz4 := Aside0.mk hlz3
   clear hiz3 hlz3
   have ea_ := Option.some.inj (hxz5.symm.trans hxz8)
   injection ea_ with ea_ en_ ec_
   subst ea_
   subst ec_
   clear en_
   obtain ⟨pz4, qz4, adz4, Az10, cz19, ez4, hxz10, hxz11, hxz12, hlz4, hiz4⟩ := aa_ (at_T77 HRz1.out (jiz1))
   have hwz10 := hxz12
   have hwz11 := hxz11
   have hwz12 := hxz10
   obtain rfl : adz1 = adz4 := (by injection ez4)
   replace hxz10 := cl_ HB hxz10
   replace hxz11 := cl_ HB hxz11
   replace hxz12 := cl_ HB hxz12
   have HRz5 := Aside0.mk hiz4
   have HCz5 := Aside0.mk hlz4
   clear hiz4 hlz4
   obtain ⟨pz5, qz5, adz5, Az11, cz20, ez5, hxz13, hxz14, hxz15, hlz5, hiz5⟩ := aa_ (at_T77 HRz1.out xz1)
   have hwz13 := hxz15
   have hwz14 := hxz14
   have hwz15 := hxz13
   obtain rfl : adz1 = adz5 := (by injection ez5)
   replace hxz13 := cl_ HB hxz13
   replace hxz14 := cl_ HB hxz14
   replace hxz15 := cl_ HB hxz15
   have HRz6 := Aside0.mk hiz5
   have HCz6 := Aside0.mk hlz5
   clear hiz5 hlz5
   have ea_ := Option.some.inj (hxz5.symm.trans hxz14)
   injection ea_ with ea_ en_ ec_
   subst ea_
   subst ec_
   clear en_
   refine start_ (n := 44) (S := fun w' => w'.cell? (adz1.add ((xz1).toNat * 3)) = some (.string ((rd_T77 l0 xz1).f0)) ∧ w'.cell? ⟨(adz1.add ((xz1).toNat * 3)).block, (adz1.add ((xz1).toNat * 3)).off + 1, none⟩ = some (.slice Az7 ((rd_T77 l0 xz1).f1).length cz16) ∧ w'.cell? ⟨(adz1.add ((xz1).toNat * 3)).block, (adz1.add ((xz1).toNat * 3)).off + 2, none⟩ = some (.int .i64 ((rd_T77 l0 xz1).f2)) ∧ w'.cell? (adz1.add ((xz1).toNat * 3)) = some (.string ((rd_T77 l0 xz1).f0)) ∧ w'.cell? ⟨(adz1.add ((xz1).toNat * 3)).block, (adz1.add ((xz1).toNat * 3)).off + 1, none⟩ = some (.slice Az8 ((rd_T77 l0 xz1).f1).length cz17) ∧ w'.cell? ⟨(adz1.add ((xz1).toNat * 3)).block, (adz1.add ((xz1).toNat * 3)).off + 2, none⟩ = some (.int .i64 ((rd_T77 l0 xz1).f2)) ∧ w'.cell? (adz1.add ((xz1).toNat * 3)) = some (.string ((rd_T77 l0 xz1).f0)) ∧ w'.cell? ⟨(adz1.add ((xz1).toNat * 3)).block, (adz1.add ((xz1).toNat * 3)).off + 1, none⟩ = some (.slice Az8 ((rd_T77 l0 xz1).f1).length cz17) ∧ w'.cell? ⟨(adz1.add ((xz1).toNat * 3)).block, (adz1.add ((xz1).toNat * 3)).off + 2, none⟩ = some (.int .i64 ((rd_T77 l0 xz1).f2)) ∧ w'.cell? (adz1.add (((jiz1)).toNat * 3)) = some (.string ((rd_T77 l0 (jiz1)).f0)) ∧ w'.cell? ⟨(adz1.add (((jiz1)).toNat * 3)).block, (adz1.add (((jiz1)).toNat * 3)).off + 1, none⟩ = some (.slice Az10 ((rd_T77 l0 (jiz1)).f1).length cz19) ∧ w'.cell? ⟨(adz1.add (((jiz1)).toNat * 3)).block, (adz1.add (((jiz1)).toNat * 3)).off + 2, none⟩ = some (.int .i64 ((rd_T77 l0 (jiz1)).f2)) ∧ w'.cell? (adz1.add ((xz1).toNat * 3)) = some (.string ((rd_T77 l0 xz1).f0)) ∧ w'.cell? ⟨(adz1.add ((xz1).toNat * 3)).block, (adz1.add ((xz1).toNat * 3)).off + 1, none⟩ = some (.slice Az8 ((rd_T77 l0 xz1).f1).length cz17) ∧ w'.cell? ⟨(adz1.add ((xz1).toNat * 3)).block, (adz1.add ((xz1).toNat * 3)).off + 2, none⟩ = some (.int .i64 ((rd_T77 l0 xz1).f2))) (ds := []) (bs_ 44 0) (by kernel_rfl) rfl (by kernel_rfl) ⟨(cl_ HB hwz3), (cl_ HB hwz2), (cl_ HB hwz1), (cl_ HB hwz6), (cl_ HB hwz5), (cl_ HB hwz4), (cl_ HB hwz9), (cl_ HB hwz8), (cl_ HB hwz7), (cl_ HB hwz12), (cl_ HB hwz11), (cl_ HB hwz10), (cl_ HB hwz15), (cl_ HB hwz14), (cl_ HB hwz13)⟩ (fun hHeld => ?_); refine with_tabW spec_KeptOk.tab4 spec_KeptOk.bits4 (fun HT_ HW_ => ?_)
   generalize wr.drew = wz1 at HB HRz2 HRz3 HRz4 HRz5 HRz6 hxz1 hxz2 hxz3 hxz4 hxz5 hxz6 hxz7 hxz8 hxz9 hxz10 hxz11 hxz12 hxz13 hxz14 hxz15 hHeld ⊢
   refine pv_ HT_ 0 ?_
   refine pv_ HT_ 1 ?_
   refine pv_ HT_ 2 ?_
   refine pv_ HT_ 3 ?_
   refine tv_ HT_ HW_ hHeld 4 ?_
   refine ov_ HT_ 5 (fun K hK => ?_)
   refine goes_ Tryd.func59 (by kernel_rfl) rfl #[.string ((rd_T77 l0 xz1).f0)] (by rfl) rfl rfl ar_ ?_
   with_reducible refine (spec_TopicOk.calls kz1 ((rd_T77 l0 xz1).f0) true _ Az2.out).mono ?_
   rintro e wz2 ⟨rfl, hb⟩
   refine ⟨_, rfl, ?_⟩
   replace HB := bw_ hb
   clear hb
   refine hK.out _ _ ⟨(cl_ HB hwz3), (cl_ HB hwz2), (cl_ HB hwz1), (cl_ HB hwz6), (cl_ HB hwz5), (cl_ HB hwz4), (cl_ HB hwz9), (cl_ HB hwz8), (cl_ HB hwz7), (cl_ HB hwz12), (cl_ HB hwz11), (cl_ HB hwz10), (cl_ HB hwz15), (cl_ HB hwz14), (cl_ HB hwz13)⟩ (fun hHeld => ?_)
   clear hK K
   refine nm_ 15 ?_
   refine pv_ HT_ 6 ?_
   refine pv_ HT_ 7 ?_
   refine pv_ HT_ 8 ?_
   refine pv_ HT_ 9 ?_
   refine pv_ HT_ 10 ?_
   refine pv_ HT_ 11 ?_
   refine tv_ HT_ HW_ hHeld 12 ?_
   refine pv_ HT_ 13 ?_
   refine ov_ HT_ 14 (fun K hK => ?_)
   refine goes_ Tryd.func41 (by kernel_rfl) rfl #[.int .i64 (((rd_T77 l0 xz1).f1).length : Int), .int .i64 1, .int .i64 40] (by rfl) rfl rfl ar_ ?_
   with_reducible refine (spec_l1In.calls (((rd_T77 l0 xz1).f1).length : Int) 1 40 true _ Az4.out).mono ?_
   rintro e w' ⟨rfl, ⟨nd, rfl⟩⟩
   refine ⟨_, rfl, ?_⟩
   refine hK.out _ _ ⟨(cl_ HB hwz3), (cl_ HB hwz2), (cl_ HB hwz1), (cl_ HB hwz6), (cl_ HB hwz5), (cl_ HB hwz4), (cl_ HB hwz9), (cl_ HB hwz8), (cl_ HB hwz7), (cl_ HB hwz12), (cl_ HB hwz11), (cl_ HB hwz10), (cl_ HB hwz15), (cl_ HB hwz14), (cl_ HB hwz13)⟩ (fun hHeld => ?_)
   clear hK K
   refine nm_ 24 ?_
   refine pv_ HT_ 15 ?_
   refine pv_ HT_ 16 ?_
   refine pv_ HT_ 17 ?_
   refine pv_ HT_ 18 ?_
   refine pv_ HT_ 19 ?_
   refine pv_ HT_ 20 ?_
   refine pv_ HT_ 21 ?_
   refine tv_ HT_ HW_ hHeld 22 ?_
   refine ov_ HT_ 23 (fun K hK => ?_)
   refine goes_ Tryd.func41 (by kernel_rfl) rfl #[.int .i64 ((rd_T77 l0 xz1).f2), .int .i64 0, .int .i64 2] (by rfl) rfl rfl ar_ ?_
   with_reducible refine (spec_l1In.calls ((rd_T77 l0 xz1).f2) 0 2 true _ Az6.out).mono ?_
   rintro e w' ⟨rfl, ⟨nd, rfl⟩⟩
   refine ⟨_, rfl, ?_⟩
   refine hK.out _ _ ⟨(cl_ HB hwz3), (cl_ HB hwz2), (cl_ HB hwz1), (cl_ HB hwz6), (cl_ HB hwz5), (cl_ HB hwz4), (cl_ HB hwz9), (cl_ HB hwz8), (cl_ HB hwz7), (cl_ HB hwz12), (cl_ HB hwz11), (cl_ HB hwz10), (cl_ HB hwz15), (cl_ HB hwz14), (cl_ HB hwz13)⟩ (fun hHeld => ?_)
   clear hK K
   refine nm_ 33 ?_
   refine pv_ HT_ 24 ?_
   refine pv_ HT_ 25 ?_
   refine pv_ HT_ 26 ?_
   refine pv_ HT_ 27 ?_
   refine pv_ HT_ 28 ?_
   refine pv_ HT_ 29 ?_
   refine pv_ HT_ 30 ?_
   refine pv_ HT_ 31 ?_
   refine pv_ HT_ 32 ?_
   refine pv_ HT_ 33 ?_
   refine pv_ HT_ 34 ?_
   refine pv_ HT_ 36 ?_
   refine pv_ HT_ 37 ?_
   refine pv_ HT_ 38 ?_
   refine pv_ HT_ 39 ?_
   refine tv_ HT_ HW_ hHeld 35 ?_
   refine tv_ HT_ HW_ hHeld 40 ?_
   refine pv_ HT_ 41 ?_
   refine pv_ HT_ 42 ?_
   refine pv_ HT_ 43 ?_
   refine done_ (done_of HT_.out (by kernel_rfl)) ?_
   try go_wp2
   go_ret
   exact ⟨by first | rfl | (simp [errW_none, errW_some] <;> rfl) | (simp only [← hjiz1]; first | rfl | (simp [errW_none, errW_some] <;> rfl)) | (simp [*, errW_none, errW_some] <;> rfl), be_⟩

end Go.Proofs.YtggokdobijhdhaaDoor.P
