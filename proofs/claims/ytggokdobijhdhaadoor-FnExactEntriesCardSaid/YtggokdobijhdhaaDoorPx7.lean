-- Printed by a program over the kit's print.py (mp.sh), several laws in one namespace.
import Derived.Test.YtggokdobijhdhaaDoorPx0
import Derived.Test.YtggokdobijhdhaaDoorS
import Derived.Test.YtggokdobijhdhaaDoorPx5
import Derived.Test.YtggokdobijhdhaaDoorPx6
namespace Go.Proofs.YtggokdobijhdhaaDoor.P
open Go.RowKit Go.Proofs.YtggokdobijhdhaaDoor.X Go.Proofs.YtggokdobijhdhaaDoorW.PrintWords Go.Proofs.YtggokdobijhdhaaDoorW.PrintLast Go.Proofs.YtggokdobijhdhaaDoorW.PrintMore
attribute [local go_sem] max2_int min2_int max_two min_two max_three min_three max_four min_four   -- for this text's walks alone
set_option maxHeartbeats 8000000
set_option maxRecDepth 100000
set_option linter.unusedVariables false
set_option linter.unusedSimpArgs false

mutual
def spec_l8Ok.j0 : Nat → Int → Bool → List ByteArray → List (S33) → List (S86) → Option (Bool)
 | 0, _, _, _, _, _ => none
 | k + 1, x1, x24, x144000, x144001, x144002 => if x24 = true then (some false) else (spec_l8Ok.l0 k x1 0 x144000 x144001 x144002)
def spec_l8Ok.l0 : Nat → Int → Int → List ByteArray → List (S33) → List (S86) → Option (Bool)
 | 0, _, _, _, _, _ => none
 | k + 1, x1, x5, x144000, x144001, x144002 => if x5 < (x144002.length : Int) then (if 0 ≤ x5 then ((spec_l8SubOk.f k ((rd_T86 x144002 x5).f0) ((rd_T86 x144002 x5).f1) ((rd_T86 x144002 x5).f2)).bind fun t145 => (if t145 = true then (if x5 > 0 then (if 0 ≤ (wrap64 (x5 - 1)) then (if (wrap64 (x5 - 1)) < (x144002.length : Int) then (if ((Op.bytesLess (((rd_T86 x144002 (wrap64 (x5 - 1))).f0).toList) (((rd_T86 x144002 x5).f0).toList)) = true) then (spec_l8Ok.l0 k x1 (wrap64 (x5 + 1)) x144000 x144001 x144002) else (some false)) else (none)) else (none)) else (spec_l8Ok.l0 k x1 (wrap64 (x5 + 1)) x144000 x144001 x144002)) else (some false))) else (none)) else (spec_l8Ok.l1 k x1 0 x144000 x144001 x144002)
def spec_l8Ok.l1 : Nat → Int → Int → List ByteArray → List (S33) → List (S86) → Option (Bool)
 | 0, _, _, _, _, _ => none
 | k + 1, x1, x6, x144000, x144001, x144002 => if x6 < (x144000.length : Int) then (if 0 ≤ x6 then (if x6 < (x144001.length : Int) then ((spec_l8Level.f k (rdOf ByteArray.empty x144000 x6)).bind fun t151 => (if t151 = true then (if x6 > 0 then (if 0 ≤ (wrap64 (x6 - 1)) then (if (wrap64 (x6 - 1)) < (x144000.length : Int) then (if ((Op.bytesLess ((rdOf ByteArray.empty x144000 (wrap64 (x6 - 1))).toList) ((rdOf ByteArray.empty x144000 x6).toList)) = true) then (if (((rd_T33 x144001 x6).f0).length : Int) = 0 then (if (((rd_T33 x144001 x6).f2).length : Int) = 0 then (some false) else (if (rdOf ByteArray.empty x144000 x6).toList = ([35] : List UInt8) then (if (((rd_T33 x144001 x6).f0).length : Int) > 0 then (some false) else ((spec_l8Ok.f k ((rd_T33 x144001 x6).f0) ((rd_T33 x144001 x6).f1) ((rd_T33 x144001 x6).f2) (wrap64 (x1 + 1))).bind fun t155 => (if t155 = true then (spec_l8Ok.l1 k x1 (wrap64 (x6 + 1)) x144000 x144001 x144002) else (some false)))) else ((spec_l8Ok.f k ((rd_T33 x144001 x6).f0) ((rd_T33 x144001 x6).f1) ((rd_T33 x144001 x6).f2) (wrap64 (x1 + 1))).bind fun t156 => (if t156 = true then (spec_l8Ok.l1 k x1 (wrap64 (x6 + 1)) x144000 x144001 x144002) else (some false))))) else (if (rdOf ByteArray.empty x144000 x6).toList = ([35] : List UInt8) then (if (((rd_T33 x144001 x6).f0).length : Int) > 0 then (some false) else ((spec_l8Ok.f k ((rd_T33 x144001 x6).f0) ((rd_T33 x144001 x6).f1) ((rd_T33 x144001 x6).f2) (wrap64 (x1 + 1))).bind fun t158 => (if t158 = true then (spec_l8Ok.l1 k x1 (wrap64 (x6 + 1)) x144000 x144001 x144002) else (some false)))) else ((spec_l8Ok.f k ((rd_T33 x144001 x6).f0) ((rd_T33 x144001 x6).f1) ((rd_T33 x144001 x6).f2) (wrap64 (x1 + 1))).bind fun t159 => (if t159 = true then (spec_l8Ok.l1 k x1 (wrap64 (x6 + 1)) x144000 x144001 x144002) else (some false))))) else (some false)) else (none)) else (none)) else (if (((rd_T33 x144001 x6).f0).length : Int) = 0 then (if (((rd_T33 x144001 x6).f2).length : Int) = 0 then (some false) else (if (rdOf ByteArray.empty x144000 x6).toList = ([35] : List UInt8) then (if (((rd_T33 x144001 x6).f0).length : Int) > 0 then (some false) else ((spec_l8Ok.f k ((rd_T33 x144001 x6).f0) ((rd_T33 x144001 x6).f1) ((rd_T33 x144001 x6).f2) (wrap64 (x1 + 1))).bind fun t161 => (if t161 = true then (spec_l8Ok.l1 k x1 (wrap64 (x6 + 1)) x144000 x144001 x144002) else (some false)))) else ((spec_l8Ok.f k ((rd_T33 x144001 x6).f0) ((rd_T33 x144001 x6).f1) ((rd_T33 x144001 x6).f2) (wrap64 (x1 + 1))).bind fun t162 => (if t162 = true then (spec_l8Ok.l1 k x1 (wrap64 (x6 + 1)) x144000 x144001 x144002) else (some false))))) else (if (rdOf ByteArray.empty x144000 x6).toList = ([35] : List UInt8) then (if (((rd_T33 x144001 x6).f0).length : Int) > 0 then (some false) else ((spec_l8Ok.f k ((rd_T33 x144001 x6).f0) ((rd_T33 x144001 x6).f1) ((rd_T33 x144001 x6).f2) (wrap64 (x1 + 1))).bind fun t164 => (if t164 = true then (spec_l8Ok.l1 k x1 (wrap64 (x6 + 1)) x144000 x144001 x144002) else (some false)))) else ((spec_l8Ok.f k ((rd_T33 x144001 x6).f0) ((rd_T33 x144001 x6).f1) ((rd_T33 x144001 x6).f2) (wrap64 (x1 + 1))).bind fun t165 => (if t165 = true then (spec_l8Ok.l1 k x1 (wrap64 (x6 + 1)) x144000 x144001 x144002) else (some false)))))) else (some false))) else (none)) else (none)) else (some true)
def spec_l8Ok.f : Nat → List ByteArray → List (S33) → List (S86) → Int → Option (Bool)
 | 0, _, _, _, _ => none
 | k + 1, l0_0, l0_1, l0_2, a1 => if (l0_0.length : Int) = (l0_1.length : Int) then (if (l0_0.length : Int) > 0 then (spec_l8Ok.j0 k a1 (a1 == 6) l0_0 l0_1 l0_2) else (spec_l8Ok.j0 k a1 false l0_0 l0_1 l0_2)) else (spec_l8Ok.j0 k a1 true l0_0 l0_1 l0_2)
end
def spec_l8Ok.T6 : Bool × List (List Nat × List Nat) := (true, [([], []), ([0], [0]), ([], []), ([1, 2], [1, 2]), ([3], [3]), ([4], [4]), ([5], [5]), ([6, 5], [6]), ([7], [7]), ([8, 7], [7, 8]), ([9, 7, 7], [7, 9]), ([10], [10]), ([11, 10], [10, 11]), ([10], [10]), ([13, 10], [10, 13]), ([12, 14, 10], [10, 12, 14]), ([15, 10], [10, 15]), ([16, 10], [10, 16]), ([10], [10]), ([18, 10], [10, 18]), ([10], [10]), ([19, 20, 10], [10, 19, 20]), ([21, 10], [10, 21]), ([22, 10], [10, 22]), ([17, 23, 10], [10, 17, 23]), ([10, 24, 7], [7, 10, 24]), ([7, 25], [7, 25])])
def spec_l8Ok.B6 : List Nat := [0, 1, 0, 7, 15, 31, 63, 127, 255, 511, 1023, 2047, 4095, 2047, 10239, 32767, 65535, 131071, 2047, 264191, 2047, 1837055, 3934207, 8128511, 16777215, 33554431, 67108863]
theorem spec_l8Ok.tab6 : rtab .any (opsOf Tryd.f52 6) = spec_l8Ok.T6 := by kernel_rfl
theorem spec_l8Ok.bits6 : waitsOk spec_l8Ok.T6.2 spec_l8Ok.B6 = true := by kernel_rfl
def spec_l8Ok.T12 : Bool × List (List Nat × List Nat) := (true, [([], []), ([0], [0]), ([], []), ([1, 2], [1, 2]), ([3], [3]), ([4], [4]), ([5], [5]), ([6, 5], [6]), ([7], [7]), ([8, 7], [7, 8]), ([9, 7, 7], [7, 9]), ([10], [10]), ([11, 10], [10, 11]), ([10], [10]), ([13, 10], [10, 13]), ([12, 14, 10], [10, 12, 14]), ([15, 10], [10, 15]), ([10], [10]), ([17, 10], [10, 17]), ([10], [10]), ([18, 19, 10], [10, 18, 19]), ([20, 10], [10, 20]), ([16, 21, 10], [10, 16, 21]), ([10, 22, 7], [7, 10, 22]), ([7, 23], [7, 23]), ([24, 10], [24]), ([25], [25]), ([26, 25], [25, 26]), ([27, 25], [25, 27]), ([28, 25], [25, 28]), ([29, 25, 25], [25, 29]), ([30], [30]), ([31, 30], [30, 31]), ([32, 30], [30, 32]), ([33, 30], [30, 33]), ([30, 34, 25], [25, 30, 34]), ([25, 35], [25, 35]), ([36, 30], [36]), ([37], [37]), ([38, 37], [37, 38]), ([37], [37]), ([39, 40, 37], [37, 39, 40]), ([41, 37], [37, 41]), ([42, 37], [37, 42]), ([43, 37, 37], [37, 43]), ([44], [44]), ([45, 44], [44, 45]), ([46, 44], [44, 46]), ([47, 44], [44, 47]), ([44, 48, 37], [37, 44, 48]), ([37, 49], [37, 49]), ([50, 44], [50]), ([51], [51]), ([51], [51]), ([53, 51], [51, 53]), ([52, 54, 51, 51], [51, 52, 54]), ([55, 51], [51, 55]), ([51, 56], [51, 56])])
def spec_l8Ok.B12 : List Nat := [0, 1, 0, 7, 15, 31, 63, 127, 255, 511, 1023, 2047, 4095, 2047, 10239, 32767, 65535, 2047, 133119, 2047, 919551, 1968127, 4194303, 8388607, 16777215, 33554431, 67108863, 134217727, 268435455, 536870911, 1073741823, 2147483647, 4294967295, 8589934591, 17179869183, 34359738367, 68719476735, 137438953471, 274877906943, 549755813887, 274877906943, 2199023255551, 4398046511103, 8796093022207, 17592186044415, 35184372088831, 70368744177663, 140737488355327, 281474976710655, 562949953421311, 1125899906842623, 2251799813685247, 4503599627370495, 4503599627370495, 13510798882111487, 36028797018963967, 72057594037927935, 144115188075855871]
theorem spec_l8Ok.tab12 : rtab .any (opsOf Tryd.f52 12) = spec_l8Ok.T12 := by kernel_rfl
theorem spec_l8Ok.bits12 : waitsOk spec_l8Ok.T12.2 spec_l8Ok.B12 = true := by kernel_rfl
theorem spec_l8Ok_z5 {p : Prop} (h : p := by
 with_reducible refine (ih kz2 (by have := HJz1.out; have := HKz1.out; have := HKz2.out; omega) _ _ ((rd_T33 lz2 xz3).f0) _ _ ((rd_T33 lz2 xz3).f1) _ _ ((rd_T33 lz2 xz3).f2) (wrap64 (az1 + 1)) false _ ?side1 ?side2 ?side3 ?side4 ?side5 ?side6 Az10.out).mono ?_
 (case side1 => exact Kd.C_below HRz4.out be_)
 (case side2 => exact HCz5.out)
 (case side3 => exact Kd.C_below HRz5.out be_)
 (case side4 => exact HCz6.out)
 (case side5 => exact Kd.C_below HRz6.out be_)
 (case side6 => exact HCz7.out)
 rintro e wz6 ⟨rfl, hb⟩
 refine ⟨_, rfl, ?_⟩
 have nz1 := Aside0.mk (blk_below (g := gbz1) (o := .cells #[.slice (some adz2) lz1.length cz1, .slice (some adz1) lz2.length cz2, .slice Az3 lz3.length cz3] 33 (0, 0)) bk_ hb)
 have nz2 := Aside0.mk (blk_below (g := gbz2) (o := .cells #[.slice Az6 ((rd_T33 lz2 xz3).f0).length cz16, .slice Az7 ((rd_T33 lz2 xz3).f1).length cz17, .slice Az8 ((rd_T33 lz2 xz3).f2).length cz18] 33 (0, 0)) bk_ hb)
 have nz3 := bw_ hb
 clear BKz1 BKz2 HB
 have BKz1 := nz1
 have BKz2 := nz2
 have HB := nz3
 clear nz1 nz2 nz3 hb
 refine hK.out _ _ ⟨bc_ BKz1 0, bc_ BKz1 1, bc_ BKz1 2, bc_ BKz2 0, bc_ BKz2 1, bc_ BKz2 2, (cl_ HB hwz1), (cl_ HB hwz2)⟩ (fun hHeld => ?_)
 clear hK K
 refine nm_ 126 ?_
 refine pv_ HT_ 56 ?_
 refine pv_ HT_ 57 ?_
 refine done_ (done_of HT_.out (by kernel_rfl)) ?_
 try go_wp2
 go_ret
 exact ⟨er_, be_⟩) : p := h
theorem spec_l8Ok_z4 {p : Prop} (h : p := by
 obtain rfl := Option.some.inj H
 exact spec_l8Ok_z5) : p := h
theorem spec_l8Ok_z3 {p : Prop} (h : p := by
 clear Hz1
 exact spec_l8Ok_z4) : p := h
theorem spec_l8Ok_z2 {p : Prop} (h : p := by
 have H := Hz1
 exact spec_l8Ok_z3) : p := h
theorem spec_l8Ok_z1 {p : Prop} (h : p := by
 clear H
 exact spec_l8Ok_z2) : p := h
theorem spec_l8Ok_z0 {p : Prop} (h : p := by
 have Hz1 : (some false) = some r := by rw [if_neg (show ¬ (false = true) by decide)] at H; exact H
 exact spec_l8Ok_z1) : p := h
theorem spec_l8Ok_z12 {p : Prop} (h : p := by
 with_reducible refine (ih kz2 (by have := HJz1.out; have := HKz1.out; have := HKz2.out; omega) _ _ ((rd_T33 lz2 xz3).f0) _ _ ((rd_T33 lz2 xz3).f1) _ _ ((rd_T33 lz2 xz3).f2) (wrap64 (az1 + 1)) true _ ?side1 ?side2 ?side3 ?side4 ?side5 ?side6 Az10.out).mono ?_
 (case side1 => exact Kd.C_below HRz4.out be_)
 (case side2 => exact HCz5.out)
 (case side3 => exact Kd.C_below HRz5.out be_)
 (case side4 => exact HCz6.out)
 (case side5 => exact Kd.C_below HRz6.out be_)
 (case side6 => exact HCz7.out)
 rintro e wz6 ⟨rfl, hb⟩
 refine ⟨_, rfl, ?_⟩
 have nz1 := Aside0.mk (blk_below (g := gbz1) (o := .cells #[.slice (some adz2) lz1.length cz1, .slice (some adz1) lz2.length cz2, .slice Az3 lz3.length cz3] 33 (0, 0)) bk_ hb)
 have nz2 := Aside0.mk (blk_below (g := gbz2) (o := .cells #[.slice Az6 ((rd_T33 lz2 xz3).f0).length cz16, .slice Az7 ((rd_T33 lz2 xz3).f1).length cz17, .slice Az8 ((rd_T33 lz2 xz3).f2).length cz18] 33 (0, 0)) bk_ hb)
 have nz3 := bw_ hb
 clear BKz1 BKz2 HB
 have BKz1 := nz1
 have BKz2 := nz2
 have HB := nz3
 clear nz1 nz2 nz3 hb
 refine hK.out _ _ ⟨bc_ BKz1 0, bc_ BKz1 1, bc_ BKz1 2, bc_ BKz2 0, bc_ BKz2 1, bc_ BKz2 2, (cl_ HB hwz1), (cl_ HB hwz2)⟩ (fun hHeld => ?_)
 clear hK K
 refine nm_ 126 ?_
 refine pv_ HT_ 56 ?_
 refine pv_ HT_ 57 ?_
 refine done_ (done_of HT_.out (by kernel_rfl)) ?_
 try go_wp2
 go_roundg kz2
 case measure => have := HJz1.out; have := HKz1.out; have := HKz2.out; omega
 case rel => exact ⟨(wrap64 (xz3 + 1)), rs_, H', ⟨by have := HJz1.out; have := HKz1.out; have := HKz2.out; omega⟩, ⟨bk_⟩, ⟨be_⟩⟩) : p := h
theorem spec_l8Ok_z11 {p : Prop} (h : p := by
 clear H
 exact spec_l8Ok_z12) : p := h
theorem spec_l8Ok_z10 {p : Prop} (h : p := by
 have H' := Aside0.mk H
 exact spec_l8Ok_z11) : p := h
theorem spec_l8Ok_z9 {p : Prop} (h : p := by
 clear Hz1
 exact spec_l8Ok_z10) : p := h
theorem spec_l8Ok_z8 {p : Prop} (h : p := by
 have H := Hz1
 exact spec_l8Ok_z9) : p := h
theorem spec_l8Ok_z7 {p : Prop} (h : p := by
 clear H
 exact spec_l8Ok_z8) : p := h
theorem spec_l8Ok_z6 {p : Prop} (h : p := by
 have Hz1 : (spec_l8Ok.l1 kz2 az1 (wrap64 (xz3 + 1)) lz1 lz2 lz3) = some r := by rw [if_pos rfl] at H; exact H
 exact spec_l8Ok_z7) : p := h
theorem spec_l8Ok_z16 {p : Prop} (h : p := by
 refine uv_ HT_ 55 ?_
 refine uv_ HT_ 56 ?_
 refine pv_ HT_ 57 ?_
 refine done_ (done_of HT_.out (by kernel_rfl)) ?_
 try go_wp2
 go_ret
 exact ⟨er_, be_⟩) : p := h
theorem spec_l8Ok_z15 {p : Prop} (h : p := by
 refine uv_ HT_ 54 ?_
 exact spec_l8Ok_z16) : p := h
theorem spec_l8Ok_z14 {p : Prop} (h : p := by
 refine uv_ HT_ 53 ?_
 exact spec_l8Ok_z15) : p := h
theorem spec_l8Ok_z13 {p : Prop} (h : p := by
 refine uv_ HT_ 52 ?_
 exact spec_l8Ok_z14) : p := h
theorem spec_l8Ok_z26 {p : Prop} (h : p := by
 subst cz29
 exact spec_l8Ok_z0) : p := h
theorem spec_l8Ok_z25 {p : Prop} (h : p := by
 replace cz29 := Bool.eq_false_iff.mpr cz29
 exact spec_l8Ok_z26) : p := h
theorem spec_l8Ok_z27 {p : Prop} (h : p := by
 subst cz29
 exact spec_l8Ok_z6) : p := h
theorem spec_l8Ok_z24 {p : Prop} (h : p := by
 by_cases cz29 : tz2 = true
 rotate_left
 ·exact spec_l8Ok_z25
 exact spec_l8Ok_z27) : p := h
theorem spec_l8Ok_z23 {p : Prop} (h : p := by
 clear HXz4
 exact spec_l8Ok_z24) : p := h
theorem spec_l8Ok_z22 {p : Prop} (h : p := by
 have H := HXz4.out
 exact spec_l8Ok_z23) : p := h
theorem spec_l8Ok_z21 {p : Prop} (h : p := by
 refine goes_ Tryd.func52 (by kernel_rfl) rfl #[.agg #[.slice Az6 ((rd_T33 lz2 xz3).f0).length cz16, .slice Az7 ((rd_T33 lz2 xz3).f1).length cz17, .slice Az8 ((rd_T33 lz2 xz3).f2).length cz18], .int .i64 (wrap64 (az1 + 1))] (by rfl) rfl rfl ar_ ?_
 exact spec_l8Ok_z22) : p := h
theorem spec_l8Ok_z20 {p : Prop} (h : p := by
 refine ov_ HT_ 55 (fun K hK => ?_)
 exact spec_l8Ok_z21) : p := h
theorem spec_l8Ok_z19 {p : Prop} (h : p := by
 refine tv_ HT_ HW_ hHeld 52 ?_
 exact spec_l8Ok_z20) : p := h
theorem spec_l8Ok_z18 {p : Prop} (h : p := by
 refine pv_ HT_ 54 ?_
 exact spec_l8Ok_z19) : p := h
theorem spec_l8Ok_z17 {p : Prop} (h : p := by
 refine pv_ HT_ 53 ?_
 exact spec_l8Ok_z18) : p := h
theorem spec_l8Ok_z47 {p : Prop} (h : p := by
 refine pv_ HT_ 57 ?_
 refine done_ (done_of HT_.out (by kernel_rfl)) ?_
 try go_wp2
 go_ret
 exact ⟨by first | rfl | (simp [errW_none, errW_some] <;> rfl) | (simp only [← hjiz1]; first | rfl | (simp [errW_none, errW_some] <;> rfl)) | (simp [*, errW_none, errW_some] <;> rfl), be_⟩) : p := h
theorem spec_l8Ok_z46 {p : Prop} (h : p := by
 refine uv_ HT_ 56 ?_
 exact spec_l8Ok_z47) : p := h
theorem spec_l8Ok_z45 {p : Prop} (h : p := by
 refine uv_ HT_ 55 ?_
 exact spec_l8Ok_z46) : p := h
theorem spec_l8Ok_z44 {p : Prop} (h : p := by
 refine uv_ HT_ 54 ?_
 exact spec_l8Ok_z45) : p := h
theorem spec_l8Ok_z43 {p : Prop} (h : p := by
 refine uv_ HT_ 53 ?_
 exact spec_l8Ok_z44) : p := h
theorem spec_l8Ok_z42 {p : Prop} (h : p := by
 refine uv_ HT_ 52 ?_
 exact spec_l8Ok_z43) : p := h
theorem spec_l8Ok_z41 {p : Prop} (h : p := by
 refine pv_ HT_ 51 ?_
 exact spec_l8Ok_z42) : p := h
theorem spec_l8Ok_z40 {p : Prop} (h : p := by
 refine pv_ HT_ 50 ?_
 exact spec_l8Ok_z41) : p := h
theorem spec_l8Ok_z39 {p : Prop} (h : p := by
 refine uv_ HT_ 49 ?_
 exact spec_l8Ok_z40) : p := h
theorem spec_l8Ok_z38 {p : Prop} (h : p := by
 refine uv_ HT_ 48 ?_
 exact spec_l8Ok_z39) : p := h
theorem spec_l8Ok_z37 {p : Prop} (h : p := by
 refine uv_ HT_ 47 ?_
 exact spec_l8Ok_z38) : p := h
theorem spec_l8Ok_z36 {p : Prop} (h : p := by
 refine uv_ HT_ 46 ?_
 exact spec_l8Ok_z37) : p := h
theorem spec_l8Ok_z35 {p : Prop} (h : p := by
 refine uv_ HT_ 45 ?_
 exact spec_l8Ok_z36) : p := h
theorem spec_l8Ok_z34 {p : Prop} (h : p := by
 refine uv_ HT_ 44 ?_
 exact spec_l8Ok_z35) : p := h
theorem spec_l8Ok_z33 {p : Prop} (h : p := by
 refine uv_ HT_ 43 ?_
 exact spec_l8Ok_z34) : p := h
theorem spec_l8Ok_z32 {p : Prop} (h : p := by
 refine uv_ HT_ 42 ?_
 exact spec_l8Ok_z33) : p := h
theorem spec_l8Ok_z31 {p : Prop} (h : p := by
 refine uv_ HT_ 41 ?_
 exact spec_l8Ok_z32) : p := h
theorem spec_l8Ok_z30 {p : Prop} (h : p := by
 refine uv_ HT_ 40 ?_
 exact spec_l8Ok_z31) : p := h
theorem spec_l8Ok_z29 {p : Prop} (h : p := by
 refine uv_ HT_ 39 ?_
 exact spec_l8Ok_z30) : p := h
theorem spec_l8Ok_z28 {p : Prop} (h : p := by
 refine uv_ HT_ 38 ?_
 exact spec_l8Ok_z29) : p := h
theorem spec_l8Ok_z53 {p : Prop} (h : p := by
 with_reducible refine (ih kz2 (by have := HJz1.out; have := HKz1.out; have := HKz2.out; omega) _ _ ((rd_T33 lz2 xz3).f0) _ _ ((rd_T33 lz2 xz3).f1) _ _ ((rd_T33 lz2 xz3).f2) (wrap64 (az1 + 1)) false _ ?side1 ?side2 ?side3 ?side4 ?side5 ?side6 Az10.out).mono ?_
 (case side1 => exact Kd.C_below HRz4.out be_)
 (case side2 => exact HCz5.out)
 (case side3 => exact Kd.C_below HRz5.out be_)
 (case side4 => exact HCz6.out)
 (case side5 => exact Kd.C_below HRz6.out be_)
 (case side6 => exact HCz7.out)
 rintro e wz6 ⟨rfl, hb⟩
 refine ⟨_, rfl, ?_⟩
 have nz1 := Aside0.mk (blk_below (g := gbz1) (o := .cells #[.slice (some adz2) lz1.length cz1, .slice (some adz1) lz2.length cz2, .slice Az3 lz3.length cz3] 33 (0, 0)) bk_ hb)
 have nz2 := Aside0.mk (blk_below (g := gbz2) (o := .cells #[.slice Az6 ((rd_T33 lz2 xz3).f0).length cz20, .slice Az7 ((rd_T33 lz2 xz3).f1).length cz21, .slice Az8 ((rd_T33 lz2 xz3).f2).length cz22] 33 (0, 0)) bk_ hb)
 have nz3 := bw_ hb
 clear BKz1 BKz2 HB
 have BKz1 := nz1
 have BKz2 := nz2
 have HB := nz3
 clear nz1 nz2 nz3 hb
 refine hK.out _ _ ⟨bc_ BKz1 0, bc_ BKz1 1, bc_ BKz1 2, bc_ BKz2 0, bc_ BKz2 1, bc_ BKz2 2, (cl_ HB hwz1), (cl_ HB hwz2), (cl_ HB hwz3), (cl_ HB hwz4)⟩ (fun hHeld => ?_)
 clear hK K
 refine nm_ 126 ?_
 refine pv_ HT_ 56 ?_
 refine pv_ HT_ 57 ?_
 refine done_ (done_of HT_.out (by kernel_rfl)) ?_
 try go_wp2
 go_ret
 exact ⟨by first | rfl | (simp [errW_none, errW_some] <;> rfl) | (simp only [← hjiz1]; first | rfl | (simp [errW_none, errW_some] <;> rfl)) | (simp [*, errW_none, errW_some] <;> rfl), be_⟩) : p := h
theorem spec_l8Ok_z52 {p : Prop} (h : p := by
 obtain rfl := Option.some.inj H
 exact spec_l8Ok_z53) : p := h
theorem spec_l8Ok_z51 {p : Prop} (h : p := by
 clear Hz1
 exact spec_l8Ok_z52) : p := h
theorem spec_l8Ok_z50 {p : Prop} (h : p := by
 have H := Hz1
 exact spec_l8Ok_z51) : p := h
theorem spec_l8Ok_z49 {p : Prop} (h : p := by
 clear H
 exact spec_l8Ok_z50) : p := h
theorem spec_l8Ok_z48 {p : Prop} (h : p := by
 have Hz1 : (some false) = some r := by rw [if_neg (show ¬ (false = true) by decide)] at H; exact H
 exact spec_l8Ok_z49) : p := h
theorem spec_l8Ok_z60 {p : Prop} (h : p := by
 with_reducible refine (ih kz2 (by have := HJz1.out; have := HKz1.out; have := HKz2.out; omega) _ _ ((rd_T33 lz2 xz3).f0) _ _ ((rd_T33 lz2 xz3).f1) _ _ ((rd_T33 lz2 xz3).f2) (wrap64 (az1 + 1)) true _ ?side1 ?side2 ?side3 ?side4 ?side5 ?side6 Az10.out).mono ?_
 (case side1 => exact Kd.C_below HRz4.out be_)
 (case side2 => exact HCz5.out)
 (case side3 => exact Kd.C_below HRz5.out be_)
 (case side4 => exact HCz6.out)
 (case side5 => exact Kd.C_below HRz6.out be_)
 (case side6 => exact HCz7.out)
 rintro e wz6 ⟨rfl, hb⟩
 refine ⟨_, rfl, ?_⟩
 have nz1 := Aside0.mk (blk_below (g := gbz1) (o := .cells #[.slice (some adz2) lz1.length cz1, .slice (some adz1) lz2.length cz2, .slice Az3 lz3.length cz3] 33 (0, 0)) bk_ hb)
 have nz2 := Aside0.mk (blk_below (g := gbz2) (o := .cells #[.slice Az6 ((rd_T33 lz2 xz3).f0).length cz20, .slice Az7 ((rd_T33 lz2 xz3).f1).length cz21, .slice Az8 ((rd_T33 lz2 xz3).f2).length cz22] 33 (0, 0)) bk_ hb)
 have nz3 := bw_ hb
 clear BKz1 BKz2 HB
 have BKz1 := nz1
 have BKz2 := nz2
 have HB := nz3
 clear nz1 nz2 nz3 hb
 refine hK.out _ _ ⟨bc_ BKz1 0, bc_ BKz1 1, bc_ BKz1 2, bc_ BKz2 0, bc_ BKz2 1, bc_ BKz2 2, (cl_ HB hwz1), (cl_ HB hwz2), (cl_ HB hwz3), (cl_ HB hwz4)⟩ (fun hHeld => ?_)
 clear hK K
 refine nm_ 126 ?_
 refine pv_ HT_ 56 ?_
 refine pv_ HT_ 57 ?_
 refine done_ (done_of HT_.out (by kernel_rfl)) ?_
 try go_wp2
 go_roundg kz2
 case measure => have := HJz1.out; have := HKz1.out; have := HKz2.out; omega
 case rel => exact ⟨(wrap64 (xz3 + 1)), rs_, H', ⟨by have := HJz1.out; have := HKz1.out; have := HKz2.out; omega⟩, ⟨bk_⟩, ⟨be_⟩⟩) : p := h
theorem spec_l8Ok_z59 {p : Prop} (h : p := by
 clear H
 exact spec_l8Ok_z60) : p := h
theorem spec_l8Ok_z58 {p : Prop} (h : p := by
 have H' := Aside0.mk H
 exact spec_l8Ok_z59) : p := h
theorem spec_l8Ok_z57 {p : Prop} (h : p := by
 clear Hz1
 exact spec_l8Ok_z58) : p := h
theorem spec_l8Ok_z56 {p : Prop} (h : p := by
 have H := Hz1
 exact spec_l8Ok_z57) : p := h
theorem spec_l8Ok_z55 {p : Prop} (h : p := by
 clear H
 exact spec_l8Ok_z56) : p := h
theorem spec_l8Ok_z54 {p : Prop} (h : p := by
 have Hz1 : (spec_l8Ok.l1 kz2 az1 (wrap64 (xz3 + 1)) lz1 lz2 lz3) = some r := by rw [if_pos rfl] at H; exact H
 exact spec_l8Ok_z55) : p := h
theorem spec_l8Ok_z70 {p : Prop} (h : p := by
 subst cz35
 exact spec_l8Ok_z48) : p := h
theorem spec_l8Ok_z69 {p : Prop} (h : p := by
 replace cz35 := Bool.eq_false_iff.mpr cz35
 exact spec_l8Ok_z70) : p := h
theorem spec_l8Ok_z71 {p : Prop} (h : p := by
 subst cz35
 exact spec_l8Ok_z54) : p := h
theorem spec_l8Ok_z68 {p : Prop} (h : p := by
 by_cases cz35 : tz2 = true
 rotate_left
 ·exact spec_l8Ok_z69
 exact spec_l8Ok_z71) : p := h
theorem spec_l8Ok_z67 {p : Prop} (h : p := by
 clear HXz5
 exact spec_l8Ok_z68) : p := h
theorem spec_l8Ok_z66 {p : Prop} (h : p := by
 have H := HXz5.out
 exact spec_l8Ok_z67) : p := h
theorem spec_l8Ok_z65 {p : Prop} (h : p := by
 refine goes_ Tryd.func52 (by kernel_rfl) rfl #[.agg #[.slice Az6 ((rd_T33 lz2 xz3).f0).length cz20, .slice Az7 ((rd_T33 lz2 xz3).f1).length cz21, .slice Az8 ((rd_T33 lz2 xz3).f2).length cz22], .int .i64 (wrap64 (az1 + 1))] (by rfl) rfl rfl ar_ ?_
 exact spec_l8Ok_z66) : p := h
theorem spec_l8Ok_z64 {p : Prop} (h : p := by
 refine ov_ HT_ 55 (fun K hK => ?_)
 exact spec_l8Ok_z65) : p := h
theorem spec_l8Ok_z63 {p : Prop} (h : p := by
 refine tv_ HT_ HW_ hHeld 52 ?_
 exact spec_l8Ok_z64) : p := h
theorem spec_l8Ok_z62 {p : Prop} (h : p := by
 refine pv_ HT_ 54 ?_
 exact spec_l8Ok_z63) : p := h
theorem spec_l8Ok_z61 {p : Prop} (h : p := by
 refine pv_ HT_ 53 ?_
 exact spec_l8Ok_z62) : p := h
theorem spec_l8Ok.calls (k : Nat) : ∀ (A0_0 : Option Addr) (c0_0 : Nat) (l0_0 : List ByteArray) (A0_1 : Option Addr) (c0_1 : Nat) (l0_1 : List (S33)) (A0_2 : Option Addr) (c0_2 : Nat) (l0_2 : List (S86)) (a1 : Int) (r : Bool) (w : World) (hr0_0 : Kd.C Kd.string w A0_0 l0_0.length l0_0) (hc0_0 : l0_0.length ≤ c0_0) (hr0_1 : Kd.C k33 w A0_1 l0_1.length l0_1) (hc0_1 : l0_1.length ≤ c0_1) (hr0_2 : Kd.C k86 w A0_2 l0_2.length l0_2) (hc0_2 : l0_2.length ≤ c0_2) (h : spec_l8Ok.f k l0_0 l0_1 l0_2 a1 = some r),
  Calls Tryd.prog 52 #[.agg #[.slice A0_0 l0_0.length c0_0, .slice A0_1 l0_1.length c0_1, .slice A0_2 l0_2.length c0_2], .int .i64 a1] w fun e w' => e = .returned (.bool r) ∧ Below w.heap.size w w' := by
 induction k using Nat.strongRecOn with
 | _ k ih =>
 intro Az1 cz1 lz1 Az2 cz2 lz2 Az3 cz3 lz3 az1 r w hrz1 hcz1 hrz2 hcz2 hrz3 hcz3 h
 cases k with
 | zero => exact absurd h (by simp [spec_l8Ok.f])
 | succ k =>
 simp only [spec_l8Ok.f] at h
 have huz1 := Tryd.underlying33
 have huz2 := Tryd.underlying86
 have HRz1 := Aside0.mk hrz1
 have HCz1 := Aside0.mk hcz1
 clear hrz1 hcz1
 have HRz2 := Aside0.mk hrz2
 have HCz2 := Aside0.mk hcz2
 clear hrz2 hcz2
 have HRz3 := Aside0.mk hrz3
 have HCz3 := Aside0.mk hcz3
 clear hrz3 hcz3
 have HB := Aside0.mk (Below.refl w.heap.size w)
 have H : (if (lz1.length : Int) = (lz2.length : Int) then (if (lz1.length : Int) > 0 then (spec_l8Ok.j0 k az1 (az1 == 6) lz1 lz2 lz3) else (spec_l8Ok.j0 k az1 false lz1 lz2 lz3)) else (spec_l8Ok.j0 k az1 true lz1 lz2 lz3)) = some r := h
 clear h
 have HCz4 := Aside0.mk H
 clear H
 go_enter Tryd.func52, Tryd.ntmps52
 go_upto_region 1 with (first | ((with_reducible refine gate_dst (N := 2) rfl ?_); (try (refine gate_guard (by rfl) ?_; dsimp only)); refine box_event ?hg (N := 2) ?hd (cs := #[.slice Az1 lz1.length cz1, .slice Az2 lz2.length cz2, .slice Az3 lz3.length cz3]) (t := 33) ?hr ?_; (case hd => rfl); (case hg => rfl); (case hr => first | (go_simp; done) | (go_simp; rfl)); intro gbz1 hg wz1 hbox hb; have BKz1 := Aside0.mk (hbox); have GWz1 := Aside0.mk ((sz_ : w.heap.size ≤ gbz1)); have GEz1 := Aside0.mk ((sz_ : w.heap.size ≤ gbz1)); replace HB := bw_ hb; clear hb hbox hg))
 (try simp only [Act.put, List.setIfInBounds_toArray, List.set_cons_zero, List.set_cons_succ])
 go_cut [24] (fun v24 wc => ∃ (kq : Nat) (x24_2 : Bool), v24 = .bool x24_2 ∧ Aside0 (spec_l8Ok.j0 kq az1 x24_2 lz1 lz2 lz3 = some r) ∧ Aside0 (kq ≤ k) ∧ Aside0 (wc.heap[gbz1]? = some (.cells #[(.slice Az1 lz1.length cz1), (.slice Az2 lz2.length cz2), (.slice Az3 lz3.length cz3)] 33 (0, 0))) ∧ Aside0 (Below w.heap.size w wc))
 case first =>
  have H := HCz4.out
  clear HCz4
  by_cases cz4 : (lz1.length : Int) = (lz2.length : Int)
  rotate_left
  ·rw [if_neg cz4] at H
   have cz5 : ((lz1.length : Int) == (lz2.length : Int)) = false := beq_eq_false_iff_ne.mpr cz4
   have cz6 : ((lz1.length : Int) != (lz2.length : Int)) = true := bne_iff_ne.mpr cz4
   have cz7 : (lz1.length == lz2.length) = false := by first | simpa using cz4 | (simp at cz4 ⊢; omega)
   (first | rw [cz5] | (simp only [i64_w, i32_w]; rw [cz5]) | skip)
   have H' := Aside0.mk H
   clear H
   have hczz1 : wz1.cell? ⟨gbz1, 0, none⟩ = some (.slice Az1 lz1.length cz1) := bc_ BKz1 0
   have hczz2 : wz1.cell? ⟨gbz1, 1, none⟩ = some (.slice Az2 lz2.length cz2) := bc_ BKz1 1
   have hczz3 : wz1.cell? ⟨gbz1, 2, none⟩ = some (.slice Az3 lz3.length cz3) := bc_ BKz1 2
   have hfzz1 := blk_frozen BKz1.out 0
   have hfzz2 := blk_frozen BKz1.out 1
   have hfzz3 := blk_frozen BKz1.out 2
   go_wp2
   go_meet
   case rel => exact ⟨_, (true), rs_, H', ⟨by first | omega | exact Nat.le_refl _⟩, ⟨bk_⟩, ⟨be_⟩⟩
  rw [if_pos cz4] at H
  have cz5 : ((lz1.length : Int) == (lz2.length : Int)) = true := beq_iff_eq.mpr cz4
  have cz6 : ((lz1.length : Int) != (lz2.length : Int)) = false := bne_eq_false_iff_eq.mpr cz4
  have cz7 : (lz1.length == lz2.length) = true := by first | simpa using cz4 | (simp at cz4 ⊢; omega)
  clear cz4
  (first | rw [cz5] | (simp only [i64_w, i32_w]; rw [cz5]) | skip)
  by_cases cz8 : (lz1.length : Int) > 0
  ·rw [if_pos cz8] at H
   have cz9 : decide (0 < (lz1.length : Int)) = true := decide_eq_true cz8
   have cz10 : decide (0 < lz1.length) = true := decide_eq_true (by omega)
   clear cz8
   have H' := Aside0.mk H
   clear H
   have hczz1 : wz1.cell? ⟨gbz1, 0, none⟩ = some (.slice Az1 lz1.length cz1) := bc_ BKz1 0
   have hczz2 : wz1.cell? ⟨gbz1, 1, none⟩ = some (.slice Az2 lz2.length cz2) := bc_ BKz1 1
   have hczz3 : wz1.cell? ⟨gbz1, 2, none⟩ = some (.slice Az3 lz3.length cz3) := bc_ BKz1 2
   have hfzz1 := blk_frozen BKz1.out 0
   have hfzz2 := blk_frozen BKz1.out 1
   have hfzz3 := blk_frozen BKz1.out 2
   go_wp2
   go_meet
   case rel => exact ⟨_, ((az1 == 6)), rs_, H', ⟨by first | omega | exact Nat.le_refl _⟩, ⟨bk_⟩, ⟨be_⟩⟩
  rw [if_neg cz8] at H
  have cz9 : decide (0 < (lz1.length : Int)) = false := decide_eq_false cz8
  have cz10 : decide (0 < lz1.length) = false := decide_eq_false (by omega)
  clear cz8
  have H' := Aside0.mk H
  clear H
  have hczz1 : wz1.cell? ⟨gbz1, 0, none⟩ = some (.slice Az1 lz1.length cz1) := bc_ BKz1 0
  have hczz2 : wz1.cell? ⟨gbz1, 1, none⟩ = some (.slice Az2 lz2.length cz2) := bc_ BKz1 1
  have hczz3 : wz1.cell? ⟨gbz1, 2, none⟩ = some (.slice Az3 lz3.length cz3) := bc_ BKz1 2
  have hfzz1 := blk_frozen BKz1.out 0
  have hfzz2 := blk_frozen BKz1.out 1
  have hfzz3 := blk_frozen BKz1.out 2
  go_wp2
  go_meet
  case rel => exact ⟨_, (false), rs_, H', ⟨by first | omega | exact Nat.le_refl _⟩, ⟨bk_⟩, ⟨be_⟩⟩
 case rest =>
  clear HCz4
  obtain ⟨kq, xz1, rfl, HA, HJz1, BKz1, HB⟩ := hcut
  cases kq with
  | zero => exact absurd HA.out (by simp [spec_l8Ok.j0])
  | succ kjz1 =>
   have H := HA.out
   clear HA
   simp only [spec_l8Ok.j0] at H
   by_cases cz4 : xz1 = true
   ·subst cz4
    replace H := bt_ H
    obtain rfl := Option.some.inj H
    go_wp2
    go_ret
    exact ⟨er_, be_⟩
   replace cz4 := Bool.eq_false_iff.mpr cz4
   subst cz4
   replace H := bf_ H
   have H' := Aside0.mk H
   clear H
   go_wp2
   go_loopg [5] kjz1 (fun kq v5 w' => ∃ (x5_2 : Int), v5 = .int .i64 x5_2 ∧ Aside0 (spec_l8Ok.l0 kq az1 x5_2 lz1 lz2 lz3 = some r) ∧ Aside0 (kq ≤ kjz1) ∧ Aside0 (w'.heap[gbz1]? = some (.cells #[(.slice Az1 lz1.length cz1), (.slice Az2 lz2.length cz2), (.slice Az3 lz3.length cz3)] 33 (0, 0))) ∧ Aside0 (Below w.heap.size w w'))
   case atStart => exact ⟨(0), rs_, H', ⟨Nat.le_refl _⟩, ⟨bk_⟩, ⟨be_⟩⟩
   case round =>
    clear H'
    obtain ⟨xz2, rfl, HA, HKz1, BKz1, HB⟩ := hrel
    cases gk with
    | zero => exact absurd HA.out (by simp [spec_l8Ok.l0])
    | succ kz1 =>
     have H := HA.out
     clear HA
     simp only [spec_l8Ok.l0] at H
     by_cases cz5 : xz2 < (lz3.length : Int)
     ·rw [if_pos cz5] at H
      have cz6 : decide (xz2 < (lz3.length : Int)) = true := decide_eq_true cz5
      clear cz5
      by_cases cz7 : 0 ≤ xz2
      rotate_left
      ·rw [if_neg cz7] at H
       exact absurd H (by simp)
      rw [if_pos cz7] at H
      have cz8 : decide (0 ≤ xz2) = true := decide_eq_true cz7
      clear cz7
      replace H := bo_ H
      obtain ⟨tz1, Az5, H⟩ := H
      (try dsimp only at H)
      by_cases cz9 : tz1 = true
      rotate_left
      ·replace cz9 := Bool.eq_false_iff.mpr cz9
       subst cz9
       replace H := bf_ H
       obtain rfl := Option.some.inj H
       have hczz1 : wr.cell? ⟨gbz1, 0, none⟩ = some (.slice Az1 lz1.length cz1) := bc_ BKz1 0
       have hczz2 : wr.cell? ⟨gbz1, 1, none⟩ = some (.slice Az2 lz2.length cz2) := bc_ BKz1 1
       have hczz3 : wr.cell? ⟨gbz1, 2, none⟩ = some (.slice Az3 lz3.length cz3) := bc_ BKz1 2
       have hfzz1 := blk_frozen BKz1.out 0
       have hfzz2 := blk_frozen BKz1.out 1
       have hfzz3 := blk_frozen BKz1.out 2
       try go_wp2
       replace BKz1 := Aside0.mk (blk_drew BKz1.out)
       replace HB := Aside0.mk (below_drew1 HB.out)
       obtain ⟨pz1, qz1, adz1, ez1, hxz1, hxz2, hxz3⟩ := aa_ (at_T86 HRz3.out xz2)
       have hwz1 := hxz3
       have hwz2 := hxz2
       have hwz3 := hxz1
       cases ez1
       replace hxz1 := cl_ HB hxz1
       replace hxz2 := cl_ HB hxz2
       replace hxz3 := cl_ HB hxz3
       refine start_ (n := 27) (S := fun w' => w'.cell? ⟨gbz1, 0, none⟩ = some (.slice Az1 lz1.length cz1) ∧ w'.cell? ⟨gbz1, 1, none⟩ = some (.slice Az2 lz2.length cz2) ∧ w'.cell? ⟨gbz1, 2, none⟩ = some (.slice (some adz1) lz3.length cz3) ∧ w'.cell? (adz1.add ((xz2).toNat * 3)) = some (.string ((rd_T86 lz3 xz2).f0)) ∧ w'.cell? ⟨(adz1.add ((xz2).toNat * 3)).block, (adz1.add ((xz2).toNat * 3)).off + 1, none⟩ = some (.int .i64 ((rd_T86 lz3 xz2).f1)) ∧ w'.cell? ⟨(adz1.add ((xz2).toNat * 3)).block, (adz1.add ((xz2).toNat * 3)).off + 2, none⟩ = some (.int .i64 ((rd_T86 lz3 xz2).f2))) (ds := []) (bs_ 27 0) (by kernel_rfl) rfl (by kernel_rfl) ⟨bc_ BKz1 0, bc_ BKz1 1, bc_ BKz1 2, (cl_ HB hwz3), (cl_ HB hwz2), (cl_ HB hwz1)⟩ (fun hHeld => ?_); refine with_tabW spec_l8Ok.tab6 spec_l8Ok.bits6 (fun HT_ HW_ => ?_)
       generalize wr.drew = wz2 at BKz1 HB hxz1 hxz2 hxz3 hHeld ⊢
       refine pv_ HT_ 0 ?_
       refine pv_ HT_ 2 ?_
       refine tv_ HT_ HW_ hHeld 1 ?_
       refine pv_ HT_ 3 ?_
       refine tv_ HT_ HW_ hHeld 4 ?_
       refine ov_ HT_ 5 (fun K hK => ?_)
       refine goes_ Tryd.func65 (by kernel_rfl) rfl #[.agg #[.string ((rd_T86 lz3 xz2).f0), .int .i64 ((rd_T86 lz3 xz2).f1), .int .i64 ((rd_T86 lz3 xz2).f2)]] (by rfl) rfl rfl ar_ ?_
       with_reducible refine (spec_l8SubOk.calls kz1 ((rd_T86 lz3 xz2).f0) ((rd_T86 lz3 xz2).f1) ((rd_T86 lz3 xz2).f2) false _ Az5.out).mono ?_
       rintro e wz3 ⟨rfl, hb⟩
       refine ⟨_, rfl, ?_⟩
       replace HB := bw_ hb
       replace BKz1 := kb_ BKz1 hb
       clear hb
       refine hK.out _ _ ⟨bc_ BKz1 0, bc_ BKz1 1, bc_ BKz1 2, (cl_ HB hwz3), (cl_ HB hwz2), (cl_ HB hwz1)⟩ (fun hHeld => ?_)
       clear hK K
       refine nm_ 37 ?_
       refine pv_ HT_ 6 ?_
       refine pv_ HT_ 7 ?_
       refine uv_ HT_ 8 ?_
       refine uv_ HT_ 9 ?_
       refine uv_ HT_ 10 ?_
       refine uv_ HT_ 11 ?_
       refine uv_ HT_ 12 ?_
       refine uv_ HT_ 13 ?_
       refine uv_ HT_ 14 ?_
       refine uv_ HT_ 15 ?_
       refine uv_ HT_ 16 ?_
       refine uv_ HT_ 17 ?_
       refine uv_ HT_ 18 ?_
       refine uv_ HT_ 19 ?_
       refine uv_ HT_ 20 ?_
       refine uv_ HT_ 21 ?_
       refine uv_ HT_ 22 ?_
       refine uv_ HT_ 23 ?_
       refine uv_ HT_ 24 ?_
       refine uv_ HT_ 25 ?_
       refine pv_ HT_ 26 ?_
       refine done_ (done_of HT_.out (by kernel_rfl)) ?_
       try go_wp2
       go_ret
       exact ⟨er_, be_⟩
      subst cz9
      replace H := bt_ H
      by_cases cz10 : xz2 > 0
      rotate_left
      ·rw [if_neg cz10] at H
       have cz11 : decide (0 < xz2) = false := decide_eq_false cz10
       clear cz10
       have H' := Aside0.mk H
       clear H
       have hczz1 : wr.cell? ⟨gbz1, 0, none⟩ = some (.slice Az1 lz1.length cz1) := bc_ BKz1 0
       have hczz2 : wr.cell? ⟨gbz1, 1, none⟩ = some (.slice Az2 lz2.length cz2) := bc_ BKz1 1
       have hczz3 : wr.cell? ⟨gbz1, 2, none⟩ = some (.slice Az3 lz3.length cz3) := bc_ BKz1 2
       have hfzz1 := blk_frozen BKz1.out 0
       have hfzz2 := blk_frozen BKz1.out 1
       have hfzz3 := blk_frozen BKz1.out 2
       try go_wp2
       replace BKz1 := Aside0.mk (blk_drew BKz1.out)
       replace HB := Aside0.mk (below_drew1 HB.out)
       obtain ⟨pz1, qz1, adz1, ez1, hxz1, hxz2, hxz3⟩ := aa_ (at_T86 HRz3.out xz2)
       have hwz1 := hxz3
       have hwz2 := hxz2
       have hwz3 := hxz1
       cases ez1
       replace hxz1 := cl_ HB hxz1
       replace hxz2 := cl_ HB hxz2
       replace hxz3 := cl_ HB hxz3
       refine start_ (n := 27) (S := fun w' => w'.cell? ⟨gbz1, 0, none⟩ = some (.slice Az1 lz1.length cz1) ∧ w'.cell? ⟨gbz1, 1, none⟩ = some (.slice Az2 lz2.length cz2) ∧ w'.cell? ⟨gbz1, 2, none⟩ = some (.slice (some adz1) lz3.length cz3) ∧ w'.cell? (adz1.add ((xz2).toNat * 3)) = some (.string ((rd_T86 lz3 xz2).f0)) ∧ w'.cell? ⟨(adz1.add ((xz2).toNat * 3)).block, (adz1.add ((xz2).toNat * 3)).off + 1, none⟩ = some (.int .i64 ((rd_T86 lz3 xz2).f1)) ∧ w'.cell? ⟨(adz1.add ((xz2).toNat * 3)).block, (adz1.add ((xz2).toNat * 3)).off + 2, none⟩ = some (.int .i64 ((rd_T86 lz3 xz2).f2))) (ds := []) (bs_ 27 0) (by kernel_rfl) rfl (by kernel_rfl) ⟨bc_ BKz1 0, bc_ BKz1 1, bc_ BKz1 2, (cl_ HB hwz3), (cl_ HB hwz2), (cl_ HB hwz1)⟩ (fun hHeld => ?_); refine with_tabW spec_l8Ok.tab6 spec_l8Ok.bits6 (fun HT_ HW_ => ?_)
       generalize wr.drew = wz2 at BKz1 HB hxz1 hxz2 hxz3 hHeld ⊢
       refine pv_ HT_ 0 ?_
       refine pv_ HT_ 2 ?_
       refine tv_ HT_ HW_ hHeld 1 ?_
       refine pv_ HT_ 3 ?_
       refine tv_ HT_ HW_ hHeld 4 ?_
       refine ov_ HT_ 5 (fun K hK => ?_)
       refine goes_ Tryd.func65 (by kernel_rfl) rfl #[.agg #[.string ((rd_T86 lz3 xz2).f0), .int .i64 ((rd_T86 lz3 xz2).f1), .int .i64 ((rd_T86 lz3 xz2).f2)]] (by rfl) rfl rfl ar_ ?_
       with_reducible refine (spec_l8SubOk.calls kz1 ((rd_T86 lz3 xz2).f0) ((rd_T86 lz3 xz2).f1) ((rd_T86 lz3 xz2).f2) true _ Az5.out).mono ?_
       rintro e wz3 ⟨rfl, hb⟩
       refine ⟨_, rfl, ?_⟩
       replace HB := bw_ hb
       replace BKz1 := kb_ BKz1 hb
       clear hb
       refine hK.out _ _ ⟨bc_ BKz1 0, bc_ BKz1 1, bc_ BKz1 2, (cl_ HB hwz3), (cl_ HB hwz2), (cl_ HB hwz1)⟩ (fun hHeld => ?_)
       clear hK K
       refine nm_ 37 ?_
       refine pv_ HT_ 6 ?_
       refine pv_ HT_ 7 ?_
       refine pv_ HT_ 8 ?_
       refine pv_ HT_ 9 ?_
       refine pv_ HT_ 10 ?_
       refine uv_ HT_ 11 ?_
       refine uv_ HT_ 12 ?_
       refine uv_ HT_ 13 ?_
       refine uv_ HT_ 14 ?_
       refine uv_ HT_ 15 ?_
       refine uv_ HT_ 16 ?_
       refine uv_ HT_ 17 ?_
       refine uv_ HT_ 18 ?_
       refine uv_ HT_ 19 ?_
       refine uv_ HT_ 20 ?_
       refine uv_ HT_ 21 ?_
       refine uv_ HT_ 22 ?_
       refine uv_ HT_ 23 ?_
       refine uv_ HT_ 24 ?_
       refine pv_ HT_ 25 ?_
       refine pv_ HT_ 26 ?_
       refine done_ (done_of HT_.out (by kernel_rfl)) ?_
       try go_wp2
       go_roundg kz1
       case measure => have := HJz1.out; have := HKz1.out; omega
       case rel => exact ⟨(wrap64 (xz2 + 1)), rs_, H', ⟨by have := HJz1.out; have := HKz1.out; omega⟩, ⟨bk_⟩, ⟨be_⟩⟩
      rw [if_pos cz10] at H
      have cz11 : decide (0 < xz2) = true := decide_eq_true cz10
      clear cz10
      obtain ⟨jiz1, hjiz1⟩ : ∃ j_ : Int, (wrap64 (xz2 - 1)) = j_ := ⟨_, rfl⟩
      replace H : (if 0 ≤ (jiz1) then (if (jiz1) < (lz3.length : Int) then (if ((Op.bytesLess (((rd_T86 lz3 (jiz1)).f0).toList) (((rd_T86 lz3 xz2).f0).toList)) = true) then (spec_l8Ok.l0 kz1 az1 (wrap64 (xz2 + 1)) lz1 lz2 lz3) else (some false)) else (none)) else (none)) = some r := by first | (rw [hjiz1] at H; exact H) | (simp only [hjiz1] at H ⊢; exact H)
      (try rw [hjiz1] at Az5)
      have hji16w : (IntKind.i64.wrap (xz2 - 1)) = jiz1 := (i64_w _).trans hjiz1
      by_cases cz12 : 0 ≤ (jiz1)
      rotate_left
      ·rw [if_neg cz12] at H
       exact absurd H (by simp)
      rw [if_pos cz12] at H
      have cz13 : decide (0 ≤ (jiz1)) = true := decide_eq_true cz12
      clear cz12
      by_cases cz14 : (jiz1) < (lz3.length : Int)
      rotate_left
      ·rw [if_neg cz14] at H
       exact absurd H (by simp)
      rw [if_pos cz14] at H
      have cz15 : decide ((jiz1) < (lz3.length : Int)) = true := decide_eq_true cz14
      clear cz14
      by_cases cz16 : ((Op.bytesLess (((rd_T86 lz3 (jiz1)).f0).toList) (((rd_T86 lz3 xz2).f0).toList)) = true)
      rotate_left
      ·rw [if_neg cz16] at H
       have cz17 : (Op.bytesLess (((rd_T86 lz3 (jiz1)).f0).toList) (((rd_T86 lz3 xz2).f0).toList)) = false := by simpa using cz16
       clear cz16
       obtain rfl := Option.some.inj H
       have hczz1 : wr.cell? ⟨gbz1, 0, none⟩ = some (.slice Az1 lz1.length cz1) := bc_ BKz1 0
       have hczz2 : wr.cell? ⟨gbz1, 1, none⟩ = some (.slice Az2 lz2.length cz2) := bc_ BKz1 1
       have hczz3 : wr.cell? ⟨gbz1, 2, none⟩ = some (.slice Az3 lz3.length cz3) := bc_ BKz1 2
       have hfzz1 := blk_frozen BKz1.out 0
       have hfzz2 := blk_frozen BKz1.out 1
       have hfzz3 := blk_frozen BKz1.out 2
       try go_wp2
       replace BKz1 := Aside0.mk (blk_drew BKz1.out)
       replace HB := Aside0.mk (below_drew1 HB.out)
       obtain ⟨pz1, qz1, adz1, ez1, hxz1, hxz2, hxz3⟩ := aa_ (at_T86 HRz3.out xz2)
       have hwz1 := hxz3
       have hwz2 := hxz2
       have hwz3 := hxz1
       cases ez1
       replace hxz1 := cl_ HB hxz1
       replace hxz2 := cl_ HB hxz2
       replace hxz3 := cl_ HB hxz3
       obtain ⟨pz2, qz2, adz2, ez2, hxz4, hxz5, hxz6⟩ := aa_ (at_T86 HRz3.out (jiz1))
       have hwz4 := hxz6
       have hwz5 := hxz5
       have hwz6 := hxz4
       obtain rfl : adz1 = adz2 := (by injection ez2)
       replace hxz4 := cl_ HB hxz4
       replace hxz5 := cl_ HB hxz5
       replace hxz6 := cl_ HB hxz6
       obtain ⟨pz3, qz3, adz3, ez3, hxz7, hxz8, hxz9⟩ := aa_ (at_T86 HRz3.out xz2)
       have hwz7 := hxz9
       have hwz8 := hxz8
       have hwz9 := hxz7
       obtain rfl : adz1 = adz3 := (by injection ez3)
       replace hxz7 := cl_ HB hxz7
       replace hxz8 := cl_ HB hxz8
       replace hxz9 := cl_ HB hxz9
       refine start_ (n := 27) (S := fun w' => w'.cell? ⟨gbz1, 0, none⟩ = some (.slice Az1 lz1.length cz1) ∧ w'.cell? ⟨gbz1, 1, none⟩ = some (.slice Az2 lz2.length cz2) ∧ w'.cell? ⟨gbz1, 2, none⟩ = some (.slice (some adz1) lz3.length cz3) ∧ w'.cell? (adz1.add ((xz2).toNat * 3)) = some (.string ((rd_T86 lz3 xz2).f0)) ∧ w'.cell? ⟨(adz1.add ((xz2).toNat * 3)).block, (adz1.add ((xz2).toNat * 3)).off + 1, none⟩ = some (.int .i64 ((rd_T86 lz3 xz2).f1)) ∧ w'.cell? ⟨(adz1.add ((xz2).toNat * 3)).block, (adz1.add ((xz2).toNat * 3)).off + 2, none⟩ = some (.int .i64 ((rd_T86 lz3 xz2).f2)) ∧ w'.cell? (adz1.add (((jiz1)).toNat * 3)) = some (.string ((rd_T86 lz3 (jiz1)).f0)) ∧ w'.cell? ⟨(adz1.add (((jiz1)).toNat * 3)).block, (adz1.add (((jiz1)).toNat * 3)).off + 1, none⟩ = some (.int .i64 ((rd_T86 lz3 (jiz1)).f1)) ∧ w'.cell? ⟨(adz1.add (((jiz1)).toNat * 3)).block, (adz1.add (((jiz1)).toNat * 3)).off + 2, none⟩ = some (.int .i64 ((rd_T86 lz3 (jiz1)).f2)) ∧ w'.cell? (adz1.add ((xz2).toNat * 3)) = some (.string ((rd_T86 lz3 xz2).f0)) ∧ w'.cell? ⟨(adz1.add ((xz2).toNat * 3)).block, (adz1.add ((xz2).toNat * 3)).off + 1, none⟩ = some (.int .i64 ((rd_T86 lz3 xz2).f1)) ∧ w'.cell? ⟨(adz1.add ((xz2).toNat * 3)).block, (adz1.add ((xz2).toNat * 3)).off + 2, none⟩ = some (.int .i64 ((rd_T86 lz3 xz2).f2))) (ds := []) (bs_ 27 0) (by kernel_rfl) rfl (by kernel_rfl) ⟨bc_ BKz1 0, bc_ BKz1 1, bc_ BKz1 2, (cl_ HB hwz3), (cl_ HB hwz2), (cl_ HB hwz1), (cl_ HB hwz6), (cl_ HB hwz5), (cl_ HB hwz4), (cl_ HB hwz9), (cl_ HB hwz8), (cl_ HB hwz7)⟩ (fun hHeld => ?_); refine with_tabW spec_l8Ok.tab6 spec_l8Ok.bits6 (fun HT_ HW_ => ?_)
       generalize wr.drew = wz2 at BKz1 HB hxz1 hxz2 hxz3 hxz4 hxz5 hxz6 hxz7 hxz8 hxz9 hHeld ⊢
       refine pv_ HT_ 0 ?_
       refine pv_ HT_ 2 ?_
       refine tv_ HT_ HW_ hHeld 1 ?_
       refine pv_ HT_ 3 ?_
       refine tv_ HT_ HW_ hHeld 4 ?_
       refine ov_ HT_ 5 (fun K hK => ?_)
       refine goes_ Tryd.func65 (by kernel_rfl) rfl #[.agg #[.string ((rd_T86 lz3 xz2).f0), .int .i64 ((rd_T86 lz3 xz2).f1), .int .i64 ((rd_T86 lz3 xz2).f2)]] (by rfl) rfl rfl ar_ ?_
       with_reducible refine (spec_l8SubOk.calls kz1 ((rd_T86 lz3 xz2).f0) ((rd_T86 lz3 xz2).f1) ((rd_T86 lz3 xz2).f2) true _ Az5.out).mono ?_
       rintro e wz3 ⟨rfl, hb⟩
       refine ⟨_, rfl, ?_⟩
       replace HB := bw_ hb
       replace BKz1 := kb_ BKz1 hb
       clear hb
       refine hK.out _ _ ⟨bc_ BKz1 0, bc_ BKz1 1, bc_ BKz1 2, (cl_ HB hwz3), (cl_ HB hwz2), (cl_ HB hwz1), (cl_ HB hwz6), (cl_ HB hwz5), (cl_ HB hwz4), (cl_ HB hwz9), (cl_ HB hwz8), (cl_ HB hwz7)⟩ (fun hHeld => ?_)
       clear hK K
       refine nm_ 37 ?_
       refine pv_ HT_ 6 ?_
       refine pv_ HT_ 7 ?_
       refine pv_ HT_ 8 ?_
       refine pv_ HT_ 9 ?_
       refine pv_ HT_ 10 ?_
       refine pv_ HT_ 11 ?_
       refine pv_ HT_ 13 ?_
       refine pv_ HT_ 14 ?_
       refine pv_ HT_ 18 ?_
       refine pv_ HT_ 20 ?_
       refine tv_ HT_ HW_ hHeld 12 ?_
       refine pv_ HT_ 15 ?_
       refine pv_ HT_ 16 ?_
       refine tv_ HT_ HW_ hHeld 17 ?_
       refine tv_ HT_ HW_ hHeld 19 ?_
       refine pv_ HT_ 21 ?_
       refine pv_ HT_ 22 ?_
       refine tv_ HT_ HW_ hHeld 23 ?_
       refine pv_ HT_ 24 ?_
       refine pv_ HT_ 25 ?_
       refine pv_ HT_ 26 ?_
       refine done_ (done_of HT_.out (by kernel_rfl)) ?_
       try go_wp2
       go_ret
       exact ⟨by first | rfl | (simp [errW_none, errW_some] <;> rfl) | (simp only [← hjiz1]; first | rfl | (simp [errW_none, errW_some] <;> rfl)) | (simp [*, errW_none, errW_some] <;> rfl), be_⟩
      rw [if_pos cz16] at H
      have cz17 : (Op.bytesLess (((rd_T86 lz3 (jiz1)).f0).toList) (((rd_T86 lz3 xz2).f0).toList)) = true := cz16
      clear cz16
      have H' := Aside0.mk H
      clear H
      have hczz1 : wr.cell? ⟨gbz1, 0, none⟩ = some (.slice Az1 lz1.length cz1) := bc_ BKz1 0
      have hczz2 : wr.cell? ⟨gbz1, 1, none⟩ = some (.slice Az2 lz2.length cz2) := bc_ BKz1 1
      have hczz3 : wr.cell? ⟨gbz1, 2, none⟩ = some (.slice Az3 lz3.length cz3) := bc_ BKz1 2
      have hfzz1 := blk_frozen BKz1.out 0
      have hfzz2 := blk_frozen BKz1.out 1
      have hfzz3 := blk_frozen BKz1.out 2
      try go_wp2
      replace BKz1 := Aside0.mk (blk_drew BKz1.out)
      replace HB := Aside0.mk (below_drew1 HB.out)
      obtain ⟨pz1, qz1, adz1, ez1, hxz1, hxz2, hxz3⟩ := aa_ (at_T86 HRz3.out xz2)
      have hwz1 := hxz3
      have hwz2 := hxz2
      have hwz3 := hxz1
      cases ez1
      replace hxz1 := cl_ HB hxz1
      replace hxz2 := cl_ HB hxz2
      replace hxz3 := cl_ HB hxz3
      obtain ⟨pz2, qz2, adz2, ez2, hxz4, hxz5, hxz6⟩ := aa_ (at_T86 HRz3.out (jiz1))
      have hwz4 := hxz6
      have hwz5 := hxz5
      have hwz6 := hxz4
      obtain rfl : adz1 = adz2 := (by injection ez2)
      replace hxz4 := cl_ HB hxz4
      replace hxz5 := cl_ HB hxz5
      replace hxz6 := cl_ HB hxz6
      obtain ⟨pz3, qz3, adz3, ez3, hxz7, hxz8, hxz9⟩ := aa_ (at_T86 HRz3.out xz2)
      have hwz7 := hxz9
      have hwz8 := hxz8
      have hwz9 := hxz7
      obtain rfl : adz1 = adz3 := (by injection ez3)
      replace hxz7 := cl_ HB hxz7
      replace hxz8 := cl_ HB hxz8
      replace hxz9 := cl_ HB hxz9
      refine start_ (n := 27) (S := fun w' => w'.cell? ⟨gbz1, 0, none⟩ = some (.slice Az1 lz1.length cz1) ∧ w'.cell? ⟨gbz1, 1, none⟩ = some (.slice Az2 lz2.length cz2) ∧ w'.cell? ⟨gbz1, 2, none⟩ = some (.slice (some adz1) lz3.length cz3) ∧ w'.cell? (adz1.add ((xz2).toNat * 3)) = some (.string ((rd_T86 lz3 xz2).f0)) ∧ w'.cell? ⟨(adz1.add ((xz2).toNat * 3)).block, (adz1.add ((xz2).toNat * 3)).off + 1, none⟩ = some (.int .i64 ((rd_T86 lz3 xz2).f1)) ∧ w'.cell? ⟨(adz1.add ((xz2).toNat * 3)).block, (adz1.add ((xz2).toNat * 3)).off + 2, none⟩ = some (.int .i64 ((rd_T86 lz3 xz2).f2)) ∧ w'.cell? (adz1.add (((jiz1)).toNat * 3)) = some (.string ((rd_T86 lz3 (jiz1)).f0)) ∧ w'.cell? ⟨(adz1.add (((jiz1)).toNat * 3)).block, (adz1.add (((jiz1)).toNat * 3)).off + 1, none⟩ = some (.int .i64 ((rd_T86 lz3 (jiz1)).f1)) ∧ w'.cell? ⟨(adz1.add (((jiz1)).toNat * 3)).block, (adz1.add (((jiz1)).toNat * 3)).off + 2, none⟩ = some (.int .i64 ((rd_T86 lz3 (jiz1)).f2)) ∧ w'.cell? (adz1.add ((xz2).toNat * 3)) = some (.string ((rd_T86 lz3 xz2).f0)) ∧ w'.cell? ⟨(adz1.add ((xz2).toNat * 3)).block, (adz1.add ((xz2).toNat * 3)).off + 1, none⟩ = some (.int .i64 ((rd_T86 lz3 xz2).f1)) ∧ w'.cell? ⟨(adz1.add ((xz2).toNat * 3)).block, (adz1.add ((xz2).toNat * 3)).off + 2, none⟩ = some (.int .i64 ((rd_T86 lz3 xz2).f2))) (ds := []) (bs_ 27 0) (by kernel_rfl) rfl (by kernel_rfl) ⟨bc_ BKz1 0, bc_ BKz1 1, bc_ BKz1 2, (cl_ HB hwz3), (cl_ HB hwz2), (cl_ HB hwz1), (cl_ HB hwz6), (cl_ HB hwz5), (cl_ HB hwz4), (cl_ HB hwz9), (cl_ HB hwz8), (cl_ HB hwz7)⟩ (fun hHeld => ?_); refine with_tabW spec_l8Ok.tab6 spec_l8Ok.bits6 (fun HT_ HW_ => ?_)
      generalize wr.drew = wz2 at BKz1 HB hxz1 hxz2 hxz3 hxz4 hxz5 hxz6 hxz7 hxz8 hxz9 hHeld ⊢
      refine pv_ HT_ 0 ?_
      refine pv_ HT_ 2 ?_
      refine tv_ HT_ HW_ hHeld 1 ?_
      refine pv_ HT_ 3 ?_
      refine tv_ HT_ HW_ hHeld 4 ?_
      refine ov_ HT_ 5 (fun K hK => ?_)
      refine goes_ Tryd.func65 (by kernel_rfl) rfl #[.agg #[.string ((rd_T86 lz3 xz2).f0), .int .i64 ((rd_T86 lz3 xz2).f1), .int .i64 ((rd_T86 lz3 xz2).f2)]] (by rfl) rfl rfl ar_ ?_
      with_reducible refine (spec_l8SubOk.calls kz1 ((rd_T86 lz3 xz2).f0) ((rd_T86 lz3 xz2).f1) ((rd_T86 lz3 xz2).f2) true _ Az5.out).mono ?_
      rintro e wz3 ⟨rfl, hb⟩
      refine ⟨_, rfl, ?_⟩
      replace HB := bw_ hb
      replace BKz1 := kb_ BKz1 hb
      clear hb
      refine hK.out _ _ ⟨bc_ BKz1 0, bc_ BKz1 1, bc_ BKz1 2, (cl_ HB hwz3), (cl_ HB hwz2), (cl_ HB hwz1), (cl_ HB hwz6), (cl_ HB hwz5), (cl_ HB hwz4), (cl_ HB hwz9), (cl_ HB hwz8), (cl_ HB hwz7)⟩ (fun hHeld => ?_)
      clear hK K
      refine nm_ 37 ?_
      refine pv_ HT_ 6 ?_
      refine pv_ HT_ 7 ?_
      refine pv_ HT_ 8 ?_
      refine pv_ HT_ 9 ?_
      refine pv_ HT_ 10 ?_
      refine pv_ HT_ 11 ?_
      refine pv_ HT_ 13 ?_
      refine pv_ HT_ 14 ?_
      refine pv_ HT_ 18 ?_
      refine pv_ HT_ 20 ?_
      refine tv_ HT_ HW_ hHeld 12 ?_
      refine pv_ HT_ 15 ?_
      refine pv_ HT_ 16 ?_
      refine tv_ HT_ HW_ hHeld 17 ?_
      refine tv_ HT_ HW_ hHeld 19 ?_
      refine pv_ HT_ 21 ?_
      refine pv_ HT_ 22 ?_
      refine tv_ HT_ HW_ hHeld 23 ?_
      refine pv_ HT_ 24 ?_
      refine pv_ HT_ 25 ?_
      refine pv_ HT_ 26 ?_
      refine done_ (done_of HT_.out (by kernel_rfl)) ?_
      try go_wp2
      go_roundg kz1
      case measure => have := HJz1.out; have := HKz1.out; omega
      case rel => exact ⟨(wrap64 (xz2 + 1)), rs_, H', ⟨by have := HJz1.out; have := HKz1.out; omega⟩, ⟨bk_⟩, ⟨be_⟩⟩
     rw [if_neg cz5] at H
     have cz6 : decide (xz2 < (lz3.length : Int)) = false := decide_eq_false cz5
     clear cz5
     have H' := Aside0.mk H
     clear H
     have hczz1 : wr.cell? ⟨gbz1, 0, none⟩ = some (.slice Az1 lz1.length cz1) := bc_ BKz1 0
     have hczz2 : wr.cell? ⟨gbz1, 1, none⟩ = some (.slice Az2 lz2.length cz2) := bc_ BKz1 1
     have hczz3 : wr.cell? ⟨gbz1, 2, none⟩ = some (.slice Az3 lz3.length cz3) := bc_ BKz1 2
     have hfzz1 := blk_frozen BKz1.out 0
     have hfzz2 := blk_frozen BKz1.out 1
     have hfzz3 := blk_frozen BKz1.out 2
     go_wp2
     go_loopg [6] kz1 (fun kq v6 w' => ∃ (x6_3 : Int), v6 = .int .i64 x6_3 ∧ Aside0 (spec_l8Ok.l1 kq az1 x6_3 lz1 lz2 lz3 = some r) ∧ Aside0 (kq ≤ kz1) ∧ Aside0 (w'.heap[gbz1]? = some (.cells #[(.slice Az1 lz1.length cz1), (.slice Az2 lz2.length cz2), (.slice Az3 lz3.length cz3)] 33 (0, 0))) ∧ Aside0 (Below w.heap.size w w'))
     case atStart => exact ⟨(0), rs_, H', ⟨Nat.le_refl _⟩, ⟨bk_⟩, ⟨be_⟩⟩
     case round =>
      clear H'
      obtain ⟨xz3, rfl, HA, HKz2, BKz1, HB⟩ := hrel
      cases gk with
      | zero => exact absurd HA.out (by simp [spec_l8Ok.l1])
      | succ kz2 =>
       have H := HA.out
       clear HA
       simp only [spec_l8Ok.l1] at H
       by_cases cz7 : xz3 < (lz1.length : Int)
       rotate_left
       ·rw [if_neg cz7] at H
        have cz8 : decide (xz3 < (lz1.length : Int)) = false := decide_eq_false cz7
        clear cz7
        obtain rfl := Option.some.inj H
        have hczz4 : wr.cell? ⟨gbz1, 0, none⟩ = some (.slice Az1 lz1.length cz1) := bc_ BKz1 0
        have hczz5 : wr.cell? ⟨gbz1, 1, none⟩ = some (.slice Az2 lz2.length cz2) := bc_ BKz1 1
        have hczz6 : wr.cell? ⟨gbz1, 2, none⟩ = some (.slice Az3 lz3.length cz3) := bc_ BKz1 2
        have hfzz4 := blk_frozen BKz1.out 0
        have hfzz5 := blk_frozen BKz1.out 1
        have hfzz6 := blk_frozen BKz1.out 2
        go_wp2
        go_ret
        exact ⟨er_, be_⟩
       rw [if_pos cz7] at H
       have cz8 : decide (xz3 < (lz1.length : Int)) = true := decide_eq_true cz7
       clear cz7
       by_cases cz9 : 0 ≤ xz3
       rotate_left
       ·rw [if_neg cz9] at H
        exact absurd H (by simp)
       rw [if_pos cz9] at H
       have cz10 : decide (0 ≤ xz3) = true := decide_eq_true cz9
       clear cz9
       by_cases cz11 : xz3 < (lz2.length : Int)
       rotate_left
       ·rw [if_neg cz11] at H
        exact absurd H (by simp)
       rw [if_pos cz11] at H
       have cz12 : decide (xz3 < (lz2.length : Int)) = true := decide_eq_true cz11
       clear cz11
       replace H := bo_ H
       obtain ⟨tz1, Az5, H⟩ := H
       (try dsimp only at H)
       by_cases cz13 : tz1 = true
       rotate_left
       ·replace cz13 := Bool.eq_false_iff.mpr cz13
        subst cz13
        replace H := bf_ H
        obtain rfl := Option.some.inj H
        have hczz4 : wr.cell? ⟨gbz1, 0, none⟩ = some (.slice Az1 lz1.length cz1) := bc_ BKz1 0
        have hczz5 : wr.cell? ⟨gbz1, 1, none⟩ = some (.slice Az2 lz2.length cz2) := bc_ BKz1 1
        have hczz6 : wr.cell? ⟨gbz1, 2, none⟩ = some (.slice Az3 lz3.length cz3) := bc_ BKz1 2
        have hfzz4 := blk_frozen BKz1.out 0
        have hfzz5 := blk_frozen BKz1.out 1
        have hfzz6 := blk_frozen BKz1.out 2
        obtain ⟨pz1, qz1, adz1, Az6, cz14, Az7, cz15, Az8, cz16, ez1, hxz1, hxz2, hxz3, hlz1, hiz1, hlz2, hiz2, hlz3, hiz3⟩ := aa_ (at_T33 HRz2.out xz3)
        cases ez1
        replace hxz1 := cl_ HB hxz1
        replace hxz2 := cl_ HB hxz2
        replace hxz3 := cl_ HB hxz3
        have HRz4 := Aside0.mk hiz1
        have HCz5 := Aside0.mk hlz1
        clear hiz1 hlz1
        have HRz5 := Aside0.mk hiz2
        have HCz6 := Aside0.mk hlz2
        clear hiz2 hlz2
        have HRz6 := Aside0.mk hiz3
        have HCz7 := Aside0.mk hlz3
        clear hiz3 hlz3
        try go_wp2_with (first | ((with_reducible refine gate_dst (N := 7) rfl ?_); (try (refine gate_guard (by rfl) ?_; dsimp only)); refine box_event ?hg (N := 7) ?hd (cs := #[.slice none 0 0, .slice none 0 0, .slice none 0 0]) (t := 33) ?hr ?_; (case hd => rfl); (case hg => rfl); (case hr => first | (go_simp; done) | (go_simp; rfl)); intro gbz2 hg wz2 hbox hb; have BKz2 := Aside0.mk (hbox); have GWz2 := Aside0.mk ((sz_ : w.heap.size ≤ gbz2)); have GEz2 := Aside0.mk ((sz_ : w.heap.size ≤ gbz2)); replace HB := bw_ hb; have NBz1 := Aside0.mk ((by rw [hg]; exact Nat.ne_of_lt (blk_lt (g := gbz1) (o := .cells #[.slice Az1 lz1.length cz1, .slice (some adz1) lz2.length cz2, .slice Az3 lz3.length cz3] 33 (0, 0)) bk_) : gbz1 ≠ gbz2)); have NBz2 := Aside0.mk ((by rw [hg]; exact Nat.ne_of_gt (blk_lt (g := gbz1) (o := .cells #[.slice Az1 lz1.length cz1, .slice (some adz1) lz2.length cz2, .slice Az3 lz3.length cz3] 33 (0, 0)) bk_) : gbz2 ≠ gbz1)); replace BKz1 := kb_ BKz1 hb; clear hb hbox hg; have hnbz1 := NBz2.out; have hncz1 := NBz1.out; have hczz7 : wz2.cell? ⟨gbz2, 0, none⟩ = some (.slice none 0 0) := bc_ BKz2 0; have hczz8 : wz2.cell? ⟨gbz2, 1, none⟩ = some (.slice none 0 0) := bc_ BKz2 1; have hczz9 : wz2.cell? ⟨gbz2, 2, none⟩ = some (.slice none 0 0) := bc_ BKz2 2; have hfzz7 := blk_frozen BKz2.out 0; have hfzz8 := blk_frozen BKz2.out 1; have hfzz9 := blk_frozen BKz2.out 2))
        have nz1 : Aside0 ((((wz2.setCell ⟨gbz2, 0, none⟩ (.slice Az6 ((rd_T33 lz2 xz3).f0).length cz14)).setCell ⟨gbz2, 1, none⟩ (.slice Az7 ((rd_T33 lz2 xz3).f1).length cz15)).setCell ⟨gbz2, 2, none⟩ (.slice Az8 ((rd_T33 lz2 xz3).f2).length cz16)).heap[gbz1]? = some (.cells #[.slice Az1 lz1.length cz1, .slice (some adz1) lz2.length cz2, .slice Az3 lz3.length cz3] 33 (0, 0))) := ⟨by (with_reducible repeat (first | refine blk_drewN ?_ _ | refine blk_drew ?_ | refine blk_alloc ?_ _)); refine blk_far ?_ NBz1.out _; (with_reducible repeat (first | refine blk_drewN ?_ _ | refine blk_drew ?_ | refine blk_alloc ?_ _)); refine blk_far ?_ NBz1.out _; (with_reducible repeat (first | refine blk_drewN ?_ _ | refine blk_drew ?_ | refine blk_alloc ?_ _)); refine blk_far ?_ NBz1.out _; (with_reducible repeat (first | refine blk_drewN ?_ _ | refine blk_drew ?_ | refine blk_alloc ?_ _)); exact BKz1.out⟩
        have nz2 : Aside0 ((((wz2.setCell ⟨gbz2, 0, none⟩ (.slice Az6 ((rd_T33 lz2 xz3).f0).length cz14)).setCell ⟨gbz2, 1, none⟩ (.slice Az7 ((rd_T33 lz2 xz3).f1).length cz15)).setCell ⟨gbz2, 2, none⟩ (.slice Az8 ((rd_T33 lz2 xz3).f2).length cz16)).heap[gbz2]? = some (.cells #[.slice Az6 ((rd_T33 lz2 xz3).f0).length cz14, .slice Az7 ((rd_T33 lz2 xz3).f1).length cz15, .slice Az8 ((rd_T33 lz2 xz3).f2).length cz16] 33 (0, 0))) := ⟨by (with_reducible repeat (first | refine blk_drewN ?_ _ | refine blk_drew ?_ | refine blk_alloc ?_ _)); refine blk_put (cs := #[.slice Az6 ((rd_T33 lz2 xz3).f0).length cz14, .slice Az7 ((rd_T33 lz2 xz3).f1).length cz15, .slice none 0 0]) ?_ 2 _ rfl; (with_reducible repeat (first | refine blk_drewN ?_ _ | refine blk_drew ?_ | refine blk_alloc ?_ _)); refine blk_put (cs := #[.slice Az6 ((rd_T33 lz2 xz3).f0).length cz14, .slice none 0 0, .slice none 0 0]) ?_ 1 _ rfl; (with_reducible repeat (first | refine blk_drewN ?_ _ | refine blk_drew ?_ | refine blk_alloc ?_ _)); refine blk_put (cs := #[.slice none 0 0, .slice none 0 0, .slice none 0 0]) ?_ 0 _ rfl; (with_reducible repeat (first | refine blk_drewN ?_ _ | refine blk_drew ?_ | refine blk_alloc ?_ _)); exact BKz2.out⟩
        have nz3 : Aside0 (Below w.heap.size w (((wz2.setCell ⟨gbz2, 0, none⟩ (.slice Az6 ((rd_T33 lz2 xz3).f0).length cz14)).setCell ⟨gbz2, 1, none⟩ (.slice Az7 ((rd_T33 lz2 xz3).f1).length cz15)).setCell ⟨gbz2, 2, none⟩ (.slice Az8 ((rd_T33 lz2 xz3).f2).length cz16))) := ⟨be_⟩
        generalize (((wz2.setCell ⟨gbz2, 0, none⟩ (.slice Az6 ((rd_T33 lz2 xz3).f0).length cz14)).setCell ⟨gbz2, 1, none⟩ (.slice Az7 ((rd_T33 lz2 xz3).f1).length cz15)).setCell ⟨gbz2, 2, none⟩ (.slice Az8 ((rd_T33 lz2 xz3).f2).length cz16)) = wz3 at nz1 nz2 nz3 ⊢
        have BKz1 := nz1
        have BKz2 := nz2
        have HB := nz3
        clear nz1 nz2 nz3
        replace BKz1 := Aside0.mk (blk_drew BKz1.out)
        replace BKz2 := Aside0.mk (blk_drew BKz2.out)
        replace HB := Aside0.mk (below_drew1 HB.out)
        have pz2 : 0 ≤ (xz3 : Int) := dt_
        have qz2 : xz3 < (lz1.length : Int) := dt_
        obtain ⟨adz2, ez2, hxz4⟩ := Kd.at_string HRz1.out xz3 pz2 qz2
        have hwz1 := hxz4
        cases ez2
        replace hxz4 := cl_ HB hxz4
        replace pz2 := eq_true pz2
        replace qz2 := eq_true qz2
        refine start_ (n := 58) (S := fun w' => w'.cell? ⟨gbz1, 0, none⟩ = some (.slice (some adz2) lz1.length cz1) ∧ w'.cell? ⟨gbz1, 1, none⟩ = some (.slice (some adz1) lz2.length cz2) ∧ w'.cell? ⟨gbz1, 2, none⟩ = some (.slice Az3 lz3.length cz3) ∧ w'.cell? (adz2.add (xz3).toNat) = some (.string (rdOf ByteArray.empty lz1 xz3))) (ds := []) (bs_ 58 0) (by kernel_rfl) rfl (by kernel_rfl) ⟨bc_ BKz1 0, bc_ BKz1 1, bc_ BKz1 2, (cl_ HB hwz1)⟩ (fun hHeld => ?_); refine with_tabW spec_l8Ok.tab12 spec_l8Ok.bits12 (fun HT_ HW_ => ?_)
        generalize wz3.drew = wz4 at BKz1 BKz2 HB hxz4 hHeld ⊢
        refine pv_ HT_ 0 ?_
        refine pv_ HT_ 2 ?_
        refine tv_ HT_ HW_ hHeld 1 ?_
        refine pv_ HT_ 3 ?_
        refine tv_ HT_ HW_ hHeld 4 ?_
        refine ov_ HT_ 5 (fun K hK => ?_)
        refine goes_ Tryd.func66 (by kernel_rfl) rfl #[.string (rdOf ByteArray.empty lz1 xz3)] (by rfl) rfl rfl ar_ ?_
        with_reducible refine (spec_l8Level.calls kz2 (rdOf ByteArray.empty lz1 xz3) false _ Az5.out).mono ?_
        rintro e wz5 ⟨rfl, hb⟩
        refine ⟨_, rfl, ?_⟩
        have nz1 := Aside0.mk (blk_below (g := gbz1) (o := .cells #[.slice (some adz2) lz1.length cz1, .slice (some adz1) lz2.length cz2, .slice Az3 lz3.length cz3] 33 (0, 0)) bk_ hb)
        have nz2 := Aside0.mk (blk_below (g := gbz2) (o := .cells #[.slice Az6 ((rd_T33 lz2 xz3).f0).length cz14, .slice Az7 ((rd_T33 lz2 xz3).f1).length cz15, .slice Az8 ((rd_T33 lz2 xz3).f2).length cz16] 33 (0, 0)) bk_ hb)
        have nz3 := bw_ hb
        clear BKz1 BKz2 HB
        have BKz1 := nz1
        have BKz2 := nz2
        have HB := nz3
        clear nz1 nz2 nz3 hb
        refine hK.out _ _ ⟨bc_ BKz1 0, bc_ BKz1 1, bc_ BKz1 2, (cl_ HB hwz1)⟩ (fun hHeld => ?_)
        clear hK K
        refine nm_ 76 ?_
        refine pv_ HT_ 6 ?_
        refine pv_ HT_ 7 ?_
        refine uv_ HT_ 8 ?_
        refine uv_ HT_ 9 ?_
        refine uv_ HT_ 10 ?_
        refine uv_ HT_ 11 ?_
        refine uv_ HT_ 12 ?_
        refine uv_ HT_ 13 ?_
        refine uv_ HT_ 14 ?_
        refine uv_ HT_ 15 ?_
        refine uv_ HT_ 16 ?_
        refine uv_ HT_ 17 ?_
        refine uv_ HT_ 18 ?_
        refine uv_ HT_ 19 ?_
        refine uv_ HT_ 20 ?_
        refine uv_ HT_ 21 ?_
        refine uv_ HT_ 22 ?_
        refine uv_ HT_ 23 ?_
        refine pv_ HT_ 24 ?_
        refine pv_ HT_ 25 ?_
        refine uv_ HT_ 26 ?_
        refine uv_ HT_ 27 ?_
        refine uv_ HT_ 28 ?_
        refine uv_ HT_ 29 ?_
        refine uv_ HT_ 30 ?_
        refine uv_ HT_ 31 ?_
        refine uv_ HT_ 32 ?_
        refine uv_ HT_ 33 ?_
        refine uv_ HT_ 34 ?_
        refine uv_ HT_ 35 ?_
        refine pv_ HT_ 36 ?_
        refine pv_ HT_ 37 ?_
        refine uv_ HT_ 38 ?_
        refine uv_ HT_ 39 ?_
        refine uv_ HT_ 40 ?_
        refine uv_ HT_ 41 ?_
        refine uv_ HT_ 42 ?_
        refine uv_ HT_ 43 ?_
        refine uv_ HT_ 44 ?_
        refine uv_ HT_ 45 ?_
        refine uv_ HT_ 46 ?_
        refine uv_ HT_ 47 ?_
        refine uv_ HT_ 48 ?_
        refine uv_ HT_ 49 ?_
        refine pv_ HT_ 50 ?_
        refine pv_ HT_ 51 ?_
        refine uv_ HT_ 52 ?_
        refine uv_ HT_ 53 ?_
        refine uv_ HT_ 54 ?_
        refine uv_ HT_ 55 ?_
        refine uv_ HT_ 56 ?_
        refine pv_ HT_ 57 ?_
        refine done_ (done_of HT_.out (by kernel_rfl)) ?_
        try go_wp2
        go_ret
        exact ⟨er_, be_⟩
       subst cz13
       replace H := bt_ H
       by_cases cz14 : xz3 > 0
       rotate_left
       ·rw [if_neg cz14] at H
        have cz15 : decide (0 < xz3) = false := decide_eq_false cz14
        clear cz14
        have HXz1 := Aside0.mk H
        clear H
        have hczz4 : wr.cell? ⟨gbz1, 0, none⟩ = some (.slice Az1 lz1.length cz1) := bc_ BKz1 0
        have hczz5 : wr.cell? ⟨gbz1, 1, none⟩ = some (.slice Az2 lz2.length cz2) := bc_ BKz1 1
        have hczz6 : wr.cell? ⟨gbz1, 2, none⟩ = some (.slice Az3 lz3.length cz3) := bc_ BKz1 2
        have hfzz4 := blk_frozen BKz1.out 0
        have hfzz5 := blk_frozen BKz1.out 1
        have hfzz6 := blk_frozen BKz1.out 2
        obtain ⟨pz1, qz1, adz1, Az6, cz16, Az7, cz17, Az8, cz18, ez1, hxz1, hxz2, hxz3, hlz1, hiz1, hlz2, hiz2, hlz3, hiz3⟩ := aa_ (at_T33 HRz2.out xz3)
        cases ez1
        replace hxz1 := cl_ HB hxz1
        replace hxz2 := cl_ HB hxz2
        replace hxz3 := cl_ HB hxz3
        have HRz4 := Aside0.mk hiz1
        have HCz5 := Aside0.mk hlz1
        clear hiz1 hlz1
        have HRz5 := Aside0.mk hiz2
        have HCz6 := Aside0.mk hlz2
        clear hiz2 hlz2
        have HRz6 := Aside0.mk hiz3
        have HCz7 := Aside0.mk hlz3
        clear hiz3 hlz3
        try go_wp2_with (first | ((with_reducible refine gate_dst (N := 7) rfl ?_); (try (refine gate_guard (by rfl) ?_; dsimp only)); refine box_event ?hg (N := 7) ?hd (cs := #[.slice none 0 0, .slice none 0 0, .slice none 0 0]) (t := 33) ?hr ?_; (case hd => rfl); (case hg => rfl); (case hr => first | (go_simp; done) | (go_simp; rfl)); intro gbz2 hg wz2 hbox hb; have BKz2 := Aside0.mk (hbox); have GWz2 := Aside0.mk ((sz_ : w.heap.size ≤ gbz2)); have GEz2 := Aside0.mk ((sz_ : w.heap.size ≤ gbz2)); replace HB := bw_ hb; have NBz1 := Aside0.mk ((by rw [hg]; exact Nat.ne_of_lt (blk_lt (g := gbz1) (o := .cells #[.slice Az1 lz1.length cz1, .slice (some adz1) lz2.length cz2, .slice Az3 lz3.length cz3] 33 (0, 0)) bk_) : gbz1 ≠ gbz2)); have NBz2 := Aside0.mk ((by rw [hg]; exact Nat.ne_of_gt (blk_lt (g := gbz1) (o := .cells #[.slice Az1 lz1.length cz1, .slice (some adz1) lz2.length cz2, .slice Az3 lz3.length cz3] 33 (0, 0)) bk_) : gbz2 ≠ gbz1)); replace BKz1 := kb_ BKz1 hb; clear hb hbox hg; have hnbz1 := NBz2.out; have hncz1 := NBz1.out; have hczz7 : wz2.cell? ⟨gbz2, 0, none⟩ = some (.slice none 0 0) := bc_ BKz2 0; have hczz8 : wz2.cell? ⟨gbz2, 1, none⟩ = some (.slice none 0 0) := bc_ BKz2 1; have hczz9 : wz2.cell? ⟨gbz2, 2, none⟩ = some (.slice none 0 0) := bc_ BKz2 2; have hfzz7 := blk_frozen BKz2.out 0; have hfzz8 := blk_frozen BKz2.out 1; have hfzz9 := blk_frozen BKz2.out 2))
        have nz1 : Aside0 ((((wz2.setCell ⟨gbz2, 0, none⟩ (.slice Az6 ((rd_T33 lz2 xz3).f0).length cz16)).setCell ⟨gbz2, 1, none⟩ (.slice Az7 ((rd_T33 lz2 xz3).f1).length cz17)).setCell ⟨gbz2, 2, none⟩ (.slice Az8 ((rd_T33 lz2 xz3).f2).length cz18)).heap[gbz1]? = some (.cells #[.slice Az1 lz1.length cz1, .slice (some adz1) lz2.length cz2, .slice Az3 lz3.length cz3] 33 (0, 0))) := ⟨by (with_reducible repeat (first | refine blk_drewN ?_ _ | refine blk_drew ?_ | refine blk_alloc ?_ _)); refine blk_far ?_ NBz1.out _; (with_reducible repeat (first | refine blk_drewN ?_ _ | refine blk_drew ?_ | refine blk_alloc ?_ _)); refine blk_far ?_ NBz1.out _; (with_reducible repeat (first | refine blk_drewN ?_ _ | refine blk_drew ?_ | refine blk_alloc ?_ _)); refine blk_far ?_ NBz1.out _; (with_reducible repeat (first | refine blk_drewN ?_ _ | refine blk_drew ?_ | refine blk_alloc ?_ _)); exact BKz1.out⟩
        have nz2 : Aside0 ((((wz2.setCell ⟨gbz2, 0, none⟩ (.slice Az6 ((rd_T33 lz2 xz3).f0).length cz16)).setCell ⟨gbz2, 1, none⟩ (.slice Az7 ((rd_T33 lz2 xz3).f1).length cz17)).setCell ⟨gbz2, 2, none⟩ (.slice Az8 ((rd_T33 lz2 xz3).f2).length cz18)).heap[gbz2]? = some (.cells #[.slice Az6 ((rd_T33 lz2 xz3).f0).length cz16, .slice Az7 ((rd_T33 lz2 xz3).f1).length cz17, .slice Az8 ((rd_T33 lz2 xz3).f2).length cz18] 33 (0, 0))) := ⟨by (with_reducible repeat (first | refine blk_drewN ?_ _ | refine blk_drew ?_ | refine blk_alloc ?_ _)); refine blk_put (cs := #[.slice Az6 ((rd_T33 lz2 xz3).f0).length cz16, .slice Az7 ((rd_T33 lz2 xz3).f1).length cz17, .slice none 0 0]) ?_ 2 _ rfl; (with_reducible repeat (first | refine blk_drewN ?_ _ | refine blk_drew ?_ | refine blk_alloc ?_ _)); refine blk_put (cs := #[.slice Az6 ((rd_T33 lz2 xz3).f0).length cz16, .slice none 0 0, .slice none 0 0]) ?_ 1 _ rfl; (with_reducible repeat (first | refine blk_drewN ?_ _ | refine blk_drew ?_ | refine blk_alloc ?_ _)); refine blk_put (cs := #[.slice none 0 0, .slice none 0 0, .slice none 0 0]) ?_ 0 _ rfl; (with_reducible repeat (first | refine blk_drewN ?_ _ | refine blk_drew ?_ | refine blk_alloc ?_ _)); exact BKz2.out⟩
        have nz3 : Aside0 (Below w.heap.size w (((wz2.setCell ⟨gbz2, 0, none⟩ (.slice Az6 ((rd_T33 lz2 xz3).f0).length cz16)).setCell ⟨gbz2, 1, none⟩ (.slice Az7 ((rd_T33 lz2 xz3).f1).length cz17)).setCell ⟨gbz2, 2, none⟩ (.slice Az8 ((rd_T33 lz2 xz3).f2).length cz18))) := ⟨be_⟩
        generalize (((wz2.setCell ⟨gbz2, 0, none⟩ (.slice Az6 ((rd_T33 lz2 xz3).f0).length cz16)).setCell ⟨gbz2, 1, none⟩ (.slice Az7 ((rd_T33 lz2 xz3).f1).length cz17)).setCell ⟨gbz2, 2, none⟩ (.slice Az8 ((rd_T33 lz2 xz3).f2).length cz18)) = wz3 at nz1 nz2 nz3 ⊢
        have BKz1 := nz1
        have BKz2 := nz2
        have HB := nz3
        clear nz1 nz2 nz3
        replace BKz1 := Aside0.mk (blk_drew BKz1.out)
        replace BKz2 := Aside0.mk (blk_drew BKz2.out)
        replace HB := Aside0.mk (below_drew1 HB.out)
        have pz2 : 0 ≤ (xz3 : Int) := dt_
        have qz2 : xz3 < (lz1.length : Int) := dt_
        obtain ⟨adz2, ez2, hxz4⟩ := Kd.at_string HRz1.out xz3 pz2 qz2
        have hwz1 := hxz4
        cases ez2
        replace hxz4 := cl_ HB hxz4
        replace pz2 := eq_true pz2
        replace qz2 := eq_true qz2
        have pz3 : 0 ≤ (xz3 : Int) := dt_
        have qz3 : xz3 < (lz1.length : Int) := dt_
        obtain ⟨adz3, ez3, hxz5⟩ := Kd.at_string HRz1.out xz3 pz3 qz3
        have hwz2 := hxz5
        obtain rfl : adz2 = adz3 := (by injection ez3)
        replace hxz5 := cl_ HB hxz5
        replace pz3 := eq_true pz3
        replace qz3 := eq_true qz3
        refine start_ (n := 58) (S := fun w' => w'.cell? ⟨gbz1, 0, none⟩ = some (.slice (some adz2) lz1.length cz1) ∧ w'.cell? ⟨gbz1, 1, none⟩ = some (.slice (some adz1) lz2.length cz2) ∧ w'.cell? ⟨gbz1, 2, none⟩ = some (.slice Az3 lz3.length cz3) ∧ w'.cell? ⟨gbz2, 0, none⟩ = some (.slice Az6 ((rd_T33 lz2 xz3).f0).length cz16) ∧ w'.cell? ⟨gbz2, 1, none⟩ = some (.slice Az7 ((rd_T33 lz2 xz3).f1).length cz17) ∧ w'.cell? ⟨gbz2, 2, none⟩ = some (.slice Az8 ((rd_T33 lz2 xz3).f2).length cz18) ∧ w'.cell? (adz2.add (xz3).toNat) = some (.string (rdOf ByteArray.empty lz1 xz3)) ∧ w'.cell? (adz2.add (xz3).toNat) = some (.string (rdOf ByteArray.empty lz1 xz3))) (ds := []) (bs_ 58 0) (by kernel_rfl) rfl (by kernel_rfl) ⟨bc_ BKz1 0, bc_ BKz1 1, bc_ BKz1 2, bc_ BKz2 0, bc_ BKz2 1, bc_ BKz2 2, (cl_ HB hwz1), (cl_ HB hwz2)⟩ (fun hHeld => ?_); refine with_tabW spec_l8Ok.tab12 spec_l8Ok.bits12 (fun HT_ HW_ => ?_)
        generalize wz3.drew = wz4 at BKz1 BKz2 HB hxz4 hxz5 hHeld ⊢
        refine pv_ HT_ 0 ?_
        refine pv_ HT_ 2 ?_
        refine tv_ HT_ HW_ hHeld 1 ?_
        refine pv_ HT_ 3 ?_
        refine tv_ HT_ HW_ hHeld 4 ?_
        refine ov_ HT_ 5 (fun K hK => ?_)
        refine goes_ Tryd.func66 (by kernel_rfl) rfl #[.string (rdOf ByteArray.empty lz1 xz3)] (by rfl) rfl rfl ar_ ?_
        with_reducible refine (spec_l8Level.calls kz2 (rdOf ByteArray.empty lz1 xz3) true _ Az5.out).mono ?_
        rintro e wz5 ⟨rfl, hb⟩
        refine ⟨_, rfl, ?_⟩
        have nz1 := Aside0.mk (blk_below (g := gbz1) (o := .cells #[.slice (some adz2) lz1.length cz1, .slice (some adz1) lz2.length cz2, .slice Az3 lz3.length cz3] 33 (0, 0)) bk_ hb)
        have nz2 := Aside0.mk (blk_below (g := gbz2) (o := .cells #[.slice Az6 ((rd_T33 lz2 xz3).f0).length cz16, .slice Az7 ((rd_T33 lz2 xz3).f1).length cz17, .slice Az8 ((rd_T33 lz2 xz3).f2).length cz18] 33 (0, 0)) bk_ hb)
        have nz3 := bw_ hb
        clear BKz1 BKz2 HB
        have BKz1 := nz1
        have BKz2 := nz2
        have HB := nz3
        clear nz1 nz2 nz3 hb
        refine hK.out _ _ ⟨bc_ BKz1 0, bc_ BKz1 1, bc_ BKz1 2, bc_ BKz2 0, bc_ BKz2 1, bc_ BKz2 2, (cl_ HB hwz1), (cl_ HB hwz2)⟩ (fun hHeld => ?_)
        clear hK K
        refine nm_ 76 ?_
        refine pv_ HT_ 6 ?_
        refine pv_ HT_ 7 ?_
        refine pv_ HT_ 8 ?_
        refine pv_ HT_ 9 ?_
        refine pv_ HT_ 10 ?_
        refine uv_ HT_ 11 ?_
        refine uv_ HT_ 12 ?_
        refine uv_ HT_ 13 ?_
        refine uv_ HT_ 14 ?_
        refine uv_ HT_ 15 ?_
        refine uv_ HT_ 16 ?_
        refine uv_ HT_ 17 ?_
        refine uv_ HT_ 18 ?_
        refine uv_ HT_ 19 ?_
        refine uv_ HT_ 20 ?_
        refine uv_ HT_ 21 ?_
        refine uv_ HT_ 22 ?_
        refine pv_ HT_ 23 ?_
        refine pv_ HT_ 24 ?_
        refine pv_ HT_ 25 ?_
        refine pv_ HT_ 26 ?_
        refine tv_ HT_ HW_ hHeld 27 ?_
        refine pv_ HT_ 28 ?_
        refine pv_ HT_ 29 ?_
        refine pv_ HT_ 30 ?_
        have H := HXz1.out
        clear HXz1
        by_cases cz19 : (((rd_T33 lz2 xz3).f0).length : Int) = 0
        rotate_left
        ·rw [if_neg cz19] at H
         have cz20 : ((((rd_T33 lz2 xz3).f0).length : Int) == 0) = false := beq_eq_false_iff_ne.mpr cz19
         have cz21 : ((((rd_T33 lz2 xz3).f0).length : Int) != 0) = true := bne_iff_ne.mpr cz19
         have cz22 : ¬ (((rd_T33 lz2 xz3).f0) = []) := fun h_ => cz19 (by rw [h_]; rfl)
         (try simp only [cz20, cz21, cz22])
         have HXz2 := Aside0.mk H
         clear H
         refine uv_ HT_ 31 ?_
         refine uv_ HT_ 32 ?_
         refine uv_ HT_ 33 ?_
         refine uv_ HT_ 34 ?_
         refine pv_ HT_ 35 ?_
         refine pv_ HT_ 36 ?_
         refine pv_ HT_ 37 ?_
         refine pv_ HT_ 38 ?_
         refine pv_ HT_ 40 ?_
         refine tv_ HT_ HW_ hHeld 39 ?_
         refine pv_ HT_ 41 ?_
         refine tv_ HT_ HW_ hHeld 42 ?_
         refine pv_ HT_ 43 ?_
         refine pv_ HT_ 44 ?_
         have H := HXz2.out
         clear HXz2
         by_cases cz23 : (rdOf ByteArray.empty lz1 xz3).toList = ([35] : List UInt8)
         rotate_left
         ·rw [if_neg cz23] at H
          have cz24 : ((rdOf ByteArray.empty lz1 xz3).toList == ([35] : List UInt8)) = false := beq_eq_false_iff_ne.mpr cz23
          have cz25 : ((rdOf ByteArray.empty lz1 xz3).toList != ([35] : List UInt8)) = true := bne_iff_ne.mpr cz23
          replace H := bo_ H
          obtain ⟨tz2, Az10, H⟩ := H
          (try dsimp only at H)
          (try simp only [cz24, cz25])
          have HXz3 := Aside0.mk H
          clear H
          refine uv_ HT_ 45 ?_
          refine uv_ HT_ 46 ?_
          refine uv_ HT_ 47 ?_
          refine uv_ HT_ 48 ?_
          refine pv_ HT_ 49 ?_
          refine pv_ HT_ 50 ?_
          refine pv_ HT_ 51 ?_
          refine pv_ HT_ 53 ?_
          refine pv_ HT_ 54 ?_
          refine tv_ HT_ HW_ hHeld 52 ?_
          refine ov_ HT_ 55 (fun K hK => ?_)
          refine goes_ Tryd.func52 (by kernel_rfl) rfl #[.agg #[.slice Az6 ((rd_T33 lz2 xz3).f0).length cz16, .slice Az7 ((rd_T33 lz2 xz3).f1).length cz17, .slice Az8 ((rd_T33 lz2 xz3).f2).length cz18], .int .i64 (wrap64 (az1 + 1))] (by rfl) rfl rfl ar_ ?_
          have H := HXz3.out
          clear HXz3
          by_cases cz26 : tz2 = true
          rotate_left
          ·replace cz26 := Bool.eq_false_iff.mpr cz26
           subst cz26
           exact spec_l8Ok_z0
          subst cz26
          exact spec_l8Ok_z6
         rw [if_pos cz23] at H
         have cz24 : ((rdOf ByteArray.empty lz1 xz3).toList == ([35] : List UInt8)) = true := beq_iff_eq.mpr cz23
         have cz25 : ((rdOf ByteArray.empty lz1 xz3).toList != ([35] : List UInt8)) = false := bne_eq_false_iff_eq.mpr cz23
         clear cz23
         (try simp only [cz24, cz25])
         have HXz3 := Aside0.mk H
         clear H
         refine pv_ HT_ 45 ?_
         refine tv_ HT_ HW_ hHeld 46 ?_
         refine pv_ HT_ 47 ?_
         refine pv_ HT_ 48 ?_
         refine pv_ HT_ 49 ?_
         refine pv_ HT_ 50 ?_
         refine pv_ HT_ 51 ?_
         have H := HXz3.out
         clear HXz3
         by_cases cz26 : (((rd_T33 lz2 xz3).f0).length : Int) > 0
         ·rw [if_pos cz26] at H
          have cz27 : decide (0 < (((rd_T33 lz2 xz3).f0).length : Int)) = true := decide_eq_true cz26
          have cz28 : decide (0 < ((rd_T33 lz2 xz3).f0).length) = true := decide_eq_true (by omega)
          clear cz26
          obtain rfl := Option.some.inj H
          (try simp only [cz27, cz28])
          exact spec_l8Ok_z13
         rw [if_neg cz26] at H
         have cz27 : decide (0 < (((rd_T33 lz2 xz3).f0).length : Int)) = false := decide_eq_false cz26
         have cz28 : decide (0 < ((rd_T33 lz2 xz3).f0).length) = false := decide_eq_false (by omega)
         clear cz26
         replace H := bo_ H
         obtain ⟨tz2, Az10, H⟩ := H
         (try dsimp only at H)
         (try simp only [cz27, cz28])
         have HXz4 := Aside0.mk H
         clear H
         exact spec_l8Ok_z17
        rw [if_pos cz19] at H
        have cz20 : ((((rd_T33 lz2 xz3).f0).length : Int) == 0) = true := beq_iff_eq.mpr cz19
        have cz21 : ((((rd_T33 lz2 xz3).f0).length : Int) != 0) = false := bne_eq_false_iff_eq.mpr cz19
        clear cz19
        (try simp only [cz20, cz21])
        have HXz2 := Aside0.mk H
        clear H
        refine pv_ HT_ 31 ?_
        refine tv_ HT_ HW_ hHeld 32 ?_
        refine pv_ HT_ 33 ?_
        refine pv_ HT_ 34 ?_
        refine pv_ HT_ 35 ?_
        refine pv_ HT_ 36 ?_
        refine pv_ HT_ 37 ?_
        have H := HXz2.out
        clear HXz2
        by_cases cz22 : (((rd_T33 lz2 xz3).f2).length : Int) = 0
        ·rw [if_pos cz22] at H
         have cz23 : ((((rd_T33 lz2 xz3).f2).length : Int) == 0) = true := beq_iff_eq.mpr cz22
         have cz24 : ((((rd_T33 lz2 xz3).f2).length : Int) != 0) = false := bne_eq_false_iff_eq.mpr cz22
         clear cz22
         obtain rfl := Option.some.inj H
         (try simp only [cz23, cz24])
         refine uv_ HT_ 38 ?_
         refine uv_ HT_ 39 ?_
         refine uv_ HT_ 40 ?_
         refine uv_ HT_ 41 ?_
         refine uv_ HT_ 42 ?_
         refine uv_ HT_ 43 ?_
         refine uv_ HT_ 44 ?_
         refine uv_ HT_ 45 ?_
         refine uv_ HT_ 46 ?_
         refine uv_ HT_ 47 ?_
         refine uv_ HT_ 48 ?_
         refine uv_ HT_ 49 ?_
         refine pv_ HT_ 50 ?_
         refine pv_ HT_ 51 ?_
         exact spec_l8Ok_z13
        rw [if_neg cz22] at H
        have cz23 : ((((rd_T33 lz2 xz3).f2).length : Int) == 0) = false := beq_eq_false_iff_ne.mpr cz22
        have cz24 : ((((rd_T33 lz2 xz3).f2).length : Int) != 0) = true := bne_iff_ne.mpr cz22
        have cz25 : ¬ (((rd_T33 lz2 xz3).f2) = []) := fun h_ => cz22 (by rw [h_]; rfl)
        (try simp only [cz23, cz24, cz25])
        have HXz3 := Aside0.mk H
        clear H
        refine pv_ HT_ 38 ?_
        refine pv_ HT_ 40 ?_
        refine tv_ HT_ HW_ hHeld 39 ?_
        refine pv_ HT_ 41 ?_
        refine tv_ HT_ HW_ hHeld 42 ?_
        refine pv_ HT_ 43 ?_
        refine pv_ HT_ 44 ?_
        have H := HXz3.out
        clear HXz3
        by_cases cz26 : (rdOf ByteArray.empty lz1 xz3).toList = ([35] : List UInt8)
        rotate_left
        ·rw [if_neg cz26] at H
         have cz27 : ((rdOf ByteArray.empty lz1 xz3).toList == ([35] : List UInt8)) = false := beq_eq_false_iff_ne.mpr cz26
         have cz28 : ((rdOf ByteArray.empty lz1 xz3).toList != ([35] : List UInt8)) = true := bne_iff_ne.mpr cz26
         replace H := bo_ H
         obtain ⟨tz2, Az10, H⟩ := H
         (try dsimp only at H)
         (try simp only [cz27, cz28])
         have HXz4 := Aside0.mk H
         clear H
         refine uv_ HT_ 45 ?_
         refine uv_ HT_ 46 ?_
         refine uv_ HT_ 47 ?_
         refine uv_ HT_ 48 ?_
         refine pv_ HT_ 49 ?_
         refine pv_ HT_ 50 ?_
         refine pv_ HT_ 51 ?_
         exact spec_l8Ok_z17
        rw [if_pos cz26] at H
        have cz27 : ((rdOf ByteArray.empty lz1 xz3).toList == ([35] : List UInt8)) = true := beq_iff_eq.mpr cz26
        have cz28 : ((rdOf ByteArray.empty lz1 xz3).toList != ([35] : List UInt8)) = false := bne_eq_false_iff_eq.mpr cz26
        clear cz26
        (try simp only [cz27, cz28])
        have HXz4 := Aside0.mk H
        clear H
        refine pv_ HT_ 45 ?_
        refine tv_ HT_ HW_ hHeld 46 ?_
        refine pv_ HT_ 47 ?_
        refine pv_ HT_ 48 ?_
        refine pv_ HT_ 49 ?_
        refine pv_ HT_ 50 ?_
        refine pv_ HT_ 51 ?_
        have H := HXz4.out
        clear HXz4
        by_cases cz29 : (((rd_T33 lz2 xz3).f0).length : Int) > 0
        ·rw [if_pos cz29] at H
         have cz30 : decide (0 < (((rd_T33 lz2 xz3).f0).length : Int)) = true := decide_eq_true cz29
         have cz31 : decide (0 < ((rd_T33 lz2 xz3).f0).length) = true := decide_eq_true (by omega)
         clear cz29
         obtain rfl := Option.some.inj H
         (try simp only [cz30, cz31])
         exact spec_l8Ok_z13
        rw [if_neg cz29] at H
        have cz30 : decide (0 < (((rd_T33 lz2 xz3).f0).length : Int)) = false := decide_eq_false cz29
        have cz31 : decide (0 < ((rd_T33 lz2 xz3).f0).length) = false := decide_eq_false (by omega)
        clear cz29
        replace H := bo_ H
        obtain ⟨tz2, Az10, H⟩ := H
        (try dsimp only at H)
        (try simp only [cz30, cz31])
        have HXz5 := Aside0.mk H
        clear H
        refine pv_ HT_ 53 ?_
        refine pv_ HT_ 54 ?_
        refine tv_ HT_ HW_ hHeld 52 ?_
        refine ov_ HT_ 55 (fun K hK => ?_)
        refine goes_ Tryd.func52 (by kernel_rfl) rfl #[.agg #[.slice Az6 ((rd_T33 lz2 xz3).f0).length cz16, .slice Az7 ((rd_T33 lz2 xz3).f1).length cz17, .slice Az8 ((rd_T33 lz2 xz3).f2).length cz18], .int .i64 (wrap64 (az1 + 1))] (by rfl) rfl rfl ar_ ?_
        have H := HXz5.out
        clear HXz5
        by_cases cz32 : tz2 = true
        rotate_left
        ·replace cz32 := Bool.eq_false_iff.mpr cz32
         subst cz32
         exact spec_l8Ok_z0
        subst cz32
        replace H := bt_ H
        have H' := Aside0.mk H
        clear H
        with_reducible refine (ih kz2 (by have := HJz1.out; have := HKz1.out; have := HKz2.out; omega) _ _ ((rd_T33 lz2 xz3).f0) _ _ ((rd_T33 lz2 xz3).f1) _ _ ((rd_T33 lz2 xz3).f2) (wrap64 (az1 + 1)) true _ ?side1 ?side2 ?side3 ?side4 ?side5 ?side6 Az10.out).mono ?_
        (case side1 => exact Kd.C_below HRz4.out be_)
        (case side2 => exact HCz5.out)
        (case side3 => exact Kd.C_below HRz5.out be_)
        (case side4 => exact HCz6.out)
        (case side5 => exact Kd.C_below HRz6.out be_)
        (case side6 => exact HCz7.out)
        rintro e wz6 ⟨rfl, hb⟩
        refine ⟨_, rfl, ?_⟩
        have nz1 := Aside0.mk (blk_below (g := gbz1) (o := .cells #[.slice (some adz2) lz1.length cz1, .slice (some adz1) lz2.length cz2, .slice Az3 lz3.length cz3] 33 (0, 0)) bk_ hb)
        have nz2 := Aside0.mk (blk_below (g := gbz2) (o := .cells #[.slice Az6 ((rd_T33 lz2 xz3).f0).length cz16, .slice Az7 ((rd_T33 lz2 xz3).f1).length cz17, .slice Az8 ((rd_T33 lz2 xz3).f2).length cz18] 33 (0, 0)) bk_ hb)
        have nz3 := bw_ hb
        clear BKz1 BKz2 HB
        have BKz1 := nz1
        have BKz2 := nz2
        have HB := nz3
        clear nz1 nz2 nz3 hb
        refine hK.out _ _ ⟨bc_ BKz1 0, bc_ BKz1 1, bc_ BKz1 2, bc_ BKz2 0, bc_ BKz2 1, bc_ BKz2 2, (cl_ HB hwz1), (cl_ HB hwz2)⟩ (fun hHeld => ?_)
        clear hK K
        refine nm_ 126 ?_
        refine pv_ HT_ 56 ?_
        refine pv_ HT_ 57 ?_
        refine done_ (done_of HT_.out (by kernel_rfl)) ?_
        try go_wp2
        go_roundg kz2
        case measure => have := HJz1.out; have := HKz1.out; have := HKz2.out; omega
        case rel => exact ⟨(wrap64 (xz3 + 1)), rs_, H', ⟨by have := HJz1.out; have := HKz1.out; have := HKz2.out; omega⟩, ⟨bk_⟩, ⟨be_⟩⟩
       rw [if_pos cz14] at H
       have cz15 : decide (0 < xz3) = true := decide_eq_true cz14
       clear cz14
       obtain ⟨jiz1, hjiz1⟩ : ∃ j_ : Int, (wrap64 (xz3 - 1)) = j_ := ⟨_, rfl⟩
       replace H : (if 0 ≤ (jiz1) then (if (jiz1) < (lz1.length : Int) then (if ((Op.bytesLess ((rdOf ByteArray.empty lz1 (jiz1)).toList) ((rdOf ByteArray.empty lz1 xz3).toList)) = true) then (if (((rd_T33 lz2 xz3).f0).length : Int) = 0 then (if (((rd_T33 lz2 xz3).f2).length : Int) = 0 then (some false) else (if (rdOf ByteArray.empty lz1 xz3).toList = ([35] : List UInt8) then (if (((rd_T33 lz2 xz3).f0).length : Int) > 0 then (some false) else ((spec_l8Ok.f kz2 ((rd_T33 lz2 xz3).f0) ((rd_T33 lz2 xz3).f1) ((rd_T33 lz2 xz3).f2) (wrap64 (az1 + 1))).bind fun t155 => (if t155 = true then (spec_l8Ok.l1 kz2 az1 (wrap64 (xz3 + 1)) lz1 lz2 lz3) else (some false)))) else ((spec_l8Ok.f kz2 ((rd_T33 lz2 xz3).f0) ((rd_T33 lz2 xz3).f1) ((rd_T33 lz2 xz3).f2) (wrap64 (az1 + 1))).bind fun t156 => (if t156 = true then (spec_l8Ok.l1 kz2 az1 (wrap64 (xz3 + 1)) lz1 lz2 lz3) else (some false))))) else (if (rdOf ByteArray.empty lz1 xz3).toList = ([35] : List UInt8) then (if (((rd_T33 lz2 xz3).f0).length : Int) > 0 then (some false) else ((spec_l8Ok.f kz2 ((rd_T33 lz2 xz3).f0) ((rd_T33 lz2 xz3).f1) ((rd_T33 lz2 xz3).f2) (wrap64 (az1 + 1))).bind fun t158 => (if t158 = true then (spec_l8Ok.l1 kz2 az1 (wrap64 (xz3 + 1)) lz1 lz2 lz3) else (some false)))) else ((spec_l8Ok.f kz2 ((rd_T33 lz2 xz3).f0) ((rd_T33 lz2 xz3).f1) ((rd_T33 lz2 xz3).f2) (wrap64 (az1 + 1))).bind fun t159 => (if t159 = true then (spec_l8Ok.l1 kz2 az1 (wrap64 (xz3 + 1)) lz1 lz2 lz3) else (some false))))) else (some false)) else (none)) else (none)) = some r := by first | (rw [hjiz1] at H; exact H) | (simp only [hjiz1] at H ⊢; exact H)
       (try rw [hjiz1] at Az5)
       have hji39w : (IntKind.i64.wrap (xz3 - 1)) = jiz1 := (i64_w _).trans hjiz1
       by_cases cz16 : 0 ≤ (jiz1)
       rotate_left
       ·rw [if_neg cz16] at H
        exact absurd H (by simp)
       rw [if_pos cz16] at H
       have cz17 : decide (0 ≤ (jiz1)) = true := decide_eq_true cz16
       clear cz16
       by_cases cz18 : (jiz1) < (lz1.length : Int)
       rotate_left
       ·rw [if_neg cz18] at H
        exact absurd H (by simp)
       rw [if_pos cz18] at H
       have cz19 : decide ((jiz1) < (lz1.length : Int)) = true := decide_eq_true cz18
       clear cz18
       have HXz1 := Aside0.mk H
       clear H
       have hczz4 : wr.cell? ⟨gbz1, 0, none⟩ = some (.slice Az1 lz1.length cz1) := bc_ BKz1 0
       have hczz5 : wr.cell? ⟨gbz1, 1, none⟩ = some (.slice Az2 lz2.length cz2) := bc_ BKz1 1
       have hczz6 : wr.cell? ⟨gbz1, 2, none⟩ = some (.slice Az3 lz3.length cz3) := bc_ BKz1 2
       have hfzz4 := blk_frozen BKz1.out 0
       have hfzz5 := blk_frozen BKz1.out 1
       have hfzz6 := blk_frozen BKz1.out 2
       obtain ⟨pz1, qz1, adz1, Az6, cz20, Az7, cz21, Az8, cz22, ez1, hxz1, hxz2, hxz3, hlz1, hiz1, hlz2, hiz2, hlz3, hiz3⟩ := aa_ (at_T33 HRz2.out xz3)
       cases ez1
       replace hxz1 := cl_ HB hxz1
       replace hxz2 := cl_ HB hxz2
       replace hxz3 := cl_ HB hxz3
       have HRz4 := Aside0.mk hiz1
       have HCz5 := Aside0.mk hlz1
       clear hiz1 hlz1
       have HRz5 := Aside0.mk hiz2
       have HCz6 := Aside0.mk hlz2
       clear hiz2 hlz2
       have HRz6 := Aside0.mk hiz3
       have HCz7 := Aside0.mk hlz3
       clear hiz3 hlz3
       try go_wp2_with (first | ((with_reducible refine gate_dst (N := 7) rfl ?_); (try (refine gate_guard (by rfl) ?_; dsimp only)); refine box_event ?hg (N := 7) ?hd (cs := #[.slice none 0 0, .slice none 0 0, .slice none 0 0]) (t := 33) ?hr ?_; (case hd => rfl); (case hg => rfl); (case hr => first | (go_simp; done) | (go_simp; rfl)); intro gbz2 hg wz2 hbox hb; have BKz2 := Aside0.mk (hbox); have GWz2 := Aside0.mk ((sz_ : w.heap.size ≤ gbz2)); have GEz2 := Aside0.mk ((sz_ : w.heap.size ≤ gbz2)); replace HB := bw_ hb; have NBz1 := Aside0.mk ((by rw [hg]; exact Nat.ne_of_lt (blk_lt (g := gbz1) (o := .cells #[.slice Az1 lz1.length cz1, .slice (some adz1) lz2.length cz2, .slice Az3 lz3.length cz3] 33 (0, 0)) bk_) : gbz1 ≠ gbz2)); have NBz2 := Aside0.mk ((by rw [hg]; exact Nat.ne_of_gt (blk_lt (g := gbz1) (o := .cells #[.slice Az1 lz1.length cz1, .slice (some adz1) lz2.length cz2, .slice Az3 lz3.length cz3] 33 (0, 0)) bk_) : gbz2 ≠ gbz1)); replace BKz1 := kb_ BKz1 hb; clear hb hbox hg; have hnbz1 := NBz2.out; have hncz1 := NBz1.out; have hczz7 : wz2.cell? ⟨gbz2, 0, none⟩ = some (.slice none 0 0) := bc_ BKz2 0; have hczz8 : wz2.cell? ⟨gbz2, 1, none⟩ = some (.slice none 0 0) := bc_ BKz2 1; have hczz9 : wz2.cell? ⟨gbz2, 2, none⟩ = some (.slice none 0 0) := bc_ BKz2 2; have hfzz7 := blk_frozen BKz2.out 0; have hfzz8 := blk_frozen BKz2.out 1; have hfzz9 := blk_frozen BKz2.out 2))
       have nz1 : Aside0 ((((wz2.setCell ⟨gbz2, 0, none⟩ (.slice Az6 ((rd_T33 lz2 xz3).f0).length cz20)).setCell ⟨gbz2, 1, none⟩ (.slice Az7 ((rd_T33 lz2 xz3).f1).length cz21)).setCell ⟨gbz2, 2, none⟩ (.slice Az8 ((rd_T33 lz2 xz3).f2).length cz22)).heap[gbz1]? = some (.cells #[.slice Az1 lz1.length cz1, .slice (some adz1) lz2.length cz2, .slice Az3 lz3.length cz3] 33 (0, 0))) := ⟨by (with_reducible repeat (first | refine blk_drewN ?_ _ | refine blk_drew ?_ | refine blk_alloc ?_ _)); refine blk_far ?_ NBz1.out _; (with_reducible repeat (first | refine blk_drewN ?_ _ | refine blk_drew ?_ | refine blk_alloc ?_ _)); refine blk_far ?_ NBz1.out _; (with_reducible repeat (first | refine blk_drewN ?_ _ | refine blk_drew ?_ | refine blk_alloc ?_ _)); refine blk_far ?_ NBz1.out _; (with_reducible repeat (first | refine blk_drewN ?_ _ | refine blk_drew ?_ | refine blk_alloc ?_ _)); exact BKz1.out⟩
       have nz2 : Aside0 ((((wz2.setCell ⟨gbz2, 0, none⟩ (.slice Az6 ((rd_T33 lz2 xz3).f0).length cz20)).setCell ⟨gbz2, 1, none⟩ (.slice Az7 ((rd_T33 lz2 xz3).f1).length cz21)).setCell ⟨gbz2, 2, none⟩ (.slice Az8 ((rd_T33 lz2 xz3).f2).length cz22)).heap[gbz2]? = some (.cells #[.slice Az6 ((rd_T33 lz2 xz3).f0).length cz20, .slice Az7 ((rd_T33 lz2 xz3).f1).length cz21, .slice Az8 ((rd_T33 lz2 xz3).f2).length cz22] 33 (0, 0))) := ⟨by (with_reducible repeat (first | refine blk_drewN ?_ _ | refine blk_drew ?_ | refine blk_alloc ?_ _)); refine blk_put (cs := #[.slice Az6 ((rd_T33 lz2 xz3).f0).length cz20, .slice Az7 ((rd_T33 lz2 xz3).f1).length cz21, .slice none 0 0]) ?_ 2 _ rfl; (with_reducible repeat (first | refine blk_drewN ?_ _ | refine blk_drew ?_ | refine blk_alloc ?_ _)); refine blk_put (cs := #[.slice Az6 ((rd_T33 lz2 xz3).f0).length cz20, .slice none 0 0, .slice none 0 0]) ?_ 1 _ rfl; (with_reducible repeat (first | refine blk_drewN ?_ _ | refine blk_drew ?_ | refine blk_alloc ?_ _)); refine blk_put (cs := #[.slice none 0 0, .slice none 0 0, .slice none 0 0]) ?_ 0 _ rfl; (with_reducible repeat (first | refine blk_drewN ?_ _ | refine blk_drew ?_ | refine blk_alloc ?_ _)); exact BKz2.out⟩
       have nz3 : Aside0 (Below w.heap.size w (((wz2.setCell ⟨gbz2, 0, none⟩ (.slice Az6 ((rd_T33 lz2 xz3).f0).length cz20)).setCell ⟨gbz2, 1, none⟩ (.slice Az7 ((rd_T33 lz2 xz3).f1).length cz21)).setCell ⟨gbz2, 2, none⟩ (.slice Az8 ((rd_T33 lz2 xz3).f2).length cz22))) := ⟨be_⟩
       generalize (((wz2.setCell ⟨gbz2, 0, none⟩ (.slice Az6 ((rd_T33 lz2 xz3).f0).length cz20)).setCell ⟨gbz2, 1, none⟩ (.slice Az7 ((rd_T33 lz2 xz3).f1).length cz21)).setCell ⟨gbz2, 2, none⟩ (.slice Az8 ((rd_T33 lz2 xz3).f2).length cz22)) = wz3 at nz1 nz2 nz3 ⊢
       have BKz1 := nz1
       have BKz2 := nz2
       have HB := nz3
       clear nz1 nz2 nz3
       replace BKz1 := Aside0.mk (blk_drew BKz1.out)
       replace BKz2 := Aside0.mk (blk_drew BKz2.out)
       replace HB := Aside0.mk (below_drew1 HB.out)
       have pz2 : 0 ≤ (xz3 : Int) := dt_
       have qz2 : xz3 < (lz1.length : Int) := dt_
       obtain ⟨adz2, ez2, hxz4⟩ := Kd.at_string HRz1.out xz3 pz2 qz2
       have hwz1 := hxz4
       cases ez2
       replace hxz4 := cl_ HB hxz4
       replace pz2 := eq_true pz2
       replace qz2 := eq_true qz2
       have pz3 : 0 ≤ ((jiz1) : Int) := dt_
       have qz3 : (jiz1) < (lz1.length : Int) := dt_
       obtain ⟨adz3, ez3, hxz5⟩ := Kd.at_string HRz1.out (jiz1) pz3 qz3
       have hwz2 := hxz5
       obtain rfl : adz2 = adz3 := (by injection ez3)
       replace hxz5 := cl_ HB hxz5
       replace pz3 := eq_true pz3
       replace qz3 := eq_true qz3
       have pz4 : 0 ≤ (xz3 : Int) := dt_
       have qz4 : xz3 < (lz1.length : Int) := dt_
       obtain ⟨adz4, ez4, hxz6⟩ := Kd.at_string HRz1.out xz3 pz4 qz4
       have hwz3 := hxz6
       obtain rfl : adz2 = adz4 := (by injection ez4)
       replace hxz6 := cl_ HB hxz6
       replace pz4 := eq_true pz4
       replace qz4 := eq_true qz4
       have pz5 : 0 ≤ (xz3 : Int) := dt_
       have qz5 : xz3 < (lz1.length : Int) := dt_
       obtain ⟨adz5, ez5, hxz7⟩ := Kd.at_string HRz1.out xz3 pz5 qz5
       have hwz4 := hxz7
       obtain rfl : adz2 = adz5 := (by injection ez5)
       replace hxz7 := cl_ HB hxz7
       replace pz5 := eq_true pz5
       replace qz5 := eq_true qz5
       refine start_ (n := 58) (S := fun w' => w'.cell? ⟨gbz1, 0, none⟩ = some (.slice (some adz2) lz1.length cz1) ∧ w'.cell? ⟨gbz1, 1, none⟩ = some (.slice (some adz1) lz2.length cz2) ∧ w'.cell? ⟨gbz1, 2, none⟩ = some (.slice Az3 lz3.length cz3) ∧ w'.cell? ⟨gbz2, 0, none⟩ = some (.slice Az6 ((rd_T33 lz2 xz3).f0).length cz20) ∧ w'.cell? ⟨gbz2, 1, none⟩ = some (.slice Az7 ((rd_T33 lz2 xz3).f1).length cz21) ∧ w'.cell? ⟨gbz2, 2, none⟩ = some (.slice Az8 ((rd_T33 lz2 xz3).f2).length cz22) ∧ w'.cell? (adz2.add (xz3).toNat) = some (.string (rdOf ByteArray.empty lz1 xz3)) ∧ w'.cell? (adz2.add ((jiz1)).toNat) = some (.string (rdOf ByteArray.empty lz1 (jiz1))) ∧ w'.cell? (adz2.add (xz3).toNat) = some (.string (rdOf ByteArray.empty lz1 xz3)) ∧ w'.cell? (adz2.add (xz3).toNat) = some (.string (rdOf ByteArray.empty lz1 xz3))) (ds := []) (bs_ 58 0) (by kernel_rfl) rfl (by kernel_rfl) ⟨bc_ BKz1 0, bc_ BKz1 1, bc_ BKz1 2, bc_ BKz2 0, bc_ BKz2 1, bc_ BKz2 2, (cl_ HB hwz1), (cl_ HB hwz2), (cl_ HB hwz3), (cl_ HB hwz4)⟩ (fun hHeld => ?_); refine with_tabW spec_l8Ok.tab12 spec_l8Ok.bits12 (fun HT_ HW_ => ?_)
       generalize wz3.drew = wz4 at BKz1 BKz2 HB hxz4 hxz5 hxz6 hxz7 hHeld ⊢
       refine pv_ HT_ 0 ?_
       refine pv_ HT_ 2 ?_
       refine tv_ HT_ HW_ hHeld 1 ?_
       refine pv_ HT_ 3 ?_
       refine tv_ HT_ HW_ hHeld 4 ?_
       refine ov_ HT_ 5 (fun K hK => ?_)
       refine goes_ Tryd.func66 (by kernel_rfl) rfl #[.string (rdOf ByteArray.empty lz1 xz3)] (by rfl) rfl rfl ar_ ?_
       with_reducible refine (spec_l8Level.calls kz2 (rdOf ByteArray.empty lz1 xz3) true _ Az5.out).mono ?_
       rintro e wz5 ⟨rfl, hb⟩
       refine ⟨_, rfl, ?_⟩
       have nz1 := Aside0.mk (blk_below (g := gbz1) (o := .cells #[.slice (some adz2) lz1.length cz1, .slice (some adz1) lz2.length cz2, .slice Az3 lz3.length cz3] 33 (0, 0)) bk_ hb)
       have nz2 := Aside0.mk (blk_below (g := gbz2) (o := .cells #[.slice Az6 ((rd_T33 lz2 xz3).f0).length cz20, .slice Az7 ((rd_T33 lz2 xz3).f1).length cz21, .slice Az8 ((rd_T33 lz2 xz3).f2).length cz22] 33 (0, 0)) bk_ hb)
       have nz3 := bw_ hb
       clear BKz1 BKz2 HB
       have BKz1 := nz1
       have BKz2 := nz2
       have HB := nz3
       clear nz1 nz2 nz3 hb
       refine hK.out _ _ ⟨bc_ BKz1 0, bc_ BKz1 1, bc_ BKz1 2, bc_ BKz2 0, bc_ BKz2 1, bc_ BKz2 2, (cl_ HB hwz1), (cl_ HB hwz2), (cl_ HB hwz3), (cl_ HB hwz4)⟩ (fun hHeld => ?_)
       clear hK K
       refine nm_ 76 ?_
       refine pv_ HT_ 6 ?_
       refine pv_ HT_ 7 ?_
       refine pv_ HT_ 8 ?_
       refine pv_ HT_ 9 ?_
       refine pv_ HT_ 10 ?_
       refine pv_ HT_ 11 ?_
       refine pv_ HT_ 13 ?_
       refine pv_ HT_ 14 ?_
       refine pv_ HT_ 17 ?_
       refine pv_ HT_ 19 ?_
       refine tv_ HT_ HW_ hHeld 12 ?_
       refine pv_ HT_ 15 ?_
       refine tv_ HT_ HW_ hHeld 16 ?_
       refine tv_ HT_ HW_ hHeld 18 ?_
       refine pv_ HT_ 20 ?_
       refine tv_ HT_ HW_ hHeld 21 ?_
       refine pv_ HT_ 22 ?_
       refine pv_ HT_ 23 ?_
       refine pv_ HT_ 24 ?_
       refine pv_ HT_ 25 ?_
       have H := HXz1.out
       clear HXz1
       by_cases cz23 : ((Op.bytesLess ((rdOf ByteArray.empty lz1 (jiz1)).toList) ((rdOf ByteArray.empty lz1 xz3).toList)) = true)
       rotate_left
       ·rw [if_neg cz23] at H
        have cz24 : (Op.bytesLess ((rdOf ByteArray.empty lz1 (jiz1)).toList) ((rdOf ByteArray.empty lz1 xz3).toList)) = false := by simpa using cz23
        clear cz23
        obtain rfl := Option.some.inj H
        (try simp only [cz24])
        refine uv_ HT_ 26 ?_
        refine uv_ HT_ 27 ?_
        refine uv_ HT_ 28 ?_
        refine uv_ HT_ 29 ?_
        refine uv_ HT_ 30 ?_
        refine uv_ HT_ 31 ?_
        refine uv_ HT_ 32 ?_
        refine uv_ HT_ 33 ?_
        refine uv_ HT_ 34 ?_
        refine uv_ HT_ 35 ?_
        refine pv_ HT_ 36 ?_
        refine pv_ HT_ 37 ?_
        exact spec_l8Ok_z28
       rw [if_pos cz23] at H
       have cz24 : (Op.bytesLess ((rdOf ByteArray.empty lz1 (jiz1)).toList) ((rdOf ByteArray.empty lz1 xz3).toList)) = true := cz23
       clear cz23
       (try simp only [cz24])
       have HXz2 := Aside0.mk H
       clear H
       refine pv_ HT_ 26 ?_
       refine tv_ HT_ HW_ hHeld 27 ?_
       refine pv_ HT_ 28 ?_
       refine pv_ HT_ 29 ?_
       refine pv_ HT_ 30 ?_
       have H := HXz2.out
       clear HXz2
       by_cases cz25 : (((rd_T33 lz2 xz3).f0).length : Int) = 0
       rotate_left
       ·rw [if_neg cz25] at H
        have cz26 : ((((rd_T33 lz2 xz3).f0).length : Int) == 0) = false := beq_eq_false_iff_ne.mpr cz25
        have cz27 : ((((rd_T33 lz2 xz3).f0).length : Int) != 0) = true := bne_iff_ne.mpr cz25
        have cz28 : ¬ (((rd_T33 lz2 xz3).f0) = []) := fun h_ => cz25 (by rw [h_]; rfl)
        (try simp only [cz26, cz27, cz28])
        have HXz3 := Aside0.mk H
        clear H
        refine uv_ HT_ 31 ?_
        refine uv_ HT_ 32 ?_
        refine uv_ HT_ 33 ?_
        refine uv_ HT_ 34 ?_
        refine pv_ HT_ 35 ?_
        refine pv_ HT_ 36 ?_
        refine pv_ HT_ 37 ?_
        refine pv_ HT_ 38 ?_
        refine pv_ HT_ 40 ?_
        refine tv_ HT_ HW_ hHeld 39 ?_
        refine pv_ HT_ 41 ?_
        refine tv_ HT_ HW_ hHeld 42 ?_
        refine pv_ HT_ 43 ?_
        refine pv_ HT_ 44 ?_
        have H := HXz3.out
        clear HXz3
        by_cases cz29 : (rdOf ByteArray.empty lz1 xz3).toList = ([35] : List UInt8)
        rotate_left
        ·rw [if_neg cz29] at H
         have cz30 : ((rdOf ByteArray.empty lz1 xz3).toList == ([35] : List UInt8)) = false := beq_eq_false_iff_ne.mpr cz29
         have cz31 : ((rdOf ByteArray.empty lz1 xz3).toList != ([35] : List UInt8)) = true := bne_iff_ne.mpr cz29
         replace H := bo_ H
         obtain ⟨tz2, Az10, H⟩ := H
         (try dsimp only at H)
         (try simp only [cz30, cz31])
         have HXz4 := Aside0.mk H
         clear H
         refine uv_ HT_ 45 ?_
         refine uv_ HT_ 46 ?_
         refine uv_ HT_ 47 ?_
         refine uv_ HT_ 48 ?_
         refine pv_ HT_ 49 ?_
         refine pv_ HT_ 50 ?_
         refine pv_ HT_ 51 ?_
         refine pv_ HT_ 53 ?_
         refine pv_ HT_ 54 ?_
         refine tv_ HT_ HW_ hHeld 52 ?_
         refine ov_ HT_ 55 (fun K hK => ?_)
         refine goes_ Tryd.func52 (by kernel_rfl) rfl #[.agg #[.slice Az6 ((rd_T33 lz2 xz3).f0).length cz20, .slice Az7 ((rd_T33 lz2 xz3).f1).length cz21, .slice Az8 ((rd_T33 lz2 xz3).f2).length cz22], .int .i64 (wrap64 (az1 + 1))] (by rfl) rfl rfl ar_ ?_
         have H := HXz4.out
         clear HXz4
         by_cases cz32 : tz2 = true
         rotate_left
         ·replace cz32 := Bool.eq_false_iff.mpr cz32
          subst cz32
          exact spec_l8Ok_z48
         subst cz32
         exact spec_l8Ok_z54
        rw [if_pos cz29] at H
        have cz30 : ((rdOf ByteArray.empty lz1 xz3).toList == ([35] : List UInt8)) = true := beq_iff_eq.mpr cz29
        have cz31 : ((rdOf ByteArray.empty lz1 xz3).toList != ([35] : List UInt8)) = false := bne_eq_false_iff_eq.mpr cz29
        clear cz29
        (try simp only [cz30, cz31])
        have HXz4 := Aside0.mk H
        clear H
        refine pv_ HT_ 45 ?_
        refine tv_ HT_ HW_ hHeld 46 ?_
        refine pv_ HT_ 47 ?_
        refine pv_ HT_ 48 ?_
        refine pv_ HT_ 49 ?_
        refine pv_ HT_ 50 ?_
        refine pv_ HT_ 51 ?_
        have H := HXz4.out
        clear HXz4
        by_cases cz32 : (((rd_T33 lz2 xz3).f0).length : Int) > 0
        ·rw [if_pos cz32] at H
         have cz33 : decide (0 < (((rd_T33 lz2 xz3).f0).length : Int)) = true := decide_eq_true cz32
         have cz34 : decide (0 < ((rd_T33 lz2 xz3).f0).length) = true := decide_eq_true (by omega)
         clear cz32
         obtain rfl := Option.some.inj H
         (try simp only [cz33, cz34])
         exact spec_l8Ok_z42
        rw [if_neg cz32] at H
        have cz33 : decide (0 < (((rd_T33 lz2 xz3).f0).length : Int)) = false := decide_eq_false cz32
        have cz34 : decide (0 < ((rd_T33 lz2 xz3).f0).length) = false := decide_eq_false (by omega)
        clear cz32
        replace H := bo_ H
        obtain ⟨tz2, Az10, H⟩ := H
        (try dsimp only at H)
        (try simp only [cz33, cz34])
        have HXz5 := Aside0.mk H
        clear H
        exact spec_l8Ok_z61
       rw [if_pos cz25] at H
       have cz26 : ((((rd_T33 lz2 xz3).f0).length : Int) == 0) = true := beq_iff_eq.mpr cz25
       have cz27 : ((((rd_T33 lz2 xz3).f0).length : Int) != 0) = false := bne_eq_false_iff_eq.mpr cz25
       clear cz25
       (try simp only [cz26, cz27])
       have HXz3 := Aside0.mk H
       clear H
       refine pv_ HT_ 31 ?_
       refine tv_ HT_ HW_ hHeld 32 ?_
       refine pv_ HT_ 33 ?_
       refine pv_ HT_ 34 ?_
       refine pv_ HT_ 35 ?_
       refine pv_ HT_ 36 ?_
       refine pv_ HT_ 37 ?_
       have H := HXz3.out
       clear HXz3
       by_cases cz28 : (((rd_T33 lz2 xz3).f2).length : Int) = 0
       ·rw [if_pos cz28] at H
        have cz29 : ((((rd_T33 lz2 xz3).f2).length : Int) == 0) = true := beq_iff_eq.mpr cz28
        have cz30 : ((((rd_T33 lz2 xz3).f2).length : Int) != 0) = false := bne_eq_false_iff_eq.mpr cz28
        clear cz28
        obtain rfl := Option.some.inj H
        (try simp only [cz29, cz30])
        exact spec_l8Ok_z28
       rw [if_neg cz28] at H
       have cz29 : ((((rd_T33 lz2 xz3).f2).length : Int) == 0) = false := beq_eq_false_iff_ne.mpr cz28
       have cz30 : ((((rd_T33 lz2 xz3).f2).length : Int) != 0) = true := bne_iff_ne.mpr cz28
       have cz31 : ¬ (((rd_T33 lz2 xz3).f2) = []) := fun h_ => cz28 (by rw [h_]; rfl)
       (try simp only [cz29, cz30, cz31])
       have HXz4 := Aside0.mk H
       clear H
       refine pv_ HT_ 38 ?_
       refine pv_ HT_ 40 ?_
       refine tv_ HT_ HW_ hHeld 39 ?_
       refine pv_ HT_ 41 ?_
       refine tv_ HT_ HW_ hHeld 42 ?_
       refine pv_ HT_ 43 ?_
       refine pv_ HT_ 44 ?_
       have H := HXz4.out
       clear HXz4
       by_cases cz32 : (rdOf ByteArray.empty lz1 xz3).toList = ([35] : List UInt8)
       rotate_left
       ·rw [if_neg cz32] at H
        have cz33 : ((rdOf ByteArray.empty lz1 xz3).toList == ([35] : List UInt8)) = false := beq_eq_false_iff_ne.mpr cz32
        have cz34 : ((rdOf ByteArray.empty lz1 xz3).toList != ([35] : List UInt8)) = true := bne_iff_ne.mpr cz32
        replace H := bo_ H
        obtain ⟨tz2, Az10, H⟩ := H
        (try dsimp only at H)
        (try simp only [cz33, cz34])
        have HXz5 := Aside0.mk H
        clear H
        refine uv_ HT_ 45 ?_
        refine uv_ HT_ 46 ?_
        refine uv_ HT_ 47 ?_
        refine uv_ HT_ 48 ?_
        refine pv_ HT_ 49 ?_
        refine pv_ HT_ 50 ?_
        refine pv_ HT_ 51 ?_
        exact spec_l8Ok_z61
       rw [if_pos cz32] at H
       have cz33 : ((rdOf ByteArray.empty lz1 xz3).toList == ([35] : List UInt8)) = true := beq_iff_eq.mpr cz32
       have cz34 : ((rdOf ByteArray.empty lz1 xz3).toList != ([35] : List UInt8)) = false := bne_eq_false_iff_eq.mpr cz32
       clear cz32
       (try simp only [cz33, cz34])
       have HXz5 := Aside0.mk H
       clear H
       refine pv_ HT_ 45 ?_
       refine tv_ HT_ HW_ hHeld 46 ?_
       refine pv_ HT_ 47 ?_
       refine pv_ HT_ 48 ?_
       refine pv_ HT_ 49 ?_
       refine pv_ HT_ 50 ?_
       refine pv_ HT_ 51 ?_
       have H := HXz5.out
       clear HXz5
       by_cases cz35 : (((rd_T33 lz2 xz3).f0).length : Int) > 0
       ·rw [if_pos cz35] at H
        have cz36 : decide (0 < (((rd_T33 lz2 xz3).f0).length : Int)) = true := decide_eq_true cz35
        have cz37 : decide (0 < ((rd_T33 lz2 xz3).f0).length) = true := decide_eq_true (by omega)
        clear cz35
        obtain rfl := Option.some.inj H
        (try simp only [cz36, cz37])
        exact spec_l8Ok_z42
       rw [if_neg cz35] at H
       have cz36 : decide (0 < (((rd_T33 lz2 xz3).f0).length : Int)) = false := decide_eq_false cz35
       have cz37 : decide (0 < ((rd_T33 lz2 xz3).f0).length) = false := decide_eq_false (by omega)
       clear cz35
       replace H := bo_ H
       obtain ⟨tz2, Az10, H⟩ := H
       (try dsimp only at H)
       (try simp only [cz36, cz37])
       have HXz6 := Aside0.mk H
       clear H
       refine pv_ HT_ 53 ?_
       refine pv_ HT_ 54 ?_
       refine tv_ HT_ HW_ hHeld 52 ?_
       refine ov_ HT_ 55 (fun K hK => ?_)
       refine goes_ Tryd.func52 (by kernel_rfl) rfl #[.agg #[.slice Az6 ((rd_T33 lz2 xz3).f0).length cz20, .slice Az7 ((rd_T33 lz2 xz3).f1).length cz21, .slice Az8 ((rd_T33 lz2 xz3).f2).length cz22], .int .i64 (wrap64 (az1 + 1))] (by rfl) rfl rfl ar_ ?_
       have H := HXz6.out
       clear HXz6
       by_cases cz38 : tz2 = true
       rotate_left
       ·replace cz38 := Bool.eq_false_iff.mpr cz38
        subst cz38
        exact spec_l8Ok_z48
       subst cz38
       replace H := bt_ H
       have H' := Aside0.mk H
       clear H
       with_reducible refine (ih kz2 (by have := HJz1.out; have := HKz1.out; have := HKz2.out; omega) _ _ ((rd_T33 lz2 xz3).f0) _ _ ((rd_T33 lz2 xz3).f1) _ _ ((rd_T33 lz2 xz3).f2) (wrap64 (az1 + 1)) true _ ?side1 ?side2 ?side3 ?side4 ?side5 ?side6 Az10.out).mono ?_
       (case side1 => exact Kd.C_below HRz4.out be_)
       (case side2 => exact HCz5.out)
       (case side3 => exact Kd.C_below HRz5.out be_)
       (case side4 => exact HCz6.out)
       (case side5 => exact Kd.C_below HRz6.out be_)
       (case side6 => exact HCz7.out)
       rintro e wz6 ⟨rfl, hb⟩
       refine ⟨_, rfl, ?_⟩
       have nz1 := Aside0.mk (blk_below (g := gbz1) (o := .cells #[.slice (some adz2) lz1.length cz1, .slice (some adz1) lz2.length cz2, .slice Az3 lz3.length cz3] 33 (0, 0)) bk_ hb)
       have nz2 := Aside0.mk (blk_below (g := gbz2) (o := .cells #[.slice Az6 ((rd_T33 lz2 xz3).f0).length cz20, .slice Az7 ((rd_T33 lz2 xz3).f1).length cz21, .slice Az8 ((rd_T33 lz2 xz3).f2).length cz22] 33 (0, 0)) bk_ hb)
       have nz3 := bw_ hb
       clear BKz1 BKz2 HB
       have BKz1 := nz1
       have BKz2 := nz2
       have HB := nz3
       clear nz1 nz2 nz3 hb
       refine hK.out _ _ ⟨bc_ BKz1 0, bc_ BKz1 1, bc_ BKz1 2, bc_ BKz2 0, bc_ BKz2 1, bc_ BKz2 2, (cl_ HB hwz1), (cl_ HB hwz2), (cl_ HB hwz3), (cl_ HB hwz4)⟩ (fun hHeld => ?_)
       clear hK K
       refine nm_ 126 ?_
       refine pv_ HT_ 56 ?_
       refine pv_ HT_ 57 ?_
       refine done_ (done_of HT_.out (by kernel_rfl)) ?_
       try go_wp2
       go_roundg kz2
       case measure => have := HJz1.out; have := HKz1.out; have := HKz2.out; omega
       case rel => exact ⟨(wrap64 (xz3 + 1)), rs_, H', ⟨by have := HJz1.out; have := HKz1.out; have := HKz2.out; omega⟩, ⟨bk_⟩, ⟨be_⟩⟩

end Go.Proofs.YtggokdobijhdhaaDoor.P
