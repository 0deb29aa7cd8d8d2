-- Printed by a program over the kit's print.py (mp.sh), several laws in one namespace.
import Derived.Test.YtggokdobijhdhaaDoorPx0
import Derived.Test.YtggokdobijhdhaaDoorS
import Derived.Test.YtggokdobijhdhaaDoorPx14
import Derived.Test.YtggokdobijhdhaaDoorPx16
import Derived.Test.YtggokdobijhdhaaDoorPx17
import Derived.Test.YtggokdobijhdhaaDoorPx18
namespace Go.Proofs.YtggokdobijhdhaaDoor.P
open Go.RowKit Go.Proofs.YtggokdobijhdhaaDoor.X Go.Proofs.YtggokdobijhdhaaDoorW.PrintWords Go.Proofs.YtggokdobijhdhaaDoorW.PrintLast Go.Proofs.YtggokdobijhdhaaDoorW.PrintMore
attribute [local go_sem] max2_int min2_int max_two min_two max_three min_three max_four min_four   -- for this text's walks alone
set_option maxHeartbeats 8000000
set_option maxRecDepth 100000
set_option linter.unusedVariables false
set_option linter.unusedSimpArgs false

mutual
def impl_branchOk.j0 : Nat → List ByteArray → Bool → List ByteArray → List (S33) → List (S86) → Option (Bool)
 | 0, _, _, _, _, _ => none
 | k + 1, x1, x25, x303000, x303001, x303002 => if x25 = true then (some false) else (if (x303002.length : Int) > 0 then ((impl_Join.f x1).bind fun t304 => ((impl_FilterOk.f k t304).bind fun t305 => (impl_branchOk.j1 k x1 (!t305) x303000 x303001 x303002))) else (impl_branchOk.j1 k x1 false x303000 x303001 x303002))
def impl_branchOk.j1 : Nat → List ByteArray → Bool → List ByteArray → List (S33) → List (S86) → Option (Bool)
 | 0, _, _, _, _, _ => none
 | k + 1, x1, x35, x303000, x303001, x303002 => if x35 = true then (some false) else (impl_branchOk.l0 k x1 x303000 (x303000.length : Int) 0 x303000 x303001 x303002)
def impl_branchOk.l0 : Nat → List ByteArray → List ByteArray → Int → Int → List ByteArray → List (S33) → List (S86) → Option (Bool)
 | 0, _, _, _, _, _, _, _ => none
 | k + 1, x1, x37, x38, x39, x303000, x303001, x303002 => if x39 < x38 then (if 0 ≤ x39 then (if x39 < (x37.length : Int) then (if x39 < (x303001.length : Int) then (if x39 > 0 then (if 0 ≤ (wrap64 (x39 - 1)) then (if (wrap64 (x39 - 1)) < (x303000.length : Int) then (if ((Op.bytesLess ((rdOf ByteArray.empty x303000 (wrap64 (x39 - 1))).toList) ((rdOf ByteArray.empty x37 x39).toList)) = true) then ((impl_Levels.f (rdOf ByteArray.empty x37 x39)).bind fun t310 => (if (t310.length : Int) > 1 then (impl_branchOk.j3 k x1 (rdOf ByteArray.empty x37 x39) x37 x38 x39 true x303000 x303001 x303002 ((rd_T33 x303001 x39).f0) ((rd_T33 x303001 x39).f1) ((rd_T33 x303001 x39).f2)) else ((impl_levelOk.f (rdOf ByteArray.empty x37 x39) ((((rd_T33 x303001 x39).f1).length : Int) == 0)).bind fun t313 => (impl_branchOk.j3 k x1 (rdOf ByteArray.empty x37 x39) x37 x38 x39 (!t313) x303000 x303001 x303002 ((rd_T33 x303001 x39).f0) ((rd_T33 x303001 x39).f1) ((rd_T33 x303001 x39).f2))))) else (impl_branchOk.j3 k x1 (rdOf ByteArray.empty x37 x39) x37 x38 x39 true x303000 x303001 x303002 ((rd_T33 x303001 x39).f0) ((rd_T33 x303001 x39).f1) ((rd_T33 x303001 x39).f2))) else (none)) else (none)) else ((impl_Levels.f (rdOf ByteArray.empty x37 x39)).bind fun t314 => (if (t314.length : Int) > 1 then (impl_branchOk.j3 k x1 (rdOf ByteArray.empty x37 x39) x37 x38 x39 true x303000 x303001 x303002 ((rd_T33 x303001 x39).f0) ((rd_T33 x303001 x39).f1) ((rd_T33 x303001 x39).f2)) else ((impl_levelOk.f (rdOf ByteArray.empty x37 x39) ((((rd_T33 x303001 x39).f1).length : Int) == 0)).bind fun t317 => (impl_branchOk.j3 k x1 (rdOf ByteArray.empty x37 x39) x37 x38 x39 (!t317) x303000 x303001 x303002 ((rd_T33 x303001 x39).f0) ((rd_T33 x303001 x39).f1) ((rd_T33 x303001 x39).f2)))))) else (none)) else (none)) else (none)) else (some true)
def impl_branchOk.j3 : Nat → List ByteArray → ByteArray → List ByteArray → Int → Int → Bool → List ByteArray → List (S33) → List (S86) → List ByteArray → List (S33) → List (S86) → Option (Bool)
 | 0, _, _, _, _, _, _, _, _, _, _, _, _ => none
 | k + 1, x1, x6, x37, x38, x39, x75, x303000, x303001, x303002, x309000, x309001, x309002 => if x75 = true then (some false) else (if (x309001.length : Int) = 0 then (if (x309002.length : Int) = 0 then (some false) else ((some (([] : List ByteArray) : List ByteArray)).bind fun y318 => (if y318.length + x1.length < 8796093022208 then ((some (y318 ++ x1 : List ByteArray)).bind fun y321 => ((some (([x6] : List ByteArray) : List ByteArray)).bind fun y324 => (if y321.length + y324.length < 8796093022208 then ((impl_branchOk.f k x309000 x309001 x309002 (y321 ++ y324)).bind fun t330 => (if t330 = true then (impl_branchOk.l0 k x1 x37 x38 (wrap64 (x39 + 1)) x303000 x303001 x303002) else (some false))) else (none)))) else (none)))) else ((some (([] : List ByteArray) : List ByteArray)).bind fun y331 => (if y331.length + x1.length < 8796093022208 then ((some (y331 ++ x1 : List ByteArray)).bind fun y334 => ((some (([x6] : List ByteArray) : List ByteArray)).bind fun y337 => (if y334.length + y337.length < 8796093022208 then ((impl_branchOk.f k x309000 x309001 x309002 (y334 ++ y337)).bind fun t343 => (if t343 = true then (impl_branchOk.l0 k x1 x37 x38 (wrap64 (x39 + 1)) x303000 x303001 x303002) else (some false))) else (none)))) else (none))))
def impl_branchOk.f : Nat → List ByteArray → List (S33) → List (S86) → List ByteArray → Option (Bool)
 | 0, _, _, _, _ => none
 | k + 1, l0_0, l0_1, l0_2, l1 => if (l0_0.length : Int) = (l0_1.length : Int) then (if (l1.length : Int) > 6 then (impl_branchOk.j0 k l1 true l0_0 l0_1 l0_2) else ((impl_subsOk.f k l0_2).bind fun t303 => (impl_branchOk.j0 k l1 (!t303) l0_0 l0_1 l0_2))) else (impl_branchOk.j0 k l1 true l0_0 l0_1 l0_2)
end
def impl_branchOk.T11 : Bool × List (List Nat × List Nat) := (true, [([], []), ([0], [0]), ([1], [1]), ([2], [2]), ([3], [3]), ([4], [4]), ([5, 4], [4, 5]), ([6, 4], [4, 6]), ([7, 4], [4, 7]), ([4, 8], [4, 8]), ([9, 4], [9]), ([10], [10]), ([10], [10]), ([10], [10]), ([12, 13, 10, 10], [10, 12, 13]), ([10], [10]), ([15, 10], [10, 15]), ([14, 16, 14, 10], [10, 14, 16]), ([11, 17, 17, 10], [10, 11, 17]), ([18, 10], [10, 18]), ([10, 19], [10, 19])])
def impl_branchOk.B11 : List Nat := [0, 1, 3, 7, 15, 31, 63, 127, 255, 511, 1023, 2047, 2047, 2047, 14335, 2047, 34815, 129023, 262143, 524287, 1048575]
theorem impl_branchOk.tab11 : rtab .any (opsOf Tryd.f55 11) = impl_branchOk.T11 := by kernel_rfl
theorem impl_branchOk.bits11 : waitsOk impl_branchOk.T11.2 impl_branchOk.B11 = true := by kernel_rfl
theorem impl_branchOk_z4 {p : Prop} (h : p := by
 have hczz3 : wz1.cell? ⟨gbz1, 2, none⟩ = some (.slice Az3 lz3.length cz3) := bc_ BKz1 2
 have hfzz1 := blk_frozen BKz1.out 0
 have hfzz2 := blk_frozen BKz1.out 1
 have hfzz3 := blk_frozen BKz1.out 2
 go_wp2
 go_meet
 case rel => exact ⟨_, (true), rs_, H', ⟨by first | omega | exact Nat.le_refl _⟩, ⟨bk_⟩, ⟨be_⟩⟩) : p := h
theorem impl_branchOk_z3 {p : Prop} (h : p := by
 have hczz2 : wz1.cell? ⟨gbz1, 1, none⟩ = some (.slice Az2 lz2.length cz2) := bc_ BKz1 1
 exact impl_branchOk_z4) : p := h
theorem impl_branchOk_z2 {p : Prop} (h : p := by
 have hczz1 : wz1.cell? ⟨gbz1, 0, none⟩ = some (.slice Az1 lz1.length cz1) := bc_ BKz1 0
 exact impl_branchOk_z3) : p := h
theorem impl_branchOk_z1 {p : Prop} (h : p := by
 clear H
 exact impl_branchOk_z2) : p := h
theorem impl_branchOk_z0 {p : Prop} (h : p := by
 have H' := Aside0.mk H
 exact impl_branchOk_z1) : p := h
theorem impl_branchOk_z5 {p : Prop} (h : p := by
 go_wp2_with (first | (go_at_call 70; (with_reducible refine (impl_Levels.calls (rdOf ByteArray.empty lz1 xz3) tz1 _ ?side1 Az9.out).mono ?_); (case side1 => exact Tabs.below HT.out be_); rintro e wz3 ⟨vz1, rfl, hoz1, hb⟩; have HOz1 := Aside0.mk (Kd.R_lower hoz1 (below_size be_)); replace HB := bw_ hb; replace BKz1 := Aside0.mk (blk_below (g := gbz1) (o := .cells #[.slice (some adz1) lz1.length cz1, .slice (some adz2) lz2.length cz2, .slice Az3 lz3.length cz3] 33 (0, 0)) (by (with_reducible repeat (first | refine blk_drewN ?_ _ | refine blk_drew ?_ | refine blk_alloc ?_ _)); refine blk_far ?_ NBz1.out _; (with_reducible repeat (first | refine blk_drewN ?_ _ | refine blk_drew ?_ | refine blk_alloc ?_ _)); refine blk_far ?_ NBz1.out _; (with_reducible repeat (first | refine blk_drewN ?_ _ | refine blk_drew ?_ | refine blk_alloc ?_ _)); refine blk_far ?_ NBz1.out _; (with_reducible repeat (first | refine blk_drewN ?_ _ | refine blk_drew ?_ | refine blk_alloc ?_ _)); exact BKz1.out) hb); replace BKz2 := Aside0.mk (blk_below (g := gbz2) (o := .cells #[.slice Az5 ((rd_T33 lz2 xz3).f0).length cz15, .slice Az6 ((rd_T33 lz2 xz3).f1).length cz16, .slice Az7 ((rd_T33 lz2 xz3).f2).length cz17] 33 (0, 0)) (by (with_reducible repeat (first | refine blk_drewN ?_ _ | refine blk_drew ?_ | refine blk_alloc ?_ _)); refine blk_put (cs := #[.slice Az5 ((rd_T33 lz2 xz3).f0).length cz15, .slice Az6 ((rd_T33 lz2 xz3).f1).length cz16, .slice none 0 0]) ?_ 2 _ rfl; (with_reducible repeat (first | refine blk_drewN ?_ _ | refine blk_drew ?_ | refine blk_alloc ?_ _)); refine blk_put (cs := #[.slice Az5 ((rd_T33 lz2 xz3).f0).length cz15, .slice none 0 0, .slice none 0 0]) ?_ 1 _ rfl; (with_reducible repeat (first | refine blk_drewN ?_ _ | refine blk_drew ?_ | refine blk_alloc ?_ _)); refine blk_put (cs := #[.slice none 0 0, .slice none 0 0, .slice none 0 0]) ?_ 0 _ rfl; (with_reducible repeat (first | refine blk_drewN ?_ _ | refine blk_drew ?_ | refine blk_alloc ?_ _)); exact BKz2.out) hb); clear hb hoz1; obtain ⟨Aoz1, coz1, eoz1⟩ := Kd.R_slice HOz1.out; subst eoz1))
 go_meet
 case rel => exact ⟨_, (true), rs_, H', ⟨by have := HJz1.out; have := HJz2.out; have := HKz1.out; first | omega | exact Nat.le_refl _⟩, ⟨bk_⟩, ⟨bk_⟩, ⟨be_⟩⟩) : p := h
theorem impl_branchOk_z17 {p : Prop} (h : p := by
 refine Kd.R_append_rows_step Kd.string (w0 := w) w.heap.size (by rfl) (.tmp 88) (.tmp 89) 22 9 (.string ⟨#[]⟩) 16 rfl Tryd.underlying22 info9 rfl (by decide) (by omega) vz1 yz1 lz4 _ _ _ (fun _ => True) (fun _ => False) rfl rfl ?aO ?aR (fun _ _ h => h) (fun _ h => h.elim) ?aF ?aB ?aS ?aL ?_
 (case aR => exact Kd.C_below HRz4.out be_)
 (case aB => exact be_)
 (case aF => exact (fun _ _ => trivial))
 (case aO => exact (lR_ HOz1.out))
 (case aS => exact (below_size be_))
 (case aL => have := LMcz1.out; omega)
 intro vz2 wz5 ho hb hg hat
 rw [← Nyz2.out] at ho
 have nz1 := Aside0.mk (blk_grown (g := gbz1) (o := .cells #[.slice (some adz1) lz1.length cz1, .slice (some adz2) lz2.length cz2, .slice Az3 lz3.length cz3] 33 (0, 0)) bk_ hg (Kd.R_ne HOz1.out BKz1.out (by decide)))
 have nz2 := Aside0.mk (blk_grown (g := gbz2) (o := .cells #[.slice Az5 ((rd_T33 lz2 xz3).f0).length cz15, .slice Az6 ((rd_T33 lz2 xz3).f1).length cz16, .slice Az7 ((rd_T33 lz2 xz3).f2).length cz17] 33 (0, 0)) bk_ hg (Kd.R_ne HOz1.out BKz2.out (by decide)))
 have nz3 := Aside0.mk (hb)
 have nz4 := Aside0.mk (ho)
 clear BKz1 BKz2 HB HOz1
 have BKz1 := nz1
 have BKz2 := nz2
 have HB := nz3
 have HOz2 := nz4
 clear nz1 nz2 nz3 nz4 ho hb hg hat
 refine hK.out _ _ ⟨bc_ BKz2 0, bc_ BKz2 1, bc_ BKz2 2⟩ (fun hHeld => ?_)
 clear hK K
 refine nm_ 90 ?_
 refine ov_ HT_ 16 (fun K hK => ?_)
 refine Kd.R_lit_step Kd.string _ 9 ?hg (N := 92) ?hd (xs := ([(rdOf ByteArray.empty lz1 xz3)] : List ByteArray)) (inner := [.string (rdOf ByteArray.empty lz1 xz3)]) (ok := fun _ => True) (okp := fun _ => True) ?hr ?hp (fun _ hk => hk) trivial (Below.refl _ _) (Nat.le_refl _) (by simp) ?_; (case hd => rfl); (case hg => rfl); (case hr => first | (go_simp; done) | (go_simp; rfl)); (case hp => exact (Reps.one (show Kd.M Kd.string _ _ _ (rdOf ByteArray.empty lz1 xz3) [.string (rdOf ByteArray.empty lz1 xz3)] from rfl) (Reps.none _ _)))
 intro vz3 wz6 hoz2 hb hg_ hnew_
 clear hg_ hnew_
 (first | rw [← Nyz3.out] at hoz2 | (simp only [Int.reduceToNat] at hoz2; rw [← Nyz3.out] at hoz2))
 have nz1 := eR_ HOz2 (Kd.R_base hoz2) hb
 have nz2 := Aside0.mk (Kd.R_lower (Kd.R_new' hoz2 (Kd.R_lt (lR_ HOz2.out))) (below_size be_))
 have nz3 := Aside0.mk (blk_below (g := gbz1) (o := .cells #[.slice (some adz1) lz1.length cz1, .slice (some adz2) lz2.length cz2, .slice Az3 lz3.length cz3] 33 (0, 0)) bk_ hb)
 have nz4 := Aside0.mk (blk_below (g := gbz2) (o := .cells #[.slice Az5 ((rd_T33 lz2 xz3).f0).length cz15, .slice Az6 ((rd_T33 lz2 xz3).f1).length cz16, .slice Az7 ((rd_T33 lz2 xz3).f2).length cz17] 33 (0, 0)) bk_ hb)
 have nz5 := bw_ hb
 clear HOz2 BKz1 BKz2 HB
 have HOz2 := nz1
 have HOz3 := nz2
 have BKz1 := nz3
 have BKz2 := nz4
 have HB := nz5
 clear nz1 nz2 nz3 nz4 nz5 hb hoz2
 refine hK.out _ _ ⟨bc_ BKz2 0, bc_ BKz2 1, bc_ BKz2 2⟩ (fun hHeld => ?_)
 clear hK K
 refine nm_ 92 ?_
 exact norm_ (by simp only [putAll, Act.put, List.setIfInBounds_toArray, List.set_cons_zero, List.set_cons_succ]) (hCont (vz1, vz2, vz3) _ ⟨hHeld, (lR_ (Kd.R_mono HOz2.out (fun _ hk => hk.2))), (lR_ (Kd.R_mono HOz3.out (fun _ hk => hk.2))), bk_, bk_, be_⟩)) : p := h
theorem impl_branchOk_z16 {p : Prop} (h : p := by
 skip
 exact impl_branchOk_z17) : p := h
theorem impl_branchOk_z19 {p : Prop} (h : p := by
 refine Kd.R_lit_step Kd.string _ 9 ?hg (N := 92) ?hd (xs := ([(rdOf ByteArray.empty lz1 xz3)] : List ByteArray)) (inner := [.string (rdOf ByteArray.empty lz1 xz3)]) (ok := fun _ => True) (okp := fun _ => True) ?hr ?hp (fun _ hk => hk) trivial (Below.refl _ _) (Nat.le_refl _) (by simp) ?_; (case hd => rfl); (case hg => rfl); (case hr => first | (go_simp; done) | (go_simp; rfl)); (case hp => exact (Reps.one (show Kd.M Kd.string _ _ _ (rdOf ByteArray.empty lz1 xz3) [.string (rdOf ByteArray.empty lz1 xz3)] from rfl) (Reps.none _ _)))
 intro vz2 wz5 hoz2 hb hg_ hnew_
 clear hg_ hnew_
 (first | rw [← Nyz3.out] at hoz2 | (simp only [Int.reduceToNat] at hoz2; rw [← Nyz3.out] at hoz2))
 have nz1 := eR_ HOz1 (Kd.R_base hoz2) hb
 have nz2 := Aside0.mk (Kd.R_lower (Kd.R_new' hoz2 (Kd.R_lt (lR_ HOz1.out))) (below_size be_))
 have nz3 := Aside0.mk (blk_below (g := gbz1) (o := .cells #[.slice (some adz1) lz1.length cz1, .slice (some adz2) lz2.length cz2, .slice Az3 lz3.length cz3] 33 (0, 0)) bk_ hb)
 have nz4 := Aside0.mk (blk_below (g := gbz2) (o := .cells #[.slice Az5 ((rd_T33 lz2 xz3).f0).length cz15, .slice Az6 ((rd_T33 lz2 xz3).f1).length cz16, .slice Az7 ((rd_T33 lz2 xz3).f2).length cz17] 33 (0, 0)) bk_ hb)
 have nz5 := bw_ hb
 clear HOz1 BKz1 BKz2 HB
 have HOz1 := nz1
 have HOz2 := nz2
 have BKz1 := nz3
 have BKz2 := nz4
 have HB := nz5
 clear nz1 nz2 nz3 nz4 nz5 hb hoz2
 refine hK.out _ _ ⟨bc_ BKz2 0, bc_ BKz2 1, bc_ BKz2 2⟩ (fun hHeld => ?_)
 clear hK K
 refine nm_ 92 ?_
 refine ov_ HT_ 14 (fun K hK => ?_)
 refine Kd.R_append_rows_step Kd.string (w0 := w) w.heap.size (by rfl) (.tmp 88) (.tmp 89) 22 9 (.string ⟨#[]⟩) 16 rfl Tryd.underlying22 info9 rfl (by decide) (by omega) vz1 yz1 lz4 _ _ _ (fun k_ => some k_ ≠ (vz2 : Value).ownBlock) (fun _ => False) rfl rfl ?aO ?aR (fun _ _ h => h) (fun _ h => h.elim) ?aF ?aB ?aS ?aL ?_
 (case aR => exact Kd.C_below HRz4.out be_)
 (case aB => exact be_)
 (case aF => exact (fun k_ hk => Kd.fresh' (Kd.R_lt (lR_ HOz2.out)) k_ hk))
 (case aO => exact (lR_ (Kd.R_mono HOz1.out (fun _ hk => hk.2))))
 (case aS => exact (below_size be_))
 (case aL => have := LMcz1.out; omega)
 intro vz3 wz6 ho hb hg hat
 rw [← Nyz2.out] at ho
 have nz1 := Aside0.mk (blk_grown (g := gbz1) (o := .cells #[.slice (some adz1) lz1.length cz1, .slice (some adz2) lz2.length cz2, .slice Az3 lz3.length cz3] 33 (0, 0)) bk_ hg (Kd.R_ne HOz1.out BKz1.out (by decide)))
 have nz2 := Aside0.mk (blk_grown (g := gbz2) (o := .cells #[.slice Az5 ((rd_T33 lz2 xz3).f0).length cz15, .slice Az6 ((rd_T33 lz2 xz3).f1).length cz16, .slice Az7 ((rd_T33 lz2 xz3).f2).length cz17] 33 (0, 0)) bk_ hg (Kd.R_ne HOz1.out BKz2.out (by decide)))
 have nz3 := Aside0.mk (Kd.R_after (ok := (fun _ => True)) (lR_ HOz2.out) hg hat)
 have nz4 := Aside0.mk (hb)
 have nz5 := Aside0.mk (ho)
 clear BKz1 BKz2 HOz2 HB HOz1
 have BKz1 := nz1
 have BKz2 := nz2
 have HOz2 := nz3
 have HB := nz4
 have HOz3 := nz5
 clear nz1 nz2 nz3 nz4 nz5 ho hb hg hat
 refine hK.out _ _ ⟨bc_ BKz2 0, bc_ BKz2 1, bc_ BKz2 2⟩ (fun hHeld => ?_)
 clear hK K
 refine nm_ 90 ?_
 exact norm_ (by simp only [putAll, Act.put, List.setIfInBounds_toArray, List.set_cons_zero, List.set_cons_succ]) (hCont (vz1, vz3, vz2) _ ⟨hHeld, (lR_ HOz3.out), (lR_ (Kd.R_mono HOz2.out (fun _ hk => hk.2))), bk_, bk_, be_⟩)) : p := h
theorem impl_branchOk_z18 {p : Prop} (h : p := by
 skip
 exact impl_branchOk_z19) : p := h
theorem impl_branchOk_z15 {p : Prop} (h : p := by
 refine Kd.R_lit_step Kd.string _ 9 ?hg (N := 88) ?hd (xs := ([] : List ByteArray)) (inner := []) (ok := fun _ => True) (okp := fun _ => True) ?hr ?hp (fun _ hk => hk) trivial (Below.refl _ _) (Nat.le_refl _) (by simp) ?_; (case hd => rfl); (case hg => rfl); (case hr => first | (go_simp; done) | (go_simp; rfl)); (case hp => exact (Reps.none _ _))
 intro vz1 wz4 hoz1 hb hg_ hnew_
 clear hg_ hnew_
 (first | rw [← Nyz1.out] at hoz1 | (simp only [Int.reduceToNat] at hoz1; rw [← Nyz1.out] at hoz1))
 have nz1 := Aside0.mk (Kd.R_lower hoz1 (below_size be_))
 have nz2 := Aside0.mk (blk_below (g := gbz1) (o := .cells #[.slice (some adz1) lz1.length cz1, .slice (some adz2) lz2.length cz2, .slice Az3 lz3.length cz3] 33 (0, 0)) bk_ hb)
 have nz3 := Aside0.mk (blk_below (g := gbz2) (o := .cells #[.slice Az5 ((rd_T33 lz2 xz3).f0).length cz15, .slice Az6 ((rd_T33 lz2 xz3).f1).length cz16, .slice Az7 ((rd_T33 lz2 xz3).f2).length cz17] 33 (0, 0)) bk_ hb)
 have nz4 := bw_ hb
 clear BKz1 BKz2 HB
 have HOz1 := nz1
 have BKz1 := nz2
 have BKz2 := nz3
 have HB := nz4
 clear nz1 nz2 nz3 nz4 hb hoz1
 refine hK.out _ _ ⟨bc_ BKz2 0, bc_ BKz2 1, bc_ BKz2 2⟩ (fun hHeld => ?_)
 clear hK K
 refine nm_ 88 ?_
 refine two_ (i := 14) (j := 16) (Ni := some 90) (Nj := some 92) (bs_ 21 65535) (bs_ 21 114687) rfl rfl rfl rfl (two_of HT_.out (by kernel_rfl)) (by decide) (by decide) (fun K hK => ?_) (fun K hK => ?_)
 ·exact impl_branchOk_z16
 ·exact impl_branchOk_z18) : p := h
theorem impl_branchOk_z14 {p : Prop} (h : p := by
 skip
 exact impl_branchOk_z15) : p := h
theorem impl_branchOk_z21 {p : Prop} (h : p := by
 refine Kd.R_lit_step Kd.string _ 9 ?hg (N := 92) ?hd (xs := ([(rdOf ByteArray.empty lz1 xz3)] : List ByteArray)) (inner := [.string (rdOf ByteArray.empty lz1 xz3)]) (ok := fun _ => True) (okp := fun _ => True) ?hr ?hp (fun _ hk => hk) trivial (Below.refl _ _) (Nat.le_refl _) (by simp) ?_; (case hd => rfl); (case hg => rfl); (case hr => first | (go_simp; done) | (go_simp; rfl)); (case hp => exact (Reps.one (show Kd.M Kd.string _ _ _ (rdOf ByteArray.empty lz1 xz3) [.string (rdOf ByteArray.empty lz1 xz3)] from rfl) (Reps.none _ _)))
 intro vz1 wz4 hoz1 hb hg_ hnew_
 clear hg_ hnew_
 (first | rw [← Nyz3.out] at hoz1 | (simp only [Int.reduceToNat] at hoz1; rw [← Nyz3.out] at hoz1))
 have nz1 := Aside0.mk (Kd.R_lower hoz1 (below_size be_))
 have nz2 := Aside0.mk (blk_below (g := gbz1) (o := .cells #[.slice (some adz1) lz1.length cz1, .slice (some adz2) lz2.length cz2, .slice Az3 lz3.length cz3] 33 (0, 0)) bk_ hb)
 have nz3 := Aside0.mk (blk_below (g := gbz2) (o := .cells #[.slice Az5 ((rd_T33 lz2 xz3).f0).length cz15, .slice Az6 ((rd_T33 lz2 xz3).f1).length cz16, .slice Az7 ((rd_T33 lz2 xz3).f2).length cz17] 33 (0, 0)) bk_ hb)
 have nz4 := bw_ hb
 clear BKz1 BKz2 HB
 have HOz1 := nz1
 have BKz1 := nz2
 have BKz2 := nz3
 have HB := nz4
 clear nz1 nz2 nz3 nz4 hb hoz1
 refine hK.out _ _ ⟨bc_ BKz2 0, bc_ BKz2 1, bc_ BKz2 2⟩ (fun hHeld => ?_)
 clear hK K
 refine nm_ 92 ?_
 refine ov_ HT_ 12 (fun K hK => ?_)
 refine Kd.R_lit_step Kd.string _ 9 ?hg (N := 88) ?hd (xs := ([] : List ByteArray)) (inner := []) (ok := fun _ => True) (okp := fun _ => True) ?hr ?hp (fun _ hk => hk) trivial (Below.refl _ _) (Nat.le_refl _) (by simp) ?_; (case hd => rfl); (case hg => rfl); (case hr => first | (go_simp; done) | (go_simp; rfl)); (case hp => exact (Reps.none _ _))
 intro vz2 wz5 hoz2 hb hg_ hnew_
 clear hg_ hnew_
 (first | rw [← Nyz1.out] at hoz2 | (simp only [Int.reduceToNat] at hoz2; rw [← Nyz1.out] at hoz2))
 have nz1 := eR_ HOz1 (Kd.R_base hoz2) hb
 have nz2 := Aside0.mk (Kd.R_lower (Kd.R_new' hoz2 (Kd.R_lt (lR_ HOz1.out))) (below_size be_))
 have nz3 := Aside0.mk (blk_below (g := gbz1) (o := .cells #[.slice (some adz1) lz1.length cz1, .slice (some adz2) lz2.length cz2, .slice Az3 lz3.length cz3] 33 (0, 0)) bk_ hb)
 have nz4 := Aside0.mk (blk_below (g := gbz2) (o := .cells #[.slice Az5 ((rd_T33 lz2 xz3).f0).length cz15, .slice Az6 ((rd_T33 lz2 xz3).f1).length cz16, .slice Az7 ((rd_T33 lz2 xz3).f2).length cz17] 33 (0, 0)) bk_ hb)
 have nz5 := bw_ hb
 clear HOz1 BKz1 BKz2 HB
 have HOz1 := nz1
 have HOz2 := nz2
 have BKz1 := nz3
 have BKz2 := nz4
 have HB := nz5
 clear nz1 nz2 nz3 nz4 nz5 hb hoz2
 refine hK.out _ _ ⟨bc_ BKz2 0, bc_ BKz2 1, bc_ BKz2 2⟩ (fun hHeld => ?_)
 clear hK K
 refine nm_ 88 ?_
 refine ov_ HT_ 14 (fun K hK => ?_)
 refine Kd.R_append_rows_step Kd.string (w0 := w) w.heap.size (by rfl) (.tmp 88) (.tmp 89) 22 9 (.string ⟨#[]⟩) 16 rfl Tryd.underlying22 info9 rfl (by decide) (by omega) vz2 yz1 lz4 _ _ _ (fun k_ => some k_ ≠ (vz1 : Value).ownBlock) (fun _ => False) rfl rfl ?aO ?aR (fun _ _ h => h) (fun _ h => h.elim) ?aF ?aB ?aS ?aL ?_
 (case aR => exact Kd.C_below HRz4.out be_)
 (case aB => exact be_)
 (case aF => exact (fun k_ hk => Kd.fresh' (Kd.R_lt (lR_ HOz1.out)) k_ hk))
 (case aO => exact (lR_ (Kd.R_mono HOz2.out (fun _ hk => hk.2))))
 (case aS => exact (below_size be_))
 (case aL => have := LMcz1.out; omega)
 intro vz3 wz6 ho hb hg hat
 rw [← Nyz2.out] at ho
 have nz1 := Aside0.mk (blk_grown (g := gbz1) (o := .cells #[.slice (some adz1) lz1.length cz1, .slice (some adz2) lz2.length cz2, .slice Az3 lz3.length cz3] 33 (0, 0)) bk_ hg (Kd.R_ne HOz2.out BKz1.out (by decide)))
 have nz2 := Aside0.mk (blk_grown (g := gbz2) (o := .cells #[.slice Az5 ((rd_T33 lz2 xz3).f0).length cz15, .slice Az6 ((rd_T33 lz2 xz3).f1).length cz16, .slice Az7 ((rd_T33 lz2 xz3).f2).length cz17] 33 (0, 0)) bk_ hg (Kd.R_ne HOz2.out BKz2.out (by decide)))
 have nz3 := Aside0.mk (Kd.R_after (ok := (fun _ => True)) (lR_ HOz1.out) hg hat)
 have nz4 := Aside0.mk (hb)
 have nz5 := Aside0.mk (ho)
 clear BKz1 BKz2 HOz1 HB HOz2
 have BKz1 := nz1
 have BKz2 := nz2
 have HOz1 := nz3
 have HB := nz4
 have HOz3 := nz5
 clear nz1 nz2 nz3 nz4 nz5 ho hb hg hat
 refine hK.out _ _ ⟨bc_ BKz2 0, bc_ BKz2 1, bc_ BKz2 2⟩ (fun hHeld => ?_)
 clear hK K
 refine nm_ 90 ?_
 exact norm_ (by simp only [putAll, Act.put, List.setIfInBounds_toArray, List.set_cons_zero, List.set_cons_succ]) (hCont (vz2, vz3, vz1) _ ⟨hHeld, (lR_ HOz3.out), (lR_ (Kd.R_mono HOz1.out (fun _ hk => hk.2))), bk_, bk_, be_⟩)) : p := h
theorem impl_branchOk_z20 {p : Prop} (h : p := by
 skip
 exact impl_branchOk_z21) : p := h
theorem impl_branchOk_z13 {p : Prop} (h : p := by
 refine two_ (i := 12) (j := 16) (Ni := some 88) (Nj := some 92) (bs_ 21 49151) (bs_ 21 110591) rfl rfl rfl rfl (two_of HT_.out (by kernel_rfl)) (by decide) (by decide) (fun K hK => ?_) (fun K hK => ?_)
 ·exact impl_branchOk_z14
 ·exact impl_branchOk_z20) : p := h
theorem impl_branchOk_z12 {p : Prop} (h : p := by
 intro hCont
 exact impl_branchOk_z13) : p := h
theorem impl_branchOk_z11 {p : Prop} (h : p := by
 refine join_ (σ := Value × Value × Value) 4 (bs_ 21 131071) (fun s_ => [(88, s_.1), (90, s_.2.1), (92, s_.2.2)]) (fun s_ w' => (w'.cell? ⟨gbz2, 0, none⟩ = some (.slice Az5 ((rd_T33 lz2 xz3).f0).length cz15) ∧ w'.cell? ⟨gbz2, 1, none⟩ = some (.slice Az6 ((rd_T33 lz2 xz3).f1).length cz16) ∧ w'.cell? ⟨gbz2, 2, none⟩ = some (.slice Az7 ((rd_T33 lz2 xz3).f2).length cz17)) ∧ (Kd.R Kd.string 9 w' w.heap.size (fun k_ => some k_ ≠ (s_.2.2 : Value).ownBlock) s_.2.1 yz2) ∧ (Kd.R Kd.string 9 w' w.heap.size (fun k_ => some k_ ≠ (s_.2.1 : Value).ownBlock) s_.2.2 yz3) ∧ (w'.heap[gbz1]? = some (.cells #[.slice (some adz1) lz1.length cz1, .slice (some adz2) lz2.length cz2, .slice Az3 lz3.length cz3] 33 (0, 0))) ∧ (w'.heap[gbz2]? = some (.cells #[.slice Az5 ((rd_T33 lz2 xz3).f0).length cz15, .slice Az6 ((rd_T33 lz2 xz3).f1).length cz16, .slice Az7 ((rd_T33 lz2 xz3).f2).length cz17] 33 (0, 0))) ∧ (Below w.heap.size w w')) ?_ ?_
 rotate_left
 ·exact impl_branchOk_z12
 rintro ⟨vz1, vz2, vz3⟩ wz4 ⟨hS_, hz1, hz2, hz3, hz4, hz5⟩
 have nz1 : Aside0 (Kd.R Kd.string 9 wz4 w.heap.size (fun k_ => some k_ ≠ (vz3 : Value).ownBlock) vz2 yz2) := ⟨hz1⟩
 have nz2 : Aside0 (Kd.R Kd.string 9 wz4 w.heap.size (fun k_ => some k_ ≠ (vz2 : Value).ownBlock) vz3 yz3) := ⟨hz2⟩
 have nz3 : Aside0 (wz4.heap[gbz1]? = some (.cells #[.slice (some adz1) lz1.length cz1, .slice (some adz2) lz2.length cz2, .slice Az3 lz3.length cz3] 33 (0, 0))) := ⟨hz3⟩
 have nz4 : Aside0 (wz4.heap[gbz2]? = some (.cells #[.slice Az5 ((rd_T33 lz2 xz3).f0).length cz15, .slice Az6 ((rd_T33 lz2 xz3).f1).length cz16, .slice Az7 ((rd_T33 lz2 xz3).f2).length cz17] 33 (0, 0))) := ⟨hz4⟩
 have nz5 : Aside0 (Below w.heap.size w wz4) := ⟨hz5⟩
 clear BKz1 BKz2 HB hz1 hz2 hz3 hz4 hz5
 have HOz1 := nz1
 have HOz2 := nz2
 have BKz1 := nz3
 have BKz2 := nz4
 have HB := nz5
 clear nz1 nz2 nz3 nz4 nz5
 have hHeld : wz4.cell? ⟨gbz2, 0, none⟩ = some (.slice Az5 ((rd_T33 lz2 xz3).f0).length cz15) ∧ wz4.cell? ⟨gbz2, 1, none⟩ = some (.slice Az6 ((rd_T33 lz2 xz3).f1).length cz16) ∧ wz4.cell? ⟨gbz2, 2, none⟩ = some (.slice Az7 ((rd_T33 lz2 xz3).f2).length cz17) := hS_
 obtain ⟨Aoz1, coz1, eoz1⟩ := Kd.R_slice HOz2.out
 (first | subst eoz1 | (injection eoz1 with f1_ f2_ f3_; have fz1 := f1_.symm; have fz2 := f3_.symm; clear f1_ f2_ f3_; subst fz1; subst fz2))
 refine norm_ (a' := ?_) ?_ ?_
 rotate_left
 ·simp only [putAll, Act.put, List.setIfInBounds_toArray, List.set_cons_zero, List.set_cons_succ]
  rfl
 refine ov_ HT_ 17 (fun K hK => ?_)
 refine Kd.R_append_rows_step Kd.string (w0 := w) w.heap.size (by rfl) (.tmp 90) (.tmp 92) 22 9 (.string ⟨#[]⟩) 16 rfl Tryd.underlying22 info9 rfl (by decide) (by omega) vz2 yz2 yz3 _ _ _ (fun k_ => some k_ ≠ (.slice Aoz1 yz3.length coz1 : Value).ownBlock) (fun _ => False) rfl rfl ?aO ?aR (fun _ _ h => h) (fun _ h => h.elim) ?aF ?aB ?aS ?aL ?_
 (case aR => exact cR_ HOz2)
 (case aB => exact be_)
 (case aF => exact (fun k_ hk => Kd.fresh' (Kd.R_lt (lR_ HOz2.out)) k_ hk))
 (case aO => exact (lR_ HOz1.out))
 (case aS => exact (below_size be_))
 (case aL => have := LMcz2.out; omega)
 intro vz4 wz5 ho hb hg hat
 rw [← Nyz4.out] at ho
 have nz1 := Aside0.mk (blk_grown (g := gbz1) (o := .cells #[.slice (some adz1) lz1.length cz1, .slice (some adz2) lz2.length cz2, .slice Az3 lz3.length cz3] 33 (0, 0)) bk_ hg (Kd.R_ne HOz1.out BKz1.out (by decide)))
 have nz2 := Aside0.mk (blk_grown (g := gbz2) (o := .cells #[.slice Az5 ((rd_T33 lz2 xz3).f0).length cz15, .slice Az6 ((rd_T33 lz2 xz3).f1).length cz16, .slice Az7 ((rd_T33 lz2 xz3).f2).length cz17] 33 (0, 0)) bk_ hg (Kd.R_ne HOz1.out BKz2.out (by decide)))
 have nz3 := Aside0.mk (Kd.R_after (ok := (fun _ => True)) (lR_ (Kd.R_mono HOz2.out (fun _ hk => ⟨trivial, hk⟩))) hg hat)
 have nz4 := Aside0.mk (hb)
 have nz5 := Aside0.mk (ho)
 clear BKz1 BKz2 HOz2 HB HOz1
 have BKz1 := nz1
 have BKz2 := nz2
 have HOz2 := nz3
 have HB := nz4
 have HOz3 := nz5
 clear nz1 nz2 nz3 nz4 nz5 ho hb hg hat
 obtain ⟨Aoz2, coz2, eoz2⟩ := Kd.R_slice HOz3.out
 (first | subst eoz2 | (injection eoz2 with f1_ f2_ f3_; have fz1 := f1_.symm; have fz2 := f3_.symm; clear f1_ f2_ f3_; subst fz1; subst fz2))
 refine hK.out _ _ ⟨bc_ BKz2 0, bc_ BKz2 1, bc_ BKz2 2⟩ (fun hHeld => ?_)
 clear hK K
 refine nm_ 93 ?_
 refine ov_ HT_ 18 (fun K hK => ?_)
 refine goes_ Tryd.func55 (by kernel_rfl) rfl #[.agg #[.slice Az5 ((rd_T33 lz2 xz3).f0).length cz15, .slice Az6 ((rd_T33 lz2 xz3).f1).length cz16, .slice Az7 ((rd_T33 lz2 xz3).f2).length cz17], .slice Aoz2 yz4.length coz2] (by rfl) rfl rfl ar_ ?_
 with_reducible refine (ih kjz3 (by have := HJz1.out; have := HJz2.out; have := HKz1.out; have := HJz3.out; omega) _ _ ((rd_T33 lz2 xz3).f0) _ _ ((rd_T33 lz2 xz3).f1) _ _ ((rd_T33 lz2 xz3).f2) _ _ yz4 false _ ?side1 ?side2 ?side3 ?side4 ?side5 ?side6 ?side7 ?side8 ?side9 Az9.out).mono ?_
 (case side1 => exact Kd.C_below HRz5.out be_)
 (case side2 => exact HCz8.out)
 (case side3 => exact Kd.C_below HRz6.out be_)
 (case side4 => exact HCz9.out)
 (case side5 => exact Kd.C_below HRz7.out be_)
 (case side6 => exact HCz10.out)
 (case side7 => exact cR_ HOz3)
 (case side8 => exact (Kd.R_reads' HOz3.out).2.1)
 (case side9 => exact Tabs.below HT.out be_)
 rintro e wz6 ⟨rfl, hb⟩
 refine ⟨_, rfl, ?_⟩
 have nz1 := bR_ HOz2 hb
 have nz2 := bR_ HOz3 hb
 have nz3 := Aside0.mk (blk_below (g := gbz1) (o := .cells #[.slice (some adz1) lz1.length cz1, .slice (some adz2) lz2.length cz2, .slice Az3 lz3.length cz3] 33 (0, 0)) bk_ hb)
 have nz4 := Aside0.mk (blk_below (g := gbz2) (o := .cells #[.slice Az5 ((rd_T33 lz2 xz3).f0).length cz15, .slice Az6 ((rd_T33 lz2 xz3).f1).length cz16, .slice Az7 ((rd_T33 lz2 xz3).f2).length cz17] 33 (0, 0)) bk_ hb)
 have nz5 := bw_ hb
 clear HOz2 HOz3 BKz1 BKz2 HB
 have HOz2 := nz1
 have HOz3 := nz2
 have BKz1 := nz3
 have BKz2 := nz4
 have HB := nz5
 clear nz1 nz2 nz3 nz4 nz5 hb
 refine hK.out _ _ ⟨bc_ BKz2 0, bc_ BKz2 1, bc_ BKz2 2⟩ (fun hHeld => ?_)
 clear hK K
 refine nm_ 94 ?_
 refine pv_ HT_ 19 ?_
 refine pv_ HT_ 20 ?_
 refine done_ (done_of HT_.out (by kernel_rfl)) ?_
 try go_wp2
 go_ret
 exact ⟨er_, be_⟩) : p := h
theorem impl_branchOk_z10 {p : Prop} (h : p := by
 refine tv_ HT_ HW_ hHeld 11 ?_
 exact impl_branchOk_z11) : p := h
theorem impl_branchOk_z9 {p : Prop} (h : p := by
 refine pv_ HT_ 15 ?_
 exact impl_branchOk_z10) : p := h
theorem impl_branchOk_z8 {p : Prop} (h : p := by
 refine pv_ HT_ 13 ?_
 exact impl_branchOk_z9) : p := h
theorem impl_branchOk_z7 {p : Prop} (h : p := by
 refine pv_ HT_ 10 ?_
 exact impl_branchOk_z8) : p := h
theorem impl_branchOk_z6 {p : Prop} (h : p := by
 refine pv_ HT_ 9 ?_
 exact impl_branchOk_z7) : p := h
theorem impl_branchOk_z27 {p : Prop} (h : p := by
 refine join_ (σ := Value × Value × Value) 4 (bs_ 21 131071) (fun s_ => [(88, s_.1), (90, s_.2.1), (92, s_.2.2)]) (fun s_ w' => (w'.cell? ⟨gbz2, 0, none⟩ = some (.slice Az5 ((rd_T33 lz2 xz3).f0).length cz15) ∧ w'.cell? ⟨gbz2, 1, none⟩ = some (.slice Az6 ((rd_T33 lz2 xz3).f1).length cz16) ∧ w'.cell? ⟨gbz2, 2, none⟩ = some (.slice Az7 ((rd_T33 lz2 xz3).f2).length cz17)) ∧ (Kd.R Kd.string 9 w' w.heap.size (fun k_ => some k_ ≠ (s_.2.2 : Value).ownBlock) s_.2.1 yz2) ∧ (Kd.R Kd.string 9 w' w.heap.size (fun k_ => some k_ ≠ (s_.2.1 : Value).ownBlock) s_.2.2 yz3) ∧ (w'.heap[gbz1]? = some (.cells #[.slice (some adz1) lz1.length cz1, .slice (some adz2) lz2.length cz2, .slice Az3 lz3.length cz3] 33 (0, 0))) ∧ (w'.heap[gbz2]? = some (.cells #[.slice Az5 ((rd_T33 lz2 xz3).f0).length cz15, .slice Az6 ((rd_T33 lz2 xz3).f1).length cz16, .slice Az7 ((rd_T33 lz2 xz3).f2).length cz17] 33 (0, 0))) ∧ (Below w.heap.size w w')) ?_ ?_
 rotate_left
 ·exact impl_branchOk_z12
 rintro ⟨vz1, vz2, vz3⟩ wz4 ⟨hS_, hz1, hz2, hz3, hz4, hz5⟩
 have nz1 : Aside0 (Kd.R Kd.string 9 wz4 w.heap.size (fun k_ => some k_ ≠ (vz3 : Value).ownBlock) vz2 yz2) := ⟨hz1⟩
 have nz2 : Aside0 (Kd.R Kd.string 9 wz4 w.heap.size (fun k_ => some k_ ≠ (vz2 : Value).ownBlock) vz3 yz3) := ⟨hz2⟩
 have nz3 : Aside0 (wz4.heap[gbz1]? = some (.cells #[.slice (some adz1) lz1.length cz1, .slice (some adz2) lz2.length cz2, .slice Az3 lz3.length cz3] 33 (0, 0))) := ⟨hz3⟩
 have nz4 : Aside0 (wz4.heap[gbz2]? = some (.cells #[.slice Az5 ((rd_T33 lz2 xz3).f0).length cz15, .slice Az6 ((rd_T33 lz2 xz3).f1).length cz16, .slice Az7 ((rd_T33 lz2 xz3).f2).length cz17] 33 (0, 0))) := ⟨hz4⟩
 have nz5 : Aside0 (Below w.heap.size w wz4) := ⟨hz5⟩
 clear BKz1 BKz2 HB hz1 hz2 hz3 hz4 hz5
 have HOz1 := nz1
 have HOz2 := nz2
 have BKz1 := nz3
 have BKz2 := nz4
 have HB := nz5
 clear nz1 nz2 nz3 nz4 nz5
 have hHeld : wz4.cell? ⟨gbz2, 0, none⟩ = some (.slice Az5 ((rd_T33 lz2 xz3).f0).length cz15) ∧ wz4.cell? ⟨gbz2, 1, none⟩ = some (.slice Az6 ((rd_T33 lz2 xz3).f1).length cz16) ∧ wz4.cell? ⟨gbz2, 2, none⟩ = some (.slice Az7 ((rd_T33 lz2 xz3).f2).length cz17) := hS_
 obtain ⟨Aoz1, coz1, eoz1⟩ := Kd.R_slice HOz2.out
 (first | subst eoz1 | (injection eoz1 with f1_ f2_ f3_; have fz1 := f1_.symm; have fz2 := f3_.symm; clear f1_ f2_ f3_; subst fz1; subst fz2))
 refine norm_ (a' := ?_) ?_ ?_
 rotate_left
 ·simp only [putAll, Act.put, List.setIfInBounds_toArray, List.set_cons_zero, List.set_cons_succ]
  rfl
 refine ov_ HT_ 17 (fun K hK => ?_)
 refine Kd.R_append_rows_step Kd.string (w0 := w) w.heap.size (by rfl) (.tmp 90) (.tmp 92) 22 9 (.string ⟨#[]⟩) 16 rfl Tryd.underlying22 info9 rfl (by decide) (by omega) vz2 yz2 yz3 _ _ _ (fun k_ => some k_ ≠ (.slice Aoz1 yz3.length coz1 : Value).ownBlock) (fun _ => False) rfl rfl ?aO ?aR (fun _ _ h => h) (fun _ h => h.elim) ?aF ?aB ?aS ?aL ?_
 (case aR => exact cR_ HOz2)
 (case aB => exact be_)
 (case aF => exact (fun k_ hk => Kd.fresh' (Kd.R_lt (lR_ HOz2.out)) k_ hk))
 (case aO => exact (lR_ HOz1.out))
 (case aS => exact (below_size be_))
 (case aL => have := LMcz2.out; omega)
 intro vz4 wz5 ho hb hg hat
 rw [← Nyz4.out] at ho
 have nz1 := Aside0.mk (blk_grown (g := gbz1) (o := .cells #[.slice (some adz1) lz1.length cz1, .slice (some adz2) lz2.length cz2, .slice Az3 lz3.length cz3] 33 (0, 0)) bk_ hg (Kd.R_ne HOz1.out BKz1.out (by decide)))
 have nz2 := Aside0.mk (blk_grown (g := gbz2) (o := .cells #[.slice Az5 ((rd_T33 lz2 xz3).f0).length cz15, .slice Az6 ((rd_T33 lz2 xz3).f1).length cz16, .slice Az7 ((rd_T33 lz2 xz3).f2).length cz17] 33 (0, 0)) bk_ hg (Kd.R_ne HOz1.out BKz2.out (by decide)))
 have nz3 := Aside0.mk (Kd.R_after (ok := (fun _ => True)) (lR_ (Kd.R_mono HOz2.out (fun _ hk => ⟨trivial, hk⟩))) hg hat)
 have nz4 := Aside0.mk (hb)
 have nz5 := Aside0.mk (ho)
 clear BKz1 BKz2 HOz2 HB HOz1
 have BKz1 := nz1
 have BKz2 := nz2
 have HOz2 := nz3
 have HB := nz4
 have HOz3 := nz5
 clear nz1 nz2 nz3 nz4 nz5 ho hb hg hat
 obtain ⟨Aoz2, coz2, eoz2⟩ := Kd.R_slice HOz3.out
 (first | subst eoz2 | (injection eoz2 with f1_ f2_ f3_; have fz1 := f1_.symm; have fz2 := f3_.symm; clear f1_ f2_ f3_; subst fz1; subst fz2))
 refine hK.out _ _ ⟨bc_ BKz2 0, bc_ BKz2 1, bc_ BKz2 2⟩ (fun hHeld => ?_)
 clear hK K
 refine nm_ 93 ?_
 refine ov_ HT_ 18 (fun K hK => ?_)
 refine goes_ Tryd.func55 (by kernel_rfl) rfl #[.agg #[.slice Az5 ((rd_T33 lz2 xz3).f0).length cz15, .slice Az6 ((rd_T33 lz2 xz3).f1).length cz16, .slice Az7 ((rd_T33 lz2 xz3).f2).length cz17], .slice Aoz2 yz4.length coz2] (by rfl) rfl rfl ar_ ?_
 with_reducible refine (ih kjz3 (by have := HJz1.out; have := HJz2.out; have := HKz1.out; have := HJz3.out; omega) _ _ ((rd_T33 lz2 xz3).f0) _ _ ((rd_T33 lz2 xz3).f1) _ _ ((rd_T33 lz2 xz3).f2) _ _ yz4 true _ ?side1 ?side2 ?side3 ?side4 ?side5 ?side6 ?side7 ?side8 ?side9 Az9.out).mono ?_
 (case side1 => exact Kd.C_below HRz5.out be_)
 (case side2 => exact HCz8.out)
 (case side3 => exact Kd.C_below HRz6.out be_)
 (case side4 => exact HCz9.out)
 (case side5 => exact Kd.C_below HRz7.out be_)
 (case side6 => exact HCz10.out)
 (case side7 => exact cR_ HOz3)
 (case side8 => exact (Kd.R_reads' HOz3.out).2.1)
 (case side9 => exact Tabs.below HT.out be_)
 rintro e wz6 ⟨rfl, hb⟩
 refine ⟨_, rfl, ?_⟩
 have nz1 := bR_ HOz2 hb
 have nz2 := bR_ HOz3 hb
 have nz3 := Aside0.mk (blk_below (g := gbz1) (o := .cells #[.slice (some adz1) lz1.length cz1, .slice (some adz2) lz2.length cz2, .slice Az3 lz3.length cz3] 33 (0, 0)) bk_ hb)
 have nz4 := Aside0.mk (blk_below (g := gbz2) (o := .cells #[.slice Az5 ((rd_T33 lz2 xz3).f0).length cz15, .slice Az6 ((rd_T33 lz2 xz3).f1).length cz16, .slice Az7 ((rd_T33 lz2 xz3).f2).length cz17] 33 (0, 0)) bk_ hb)
 have nz5 := bw_ hb
 clear HOz2 HOz3 BKz1 BKz2 HB
 have HOz2 := nz1
 have HOz3 := nz2
 have BKz1 := nz3
 have BKz2 := nz4
 have HB := nz5
 clear nz1 nz2 nz3 nz4 nz5 hb
 refine hK.out _ _ ⟨bc_ BKz2 0, bc_ BKz2 1, bc_ BKz2 2⟩ (fun hHeld => ?_)
 clear hK K
 refine nm_ 94 ?_
 refine pv_ HT_ 19 ?_
 refine pv_ HT_ 20 ?_
 refine done_ (done_of HT_.out (by kernel_rfl)) ?_
 try go_wp2
 go_roundg kjz3
 case measure => have := HJz1.out; have := HJz2.out; have := HKz1.out; have := HJz3.out; omega
 case rel => exact ⟨(wrap64 (xz3 + 1)), rs_, H', ⟨by have := HJz1.out; have := HJz2.out; have := HKz1.out; have := HJz3.out; omega⟩, ⟨bk_⟩, ⟨be_⟩⟩) : p := h
theorem impl_branchOk_z26 {p : Prop} (h : p := by
 refine tv_ HT_ HW_ hHeld 11 ?_
 exact impl_branchOk_z27) : p := h
theorem impl_branchOk_z25 {p : Prop} (h : p := by
 refine pv_ HT_ 15 ?_
 exact impl_branchOk_z26) : p := h
theorem impl_branchOk_z24 {p : Prop} (h : p := by
 refine pv_ HT_ 13 ?_
 exact impl_branchOk_z25) : p := h
theorem impl_branchOk_z23 {p : Prop} (h : p := by
 refine pv_ HT_ 10 ?_
 exact impl_branchOk_z24) : p := h
theorem impl_branchOk_z22 {p : Prop} (h : p := by
 refine pv_ HT_ 9 ?_
 exact impl_branchOk_z23) : p := h
theorem impl_branchOk.calls (k : Nat) : ∀ (A0_0 : Option Addr) (c0_0 : Nat) (l0_0 : List ByteArray) (A0_1 : Option Addr) (c0_1 : Nat) (l0_1 : List (S33)) (A0_2 : Option Addr) (c0_2 : Nat) (l0_2 : List (S86)) (A1 : Option Addr) (c1 : Nat) (l1 : List ByteArray) (r : Bool) (w : World) (hr0_0 : Kd.C Kd.string w A0_0 l0_0.length l0_0) (hc0_0 : l0_0.length ≤ c0_0) (hr0_1 : Kd.C k33 w A0_1 l0_1.length l0_1) (hc0_1 : l0_1.length ≤ c0_1) (hr0_2 : Kd.C k86 w A0_2 l0_2.length l0_2) (hc0_2 : l0_2.length ≤ c0_2) (hr1 : Kd.C Kd.string w A1 l1.length l1) (hc1 : l1.length ≤ c1) (hT : Tabs w) (h : impl_branchOk.f k l0_0 l0_1 l0_2 l1 = some r),
  Calls Tryd.prog 55 #[.agg #[.slice A0_0 l0_0.length c0_0, .slice A0_1 l0_1.length c0_1, .slice A0_2 l0_2.length c0_2], .slice A1 l1.length c1] w fun e w' => e = .returned (.bool r) ∧ Below w.heap.size w w' := by
 induction k using Nat.strongRecOn with
 | _ k ih =>
 intro Az1 cz1 lz1 Az2 cz2 lz2 Az3 cz3 lz3 Az4 cz4 lz4 r w hrz1 hcz1 hrz2 hcz2 hrz3 hcz3 hrz4 hcz4 hT h
 cases k with
 | zero => exact absurd h (by simp [impl_branchOk.f])
 | succ k =>
 simp only [impl_branchOk.f] at h
 have huz1 := Tryd.underlying33
 have HT := Aside0.mk hT
 clear hT
 have HRz1 := Aside0.mk hrz1
 have HCz1 := Aside0.mk hcz1
 clear hrz1 hcz1
 have HRz2 := Aside0.mk hrz2
 have HCz2 := Aside0.mk hcz2
 clear hrz2 hcz2
 have HRz3 := Aside0.mk hrz3
 have HCz3 := Aside0.mk hcz3
 clear hrz3 hcz3
 have HRz4 := Aside0.mk hrz4
 have HCz4 := Aside0.mk hcz4
 clear hrz4 hcz4
 have HB := Aside0.mk (Below.refl w.heap.size w)
 have H : (if (lz1.length : Int) = (lz2.length : Int) then (if (lz4.length : Int) > 6 then (impl_branchOk.j0 k lz4 true lz1 lz2 lz3) else ((impl_subsOk.f k lz3).bind fun t303 => (impl_branchOk.j0 k lz4 (!t303) lz1 lz2 lz3))) else (impl_branchOk.j0 k lz4 true lz1 lz2 lz3)) = some r := h
 clear h
 have HCz5 := Aside0.mk H
 clear H
 go_enter Tryd.func55, Tryd.ntmps55
 go_upto_region 1 with (first | ((with_reducible refine gate_dst (N := 2) rfl ?_); (try (refine gate_guard (by rfl) ?_; dsimp only)); refine box_event ?hg (N := 2) ?hd (cs := #[.slice Az1 lz1.length cz1, .slice Az2 lz2.length cz2, .slice Az3 lz3.length cz3]) (t := 33) ?hr ?_; (case hd => rfl); (case hg => rfl); (case hr => first | (go_simp; done) | (go_simp; rfl)); intro gbz1 hg wz1 hbox hb; have BKz1 := Aside0.mk (hbox); have GWz1 := Aside0.mk ((sz_ : w.heap.size ≤ gbz1)); have GEz1 := Aside0.mk ((sz_ : w.heap.size ≤ gbz1)); replace HB := bw_ hb; clear hb hbox hg))
 (try simp only [Act.put, List.setIfInBounds_toArray, List.set_cons_zero, List.set_cons_succ])
 go_cut [25] (fun v25 wc => ∃ (kq : Nat) (x25_2 : Bool), v25 = .bool x25_2 ∧ Aside0 (impl_branchOk.j0 kq lz4 x25_2 lz1 lz2 lz3 = some r) ∧ Aside0 (kq ≤ k) ∧ Aside0 (wc.heap[gbz1]? = some (.cells #[(.slice Az1 lz1.length cz1), (.slice Az2 lz2.length cz2), (.slice Az3 lz3.length cz3)] 33 (0, 0))) ∧ Aside0 (Below w.heap.size w wc))
 case first =>
  have H := HCz5.out
  clear HCz5
  by_cases cz5 : (lz1.length : Int) = (lz2.length : Int)
  rotate_left
  ·rw [if_neg cz5] at H
   have cz6 : ((lz1.length : Int) == (lz2.length : Int)) = false := beq_eq_false_iff_ne.mpr cz5
   have cz7 : ((lz1.length : Int) != (lz2.length : Int)) = true := bne_iff_ne.mpr cz5
   have cz8 : (lz1.length == lz2.length) = false := by first | simpa using cz5 | (simp at cz5 ⊢; omega)
   (first | rw [cz6] | (simp only [i64_w, i32_w]; rw [cz6]) | skip)
   exact impl_branchOk_z0
  rw [if_pos cz5] at H
  have cz6 : ((lz1.length : Int) == (lz2.length : Int)) = true := beq_iff_eq.mpr cz5
  have cz7 : ((lz1.length : Int) != (lz2.length : Int)) = false := bne_eq_false_iff_eq.mpr cz5
  have cz8 : (lz1.length == lz2.length) = true := by first | simpa using cz5 | (simp at cz5 ⊢; omega)
  clear cz5
  (first | rw [cz6] | (simp only [i64_w, i32_w]; rw [cz6]) | skip)
  by_cases cz9 : (lz4.length : Int) > 6
  ·rw [if_pos cz9] at H
   have cz10 : decide (6 < (lz4.length : Int)) = true := decide_eq_true cz9
   have cz11 : decide (6 < lz4.length) = true := decide_eq_true (by omega)
   clear cz9
   exact impl_branchOk_z0
  rw [if_neg cz9] at H
  have cz10 : decide (6 < (lz4.length : Int)) = false := decide_eq_false cz9
  have cz11 : decide (6 < lz4.length) = false := decide_eq_false (by omega)
  clear cz9
  replace H := bo_ H
  obtain ⟨tz1, Az6, H⟩ := H
  (try dsimp only at H)
  have H' := Aside0.mk H
  clear H
  have hczz1 : wz1.cell? ⟨gbz1, 0, none⟩ = some (.slice Az1 lz1.length cz1) := bc_ BKz1 0
  have hczz2 : wz1.cell? ⟨gbz1, 1, none⟩ = some (.slice Az2 lz2.length cz2) := bc_ BKz1 1
  have hczz3 : wz1.cell? ⟨gbz1, 2, none⟩ = some (.slice Az3 lz3.length cz3) := bc_ BKz1 2
  have hfzz1 := blk_frozen BKz1.out 0
  have hfzz2 := blk_frozen BKz1.out 1
  have hfzz3 := blk_frozen BKz1.out 2
  go_wp2_with (first | (go_at_call 68; (with_reducible refine (impl_subsOk.calls k _ _ lz3 tz1 _ ?side1 ?side2 ?side3 Az6.out).mono ?_); (case side1 => exact Kd.C_below HRz3.out be_); (case side2 => exact HCz3.out); (case side3 => exact Tabs.below HT.out be_); rintro e wz2 ⟨rfl, hb⟩; replace HB := bw_ hb; replace BKz1 := kb_ BKz1 hb; clear hb))
  go_meet
  case rel => exact ⟨_, (!tz1), rs_, H', ⟨by first | omega | exact Nat.le_refl _⟩, ⟨bk_⟩, ⟨be_⟩⟩
 case rest =>
  clear HCz5
  obtain ⟨kq, xz1, rfl, HA, HJz1, BKz1, HB⟩ := hcut
  cases kq with
  | zero => exact absurd HA.out (by simp [impl_branchOk.j0])
  | succ kjz1 =>
   have H := HA.out
   clear HA
   simp only [impl_branchOk.j0] at H
   by_cases cz5 : xz1 = true
   ·subst cz5
    replace H := bt_ H
    obtain rfl := Option.some.inj H
    go_wp2
    go_ret
    exact ⟨er_, be_⟩
   replace cz5 := Bool.eq_false_iff.mpr cz5
   subst cz5
   replace H := bf_ H
   have HCz6 := Aside0.mk H
   clear H
   go_upto_region 3 with (fail)
   go_cut [35] (fun v35 wc => ∃ (kq : Nat) (x35_12 : Bool), v35 = .bool x35_12 ∧ Aside0 (impl_branchOk.j1 kq lz4 x35_12 lz1 lz2 lz3 = some r) ∧ Aside0 (kq ≤ kjz1) ∧ Aside0 (wc.heap[gbz1]? = some (.cells #[(.slice Az1 lz1.length cz1), (.slice Az2 lz2.length cz2), (.slice Az3 lz3.length cz3)] 33 (0, 0))) ∧ Aside0 (Below w.heap.size w wc))
   case first =>
    have H := HCz6.out
    clear HCz6
    by_cases cz6 : (lz3.length : Int) > 0
    rotate_left
    ·rw [if_neg cz6] at H
     have cz7 : decide (0 < (lz3.length : Int)) = false := decide_eq_false cz6
     have cz8 : decide (0 < lz3.length) = false := decide_eq_false (by omega)
     clear cz6
     (first | rw [cz7] | (simp only [i64_w, i32_w]; rw [cz7]) | skip)
     have H' := Aside0.mk H
     clear H
     have hczz1 : wc.cell? ⟨gbz1, 0, none⟩ = some (.slice Az1 lz1.length cz1) := bc_ BKz1 0
     have hczz2 : wc.cell? ⟨gbz1, 1, none⟩ = some (.slice Az2 lz2.length cz2) := bc_ BKz1 1
     have hczz3 : wc.cell? ⟨gbz1, 2, none⟩ = some (.slice Az3 lz3.length cz3) := bc_ BKz1 2
     have hfzz1 := blk_frozen BKz1.out 0
     have hfzz2 := blk_frozen BKz1.out 1
     have hfzz3 := blk_frozen BKz1.out 2
     go_wp2
     go_meet
     case rel => exact ⟨_, (false), rs_, H', ⟨by have := HJz1.out; first | omega | exact Nat.le_refl _⟩, ⟨bk_⟩, ⟨be_⟩⟩
    rw [if_pos cz6] at H
    have cz7 : decide (0 < (lz3.length : Int)) = true := decide_eq_true cz6
    have cz8 : decide (0 < lz3.length) = true := decide_eq_true (by omega)
    clear cz6
    (first | rw [cz7] | (simp only [i64_w, i32_w]; rw [cz7]) | skip)
    replace H := bo_ H
    obtain ⟨tz1, Az6, H⟩ := H
    (try dsimp only at H)
    replace H := bo_ H
    obtain ⟨tz2, Az8, H⟩ := H
    (try dsimp only at H)
    have H' := Aside0.mk H
    clear H
    have hczz1 : wc.cell? ⟨gbz1, 0, none⟩ = some (.slice Az1 lz1.length cz1) := bc_ BKz1 0
    have hczz2 : wc.cell? ⟨gbz1, 1, none⟩ = some (.slice Az2 lz2.length cz2) := bc_ BKz1 1
    have hczz3 : wc.cell? ⟨gbz1, 2, none⟩ = some (.slice Az3 lz3.length cz3) := bc_ BKz1 2
    have hfzz1 := blk_frozen BKz1.out 0
    have hfzz2 := blk_frozen BKz1.out 1
    have hfzz3 := blk_frozen BKz1.out 2
    go_wp2_with (first | (go_at_call 56; (with_reducible refine (impl_Join.calls _ _ lz4 tz1 _ ?side1 ?side2 Az6.out).mono ?_); (case side1 => exact Kd.C_below HRz4.out be_); (case side2 => exact HCz4.out); rintro e wz2 ⟨rfl, hb⟩; replace HB := bw_ hb; replace BKz1 := kb_ BKz1 hb; clear hb) | (go_at_call 69; (with_reducible refine (impl_FilterOk.calls kjz1 tz1 tz2 _ ?side1 Az8.out).mono ?_); (case side1 => exact Tabs.below HT.out be_); rintro e wz3 ⟨rfl, hb⟩; replace HB := bw_ hb; replace BKz1 := kb_ BKz1 hb; clear hb))
    go_meet
    case rel => exact ⟨_, (!tz2), rs_, H', ⟨by have := HJz1.out; first | omega | exact Nat.le_refl _⟩, ⟨bk_⟩, ⟨be_⟩⟩
   case rest =>
    clear HCz6
    obtain ⟨kq, xz2, rfl, HA, HJz2, BKz1, HB⟩ := hcut
    cases kq with
    | zero => exact absurd HA.out (by simp [impl_branchOk.j1])
    | succ kjz2 =>
     have H := HA.out
     clear HA
     simp only [impl_branchOk.j1] at H
     by_cases cz6 : xz2 = true
     ·subst cz6
      replace H := bt_ H
      obtain rfl := Option.some.inj H
      go_wp2
      go_ret
      exact ⟨er_, be_⟩
     replace cz6 := Bool.eq_false_iff.mpr cz6
     subst cz6
     replace H := bf_ H
     have H' := Aside0.mk H
     clear H
     have hczz1 : wc.cell? ⟨gbz1, 0, none⟩ = some (.slice Az1 lz1.length cz1) := bc_ BKz1 0
     have hczz2 : wc.cell? ⟨gbz1, 1, none⟩ = some (.slice Az2 lz2.length cz2) := bc_ BKz1 1
     have hczz3 : wc.cell? ⟨gbz1, 2, none⟩ = some (.slice Az3 lz3.length cz3) := bc_ BKz1 2
     have hfzz1 := blk_frozen BKz1.out 0
     have hfzz2 := blk_frozen BKz1.out 1
     have hfzz3 := blk_frozen BKz1.out 2
     go_wp2
     go_loopg [39] kjz2 (fun kq v39 w' => ∃ (x39_3 : Int), v39 = .int .i64 x39_3 ∧ Aside0 (impl_branchOk.l0 kq lz4 lz1 (lz1.length : Int) x39_3 lz1 lz2 lz3 = some r) ∧ Aside0 (kq ≤ kjz2) ∧ Aside0 (w'.heap[gbz1]? = some (.cells #[(.slice Az1 lz1.length cz1), (.slice Az2 lz2.length cz2), (.slice Az3 lz3.length cz3)] 33 (0, 0))) ∧ Aside0 (Below w.heap.size w w'))
     case atStart => exact ⟨(0), rs_, H', ⟨Nat.le_refl _⟩, ⟨bk_⟩, ⟨be_⟩⟩
     case round =>
      clear H'
      obtain ⟨xz3, rfl, HA, HKz1, BKz1, HB⟩ := hrel
      cases gk with
      | zero => exact absurd HA.out (by simp [impl_branchOk.l0])
      | succ kz1 =>
       have H := HA.out
       clear HA
       simp only [impl_branchOk.l0] at H
       by_cases cz7 : xz3 < (lz1.length : Int)
       rotate_left
       ·rw [if_neg cz7] at H
        have cz8 : decide (xz3 < (lz1.length : Int)) = false := decide_eq_false cz7
        clear cz7
        obtain rfl := Option.some.inj H
        go_wp2
        go_ret
        exact ⟨er_, be_⟩
       rw [if_pos cz7] at H
       have cz8 : decide (xz3 < (lz1.length : Int)) = true := decide_eq_true cz7
       clear cz7
       by_cases cz9 : 0 ≤ xz3
       rotate_left
       ·rw [if_neg cz9] at H
        exact absurd H (by simp)
       rw [if_pos cz9] at H
       have cz10 : decide (0 ≤ xz3) = true := decide_eq_true cz9
       clear cz9
       by_cases cz11 : xz3 < (lz1.length : Int)
       rotate_left
       ·rw [if_neg cz11] at H
        exact absurd H (by simp)
       rw [if_pos cz11] at H
       have cz12 : decide (xz3 < (lz1.length : Int)) = true := decide_eq_true cz11
       clear cz11
       by_cases cz13 : xz3 < (lz2.length : Int)
       rotate_left
       ·rw [if_neg cz13] at H
        exact absurd H (by simp)
       rw [if_pos cz13] at H
       have cz14 : decide (xz3 < (lz2.length : Int)) = true := decide_eq_true cz13
       clear cz13
       have HCz7 := Aside0.mk H
       clear H
       have pz1 : 0 ≤ (xz3 : Int) := dt_
       have qz1 : xz3 < (lz1.length : Int) := dt_
       obtain ⟨adz1, ez1, hxz1⟩ := Kd.at_string HRz1.out xz3 pz1 qz1
       cases ez1
       replace hxz1 := cl_ HB hxz1
       replace pz1 := eq_true pz1
       replace qz1 := eq_true qz1
       have hczz4 : wr.cell? ⟨gbz1, 0, none⟩ = some (.slice (some adz1) lz1.length cz1) := bc_ BKz1 0
       have hczz5 : wr.cell? ⟨gbz1, 1, none⟩ = some (.slice Az2 lz2.length cz2) := bc_ BKz1 1
       have hczz6 : wr.cell? ⟨gbz1, 2, none⟩ = some (.slice Az3 lz3.length cz3) := bc_ BKz1 2
       have hfzz4 := blk_frozen BKz1.out 0
       have hfzz5 := blk_frozen BKz1.out 1
       have hfzz6 := blk_frozen BKz1.out 2
       obtain ⟨pz2, qz2, adz2, Az5, cz15, Az6, cz16, Az7, cz17, ez2, hxz2, hxz3, hxz4, hlz1, hiz1, hlz2, hiz2, hlz3, hiz3⟩ := aa_ (at_T33 HRz2.out xz3)
       cases ez2
       replace hxz2 := cl_ HB hxz2
       replace hxz3 := cl_ HB hxz3
       replace hxz4 := cl_ HB hxz4
       have HRz5 := Aside0.mk hiz1
       have HCz8 := Aside0.mk hlz1
       clear hiz1 hlz1
       have HRz6 := Aside0.mk hiz2
       have HCz9 := Aside0.mk hlz2
       clear hiz2 hlz2
       have HRz7 := Aside0.mk hiz3
       have HCz10 := Aside0.mk hlz3
       clear hiz3 hlz3
       go_upto_region 9 with (first | ((with_reducible refine gate_dst (N := 7) rfl ?_); (try (refine gate_guard (by rfl) ?_; dsimp only)); refine box_event ?hg (N := 7) ?hd (cs := #[.slice none 0 0, .slice none 0 0, .slice none 0 0]) (t := 33) ?hr ?_; (case hd => rfl); (case hg => rfl); (case hr => first | (go_simp; done) | (go_simp; rfl)); intro gbz2 hg wz2 hbox hb; have BKz2 := Aside0.mk (hbox); have GWz2 := Aside0.mk ((sz_ : w.heap.size ≤ gbz2)); have GEz2 := Aside0.mk ((sz_ : w.heap.size ≤ gbz2)); replace HB := bw_ hb; have NBz1 := Aside0.mk ((by rw [hg]; exact Nat.ne_of_lt (blk_lt (g := gbz1) (o := .cells #[.slice (some adz1) lz1.length cz1, .slice (some adz2) lz2.length cz2, .slice Az3 lz3.length cz3] 33 (0, 0)) bk_) : gbz1 ≠ gbz2)); have NBz2 := Aside0.mk ((by rw [hg]; exact Nat.ne_of_gt (blk_lt (g := gbz1) (o := .cells #[.slice (some adz1) lz1.length cz1, .slice (some adz2) lz2.length cz2, .slice Az3 lz3.length cz3] 33 (0, 0)) bk_) : gbz2 ≠ gbz1)); replace BKz1 := kb_ BKz1 hb; clear hb hbox hg; have hnbz1 := NBz2.out; have hncz1 := NBz1.out; have hczz7 : wz2.cell? ⟨gbz2, 0, none⟩ = some (.slice none 0 0) := bc_ BKz2 0; have hczz8 : wz2.cell? ⟨gbz2, 1, none⟩ = some (.slice none 0 0) := bc_ BKz2 1; have hczz9 : wz2.cell? ⟨gbz2, 2, none⟩ = some (.slice none 0 0) := bc_ BKz2 2; have hfzz7 := blk_frozen BKz2.out 0; have hfzz8 := blk_frozen BKz2.out 1; have hfzz9 := blk_frozen BKz2.out 2))
       (try simp only [Act.put, List.setIfInBounds_toArray, List.set_cons_zero, List.set_cons_succ])
       go_cut [75] (fun v75 wc => ∃ (kq : Nat) (x75_26 : Bool), v75 = .bool x75_26 ∧ Aside0 (impl_branchOk.j3 kq lz4 (rdOf ByteArray.empty lz1 xz3) lz1 (lz1.length : Int) xz3 x75_26 lz1 lz2 lz3 ((rd_T33 lz2 xz3).f0) ((rd_T33 lz2 xz3).f1) ((rd_T33 lz2 xz3).f2) = some r) ∧ Aside0 (kq ≤ kz1) ∧ Aside0 (wc.heap[gbz1]? = some (.cells #[(.slice (some adz1) lz1.length cz1), (.slice (some adz2) lz2.length cz2), (.slice Az3 lz3.length cz3)] 33 (0, 0))) ∧ Aside0 (wc.heap[gbz2]? = some (.cells #[(.slice Az5 ((rd_T33 lz2 xz3).f0).length cz15), (.slice Az6 ((rd_T33 lz2 xz3).f1).length cz16), (.slice Az7 ((rd_T33 lz2 xz3).f2).length cz17)] 33 (0, 0))) ∧ Aside0 (Below w.heap.size w wc))
       case first =>
        have H := HCz7.out
        clear HCz7
        by_cases cz18 : xz3 > 0
        rotate_left
        ·rw [if_neg cz18] at H
         have cz19 : decide (0 < xz3) = false := decide_eq_false cz18
         clear cz18
         (first | rw [cz19] | (simp only [i64_w, i32_w]; rw [cz19]) | skip)
         replace H := bo_ H
         obtain ⟨tz1, Az9, H⟩ := H
         (try dsimp only at H)
         by_cases cz20 : (tz1.length : Int) > 1
         ·rw [if_pos cz20] at H
          have cz21 : decide (1 < (tz1.length : Int)) = true := decide_eq_true cz20
          have cz22 : decide (1 < tz1.length) = true := decide_eq_true (by omega)
          clear cz20
          have H' := Aside0.mk H
          clear H
          exact impl_branchOk_z5
         rw [if_neg cz20] at H
         have cz21 : decide (1 < (tz1.length : Int)) = false := decide_eq_false cz20
         have cz22 : decide (1 < tz1.length) = false := decide_eq_false (by omega)
         clear cz20
         replace H := bo_ H
         obtain ⟨tz2, Az11, H⟩ := H
         (try dsimp only at H)
         have H' := Aside0.mk H
         clear H
         go_wp2_with (first | (go_at_call 70; (with_reducible refine (impl_Levels.calls (rdOf ByteArray.empty lz1 xz3) tz1 _ ?side1 Az9.out).mono ?_); (case side1 => exact Tabs.below HT.out be_); rintro e wz3 ⟨vz1, rfl, hoz1, hb⟩; have HOz1 := Aside0.mk (Kd.R_lower hoz1 (below_size be_)); replace HB := bw_ hb; replace BKz1 := Aside0.mk (blk_below (g := gbz1) (o := .cells #[.slice (some adz1) lz1.length cz1, .slice (some adz2) lz2.length cz2, .slice Az3 lz3.length cz3] 33 (0, 0)) (by (with_reducible repeat (first | refine blk_drewN ?_ _ | refine blk_drew ?_ | refine blk_alloc ?_ _)); refine blk_far ?_ NBz1.out _; (with_reducible repeat (first | refine blk_drewN ?_ _ | refine blk_drew ?_ | refine blk_alloc ?_ _)); refine blk_far ?_ NBz1.out _; (with_reducible repeat (first | refine blk_drewN ?_ _ | refine blk_drew ?_ | refine blk_alloc ?_ _)); refine blk_far ?_ NBz1.out _; (with_reducible repeat (first | refine blk_drewN ?_ _ | refine blk_drew ?_ | refine blk_alloc ?_ _)); exact BKz1.out) hb); replace BKz2 := Aside0.mk (blk_below (g := gbz2) (o := .cells #[.slice Az5 ((rd_T33 lz2 xz3).f0).length cz15, .slice Az6 ((rd_T33 lz2 xz3).f1).length cz16, .slice Az7 ((rd_T33 lz2 xz3).f2).length cz17] 33 (0, 0)) (by (with_reducible repeat (first | refine blk_drewN ?_ _ | refine blk_drew ?_ | refine blk_alloc ?_ _)); refine blk_put (cs := #[.slice Az5 ((rd_T33 lz2 xz3).f0).length cz15, .slice Az6 ((rd_T33 lz2 xz3).f1).length cz16, .slice none 0 0]) ?_ 2 _ rfl; (with_reducible repeat (first | refine blk_drewN ?_ _ | refine blk_drew ?_ | refine blk_alloc ?_ _)); refine blk_put (cs := #[.slice Az5 ((rd_T33 lz2 xz3).f0).length cz15, .slice none 0 0, .slice none 0 0]) ?_ 1 _ rfl; (with_reducible repeat (first | refine blk_drewN ?_ _ | refine blk_drew ?_ | refine blk_alloc ?_ _)); refine blk_put (cs := #[.slice none 0 0, .slice none 0 0, .slice none 0 0]) ?_ 0 _ rfl; (with_reducible repeat (first | refine blk_drewN ?_ _ | refine blk_drew ?_ | refine blk_alloc ?_ _)); exact BKz2.out) hb); clear hb hoz1; obtain ⟨Aoz1, coz1, eoz1⟩ := Kd.R_slice HOz1.out; subst eoz1; have hnbz2 := NBz2.out; have hncz2 := NBz1.out; have hczz10 : wz3.cell? ⟨gbz2, 0, none⟩ = some (.slice Az5 ((rd_T33 lz2 xz3).f0).length cz15) := bc_ BKz2 0; have hczz11 : wz3.cell? ⟨gbz2, 1, none⟩ = some (.slice Az6 ((rd_T33 lz2 xz3).f1).length cz16) := bc_ BKz2 1; have hczz12 : wz3.cell? ⟨gbz2, 2, none⟩ = some (.slice Az7 ((rd_T33 lz2 xz3).f2).length cz17) := bc_ BKz2 2; have hfzz10 := blk_frozen BKz2.out 0; have hfzz11 := blk_frozen BKz2.out 1; have hfzz12 := blk_frozen BKz2.out 2) | (go_at_call 71; (with_reducible refine (impl_levelOk.calls (rdOf ByteArray.empty lz1 xz3) ((((rd_T33 lz2 xz3).f1).length : Int) == 0) tz2 _ Az11.out).mono ?_); rintro e wz4 ⟨rfl, hb⟩; have nz1 := bR_ HOz1 hb; have nz2 := Aside0.mk (blk_below (g := gbz1) (o := .cells #[.slice (some adz1) lz1.length cz1, .slice (some adz2) lz2.length cz2, .slice Az3 lz3.length cz3] 33 (0, 0)) bk_ hb); have nz3 := Aside0.mk (blk_below (g := gbz2) (o := .cells #[.slice Az5 ((rd_T33 lz2 xz3).f0).length cz15, .slice Az6 ((rd_T33 lz2 xz3).f1).length cz16, .slice Az7 ((rd_T33 lz2 xz3).f2).length cz17] 33 (0, 0)) bk_ hb); have nz4 := bw_ hb; clear HOz1 BKz1 BKz2 HB; have HOz1 := nz1; have BKz1 := nz2; have BKz2 := nz3; have HB := nz4; clear nz1 nz2 nz3 nz4 hb))
         go_meet
         case rel => exact ⟨_, (!tz2), rs_, H', ⟨by have := HJz1.out; have := HJz2.out; have := HKz1.out; first | omega | exact Nat.le_refl _⟩, ⟨bk_⟩, ⟨bk_⟩, ⟨be_⟩⟩
        rw [if_pos cz18] at H
        have cz19 : decide (0 < xz3) = true := decide_eq_true cz18
        clear cz18
        (first | rw [cz19] | (simp only [i64_w, i32_w]; rw [cz19]) | skip)
        obtain ⟨jiz1, hjiz1⟩ : ∃ j_ : Int, (wrap64 (xz3 - 1)) = j_ := ⟨_, rfl⟩
        replace H : (if 0 ≤ (jiz1) then (if (jiz1) < (lz1.length : Int) then (if ((Op.bytesLess ((rdOf ByteArray.empty lz1 (jiz1)).toList) ((rdOf ByteArray.empty lz1 xz3).toList)) = true) then ((impl_Levels.f (rdOf ByteArray.empty lz1 xz3)).bind fun t310 => (if (t310.length : Int) > 1 then (impl_branchOk.j3 kz1 lz4 (rdOf ByteArray.empty lz1 xz3) lz1 (lz1.length : Int) xz3 true lz1 lz2 lz3 ((rd_T33 lz2 xz3).f0) ((rd_T33 lz2 xz3).f1) ((rd_T33 lz2 xz3).f2)) else ((impl_levelOk.f (rdOf ByteArray.empty lz1 xz3) ((((rd_T33 lz2 xz3).f1).length : Int) == 0)).bind fun t313 => (impl_branchOk.j3 kz1 lz4 (rdOf ByteArray.empty lz1 xz3) lz1 (lz1.length : Int) xz3 (!t313) lz1 lz2 lz3 ((rd_T33 lz2 xz3).f0) ((rd_T33 lz2 xz3).f1) ((rd_T33 lz2 xz3).f2))))) else (impl_branchOk.j3 kz1 lz4 (rdOf ByteArray.empty lz1 xz3) lz1 (lz1.length : Int) xz3 true lz1 lz2 lz3 ((rd_T33 lz2 xz3).f0) ((rd_T33 lz2 xz3).f1) ((rd_T33 lz2 xz3).f2))) else (none)) else (none)) = some r := by first | (rw [hjiz1] at H; exact H) | (simp only [hjiz1] at H ⊢; exact H)
        have hji33w : (IntKind.i64.wrap (xz3 - 1)) = jiz1 := (i64_w _).trans hjiz1
        by_cases cz20 : 0 ≤ (jiz1)
        rotate_left
        ·rw [if_neg cz20] at H
         exact absurd H (by simp)
        rw [if_pos cz20] at H
        have cz21 : decide (0 ≤ (jiz1)) = true := decide_eq_true cz20
        clear cz20
        by_cases cz22 : (jiz1) < (lz1.length : Int)
        rotate_left
        ·rw [if_neg cz22] at H
         exact absurd H (by simp)
        rw [if_pos cz22] at H
        have cz23 : decide ((jiz1) < (lz1.length : Int)) = true := decide_eq_true cz22
        clear cz22
        by_cases cz24 : ((Op.bytesLess ((rdOf ByteArray.empty lz1 (jiz1)).toList) ((rdOf ByteArray.empty lz1 xz3).toList)) = true)
        rotate_left
        ·rw [if_neg cz24] at H
         have cz25 : (Op.bytesLess ((rdOf ByteArray.empty lz1 (jiz1)).toList) ((rdOf ByteArray.empty lz1 xz3).toList)) = false := by simpa using cz24
         clear cz24
         have H' := Aside0.mk H
         clear H
         have hnbz2 := NBz1.out
         have hncz2 := NBz2.out
         have hczz10 : wz2.cell? ⟨gbz1, 0, none⟩ = some (.slice (some adz1) lz1.length cz1) := bc_ BKz1 0
         have hczz11 : wz2.cell? ⟨gbz1, 1, none⟩ = some (.slice (some adz2) lz2.length cz2) := bc_ BKz1 1
         have hczz12 : wz2.cell? ⟨gbz1, 2, none⟩ = some (.slice Az3 lz3.length cz3) := bc_ BKz1 2
         have hfzz10 := blk_frozen BKz1.out 0
         have hfzz11 := blk_frozen BKz1.out 1
         have hfzz12 := blk_frozen BKz1.out 2
         have pz3 : 0 ≤ ((jiz1) : Int) := dt_
         have qz3 : (jiz1) < (lz1.length : Int) := dt_
         obtain ⟨adz3, ez3, hxz5⟩ := Kd.at_string HRz1.out (jiz1) pz3 qz3
         obtain rfl : adz1 = adz3 := (by injection ez3)
         have hnz1 : adz1.block ≠ gbz2 := Nat.ne_of_lt (Nat.lt_of_lt_of_le (by have := World.block_lt_of_cell? _ _ hxz5; first | rwa [add_block] at this | exact this) GWz2.out)
         have hnz2 : adz1.block ≠ gbz2 := Nat.ne_of_lt (Nat.lt_of_lt_of_le (by have := World.block_lt_of_cell? _ _ hxz5; first | rwa [add_block] at this | exact this) GWz2.out)
         have hnz3 : adz1.block ≠ gbz2 := Nat.ne_of_lt (Nat.lt_of_lt_of_le (by have := World.block_lt_of_cell? _ _ hxz5; first | rwa [add_block] at this | exact this) GWz2.out)
         replace hxz5 := cl_ HB hxz5
         replace hxz5 := (cell_far (p := ⟨gbz2, 0, none⟩) (by first | (rw [add_block]; exact hnz1) | (show (Addr.add _ _).block ≠ _; rw [add_block]; exact hnz1) | exact hnz1) (.slice Az5 ((rd_T33 lz2 xz3).f0).length cz15)).trans hxz5
         replace hxz5 := (cell_far (p := ⟨gbz2, 1, none⟩) (by first | (rw [add_block]; exact hnz2) | (show (Addr.add _ _).block ≠ _; rw [add_block]; exact hnz2) | exact hnz2) (.slice Az6 ((rd_T33 lz2 xz3).f1).length cz16)).trans hxz5
         replace hxz5 := (cell_far (p := ⟨gbz2, 2, none⟩) (by first | (rw [add_block]; exact hnz3) | (show (Addr.add _ _).block ≠ _; rw [add_block]; exact hnz3) | exact hnz3) (.slice Az7 ((rd_T33 lz2 xz3).f2).length cz17)).trans hxz5
         clear hnz1 hnz2 hnz3
         replace pz3 := eq_true pz3
         replace qz3 := eq_true qz3
         go_wp2
         go_meet
         case rel => exact ⟨_, (true), rs_, H', ⟨by have := HJz1.out; have := HJz2.out; have := HKz1.out; first | omega | exact Nat.le_refl _⟩, ⟨by (with_reducible repeat (first | refine blk_drewN ?_ _ | refine blk_drew ?_ | refine blk_alloc ?_ _)); refine blk_far ?_ NBz1.out _; (with_reducible repeat (first | refine blk_drewN ?_ _ | refine blk_drew ?_ | refine blk_alloc ?_ _)); refine blk_far ?_ NBz1.out _; (with_reducible repeat (first | refine blk_drewN ?_ _ | refine blk_drew ?_ | refine blk_alloc ?_ _)); refine blk_far ?_ NBz1.out _; (with_reducible repeat (first | refine blk_drewN ?_ _ | refine blk_drew ?_ | refine blk_alloc ?_ _)); exact BKz1.out⟩, ⟨by (with_reducible repeat (first | refine blk_drewN ?_ _ | refine blk_drew ?_ | refine blk_alloc ?_ _)); refine blk_put (cs := #[.slice Az5 ((rd_T33 lz2 xz3).f0).length cz15, .slice Az6 ((rd_T33 lz2 xz3).f1).length cz16, .slice none 0 0]) ?_ 2 _ rfl; (with_reducible repeat (first | refine blk_drewN ?_ _ | refine blk_drew ?_ | refine blk_alloc ?_ _)); refine blk_put (cs := #[.slice Az5 ((rd_T33 lz2 xz3).f0).length cz15, .slice none 0 0, .slice none 0 0]) ?_ 1 _ rfl; (with_reducible repeat (first | refine blk_drewN ?_ _ | refine blk_drew ?_ | refine blk_alloc ?_ _)); refine blk_put (cs := #[.slice none 0 0, .slice none 0 0, .slice none 0 0]) ?_ 0 _ rfl; (with_reducible repeat (first | refine blk_drewN ?_ _ | refine blk_drew ?_ | refine blk_alloc ?_ _)); exact BKz2.out⟩, ⟨be_⟩⟩
        rw [if_pos cz24] at H
        have cz25 : (Op.bytesLess ((rdOf ByteArray.empty lz1 (jiz1)).toList) ((rdOf ByteArray.empty lz1 xz3).toList)) = true := cz24
        clear cz24
        replace H := bo_ H
        obtain ⟨tz1, Az9, H⟩ := H
        (try dsimp only at H)
        by_cases cz26 : (tz1.length : Int) > 1
        ·rw [if_pos cz26] at H
         have cz27 : decide (1 < (tz1.length : Int)) = true := decide_eq_true cz26
         have cz28 : decide (1 < tz1.length) = true := decide_eq_true (by omega)
         clear cz26
         have H' := Aside0.mk H
         clear H
         have hnbz2 := NBz1.out
         have hncz2 := NBz2.out
         have hczz10 : wz2.cell? ⟨gbz1, 0, none⟩ = some (.slice (some adz1) lz1.length cz1) := bc_ BKz1 0
         have hczz11 : wz2.cell? ⟨gbz1, 1, none⟩ = some (.slice (some adz2) lz2.length cz2) := bc_ BKz1 1
         have hczz12 : wz2.cell? ⟨gbz1, 2, none⟩ = some (.slice Az3 lz3.length cz3) := bc_ BKz1 2
         have hfzz10 := blk_frozen BKz1.out 0
         have hfzz11 := blk_frozen BKz1.out 1
         have hfzz12 := blk_frozen BKz1.out 2
         have pz3 : 0 ≤ ((jiz1) : Int) := dt_
         have qz3 : (jiz1) < (lz1.length : Int) := dt_
         obtain ⟨adz3, ez3, hxz5⟩ := Kd.at_string HRz1.out (jiz1) pz3 qz3
         obtain rfl : adz1 = adz3 := (by injection ez3)
         have hnz1 : adz1.block ≠ gbz2 := Nat.ne_of_lt (Nat.lt_of_lt_of_le (by have := World.block_lt_of_cell? _ _ hxz5; first | rwa [add_block] at this | exact this) GWz2.out)
         have hnz2 : adz1.block ≠ gbz2 := Nat.ne_of_lt (Nat.lt_of_lt_of_le (by have := World.block_lt_of_cell? _ _ hxz5; first | rwa [add_block] at this | exact this) GWz2.out)
         have hnz3 : adz1.block ≠ gbz2 := Nat.ne_of_lt (Nat.lt_of_lt_of_le (by have := World.block_lt_of_cell? _ _ hxz5; first | rwa [add_block] at this | exact this) GWz2.out)
         replace hxz5 := cl_ HB hxz5
         replace hxz5 := (cell_far (p := ⟨gbz2, 0, none⟩) (by first | (rw [add_block]; exact hnz1) | (show (Addr.add _ _).block ≠ _; rw [add_block]; exact hnz1) | exact hnz1) (.slice Az5 ((rd_T33 lz2 xz3).f0).length cz15)).trans hxz5
         replace hxz5 := (cell_far (p := ⟨gbz2, 1, none⟩) (by first | (rw [add_block]; exact hnz2) | (show (Addr.add _ _).block ≠ _; rw [add_block]; exact hnz2) | exact hnz2) (.slice Az6 ((rd_T33 lz2 xz3).f1).length cz16)).trans hxz5
         replace hxz5 := (cell_far (p := ⟨gbz2, 2, none⟩) (by first | (rw [add_block]; exact hnz3) | (show (Addr.add _ _).block ≠ _; rw [add_block]; exact hnz3) | exact hnz3) (.slice Az7 ((rd_T33 lz2 xz3).f2).length cz17)).trans hxz5
         clear hnz1 hnz2 hnz3
         replace pz3 := eq_true pz3
         replace qz3 := eq_true qz3
         exact impl_branchOk_z5
        rw [if_neg cz26] at H
        have cz27 : decide (1 < (tz1.length : Int)) = false := decide_eq_false cz26
        have cz28 : decide (1 < tz1.length) = false := decide_eq_false (by omega)
        clear cz26
        replace H := bo_ H
        obtain ⟨tz2, Az11, H⟩ := H
        (try dsimp only at H)
        have H' := Aside0.mk H
        clear H
        have hnbz2 := NBz1.out
        have hncz2 := NBz2.out
        have hczz10 : wz2.cell? ⟨gbz1, 0, none⟩ = some (.slice (some adz1) lz1.length cz1) := bc_ BKz1 0
        have hczz11 : wz2.cell? ⟨gbz1, 1, none⟩ = some (.slice (some adz2) lz2.length cz2) := bc_ BKz1 1
        have hczz12 : wz2.cell? ⟨gbz1, 2, none⟩ = some (.slice Az3 lz3.length cz3) := bc_ BKz1 2
        have hfzz10 := blk_frozen BKz1.out 0
        have hfzz11 := blk_frozen BKz1.out 1
        have hfzz12 := blk_frozen BKz1.out 2
        have pz3 : 0 ≤ ((jiz1) : Int) := dt_
        have qz3 : (jiz1) < (lz1.length : Int) := dt_
        obtain ⟨adz3, ez3, hxz5⟩ := Kd.at_string HRz1.out (jiz1) pz3 qz3
        obtain rfl : adz1 = adz3 := (by injection ez3)
        have hnz1 : adz1.block ≠ gbz2 := Nat.ne_of_lt (Nat.lt_of_lt_of_le (by have := World.block_lt_of_cell? _ _ hxz5; first | rwa [add_block] at this | exact this) GWz2.out)
        have hnz2 : adz1.block ≠ gbz2 := Nat.ne_of_lt (Nat.lt_of_lt_of_le (by have := World.block_lt_of_cell? _ _ hxz5; first | rwa [add_block] at this | exact this) GWz2.out)
        have hnz3 : adz1.block ≠ gbz2 := Nat.ne_of_lt (Nat.lt_of_lt_of_le (by have := World.block_lt_of_cell? _ _ hxz5; first | rwa [add_block] at this | exact this) GWz2.out)
        replace hxz5 := cl_ HB hxz5
        replace hxz5 := (cell_far (p := ⟨gbz2, 0, none⟩) (by first | (rw [add_block]; exact hnz1) | (show (Addr.add _ _).block ≠ _; rw [add_block]; exact hnz1) | exact hnz1) (.slice Az5 ((rd_T33 lz2 xz3).f0).length cz15)).trans hxz5
        replace hxz5 := (cell_far (p := ⟨gbz2, 1, none⟩) (by first | (rw [add_block]; exact hnz2) | (show (Addr.add _ _).block ≠ _; rw [add_block]; exact hnz2) | exact hnz2) (.slice Az6 ((rd_T33 lz2 xz3).f1).length cz16)).trans hxz5
        replace hxz5 := (cell_far (p := ⟨gbz2, 2, none⟩) (by first | (rw [add_block]; exact hnz3) | (show (Addr.add _ _).block ≠ _; rw [add_block]; exact hnz3) | exact hnz3) (.slice Az7 ((rd_T33 lz2 xz3).f2).length cz17)).trans hxz5
        clear hnz1 hnz2 hnz3
        replace pz3 := eq_true pz3
        replace qz3 := eq_true qz3
        go_wp2_with (first | (go_at_call 70; (with_reducible refine (impl_Levels.calls (rdOf ByteArray.empty lz1 xz3) tz1 _ ?side1 Az9.out).mono ?_); (case side1 => exact Tabs.below HT.out be_); rintro e wz3 ⟨vz1, rfl, hoz1, hb⟩; have HOz1 := Aside0.mk (Kd.R_lower hoz1 (below_size be_)); replace HB := bw_ hb; replace BKz1 := Aside0.mk (blk_below (g := gbz1) (o := .cells #[.slice (some adz1) lz1.length cz1, .slice (some adz2) lz2.length cz2, .slice Az3 lz3.length cz3] 33 (0, 0)) (by (with_reducible repeat (first | refine blk_drewN ?_ _ | refine blk_drew ?_ | refine blk_alloc ?_ _)); refine blk_far ?_ NBz1.out _; (with_reducible repeat (first | refine blk_drewN ?_ _ | refine blk_drew ?_ | refine blk_alloc ?_ _)); refine blk_far ?_ NBz1.out _; (with_reducible repeat (first | refine blk_drewN ?_ _ | refine blk_drew ?_ | refine blk_alloc ?_ _)); refine blk_far ?_ NBz1.out _; (with_reducible repeat (first | refine blk_drewN ?_ _ | refine blk_drew ?_ | refine blk_alloc ?_ _)); exact BKz1.out) hb); replace BKz2 := Aside0.mk (blk_below (g := gbz2) (o := .cells #[.slice Az5 ((rd_T33 lz2 xz3).f0).length cz15, .slice Az6 ((rd_T33 lz2 xz3).f1).length cz16, .slice Az7 ((rd_T33 lz2 xz3).f2).length cz17] 33 (0, 0)) (by (with_reducible repeat (first | refine blk_drewN ?_ _ | refine blk_drew ?_ | refine blk_alloc ?_ _)); refine blk_put (cs := #[.slice Az5 ((rd_T33 lz2 xz3).f0).length cz15, .slice Az6 ((rd_T33 lz2 xz3).f1).length cz16, .slice none 0 0]) ?_ 2 _ rfl; (with_reducible repeat (first | refine blk_drewN ?_ _ | refine blk_drew ?_ | refine blk_alloc ?_ _)); refine blk_put (cs := #[.slice Az5 ((rd_T33 lz2 xz3).f0).length cz15, .slice none 0 0, .slice none 0 0]) ?_ 1 _ rfl; (with_reducible repeat (first | refine blk_drewN ?_ _ | refine blk_drew ?_ | refine blk_alloc ?_ _)); refine blk_put (cs := #[.slice none 0 0, .slice none 0 0, .slice none 0 0]) ?_ 0 _ rfl; (with_reducible repeat (first | refine blk_drewN ?_ _ | refine blk_drew ?_ | refine blk_alloc ?_ _)); exact BKz2.out) hb); clear hb hoz1; obtain ⟨Aoz1, coz1, eoz1⟩ := Kd.R_slice HOz1.out; subst eoz1; have hczz13 : wz3.cell? ⟨gbz2, 0, none⟩ = some (.slice Az5 ((rd_T33 lz2 xz3).f0).length cz15) := bc_ BKz2 0; have hczz14 : wz3.cell? ⟨gbz2, 1, none⟩ = some (.slice Az6 ((rd_T33 lz2 xz3).f1).length cz16) := bc_ BKz2 1; have hczz15 : wz3.cell? ⟨gbz2, 2, none⟩ = some (.slice Az7 ((rd_T33 lz2 xz3).f2).length cz17) := bc_ BKz2 2; have hfzz13 := blk_frozen BKz2.out 0; have hfzz14 := blk_frozen BKz2.out 1; have hfzz15 := blk_frozen BKz2.out 2) | (go_at_call 71; (with_reducible refine (impl_levelOk.calls (rdOf ByteArray.empty lz1 xz3) ((((rd_T33 lz2 xz3).f1).length : Int) == 0) tz2 _ Az11.out).mono ?_); rintro e wz4 ⟨rfl, hb⟩; have nz1 := bR_ HOz1 hb; have nz2 := Aside0.mk (blk_below (g := gbz1) (o := .cells #[.slice (some adz1) lz1.length cz1, .slice (some adz2) lz2.length cz2, .slice Az3 lz3.length cz3] 33 (0, 0)) bk_ hb); have nz3 := Aside0.mk (blk_below (g := gbz2) (o := .cells #[.slice Az5 ((rd_T33 lz2 xz3).f0).length cz15, .slice Az6 ((rd_T33 lz2 xz3).f1).length cz16, .slice Az7 ((rd_T33 lz2 xz3).f2).length cz17] 33 (0, 0)) bk_ hb); have nz4 := bw_ hb; clear HOz1 BKz1 BKz2 HB; have HOz1 := nz1; have BKz1 := nz2; have BKz2 := nz3; have HB := nz4; clear nz1 nz2 nz3 nz4 hb))
        go_meet
        case rel => exact ⟨_, (!tz2), rs_, H', ⟨by have := HJz1.out; have := HJz2.out; have := HKz1.out; first | omega | exact Nat.le_refl _⟩, ⟨bk_⟩, ⟨bk_⟩, ⟨be_⟩⟩
       case rest =>
        clear HCz7
        obtain ⟨kq, xz4, rfl, HA, HJz3, BKz1, BKz2, HB⟩ := hcut
        cases kq with
        | zero => exact absurd HA.out (by simp [impl_branchOk.j3])
        | succ kjz3 =>
         have H := HA.out
         clear HA
         simp only [impl_branchOk.j3] at H
         by_cases cz18 : xz4 = true
         ·subst cz18
          replace H := bt_ H
          obtain rfl := Option.some.inj H
          go_wp2
          go_ret
          exact ⟨er_, be_⟩
         replace cz18 := Bool.eq_false_iff.mpr cz18
         subst cz18
         replace H := bf_ H
         by_cases cz19 : (((rd_T33 lz2 xz3).f1).length : Int) = 0
         rotate_left
         ·rw [if_neg cz19] at H
          have cz20 : ((((rd_T33 lz2 xz3).f1).length : Int) == 0) = false := beq_eq_false_iff_ne.mpr cz19
          have cz21 : ((((rd_T33 lz2 xz3).f1).length : Int) != 0) = true := bne_iff_ne.mpr cz19
          have cz22 : ¬ (((rd_T33 lz2 xz3).f1) = []) := fun h_ => cz19 (by rw [h_]; rfl)
          obtain ⟨yz1, hyz1⟩ : ∃ y_ : List ByteArray, y_ = (([] : List ByteArray)) := ⟨_, rfl⟩
          (first | (with_reducible replace H := ys_ hyz1 H; (try dsimp only at H)) | rw [← hyz1] at H | skip)
          have Nyz1 := Aside0.mk hyz1
          clear hyz1
          by_cases cz23 : yz1.length + lz4.length < 8796093022208
          rotate_left
          ·rw [if_neg cz23] at H
           exact absurd H (by simp)
          rw [if_pos cz23] at H
          have LMcz1 := Aside0.mk cz23
          clear cz23
          obtain ⟨yz2, hyz2⟩ : ∃ y_ : List ByteArray, y_ = (yz1 ++ lz4) := ⟨_, rfl⟩
          (first | (with_reducible replace H := ys_ hyz2 H; (try dsimp only at H)) | rw [← hyz2] at H | skip)
          have Nyz2 := Aside0.mk hyz2
          clear hyz2
          obtain ⟨yz3, hyz3⟩ : ∃ y_ : List ByteArray, y_ = (([(rdOf ByteArray.empty lz1 xz3)] : List ByteArray)) := ⟨_, rfl⟩
          (first | (with_reducible replace H := ys_ hyz3 H; (try dsimp only at H)) | rw [← hyz3] at H | skip)
          have Nyz3 := Aside0.mk hyz3
          clear hyz3
          by_cases cz24 : yz2.length + yz3.length < 8796093022208
          rotate_left
          ·rw [if_neg cz24] at H
           exact absurd H (by simp)
          rw [if_pos cz24] at H
          have LMcz2 := Aside0.mk cz24
          clear cz24
          obtain ⟨yz4, hyz4⟩ : ∃ y_ : List ByteArray, y_ = (yz2 ++ yz3) := ⟨_, rfl⟩
          (first | (with_reducible replace H := ys_ hyz4 H; (try dsimp only at H)) | rw [← hyz4] at H | skip)
          have Nyz4 := Aside0.mk hyz4
          clear hyz4
          replace H := bo_ H
          obtain ⟨tz1, Az9, H⟩ := H
          (try dsimp only at H)
          by_cases cz25 : tz1 = true
          rotate_left
          ·replace cz25 := Bool.eq_false_iff.mpr cz25
           subst cz25
           replace H := bf_ H
           obtain rfl := Option.some.inj H
           try go_wp2
           replace BKz1 := Aside0.mk (blk_drew BKz1.out)
           replace BKz2 := Aside0.mk (blk_drew BKz2.out)
           replace HB := Aside0.mk (below_drew1 HB.out)
           refine start_ (n := 21) (S := fun w' => w'.cell? ⟨gbz2, 0, none⟩ = some (.slice Az5 ((rd_T33 lz2 xz3).f0).length cz15) ∧ w'.cell? ⟨gbz2, 1, none⟩ = some (.slice Az6 ((rd_T33 lz2 xz3).f1).length cz16) ∧ w'.cell? ⟨gbz2, 2, none⟩ = some (.slice Az7 ((rd_T33 lz2 xz3).f2).length cz17)) (ds := []) (bs_ 21 0) (by kernel_rfl) rfl (by kernel_rfl) ⟨bc_ BKz2 0, bc_ BKz2 1, bc_ BKz2 2⟩ (fun hHeld => ?_); refine with_tabW impl_branchOk.tab11 impl_branchOk.bits11 (fun HT_ HW_ => ?_)
           generalize wc.drew = wz3 at BKz1 BKz2 HB hHeld ⊢
           refine pv_ HT_ 0 ?_
           refine tv_ HT_ HW_ hHeld 1 ?_
           refine pv_ HT_ 2 ?_
           refine pv_ HT_ 3 ?_
           refine pv_ HT_ 4 ?_
           refine uv_ HT_ 5 ?_
           refine uv_ HT_ 6 ?_
           refine uv_ HT_ 7 ?_
           refine uv_ HT_ 8 ?_
           exact impl_branchOk_z6
          subst cz25
          replace H := bt_ H
          have H' := Aside0.mk H
          clear H
          try go_wp2
          replace BKz1 := Aside0.mk (blk_drew BKz1.out)
          replace BKz2 := Aside0.mk (blk_drew BKz2.out)
          replace HB := Aside0.mk (below_drew1 HB.out)
          refine start_ (n := 21) (S := fun w' => w'.cell? ⟨gbz2, 0, none⟩ = some (.slice Az5 ((rd_T33 lz2 xz3).f0).length cz15) ∧ w'.cell? ⟨gbz2, 1, none⟩ = some (.slice Az6 ((rd_T33 lz2 xz3).f1).length cz16) ∧ w'.cell? ⟨gbz2, 2, none⟩ = some (.slice Az7 ((rd_T33 lz2 xz3).f2).length cz17)) (ds := []) (bs_ 21 0) (by kernel_rfl) rfl (by kernel_rfl) ⟨bc_ BKz2 0, bc_ BKz2 1, bc_ BKz2 2⟩ (fun hHeld => ?_); refine with_tabW impl_branchOk.tab11 impl_branchOk.bits11 (fun HT_ HW_ => ?_)
          generalize wc.drew = wz3 at BKz1 BKz2 HB hHeld ⊢
          refine pv_ HT_ 0 ?_
          refine tv_ HT_ HW_ hHeld 1 ?_
          refine pv_ HT_ 2 ?_
          refine pv_ HT_ 3 ?_
          refine pv_ HT_ 4 ?_
          refine uv_ HT_ 5 ?_
          refine uv_ HT_ 6 ?_
          refine uv_ HT_ 7 ?_
          refine uv_ HT_ 8 ?_
          exact impl_branchOk_z22
         rw [if_pos cz19] at H
         have cz20 : ((((rd_T33 lz2 xz3).f1).length : Int) == 0) = true := beq_iff_eq.mpr cz19
         have cz21 : ((((rd_T33 lz2 xz3).f1).length : Int) != 0) = false := bne_eq_false_iff_eq.mpr cz19
         clear cz19
         by_cases cz22 : (((rd_T33 lz2 xz3).f2).length : Int) = 0
         ·rw [if_pos cz22] at H
          have cz23 : ((((rd_T33 lz2 xz3).f2).length : Int) == 0) = true := beq_iff_eq.mpr cz22
          have cz24 : ((((rd_T33 lz2 xz3).f2).length : Int) != 0) = false := bne_eq_false_iff_eq.mpr cz22
          clear cz22
          obtain rfl := Option.some.inj H
          try go_wp2
          replace BKz1 := Aside0.mk (blk_drew BKz1.out)
          replace BKz2 := Aside0.mk (blk_drew BKz2.out)
          replace HB := Aside0.mk (below_drew1 HB.out)
          refine start_ (n := 21) (S := fun w' => w'.cell? ⟨gbz2, 0, none⟩ = some (.slice Az5 ((rd_T33 lz2 xz3).f0).length cz15) ∧ w'.cell? ⟨gbz2, 1, none⟩ = some (.slice Az6 ((rd_T33 lz2 xz3).f1).length cz16) ∧ w'.cell? ⟨gbz2, 2, none⟩ = some (.slice Az7 ((rd_T33 lz2 xz3).f2).length cz17)) (ds := []) (bs_ 21 0) (by kernel_rfl) rfl (by kernel_rfl) ⟨bc_ BKz2 0, bc_ BKz2 1, bc_ BKz2 2⟩ (fun hHeld => ?_); refine with_tabW impl_branchOk.tab11 impl_branchOk.bits11 (fun HT_ HW_ => ?_)
          generalize wc.drew = wz3 at BKz1 BKz2 HB hHeld ⊢
          refine pv_ HT_ 0 ?_
          refine tv_ HT_ HW_ hHeld 1 ?_
          refine pv_ HT_ 2 ?_
          refine pv_ HT_ 3 ?_
          refine pv_ HT_ 4 ?_
          refine pv_ HT_ 5 ?_
          refine tv_ HT_ HW_ hHeld 6 ?_
          refine pv_ HT_ 7 ?_
          refine pv_ HT_ 8 ?_
          refine pv_ HT_ 9 ?_
          refine pv_ HT_ 10 ?_
          refine uv_ HT_ 11 ?_
          refine uv_ HT_ 12 ?_
          refine uv_ HT_ 13 ?_
          refine uv_ HT_ 14 ?_
          refine uv_ HT_ 15 ?_
          refine uv_ HT_ 16 ?_
          refine uv_ HT_ 17 ?_
          refine uv_ HT_ 18 ?_
          refine uv_ HT_ 19 ?_
          refine pv_ HT_ 20 ?_
          refine done_ (done_of HT_.out (by kernel_rfl)) ?_
          try go_wp2
          go_ret
          exact ⟨er_, be_⟩
         rw [if_neg cz22] at H
         have cz23 : ((((rd_T33 lz2 xz3).f2).length : Int) == 0) = false := beq_eq_false_iff_ne.mpr cz22
         have cz24 : ((((rd_T33 lz2 xz3).f2).length : Int) != 0) = true := bne_iff_ne.mpr cz22
         have cz25 : ¬ (((rd_T33 lz2 xz3).f2) = []) := fun h_ => cz22 (by rw [h_]; rfl)
         obtain ⟨yz1, hyz1⟩ : ∃ y_ : List ByteArray, y_ = (([] : List ByteArray)) := ⟨_, rfl⟩
         (first | (with_reducible replace H := ys_ hyz1 H; (try dsimp only at H)) | rw [← hyz1] at H | skip)
         have Nyz1 := Aside0.mk hyz1
         clear hyz1
         by_cases cz26 : yz1.length + lz4.length < 8796093022208
         rotate_left
         ·rw [if_neg cz26] at H
          exact absurd H (by simp)
         rw [if_pos cz26] at H
         have LMcz1 := Aside0.mk cz26
         clear cz26
         obtain ⟨yz2, hyz2⟩ : ∃ y_ : List ByteArray, y_ = (yz1 ++ lz4) := ⟨_, rfl⟩
         (first | (with_reducible replace H := ys_ hyz2 H; (try dsimp only at H)) | rw [← hyz2] at H | skip)
         have Nyz2 := Aside0.mk hyz2
         clear hyz2
         obtain ⟨yz3, hyz3⟩ : ∃ y_ : List ByteArray, y_ = (([(rdOf ByteArray.empty lz1 xz3)] : List ByteArray)) := ⟨_, rfl⟩
         (first | (with_reducible replace H := ys_ hyz3 H; (try dsimp only at H)) | rw [← hyz3] at H | skip)
         have Nyz3 := Aside0.mk hyz3
         clear hyz3
         by_cases cz27 : yz2.length + yz3.length < 8796093022208
         rotate_left
         ·rw [if_neg cz27] at H
          exact absurd H (by simp)
         rw [if_pos cz27] at H
         have LMcz2 := Aside0.mk cz27
         clear cz27
         obtain ⟨yz4, hyz4⟩ : ∃ y_ : List ByteArray, y_ = (yz2 ++ yz3) := ⟨_, rfl⟩
         (first | (with_reducible replace H := ys_ hyz4 H; (try dsimp only at H)) | rw [← hyz4] at H | skip)
         have Nyz4 := Aside0.mk hyz4
         clear hyz4
         replace H := bo_ H
         obtain ⟨tz1, Az9, H⟩ := H
         (try dsimp only at H)
         by_cases cz28 : tz1 = true
         rotate_left
         ·replace cz28 := Bool.eq_false_iff.mpr cz28
          subst cz28
          replace H := bf_ H
          obtain rfl := Option.some.inj H
          try go_wp2
          replace BKz1 := Aside0.mk (blk_drew BKz1.out)
          replace BKz2 := Aside0.mk (blk_drew BKz2.out)
          replace HB := Aside0.mk (below_drew1 HB.out)
          refine start_ (n := 21) (S := fun w' => w'.cell? ⟨gbz2, 0, none⟩ = some (.slice Az5 ((rd_T33 lz2 xz3).f0).length cz15) ∧ w'.cell? ⟨gbz2, 1, none⟩ = some (.slice Az6 ((rd_T33 lz2 xz3).f1).length cz16) ∧ w'.cell? ⟨gbz2, 2, none⟩ = some (.slice Az7 ((rd_T33 lz2 xz3).f2).length cz17)) (ds := []) (bs_ 21 0) (by kernel_rfl) rfl (by kernel_rfl) ⟨bc_ BKz2 0, bc_ BKz2 1, bc_ BKz2 2⟩ (fun hHeld => ?_); refine with_tabW impl_branchOk.tab11 impl_branchOk.bits11 (fun HT_ HW_ => ?_)
          generalize wc.drew = wz3 at BKz1 BKz2 HB hHeld ⊢
          refine pv_ HT_ 0 ?_
          refine tv_ HT_ HW_ hHeld 1 ?_
          refine pv_ HT_ 2 ?_
          refine pv_ HT_ 3 ?_
          refine pv_ HT_ 4 ?_
          refine pv_ HT_ 5 ?_
          refine tv_ HT_ HW_ hHeld 6 ?_
          refine pv_ HT_ 7 ?_
          refine pv_ HT_ 8 ?_
          exact impl_branchOk_z6
         subst cz28
         replace H := bt_ H
         have H' := Aside0.mk H
         clear H
         try go_wp2
         replace BKz1 := Aside0.mk (blk_drew BKz1.out)
         replace BKz2 := Aside0.mk (blk_drew BKz2.out)
         replace HB := Aside0.mk (below_drew1 HB.out)
         refine start_ (n := 21) (S := fun w' => w'.cell? ⟨gbz2, 0, none⟩ = some (.slice Az5 ((rd_T33 lz2 xz3).f0).length cz15) ∧ w'.cell? ⟨gbz2, 1, none⟩ = some (.slice Az6 ((rd_T33 lz2 xz3).f1).length cz16) ∧ w'.cell? ⟨gbz2, 2, none⟩ = some (.slice Az7 ((rd_T33 lz2 xz3).f2).length cz17)) (ds := []) (bs_ 21 0) (by kernel_rfl) rfl (by kernel_rfl) ⟨bc_ BKz2 0, bc_ BKz2 1, bc_ BKz2 2⟩ (fun hHeld => ?_); refine with_tabW impl_branchOk.tab11 impl_branchOk.bits11 (fun HT_ HW_ => ?_)
         generalize wc.drew = wz3 at BKz1 BKz2 HB hHeld ⊢
         refine pv_ HT_ 0 ?_
         refine tv_ HT_ HW_ hHeld 1 ?_
         refine pv_ HT_ 2 ?_
         refine pv_ HT_ 3 ?_
         refine pv_ HT_ 4 ?_
         refine pv_ HT_ 5 ?_
         refine tv_ HT_ HW_ hHeld 6 ?_
         refine pv_ HT_ 7 ?_
         refine pv_ HT_ 8 ?_
         exact impl_branchOk_z22

end Go.Proofs.YtggokdobijhdhaaDoor.P
