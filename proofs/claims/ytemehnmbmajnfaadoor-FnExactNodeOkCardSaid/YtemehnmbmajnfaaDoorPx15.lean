-- Printed by a program over the kit's print.py (mp.sh), several laws in one namespace.
import Derived.Test.YtemehnmbmajnfaaDoorPx0
import Derived.Test.YtemehnmbmajnfaaDoorS
import Derived.Test.YtemehnmbmajnfaaDoorPx11
import Derived.Test.YtemehnmbmajnfaaDoorPx12
import Derived.Test.YtemehnmbmajnfaaDoorPx13
import Derived.Test.YtemehnmbmajnfaaDoorPx14
namespace Go.Proofs.YtemehnmbmajnfaaDoor.P
open Go.RowKit Go.Proofs.YtemehnmbmajnfaaDoor.X Go.Proofs.YtemehnmbmajnfaaDoorW.PrintWords Go.Proofs.YtemehnmbmajnfaaDoorW.PrintLast Go.Proofs.YtemehnmbmajnfaaDoorW.PrintMore
attribute [local go_sem] max2_int min2_int max_two min_two max_three min_three max_four min_four   -- for this text's walks alone
set_option linter.unusedVariables false
set_option linter.unusedSimpArgs false

def impl_branchOk_bools0_ : Array Bool := bs_ 21 0
def impl_branchOk_bools1_ : Array Bool := bs_ 21 1
def impl_branchOk_bools2_ : Array Bool := bs_ 21 3
def impl_branchOk_bools3_ : Array Bool := bs_ 21 7
def impl_branchOk_bools4_ : Array Bool := bs_ 21 15
def impl_branchOk_bools5_ : Array Bool := bs_ 21 31
def impl_branchOk_bools6_ : Array Bool := bs_ 21 63
def impl_branchOk_bools7_ : Array Bool := bs_ 21 127
def impl_branchOk_bools8_ : Array Bool := bs_ 21 255
def impl_branchOk_bools9_ : Array Bool := bs_ 21 511
def impl_branchOk_bools10_ : Array Bool := bs_ 21 1023
def impl_branchOk_bools11_ : Array Bool := bs_ 21 2047
def impl_branchOk_bools12_ : Array Bool := bs_ 21 10239
def impl_branchOk_bools13_ : Array Bool := bs_ 21 43007
def impl_branchOk_bools14_ : Array Bool := bs_ 21 45055
def impl_branchOk_bools15_ : Array Bool := bs_ 21 131071
def impl_branchOk_bools16_ : Array Bool := bs_ 21 49151
def impl_branchOk_bools17_ : Array Bool := bs_ 21 110591
def impl_branchOk_bools18_ : Array Bool := bs_ 21 65535
def impl_branchOk_bools19_ : Array Bool := bs_ 21 114687
def impl_branchOk_bools20_ : Array Bool := bs_ 21 262143
def impl_branchOk_bools21_ : Array Bool := bs_ 21 524287
def impl_branchOk_bools22_ : Array Bool := bs_ 21 1048575
def impl_branchOk_bools23_ : Array Bool := bs_ 21 2097151
def impl_branchOk_bools24_ : Array Bool := bs_ 21 4095
def impl_branchOk_bools25_ : Array Bool := bs_ 21 8191
def impl_branchOk_bools26_ : Array Bool := bs_ 21 16383
def impl_branchOk_bools27_ : Array Bool := bs_ 21 32767
/-! ### impl_branchOk: function 30 -/
mutual
def impl_branchOk.j0 : Nat → List ByteArray → Bool → List ByteArray → List (S32) → List (S81) → Option (Bool)
  | 0, _, _, _, _, _ => none
  | k + 1, x1, x25, x206000, x206001, x206002 => if x25 = true then (some false) else (if (x206002.length : Int) > 0 then ((impl_Join.f x1).bind fun t207 => ((impl_FilterOk.f k t207).bind fun t208 => (impl_branchOk.j1 k x1 (!t208) x206000 x206001 x206002))) else (impl_branchOk.j1 k x1 false x206000 x206001 x206002))
def impl_branchOk.j1 : Nat → List ByteArray → Bool → List ByteArray → List (S32) → List (S81) → Option (Bool)
  | 0, _, _, _, _, _ => none
  | k + 1, x1, x35, x206000, x206001, x206002 => if x35 = true then (some false) else (impl_branchOk.l0 k x1 x206000 (x206000.length : Int) 0 x206000 x206001 x206002)
def impl_branchOk.l0 : Nat → List ByteArray → List ByteArray → Int → Int → List ByteArray → List (S32) → List (S81) → Option (Bool)
  | 0, _, _, _, _, _, _, _ => none
  | k + 1, x1, x37, x38, x39, x206000, x206001, x206002 => if x39 < x38 then (if 0 ≤ x39 then (if x39 < (x37.length : Int) then (if x39 < (x206001.length : Int) then (if x39 > 0 then (if 0 ≤ (wrap64 (x39 - 1)) then (if (wrap64 (x39 - 1)) < (x206000.length : Int) then (if ((Op.bytesLess ((rdOf ByteArray.empty x206000 (wrap64 (x39 - 1))).toList) ((rdOf ByteArray.empty x37 x39).toList)) = true) then ((impl_Levels.f (rdOf ByteArray.empty x37 x39)).bind fun t213 => (if (t213.length : Int) > 1 then (impl_branchOk.j3 k x1 (rdOf ByteArray.empty x37 x39) x37 x38 x39 true x206000 x206001 x206002 ((rd_T32 x206001 x39).f0) ((rd_T32 x206001 x39).f1) ((rd_T32 x206001 x39).f2)) else ((impl_levelOk.f (rdOf ByteArray.empty x37 x39) ((((rd_T32 x206001 x39).f1).length : Int) == 0)).bind fun t216 => (impl_branchOk.j3 k x1 (rdOf ByteArray.empty x37 x39) x37 x38 x39 (!t216) x206000 x206001 x206002 ((rd_T32 x206001 x39).f0) ((rd_T32 x206001 x39).f1) ((rd_T32 x206001 x39).f2))))) else (impl_branchOk.j3 k x1 (rdOf ByteArray.empty x37 x39) x37 x38 x39 true x206000 x206001 x206002 ((rd_T32 x206001 x39).f0) ((rd_T32 x206001 x39).f1) ((rd_T32 x206001 x39).f2))) else (none)) else (none)) else ((impl_Levels.f (rdOf ByteArray.empty x37 x39)).bind fun t217 => (if (t217.length : Int) > 1 then (impl_branchOk.j3 k x1 (rdOf ByteArray.empty x37 x39) x37 x38 x39 true x206000 x206001 x206002 ((rd_T32 x206001 x39).f0) ((rd_T32 x206001 x39).f1) ((rd_T32 x206001 x39).f2)) else ((impl_levelOk.f (rdOf ByteArray.empty x37 x39) ((((rd_T32 x206001 x39).f1).length : Int) == 0)).bind fun t220 => (impl_branchOk.j3 k x1 (rdOf ByteArray.empty x37 x39) x37 x38 x39 (!t220) x206000 x206001 x206002 ((rd_T32 x206001 x39).f0) ((rd_T32 x206001 x39).f1) ((rd_T32 x206001 x39).f2)))))) else (none)) else (none)) else (none)) else (some true)
def impl_branchOk.j3 : Nat → List ByteArray → ByteArray → List ByteArray → Int → Int → Bool → List ByteArray → List (S32) → List (S81) → List ByteArray → List (S32) → List (S81) → Option (Bool)
  | 0, _, _, _, _, _, _, _, _, _, _, _, _ => none
  | k + 1, x1, x6, x37, x38, x39, x75, x206000, x206001, x206002, x212000, x212001, x212002 => if x75 = true then (some false) else (if (x212001.length : Int) = 0 then (if (x212002.length : Int) = 0 then (some false) else ((some (([] : List ByteArray) : List ByteArray)).bind fun y221 => (if y221.length + x1.length < 8796093022208 then ((some (y221 ++ x1 : List ByteArray)).bind fun y224 => ((some (([x6] : List ByteArray) : List ByteArray)).bind fun y227 => (if y224.length + y227.length < 8796093022208 then ((impl_branchOk.f k x212000 x212001 x212002 (y224 ++ y227)).bind fun t233 => (if t233 = true then (impl_branchOk.l0 k x1 x37 x38 (wrap64 (x39 + 1)) x206000 x206001 x206002) else (some false))) else (none)))) else (none)))) else ((some (([] : List ByteArray) : List ByteArray)).bind fun y234 => (if y234.length + x1.length < 8796093022208 then ((some (y234 ++ x1 : List ByteArray)).bind fun y237 => ((some (([x6] : List ByteArray) : List ByteArray)).bind fun y240 => (if y237.length + y240.length < 8796093022208 then ((impl_branchOk.f k x212000 x212001 x212002 (y237 ++ y240)).bind fun t246 => (if t246 = true then (impl_branchOk.l0 k x1 x37 x38 (wrap64 (x39 + 1)) x206000 x206001 x206002) else (some false))) else (none)))) else (none))))
def impl_branchOk.f : Nat → List ByteArray → List (S32) → List (S81) → List ByteArray → Option (Bool)
  | 0, _, _, _, _ => none
  | k + 1, l0_0, l0_1, l0_2, l1 => if (l0_0.length : Int) = (l0_1.length : Int) then (if (l1.length : Int) > 6 then (impl_branchOk.j0 k l1 true l0_0 l0_1 l0_2) else ((impl_subsOk.f k l0_2).bind fun t206 => (impl_branchOk.j0 k l1 (!t206) l0_0 l0_1 l0_2))) else (impl_branchOk.j0 k l1 true l0_0 l0_1 l0_2)
end
theorem impl_branchOk.mono_l : ∀ k, (∀ y0 y1 y2 y3, LeO (impl_branchOk.f k y0 y1 y2 y3) (impl_branchOk.f (k + 1) y0 y1 y2 y3)) ∧ (∀ y0 y1 y2 y3 y4, LeO (impl_branchOk.j0 k y0 y1 y2 y3 y4) (impl_branchOk.j0 (k + 1) y0 y1 y2 y3 y4)) ∧ (∀ y0 y1 y2 y3 y4, LeO (impl_branchOk.j1 k y0 y1 y2 y3 y4) (impl_branchOk.j1 (k + 1) y0 y1 y2 y3 y4)) ∧ (∀ y0 y1 y2 y3 y4 y5 y6, LeO (impl_branchOk.l0 k y0 y1 y2 y3 y4 y5 y6) (impl_branchOk.l0 (k + 1) y0 y1 y2 y3 y4 y5 y6)) ∧ (∀ y0 y1 y2 y3 y4 y5 y6 y7 y8 y9 y10 y11, LeO (impl_branchOk.j3 k y0 y1 y2 y3 y4 y5 y6 y7 y8 y9 y10 y11) (impl_branchOk.j3 (k + 1) y0 y1 y2 y3 y4 y5 y6 y7 y8 y9 y10 y11))
  | 0 => ⟨fun _ _ _ _ r h => by simp [impl_branchOk.f] at h, fun _ _ _ _ _ r h => by simp [impl_branchOk.j0] at h, fun _ _ _ _ _ r h => by simp [impl_branchOk.j1] at h, fun _ _ _ _ _ _ _ r h => by simp [impl_branchOk.l0] at h, fun _ _ _ _ _ _ _ _ _ _ _ _ r h => by simp [impl_branchOk.j3] at h⟩
  | k + 1 => by
    obtain ⟨ih0, ih1, ih2, ih3, ih4⟩ := impl_branchOk.mono_l k
    refine ⟨?_, ?_, ?_, ?_, ?_⟩
    · intro y0 y1 y2 y3
      unfold impl_branchOk.f
      repeat' first
      | (with_reducible exact ih0 _ _ _ _)
      | (with_reducible exact ih1 _ _ _ _ _)
      | (with_reducible exact ih2 _ _ _ _ _)
      | (with_reducible exact ih3 _ _ _ _ _ _ _)
      | (with_reducible exact ih4 _ _ _ _ _ _ _ _ _ _ _ _)
      | (with_reducible exact impl_FilterOk.mono _ _)
      | (with_reducible exact impl_subsOk.mono _ _)
      | (with_reducible exact LeO.refl _)
      | (with_reducible exact LeO.none _)
      | (with_reducible refine LeO.ite ?_ ?_)
      | (with_reducible refine LeO.bind ?_ (fun _ => ?_))
      | exact ih0 _ _ _ _
      | exact ih1 _ _ _ _ _
      | exact ih2 _ _ _ _ _
      | exact ih3 _ _ _ _ _ _ _
      | exact ih4 _ _ _ _ _ _ _ _ _ _ _ _
      | exact impl_FilterOk.mono _ _
      | exact impl_subsOk.mono _ _
      | exact LeO.none _
      | refine LeO.ite ?_ ?_
      | refine LeO.bind ?_ (fun _ => ?_)
    · intro y0 y1 y2 y3 y4
      unfold impl_branchOk.j0
      repeat' first
      | (with_reducible exact ih0 _ _ _ _)
      | (with_reducible exact ih1 _ _ _ _ _)
      | (with_reducible exact ih2 _ _ _ _ _)
      | (with_reducible exact ih3 _ _ _ _ _ _ _)
      | (with_reducible exact ih4 _ _ _ _ _ _ _ _ _ _ _ _)
      | (with_reducible exact impl_FilterOk.mono _ _)
      | (with_reducible exact impl_subsOk.mono _ _)
      | (with_reducible exact LeO.refl _)
      | (with_reducible exact LeO.none _)
      | (with_reducible refine LeO.ite ?_ ?_)
      | (with_reducible refine LeO.bind ?_ (fun _ => ?_))
      | exact ih0 _ _ _ _
      | exact ih1 _ _ _ _ _
      | exact ih2 _ _ _ _ _
      | exact ih3 _ _ _ _ _ _ _
      | exact ih4 _ _ _ _ _ _ _ _ _ _ _ _
      | exact impl_FilterOk.mono _ _
      | exact impl_subsOk.mono _ _
      | exact LeO.none _
      | refine LeO.ite ?_ ?_
      | refine LeO.bind ?_ (fun _ => ?_)
    · intro y0 y1 y2 y3 y4
      unfold impl_branchOk.j1
      repeat' first
      | (with_reducible exact ih0 _ _ _ _)
      | (with_reducible exact ih1 _ _ _ _ _)
      | (with_reducible exact ih2 _ _ _ _ _)
      | (with_reducible exact ih3 _ _ _ _ _ _ _)
      | (with_reducible exact ih4 _ _ _ _ _ _ _ _ _ _ _ _)
      | (with_reducible exact impl_FilterOk.mono _ _)
      | (with_reducible exact impl_subsOk.mono _ _)
      | (with_reducible exact LeO.refl _)
      | (with_reducible exact LeO.none _)
      | (with_reducible refine LeO.ite ?_ ?_)
      | (with_reducible refine LeO.bind ?_ (fun _ => ?_))
      | exact ih0 _ _ _ _
      | exact ih1 _ _ _ _ _
      | exact ih2 _ _ _ _ _
      | exact ih3 _ _ _ _ _ _ _
      | exact ih4 _ _ _ _ _ _ _ _ _ _ _ _
      | exact impl_FilterOk.mono _ _
      | exact impl_subsOk.mono _ _
      | exact LeO.none _
      | refine LeO.ite ?_ ?_
      | refine LeO.bind ?_ (fun _ => ?_)
    · intro y0 y1 y2 y3 y4 y5 y6
      unfold impl_branchOk.l0
      repeat' first
      | (with_reducible exact ih0 _ _ _ _)
      | (with_reducible exact ih1 _ _ _ _ _)
      | (with_reducible exact ih2 _ _ _ _ _)
      | (with_reducible exact ih3 _ _ _ _ _ _ _)
      | (with_reducible exact ih4 _ _ _ _ _ _ _ _ _ _ _ _)
      | (with_reducible exact impl_FilterOk.mono _ _)
      | (with_reducible exact impl_subsOk.mono _ _)
      | (with_reducible exact LeO.refl _)
      | (with_reducible exact LeO.none _)
      | (with_reducible refine LeO.ite ?_ ?_)
      | (with_reducible refine LeO.bind ?_ (fun _ => ?_))
      | exact ih0 _ _ _ _
      | exact ih1 _ _ _ _ _
      | exact ih2 _ _ _ _ _
      | exact ih3 _ _ _ _ _ _ _
      | exact ih4 _ _ _ _ _ _ _ _ _ _ _ _
      | exact impl_FilterOk.mono _ _
      | exact impl_subsOk.mono _ _
      | exact LeO.none _
      | refine LeO.ite ?_ ?_
      | refine LeO.bind ?_ (fun _ => ?_)
    · intro y0 y1 y2 y3 y4 y5 y6 y7 y8 y9 y10 y11
      unfold impl_branchOk.j3
      repeat' first
      | (with_reducible exact ih0 _ _ _ _)
      | (with_reducible exact ih1 _ _ _ _ _)
      | (with_reducible exact ih2 _ _ _ _ _)
      | (with_reducible exact ih3 _ _ _ _ _ _ _)
      | (with_reducible exact ih4 _ _ _ _ _ _ _ _ _ _ _ _)
      | (with_reducible exact impl_FilterOk.mono _ _)
      | (with_reducible exact impl_subsOk.mono _ _)
      | (with_reducible exact LeO.refl _)
      | (with_reducible exact LeO.none _)
      | (with_reducible refine LeO.ite ?_ ?_)
      | (with_reducible refine LeO.bind ?_ (fun _ => ?_))
      | exact ih0 _ _ _ _
      | exact ih1 _ _ _ _ _
      | exact ih2 _ _ _ _ _
      | exact ih3 _ _ _ _ _ _ _
      | exact ih4 _ _ _ _ _ _ _ _ _ _ _ _
      | exact impl_FilterOk.mono _ _
      | exact impl_subsOk.mono _ _
      | exact LeO.none _
      | refine LeO.ite ?_ ?_
      | refine LeO.bind ?_ (fun _ => ?_)
theorem impl_branchOk.mono : ∀ a0 a1 a2 a3 k, LeO (impl_branchOk.f k a0 a1 a2 a3) (impl_branchOk.f (k + 1) a0 a1 a2 a3) := by
  intro a0 a1 a2 a3 k
  obtain ⟨ih0, ih1, ih2, ih3, ih4⟩ := impl_branchOk.mono_l k
  exact ih0 a0 a1 a2 a3
def impl_branchOk.T11 : Bool × List (List Nat × List Nat) := (true, [([], []), ([0], [0]), ([1], [1]), ([2], [2]), ([3], [3]), ([4], [4]), ([5, 4], [4, 5]), ([6, 4], [4, 6]), ([7, 4], [4, 7]), ([4, 8], [4, 8]), ([9, 4], [9]), ([10], [10]), ([10], [10]), ([10], [10]), ([12, 13, 10, 10], [10, 12, 13]), ([10], [10]), ([15, 10], [10, 15]), ([14, 16, 14, 10], [10, 14, 16]), ([11, 17, 17, 10], [10, 11, 17]), ([18, 10], [10, 18]), ([10, 19], [10, 19])])
def impl_branchOk.B11 : List Nat := [0, 1, 3, 7, 15, 31, 63, 127, 255, 511, 1023, 2047, 2047, 2047, 14335, 2047, 34815, 129023, 262143, 524287, 1048575]
theorem impl_branchOk.tab11 : rtab .any (opsOf Tryd.f30 11) = impl_branchOk.T11 := by kernel_rfl
theorem impl_branchOk.bits11 : waitsOk impl_branchOk.T11.2 impl_branchOk.B11 = true := by kernel_rfl
theorem impl_branchOk_z4 {p : Prop} (h : p := by
  have hczz3 : wz1.cell? ⟨gbz1, 2, none⟩ = some (.slice Az3 lz3.length cz3) := (blk_cell BKz1.out 2).trans rfl
  have hfzz1 := blk_frozen BKz1.out 0
  have hfzz2 := blk_frozen BKz1.out 1
  have hfzz3 := blk_frozen BKz1.out 2
  go_wp2
  go_meet
  case rel => exact ⟨_, (true), (by first | rfl | (simp; done) | (simp [*]; done)), H', ⟨by first | omega | exact Nat.le_refl _⟩, ⟨bk_⟩, ⟨be_⟩⟩) : p := h
theorem impl_branchOk_z3 {p : Prop} (h : p := by
  have hczz2 : wz1.cell? ⟨gbz1, 1, none⟩ = some (.slice Az2 lz2.length cz2) := (blk_cell BKz1.out 1).trans rfl
  exact impl_branchOk_z4) : p := h
theorem impl_branchOk_z2 {p : Prop} (h : p := by
  have hczz1 : wz1.cell? ⟨gbz1, 0, none⟩ = some (.slice Az1 lz1.length cz1) := (blk_cell BKz1.out 0).trans rfl
  exact impl_branchOk_z3) : p := h
theorem impl_branchOk_z1 {p : Prop} (h : p := by
  clear H
  exact impl_branchOk_z2) : p := h
theorem impl_branchOk_z0 {p : Prop} (h : p := by
  have H' := Aside0.mk H
  exact impl_branchOk_z1) : p := h
theorem impl_branchOk_z5 {p : Prop} (h : p := by
  go_wp2_with (first | (go_at_call 56; (with_reducible refine (impl_Levels.calls (rdOf ByteArray.empty lz1 xz3) tz1 _ ?side1 Az9.out).mono ?_); (case side1 => exact Tabs.below HT.out be_); rintro e wz3 ⟨vz1, rfl, hoz1, hb⟩; have nz1 := Aside0.mk (Kd.R_lower hoz1 (below_size be_)); have nz2 := Aside0.mk (blk_below (g := gbz1) (o := .cells #[.slice (some adz1) lz1.length cz1, .slice (some adz2) lz2.length cz2, .slice Az3 lz3.length cz3] 32 (0, 0)) (by (with_reducible repeat (first | refine blk_drewN ?_ _ | refine blk_drew ?_ | refine blk_alloc ?_ _)); refine blk_far ?_ NBz1.out _; (with_reducible repeat (first | refine blk_drewN ?_ _ | refine blk_drew ?_ | refine blk_alloc ?_ _)); refine blk_far ?_ NBz1.out _; (with_reducible repeat (first | refine blk_drewN ?_ _ | refine blk_drew ?_ | refine blk_alloc ?_ _)); refine blk_far ?_ NBz1.out _; (with_reducible repeat (first | refine blk_drewN ?_ _ | refine blk_drew ?_ | refine blk_alloc ?_ _)); exact BKz1.out) hb); have nz3 := Aside0.mk (blk_below (g := gbz2) (o := .cells #[.slice Az5 ((rd_T32 lz2 xz3).f0).length cz11, .slice Az6 ((rd_T32 lz2 xz3).f1).length cz12, .slice Az7 ((rd_T32 lz2 xz3).f2).length cz13] 32 (0, 0)) (by (with_reducible repeat (first | refine blk_drewN ?_ _ | refine blk_drew ?_ | refine blk_alloc ?_ _)); refine blk_put (cs := #[.slice Az5 ((rd_T32 lz2 xz3).f0).length cz11, .slice Az6 ((rd_T32 lz2 xz3).f1).length cz12, .slice none 0 0]) ?_ 2 _ rfl; (with_reducible repeat (first | refine blk_drewN ?_ _ | refine blk_drew ?_ | refine blk_alloc ?_ _)); refine blk_put (cs := #[.slice Az5 ((rd_T32 lz2 xz3).f0).length cz11, .slice none 0 0, .slice none 0 0]) ?_ 1 _ rfl; (with_reducible repeat (first | refine blk_drewN ?_ _ | refine blk_drew ?_ | refine blk_alloc ?_ _)); refine blk_put (cs := #[.slice none 0 0, .slice none 0 0, .slice none 0 0]) ?_ 0 _ rfl; (with_reducible repeat (first | refine blk_drewN ?_ _ | refine blk_drew ?_ | refine blk_alloc ?_ _)); exact BKz2.out) hb); have nz4 := Aside0.mk (below_step be_ hb); clear BKz1; clear BKz2; clear HB; have HOz1 := nz1; have BKz1 := nz2; have BKz2 := nz3; have HB := nz4; clear nz1 nz2 nz3 nz4; (try clear hb); (try clear hb2); (try clear hk); (try clear hi); (try clear hoz1); obtain ⟨Aoz1, coz1, eoz1⟩ := Kd.R_slice HOz1.out; subst eoz1))
  go_meet
  case rel => exact ⟨_, (true), (by first | rfl | (simp; done) | (simp [*]; done)), H', ⟨by have := HJz1.out; have := HJz2.out; have := HKz1.out; first | omega | exact Nat.le_refl _⟩, ⟨bk_⟩, ⟨bk_⟩, ⟨be_⟩⟩) : p := h
theorem impl_branchOk_z17 {p : Prop} (h : p := by
  refine Kd.R_append_rows_step Kd.string (w0 := w) w.heap.size (by rfl) (.tmp 88) (.tmp 89) 22 9 (.string ⟨#[]⟩) 16 rfl Tryd.underlying22 info9 rfl (by decide) (by omega) vz1 yz1 lz4 _ _ _ (fun _ => True) (fun _ => False) rfl rfl ?aO ?aR (fun _ _ h => h) (fun _ h => h.elim) ?aF ?aB ?aS ?aL ?_
  (case aR => exact Kd.C_below HRz4.out be_)
  (case aB => exact be_)
  (case aF => exact (fun _ _ => trivial))
  (case aO => exact (by (with_reducible repeat (first | apply Kd.R_alloc | apply Kd.R_drewN | apply Kd.R_drew)); exact HOz1.out))
  (case aS => exact (below_size be_))
  (case aL => have := LMcz1.out; omega)
  intro vz2 wz5 ho hb hg hat
  rw [← Nyz2.out] at ho
  have nz1 := Aside0.mk (blk_grown (g := gbz1) (o := .cells #[.slice (some adz1) lz1.length cz1, .slice (some adz2) lz2.length cz2, .slice Az3 lz3.length cz3] 32 (0, 0)) bk_ hg (Kd.R_ne HOz1.out BKz1.out (by decide)))
  have nz2 := Aside0.mk (blk_grown (g := gbz2) (o := .cells #[.slice Az5 ((rd_T32 lz2 xz3).f0).length cz11, .slice Az6 ((rd_T32 lz2 xz3).f1).length cz12, .slice Az7 ((rd_T32 lz2 xz3).f2).length cz13] 32 (0, 0)) bk_ hg (Kd.R_ne HOz1.out BKz2.out (by decide)))
  have nz3 := Aside0.mk (hb)
  have nz4 := Aside0.mk (ho)
  clear BKz1
  clear BKz2
  clear HB
  clear HOz1
  have BKz1 := nz1
  have BKz2 := nz2
  have HB := nz3
  have HOz2 := nz4
  clear nz1 nz2 nz3 nz4
  clear ho hb hg hat
  refine hK.out _ _ ⟨(blk_cell BKz2.out 0).trans rfl, (blk_cell BKz2.out 1).trans rfl, (blk_cell BKz2.out 2).trans rfl⟩ (fun hHeld => ?_)
  clear hK K
  refine norm_ (a' := ?_) ?_ ?_
  rotate_left
  · show Act.put _ (some 90) _ = _
    simp only [Act.put, List.setIfInBounds_toArray, List.set_cons_zero, List.set_cons_succ, i64_w, i32_w]
    rfl
  refine one_ (i := 16) (N := some 92) impl_branchOk_bools15_ rfl rfl (one_of HT_.out (by kernel_rfl)) (by decide) (fun K hK => ?_)
  refine Kd.R_lit_step Kd.string _ 9 ?hg (N := 92) ?hd (xs := ([(rdOf ByteArray.empty lz1 xz3)] : List ByteArray)) (inner := [.string (rdOf ByteArray.empty lz1 xz3)]) (ok := fun _ => True) (okp := fun _ => True) ?hr ?hp (fun _ hk => hk) trivial (Below.refl _ _) (Nat.le_refl _) (by simp) ?_; (case hd => rfl); (case hg => rfl); (case hr => first | (go_simp; done) | (go_simp; rfl)); (case hp => exact (Reps.one (show Kd.M Kd.string _ _ _ (rdOf ByteArray.empty lz1 xz3) [.string (rdOf ByteArray.empty lz1 xz3)] from rfl) (Reps.none _ _)))
  intro vz3 wz6 hoz2 hb hg_ hnew_
  clear hg_ hnew_
  (first | rw [← Nyz3.out] at hoz2 | (simp only [Int.reduceToNat] at hoz2; rw [← Nyz3.out] at hoz2))
  have nz1 := Aside0.mk (Kd.R_elder' (by (with_reducible repeat (first | apply Kd.R_alloc | apply Kd.R_drewN | apply Kd.R_drew)); exact HOz2.out) (Kd.R_base hoz2) hb)
  have nz2 := Aside0.mk (Kd.R_lower (Kd.R_new' hoz2 (Kd.R_lt (by (with_reducible repeat (first | apply Kd.R_alloc | apply Kd.R_drewN | apply Kd.R_drew)); exact HOz2.out))) (below_size be_))
  have nz3 := Aside0.mk (blk_below (g := gbz1) (o := .cells #[.slice (some adz1) lz1.length cz1, .slice (some adz2) lz2.length cz2, .slice Az3 lz3.length cz3] 32 (0, 0)) bk_ hb)
  have nz4 := Aside0.mk (blk_below (g := gbz2) (o := .cells #[.slice Az5 ((rd_T32 lz2 xz3).f0).length cz11, .slice Az6 ((rd_T32 lz2 xz3).f1).length cz12, .slice Az7 ((rd_T32 lz2 xz3).f2).length cz13] 32 (0, 0)) bk_ hb)
  have nz5 := Aside0.mk (below_step be_ hb)
  clear HOz2
  clear BKz1
  clear BKz2
  clear HB
  have HOz2 := nz1
  have HOz3 := nz2
  have BKz1 := nz3
  have BKz2 := nz4
  have HB := nz5
  clear nz1 nz2 nz3 nz4 nz5
  clear hb hoz2
  refine hK.out _ _ ⟨(blk_cell BKz2.out 0).trans rfl, (blk_cell BKz2.out 1).trans rfl, (blk_cell BKz2.out 2).trans rfl⟩ (fun hHeld => ?_)
  clear hK K
  refine norm_ (a' := ?_) ?_ ?_
  rotate_left
  · show Act.put _ (some 92) _ = _
    simp only [Act.put, List.setIfInBounds_toArray, List.set_cons_zero, List.set_cons_succ, i64_w, i32_w]
    rfl
  exact norm_ (by simp only [putAll, Act.put, List.setIfInBounds_toArray, List.set_cons_zero, List.set_cons_succ]) (hCont (vz1, vz2, vz3) _ ⟨hHeld, (by (with_reducible repeat (first | apply Kd.R_alloc | apply Kd.R_drewN | apply Kd.R_drew)); exact Kd.R_mono HOz2.out (fun _ hk => hk.2)), (by (with_reducible repeat (first | apply Kd.R_alloc | apply Kd.R_drewN | apply Kd.R_drew)); exact Kd.R_mono HOz3.out (fun _ hk => hk.2)), bk_, bk_, be_⟩)) : p := h
theorem impl_branchOk_z16 {p : Prop} (h : p := by
  skip
  exact impl_branchOk_z17) : p := h
theorem impl_branchOk_z19 {p : Prop} (h : p := by
  refine Kd.R_lit_step Kd.string _ 9 ?hg (N := 92) ?hd (xs := ([(rdOf ByteArray.empty lz1 xz3)] : List ByteArray)) (inner := [.string (rdOf ByteArray.empty lz1 xz3)]) (ok := fun _ => True) (okp := fun _ => True) ?hr ?hp (fun _ hk => hk) trivial (Below.refl _ _) (Nat.le_refl _) (by simp) ?_; (case hd => rfl); (case hg => rfl); (case hr => first | (go_simp; done) | (go_simp; rfl)); (case hp => exact (Reps.one (show Kd.M Kd.string _ _ _ (rdOf ByteArray.empty lz1 xz3) [.string (rdOf ByteArray.empty lz1 xz3)] from rfl) (Reps.none _ _)))
  intro vz2 wz5 hoz2 hb hg_ hnew_
  clear hg_ hnew_
  (first | rw [← Nyz3.out] at hoz2 | (simp only [Int.reduceToNat] at hoz2; rw [← Nyz3.out] at hoz2))
  have nz1 := Aside0.mk (Kd.R_elder' (by (with_reducible repeat (first | apply Kd.R_alloc | apply Kd.R_drewN | apply Kd.R_drew)); exact HOz1.out) (Kd.R_base hoz2) hb)
  have nz2 := Aside0.mk (Kd.R_lower (Kd.R_new' hoz2 (Kd.R_lt (by (with_reducible repeat (first | apply Kd.R_alloc | apply Kd.R_drewN | apply Kd.R_drew)); exact HOz1.out))) (below_size be_))
  have nz3 := Aside0.mk (blk_below (g := gbz1) (o := .cells #[.slice (some adz1) lz1.length cz1, .slice (some adz2) lz2.length cz2, .slice Az3 lz3.length cz3] 32 (0, 0)) bk_ hb)
  have nz4 := Aside0.mk (blk_below (g := gbz2) (o := .cells #[.slice Az5 ((rd_T32 lz2 xz3).f0).length cz11, .slice Az6 ((rd_T32 lz2 xz3).f1).length cz12, .slice Az7 ((rd_T32 lz2 xz3).f2).length cz13] 32 (0, 0)) bk_ hb)
  have nz5 := Aside0.mk (below_step be_ hb)
  clear HOz1
  clear BKz1
  clear BKz2
  clear HB
  have HOz1 := nz1
  have HOz2 := nz2
  have BKz1 := nz3
  have BKz2 := nz4
  have HB := nz5
  clear nz1 nz2 nz3 nz4 nz5
  clear hb hoz2
  refine hK.out _ _ ⟨(blk_cell BKz2.out 0).trans rfl, (blk_cell BKz2.out 1).trans rfl, (blk_cell BKz2.out 2).trans rfl⟩ (fun hHeld => ?_)
  clear hK K
  refine norm_ (a' := ?_) ?_ ?_
  rotate_left
  · show Act.put _ (some 92) _ = _
    simp only [Act.put, List.setIfInBounds_toArray, List.set_cons_zero, List.set_cons_succ, i64_w, i32_w]
    rfl
  refine one_ (i := 14) (N := some 90) impl_branchOk_bools15_ rfl rfl (one_of HT_.out (by kernel_rfl)) (by decide) (fun K hK => ?_)
  refine Kd.R_append_rows_step Kd.string (w0 := w) w.heap.size (by rfl) (.tmp 88) (.tmp 89) 22 9 (.string ⟨#[]⟩) 16 rfl Tryd.underlying22 info9 rfl (by decide) (by omega) vz1 yz1 lz4 _ _ _ (fun k_ => some k_ ≠ (vz2 : Value).ownBlock) (fun _ => False) rfl rfl ?aO ?aR (fun _ _ h => h) (fun _ h => h.elim) ?aF ?aB ?aS ?aL ?_
  (case aR => exact Kd.C_below HRz4.out be_)
  (case aB => exact be_)
  (case aF => exact (fun k_ hk => Kd.fresh' (Kd.R_lt (by (with_reducible repeat (first | apply Kd.R_alloc | apply Kd.R_drewN | apply Kd.R_drew)); exact HOz2.out)) k_ hk))
  (case aO => exact (by (with_reducible repeat (first | apply Kd.R_alloc | apply Kd.R_drewN | apply Kd.R_drew)); exact Kd.R_mono HOz1.out (fun _ hk => hk.2)))
  (case aS => exact (below_size be_))
  (case aL => have := LMcz1.out; omega)
  intro vz3 wz6 ho hb hg hat
  rw [← Nyz2.out] at ho
  have nz1 := Aside0.mk (blk_grown (g := gbz1) (o := .cells #[.slice (some adz1) lz1.length cz1, .slice (some adz2) lz2.length cz2, .slice Az3 lz3.length cz3] 32 (0, 0)) bk_ hg (Kd.R_ne HOz1.out BKz1.out (by decide)))
  have nz2 := Aside0.mk (blk_grown (g := gbz2) (o := .cells #[.slice Az5 ((rd_T32 lz2 xz3).f0).length cz11, .slice Az6 ((rd_T32 lz2 xz3).f1).length cz12, .slice Az7 ((rd_T32 lz2 xz3).f2).length cz13] 32 (0, 0)) bk_ hg (Kd.R_ne HOz1.out BKz2.out (by decide)))
  have nz3 := Aside0.mk (Kd.R_after (ok := (fun _ => True)) (by (with_reducible repeat (first | apply Kd.R_alloc | apply Kd.R_drewN | apply Kd.R_drew)); exact HOz2.out) hg hat)
  have nz4 := Aside0.mk (hb)
  have nz5 := Aside0.mk (ho)
  clear BKz1
  clear BKz2
  clear HOz2
  clear HB
  clear HOz1
  have BKz1 := nz1
  have BKz2 := nz2
  have HOz2 := nz3
  have HB := nz4
  have HOz3 := nz5
  clear nz1 nz2 nz3 nz4 nz5
  clear ho hb hg hat
  refine hK.out _ _ ⟨(blk_cell BKz2.out 0).trans rfl, (blk_cell BKz2.out 1).trans rfl, (blk_cell BKz2.out 2).trans rfl⟩ (fun hHeld => ?_)
  clear hK K
  refine norm_ (a' := ?_) ?_ ?_
  rotate_left
  · show Act.put _ (some 90) _ = _
    simp only [Act.put, List.setIfInBounds_toArray, List.set_cons_zero, List.set_cons_succ, i64_w, i32_w]
    rfl
  exact norm_ (by simp only [putAll, Act.put, List.setIfInBounds_toArray, List.set_cons_zero, List.set_cons_succ]) (hCont (vz1, vz3, vz2) _ ⟨hHeld, (by (with_reducible repeat (first | apply Kd.R_alloc | apply Kd.R_drewN | apply Kd.R_drew)); exact HOz3.out), (by (with_reducible repeat (first | apply Kd.R_alloc | apply Kd.R_drewN | apply Kd.R_drew)); exact Kd.R_mono HOz2.out (fun _ hk => hk.2)), bk_, bk_, be_⟩)) : p := h
theorem impl_branchOk_z18 {p : Prop} (h : p := by
  skip
  exact impl_branchOk_z19) : p := h
theorem impl_branchOk_z15 {p : Prop} (h : p := by
  refine Kd.R_lit_step Kd.string _ 9 ?hg (N := 88) ?hd (xs := ([] : List ByteArray)) (inner := []) (ok := fun _ => True) (okp := fun _ => True) ?hr ?hp (fun _ hk => hk) trivial (Below.refl _ _) (Nat.le_refl _) (by simp) ?_; (case hd => rfl); (case hg => rfl); (case hr => first | (go_simp; done) | (go_simp; rfl)); (case hp => exact (Reps.none _ _))
  intro vz1 wz4 hoz1 hb hg_ hnew_
  clear hg_ hnew_
  (first | rw [← Nyz1.out] at hoz1 | (simp only [Int.reduceToNat] at hoz1; rw [← Nyz1.out] at hoz1))
  have nz1 := Aside0.mk (Kd.R_lower hoz1 (below_size be_))
  have nz2 := Aside0.mk (blk_below (g := gbz1) (o := .cells #[.slice (some adz1) lz1.length cz1, .slice (some adz2) lz2.length cz2, .slice Az3 lz3.length cz3] 32 (0, 0)) bk_ hb)
  have nz3 := Aside0.mk (blk_below (g := gbz2) (o := .cells #[.slice Az5 ((rd_T32 lz2 xz3).f0).length cz11, .slice Az6 ((rd_T32 lz2 xz3).f1).length cz12, .slice Az7 ((rd_T32 lz2 xz3).f2).length cz13] 32 (0, 0)) bk_ hb)
  have nz4 := Aside0.mk (below_step be_ hb)
  clear BKz1
  clear BKz2
  clear HB
  have HOz1 := nz1
  have BKz1 := nz2
  have BKz2 := nz3
  have HB := nz4
  clear nz1 nz2 nz3 nz4
  clear hb hoz1
  refine hK.out _ _ ⟨(blk_cell BKz2.out 0).trans rfl, (blk_cell BKz2.out 1).trans rfl, (blk_cell BKz2.out 2).trans rfl⟩ (fun hHeld => ?_)
  clear hK K
  refine norm_ (a' := ?_) ?_ ?_
  rotate_left
  · show Act.put _ (some 88) _ = _
    simp only [Act.put, List.setIfInBounds_toArray, List.set_cons_zero, List.set_cons_succ, i64_w, i32_w]
    rfl
  refine two_ (i := 14) (j := 16) (Ni := some 90) (Nj := some 92) impl_branchOk_bools18_ impl_branchOk_bools19_ rfl rfl rfl rfl (two_of HT_.out (by kernel_rfl)) (by decide) (by decide) (fun K hK => ?_) (fun K hK => ?_)
  · exact impl_branchOk_z16
  · exact impl_branchOk_z18) : p := h
theorem impl_branchOk_z14 {p : Prop} (h : p := by
  skip
  exact impl_branchOk_z15) : p := h
theorem impl_branchOk_z21 {p : Prop} (h : p := by
  refine Kd.R_lit_step Kd.string _ 9 ?hg (N := 92) ?hd (xs := ([(rdOf ByteArray.empty lz1 xz3)] : List ByteArray)) (inner := [.string (rdOf ByteArray.empty lz1 xz3)]) (ok := fun _ => True) (okp := fun _ => True) ?hr ?hp (fun _ hk => hk) trivial (Below.refl _ _) (Nat.le_refl _) (by simp) ?_; (case hd => rfl); (case hg => rfl); (case hr => first | (go_simp; done) | (go_simp; rfl)); (case hp => exact (Reps.one (show Kd.M Kd.string _ _ _ (rdOf ByteArray.empty lz1 xz3) [.string (rdOf ByteArray.empty lz1 xz3)] from rfl) (Reps.none _ _)))
  intro vz1 wz4 hoz1 hb hg_ hnew_
  clear hg_ hnew_
  (first | rw [← Nyz3.out] at hoz1 | (simp only [Int.reduceToNat] at hoz1; rw [← Nyz3.out] at hoz1))
  have nz1 := Aside0.mk (Kd.R_lower hoz1 (below_size be_))
  have nz2 := Aside0.mk (blk_below (g := gbz1) (o := .cells #[.slice (some adz1) lz1.length cz1, .slice (some adz2) lz2.length cz2, .slice Az3 lz3.length cz3] 32 (0, 0)) bk_ hb)
  have nz3 := Aside0.mk (blk_below (g := gbz2) (o := .cells #[.slice Az5 ((rd_T32 lz2 xz3).f0).length cz11, .slice Az6 ((rd_T32 lz2 xz3).f1).length cz12, .slice Az7 ((rd_T32 lz2 xz3).f2).length cz13] 32 (0, 0)) bk_ hb)
  have nz4 := Aside0.mk (below_step be_ hb)
  clear BKz1
  clear BKz2
  clear HB
  have HOz1 := nz1
  have BKz1 := nz2
  have BKz2 := nz3
  have HB := nz4
  clear nz1 nz2 nz3 nz4
  clear hb hoz1
  refine hK.out _ _ ⟨(blk_cell BKz2.out 0).trans rfl, (blk_cell BKz2.out 1).trans rfl, (blk_cell BKz2.out 2).trans rfl⟩ (fun hHeld => ?_)
  clear hK K
  refine norm_ (a' := ?_) ?_ ?_
  rotate_left
  · show Act.put _ (some 92) _ = _
    simp only [Act.put, List.setIfInBounds_toArray, List.set_cons_zero, List.set_cons_succ, i64_w, i32_w]
    rfl
  refine one_ (i := 12) (N := some 88) impl_branchOk_bools19_ rfl rfl (one_of HT_.out (by kernel_rfl)) (by decide) (fun K hK => ?_)
  refine Kd.R_lit_step Kd.string _ 9 ?hg (N := 88) ?hd (xs := ([] : List ByteArray)) (inner := []) (ok := fun _ => True) (okp := fun _ => True) ?hr ?hp (fun _ hk => hk) trivial (Below.refl _ _) (Nat.le_refl _) (by simp) ?_; (case hd => rfl); (case hg => rfl); (case hr => first | (go_simp; done) | (go_simp; rfl)); (case hp => exact (Reps.none _ _))
  intro vz2 wz5 hoz2 hb hg_ hnew_
  clear hg_ hnew_
  (first | rw [← Nyz1.out] at hoz2 | (simp only [Int.reduceToNat] at hoz2; rw [← Nyz1.out] at hoz2))
  have nz1 := Aside0.mk (Kd.R_elder' (by (with_reducible repeat (first | apply Kd.R_alloc | apply Kd.R_drewN | apply Kd.R_drew)); exact HOz1.out) (Kd.R_base hoz2) hb)
  have nz2 := Aside0.mk (Kd.R_lower (Kd.R_new' hoz2 (Kd.R_lt (by (with_reducible repeat (first | apply Kd.R_alloc | apply Kd.R_drewN | apply Kd.R_drew)); exact HOz1.out))) (below_size be_))
  have nz3 := Aside0.mk (blk_below (g := gbz1) (o := .cells #[.slice (some adz1) lz1.length cz1, .slice (some adz2) lz2.length cz2, .slice Az3 lz3.length cz3] 32 (0, 0)) bk_ hb)
  have nz4 := Aside0.mk (blk_below (g := gbz2) (o := .cells #[.slice Az5 ((rd_T32 lz2 xz3).f0).length cz11, .slice Az6 ((rd_T32 lz2 xz3).f1).length cz12, .slice Az7 ((rd_T32 lz2 xz3).f2).length cz13] 32 (0, 0)) bk_ hb)
  have nz5 := Aside0.mk (below_step be_ hb)
  clear HOz1
  clear BKz1
  clear BKz2
  clear HB
  have HOz1 := nz1
  have HOz2 := nz2
  have BKz1 := nz3
  have BKz2 := nz4
  have HB := nz5
  clear nz1 nz2 nz3 nz4 nz5
  clear hb hoz2
  refine hK.out _ _ ⟨(blk_cell BKz2.out 0).trans rfl, (blk_cell BKz2.out 1).trans rfl, (blk_cell BKz2.out 2).trans rfl⟩ (fun hHeld => ?_)
  clear hK K
  refine norm_ (a' := ?_) ?_ ?_
  rotate_left
  · show Act.put _ (some 88) _ = _
    simp only [Act.put, List.setIfInBounds_toArray, List.set_cons_zero, List.set_cons_succ, i64_w, i32_w]
    rfl
  refine one_ (i := 14) (N := some 90) impl_branchOk_bools15_ rfl rfl (one_of HT_.out (by kernel_rfl)) (by decide) (fun K hK => ?_)
  refine Kd.R_append_rows_step Kd.string (w0 := w) w.heap.size (by rfl) (.tmp 88) (.tmp 89) 22 9 (.string ⟨#[]⟩) 16 rfl Tryd.underlying22 info9 rfl (by decide) (by omega) vz2 yz1 lz4 _ _ _ (fun k_ => some k_ ≠ (vz1 : Value).ownBlock) (fun _ => False) rfl rfl ?aO ?aR (fun _ _ h => h) (fun _ h => h.elim) ?aF ?aB ?aS ?aL ?_
  (case aR => exact Kd.C_below HRz4.out be_)
  (case aB => exact be_)
  (case aF => exact (fun k_ hk => Kd.fresh' (Kd.R_lt (by (with_reducible repeat (first | apply Kd.R_alloc | apply Kd.R_drewN | apply Kd.R_drew)); exact HOz1.out)) k_ hk))
  (case aO => exact (by (with_reducible repeat (first | apply Kd.R_alloc | apply Kd.R_drewN | apply Kd.R_drew)); exact Kd.R_mono HOz2.out (fun _ hk => hk.2)))
  (case aS => exact (below_size be_))
  (case aL => have := LMcz1.out; omega)
  intro vz3 wz6 ho hb hg hat
  rw [← Nyz2.out] at ho
  have nz1 := Aside0.mk (blk_grown (g := gbz1) (o := .cells #[.slice (some adz1) lz1.length cz1, .slice (some adz2) lz2.length cz2, .slice Az3 lz3.length cz3] 32 (0, 0)) bk_ hg (Kd.R_ne HOz2.out BKz1.out (by decide)))
  have nz2 := Aside0.mk (blk_grown (g := gbz2) (o := .cells #[.slice Az5 ((rd_T32 lz2 xz3).f0).length cz11, .slice Az6 ((rd_T32 lz2 xz3).f1).length cz12, .slice Az7 ((rd_T32 lz2 xz3).f2).length cz13] 32 (0, 0)) bk_ hg (Kd.R_ne HOz2.out BKz2.out (by decide)))
  have nz3 := Aside0.mk (Kd.R_after (ok := (fun _ => True)) (by (with_reducible repeat (first | apply Kd.R_alloc | apply Kd.R_drewN | apply Kd.R_drew)); exact HOz1.out) hg hat)
  have nz4 := Aside0.mk (hb)
  have nz5 := Aside0.mk (ho)
  clear BKz1
  clear BKz2
  clear HOz1
  clear HB
  clear HOz2
  have BKz1 := nz1
  have BKz2 := nz2
  have HOz1 := nz3
  have HB := nz4
  have HOz3 := nz5
  clear nz1 nz2 nz3 nz4 nz5
  clear ho hb hg hat
  refine hK.out _ _ ⟨(blk_cell BKz2.out 0).trans rfl, (blk_cell BKz2.out 1).trans rfl, (blk_cell BKz2.out 2).trans rfl⟩ (fun hHeld => ?_)
  clear hK K
  refine norm_ (a' := ?_) ?_ ?_
  rotate_left
  · show Act.put _ (some 90) _ = _
    simp only [Act.put, List.setIfInBounds_toArray, List.set_cons_zero, List.set_cons_succ, i64_w, i32_w]
    rfl
  exact norm_ (by simp only [putAll, Act.put, List.setIfInBounds_toArray, List.set_cons_zero, List.set_cons_succ]) (hCont (vz2, vz3, vz1) _ ⟨hHeld, (by (with_reducible repeat (first | apply Kd.R_alloc | apply Kd.R_drewN | apply Kd.R_drew)); exact HOz3.out), (by (with_reducible repeat (first | apply Kd.R_alloc | apply Kd.R_drewN | apply Kd.R_drew)); exact Kd.R_mono HOz1.out (fun _ hk => hk.2)), bk_, bk_, be_⟩)) : p := h
theorem impl_branchOk_z20 {p : Prop} (h : p := by
  skip
  exact impl_branchOk_z21) : p := h
theorem impl_branchOk_z13 {p : Prop} (h : p := by
  refine two_ (i := 12) (j := 16) (Ni := some 88) (Nj := some 92) impl_branchOk_bools16_ impl_branchOk_bools17_ rfl rfl rfl rfl (two_of HT_.out (by kernel_rfl)) (by decide) (by decide) (fun K hK => ?_) (fun K hK => ?_)
  · exact impl_branchOk_z14
  · exact impl_branchOk_z20) : p := h
theorem impl_branchOk_z12 {p : Prop} (h : p := by
  intro hCont
  exact impl_branchOk_z13) : p := h
theorem impl_branchOk_z11 {p : Prop} (h : p := by
  refine join_ (σ := Value × Value × Value) 4 impl_branchOk_bools15_ (fun s_ => [(88, s_.1), (90, s_.2.1), (92, s_.2.2)]) (fun s_ w' => (w'.cell? ⟨gbz2, 0, none⟩ = some (.slice Az5 ((rd_T32 lz2 xz3).f0).length cz11) ∧ w'.cell? ⟨gbz2, 1, none⟩ = some (.slice Az6 ((rd_T32 lz2 xz3).f1).length cz12) ∧ w'.cell? ⟨gbz2, 2, none⟩ = some (.slice Az7 ((rd_T32 lz2 xz3).f2).length cz13)) ∧ (Kd.R Kd.string 9 w' w.heap.size (fun k_ => some k_ ≠ (s_.2.2 : Value).ownBlock) s_.2.1 yz2) ∧ (Kd.R Kd.string 9 w' w.heap.size (fun k_ => some k_ ≠ (s_.2.1 : Value).ownBlock) s_.2.2 yz3) ∧ (w'.heap[gbz1]? = some (.cells #[.slice (some adz1) lz1.length cz1, .slice (some adz2) lz2.length cz2, .slice Az3 lz3.length cz3] 32 (0, 0))) ∧ (w'.heap[gbz2]? = some (.cells #[.slice Az5 ((rd_T32 lz2 xz3).f0).length cz11, .slice Az6 ((rd_T32 lz2 xz3).f1).length cz12, .slice Az7 ((rd_T32 lz2 xz3).f2).length cz13] 32 (0, 0))) ∧ (Below w.heap.size w w')) ?_ ?_
  rotate_left
  · exact impl_branchOk_z12
  rintro ⟨vz1, vz2, vz3⟩ wz4 ⟨hS_, hz1, hz2, hz3, hz4, hz5⟩
  have nz1 : Aside0 (Kd.R Kd.string 9 wz4 w.heap.size (fun k_ => some k_ ≠ (vz3 : Value).ownBlock) vz2 yz2) := ⟨hz1⟩
  have nz2 : Aside0 (Kd.R Kd.string 9 wz4 w.heap.size (fun k_ => some k_ ≠ (vz2 : Value).ownBlock) vz3 yz3) := ⟨hz2⟩
  have nz3 : Aside0 (wz4.heap[gbz1]? = some (.cells #[.slice (some adz1) lz1.length cz1, .slice (some adz2) lz2.length cz2, .slice Az3 lz3.length cz3] 32 (0, 0))) := ⟨hz3⟩
  have nz4 : Aside0 (wz4.heap[gbz2]? = some (.cells #[.slice Az5 ((rd_T32 lz2 xz3).f0).length cz11, .slice Az6 ((rd_T32 lz2 xz3).f1).length cz12, .slice Az7 ((rd_T32 lz2 xz3).f2).length cz13] 32 (0, 0))) := ⟨hz4⟩
  have nz5 : Aside0 (Below w.heap.size w wz4) := ⟨hz5⟩
  clear BKz1
  clear BKz2
  clear HB
  clear hz1 hz2 hz3 hz4 hz5
  have HOz1 := nz1
  have HOz2 := nz2
  have BKz1 := nz3
  have BKz2 := nz4
  have HB := nz5
  clear nz1 nz2 nz3 nz4 nz5
  have hHeld : wz4.cell? ⟨gbz2, 0, none⟩ = some (.slice Az5 ((rd_T32 lz2 xz3).f0).length cz11) ∧ wz4.cell? ⟨gbz2, 1, none⟩ = some (.slice Az6 ((rd_T32 lz2 xz3).f1).length cz12) ∧ wz4.cell? ⟨gbz2, 2, none⟩ = some (.slice Az7 ((rd_T32 lz2 xz3).f2).length cz13) := hS_
  obtain ⟨Aoz1, coz1, eoz1⟩ := Kd.R_slice HOz2.out
  (first | subst eoz1 | (injection eoz1 with f1_ f2_ f3_; have fz1 := f1_.symm; have fz2 := f3_.symm; clear f1_ f2_ f3_; subst fz1; subst fz2))
  refine norm_ (a' := ?_) ?_ ?_
  rotate_left
  · simp only [putAll, Act.put, List.setIfInBounds_toArray, List.set_cons_zero, List.set_cons_succ]
    rfl
  refine one_ (i := 17) (N := some 93) impl_branchOk_bools20_ rfl rfl (one_of HT_.out (by kernel_rfl)) (by decide) (fun K hK => ?_)
  refine Kd.R_append_rows_step Kd.string (w0 := w) w.heap.size (by rfl) (.tmp 90) (.tmp 92) 22 9 (.string ⟨#[]⟩) 16 rfl Tryd.underlying22 info9 rfl (by decide) (by omega) vz2 yz2 yz3 _ _ _ (fun k_ => some k_ ≠ (.slice Aoz1 yz3.length coz1 : Value).ownBlock) (fun _ => False) rfl rfl ?aO ?aR (fun _ _ h => h) (fun _ h => h.elim) ?aF ?aB ?aS ?aL ?_
  (case aR => repeat (first | exact (Kd.R_reads' HOz2.out).2.2 | (with_reducible refine Kd.C_alloc ?_ _) | (with_reducible refine Kd.C_drewN ?_ _) | (with_reducible refine Kd.C_drew ?_)))
  (case aB => exact be_)
  (case aF => exact (fun k_ hk => Kd.fresh' (Kd.R_lt (by (with_reducible repeat (first | apply Kd.R_alloc | apply Kd.R_drewN | apply Kd.R_drew)); exact HOz2.out)) k_ hk))
  (case aO => exact (by (with_reducible repeat (first | apply Kd.R_alloc | apply Kd.R_drewN | apply Kd.R_drew)); exact HOz1.out))
  (case aS => exact (below_size be_))
  (case aL => have := LMcz2.out; omega)
  intro vz4 wz5 ho hb hg hat
  rw [← Nyz4.out] at ho
  have nz1 := Aside0.mk (blk_grown (g := gbz1) (o := .cells #[.slice (some adz1) lz1.length cz1, .slice (some adz2) lz2.length cz2, .slice Az3 lz3.length cz3] 32 (0, 0)) bk_ hg (Kd.R_ne HOz1.out BKz1.out (by decide)))
  have nz2 := Aside0.mk (blk_grown (g := gbz2) (o := .cells #[.slice Az5 ((rd_T32 lz2 xz3).f0).length cz11, .slice Az6 ((rd_T32 lz2 xz3).f1).length cz12, .slice Az7 ((rd_T32 lz2 xz3).f2).length cz13] 32 (0, 0)) bk_ hg (Kd.R_ne HOz1.out BKz2.out (by decide)))
  have nz3 := Aside0.mk (Kd.R_after (ok := (fun _ => True)) (by (with_reducible repeat (first | apply Kd.R_alloc | apply Kd.R_drewN | apply Kd.R_drew)); exact Kd.R_mono HOz2.out (fun _ hk => ⟨trivial, hk⟩)) hg hat)
  have nz4 := Aside0.mk (hb)
  have nz5 := Aside0.mk (ho)
  clear BKz1
  clear BKz2
  clear HOz2
  clear HB
  clear HOz1
  have BKz1 := nz1
  have BKz2 := nz2
  have HOz2 := nz3
  have HB := nz4
  have HOz3 := nz5
  clear nz1 nz2 nz3 nz4 nz5
  clear ho hb hg hat
  obtain ⟨Aoz2, coz2, eoz2⟩ := Kd.R_slice HOz3.out
  (first | subst eoz2 | (injection eoz2 with f1_ f2_ f3_; have fz1 := f1_.symm; have fz2 := f3_.symm; clear f1_ f2_ f3_; subst fz1; subst fz2))
  refine hK.out _ _ ⟨(blk_cell BKz2.out 0).trans rfl, (blk_cell BKz2.out 1).trans rfl, (blk_cell BKz2.out 2).trans rfl⟩ (fun hHeld => ?_)
  clear hK K
  refine norm_ (a' := ?_) ?_ ?_
  rotate_left
  · show Act.put _ (some 93) _ = _
    simp only [Act.put, List.setIfInBounds_toArray, List.set_cons_zero, List.set_cons_succ, i64_w, i32_w]
    rfl
  refine one_ (i := 18) (N := some 94) impl_branchOk_bools21_ rfl rfl (one_of HT_.out (by kernel_rfl)) (by decide) (fun K hK => ?_)
  refine goes_ Tryd.func30 (by kernel_rfl) rfl #[.agg #[.slice Az5 ((rd_T32 lz2 xz3).f0).length cz11, .slice Az6 ((rd_T32 lz2 xz3).f1).length cz12, .slice Az7 ((rd_T32 lz2 xz3).f2).length cz13], .slice Aoz2 yz4.length coz2] (by rfl) rfl rfl ar_ ?_
  with_reducible refine (ih kjz3 (by have := HJz1.out; have := HJz2.out; have := HKz1.out; have := HJz3.out; omega) _ _ ((rd_T32 lz2 xz3).f0) _ _ ((rd_T32 lz2 xz3).f1) _ _ ((rd_T32 lz2 xz3).f2) _ _ yz4 false _ ?side1 ?side2 ?side3 ?side4 ?side5 ?side6 ?side7 ?side8 ?side9 Az9.out).mono ?_
  (case side1 => exact Kd.C_below HRz5.out be_)
  (case side2 => exact HCz8.out)
  (case side3 => exact Kd.C_below HRz6.out be_)
  (case side4 => exact HCz9.out)
  (case side5 => exact Kd.C_below HRz7.out be_)
  (case side6 => exact HCz10.out)
  (case side7 => repeat (first | exact (Kd.R_reads' HOz3.out).2.2 | (with_reducible refine Kd.C_alloc ?_ _) | (with_reducible refine Kd.C_drewN ?_ _) | (with_reducible refine Kd.C_drew ?_)))
  (case side8 => exact (Kd.R_reads' HOz3.out).2.1)
  (case side9 => exact Tabs.below HT.out be_)
  rintro e wz6 ⟨rfl, hb⟩
  refine ⟨_, rfl, ?_⟩
  have nz1 := Aside0.mk (Kd.R_below (by (with_reducible repeat (first | apply Kd.R_alloc | apply Kd.R_drewN | apply Kd.R_drew)); exact HOz2.out) hb)
  have nz2 := Aside0.mk (Kd.R_below (by (with_reducible repeat (first | apply Kd.R_alloc | apply Kd.R_drewN | apply Kd.R_drew)); exact HOz3.out) hb)
  have nz3 := Aside0.mk (blk_below (g := gbz1) (o := .cells #[.slice (some adz1) lz1.length cz1, .slice (some adz2) lz2.length cz2, .slice Az3 lz3.length cz3] 32 (0, 0)) bk_ hb)
  have nz4 := Aside0.mk (blk_below (g := gbz2) (o := .cells #[.slice Az5 ((rd_T32 lz2 xz3).f0).length cz11, .slice Az6 ((rd_T32 lz2 xz3).f1).length cz12, .slice Az7 ((rd_T32 lz2 xz3).f2).length cz13] 32 (0, 0)) bk_ hb)
  have nz5 := Aside0.mk (below_step be_ hb)
  clear HOz2
  clear HOz3
  clear BKz1
  clear BKz2
  clear HB
  have HOz2 := nz1
  have HOz3 := nz2
  have BKz1 := nz3
  have BKz2 := nz4
  have HB := nz5
  clear nz1 nz2 nz3 nz4 nz5
  (try clear hb)
  (try clear hb2)
  (try clear hk)
  (try clear hi)
  refine hK.out _ _ ⟨(blk_cell BKz2.out 0).trans rfl, (blk_cell BKz2.out 1).trans rfl, (blk_cell BKz2.out 2).trans rfl⟩ (fun hHeld => ?_)
  clear hK K
  refine norm_ (a' := ?_) ?_ ?_
  rotate_left
  · show Act.put _ (some 94) _ = _
    simp only [Act.put, List.setIfInBounds_toArray, List.set_cons_zero, List.set_cons_succ, i64_w, i32_w]
    rfl
  refine pu_ HT_ 19 95 impl_branchOk_bools22_ ?_
  refine pu_ HT_ 20 96 impl_branchOk_bools23_ ?_
  refine done_ (done_of HT_.out (by kernel_rfl)) ?_
  try go_wp2
  go_ret
  exact ⟨by first | rfl | (simp [errW_none, errW_some] <;> rfl) | (simp [*, errW_none, errW_some] <;> rfl), be_⟩) : p := h
theorem impl_branchOk_z10 {p : Prop} (h : p := by
  refine ta_ HT_ HW_ hHeld 11 87 impl_branchOk_bools14_ ?_
  exact impl_branchOk_z11) : p := h
theorem impl_branchOk_z9 {p : Prop} (h : p := by
  refine pu_ HT_ 15 91 impl_branchOk_bools13_ ?_
  exact impl_branchOk_z10) : p := h
theorem impl_branchOk_z8 {p : Prop} (h : p := by
  refine pu_ HT_ 13 89 impl_branchOk_bools12_ ?_
  exact impl_branchOk_z9) : p := h
theorem impl_branchOk_z7 {p : Prop} (h : p := by
  refine pu_ HT_ 10 86 impl_branchOk_bools11_ ?_
  exact impl_branchOk_z8) : p := h
theorem impl_branchOk_z6 {p : Prop} (h : p := by
  refine pu_ HT_ 9 85 impl_branchOk_bools10_ ?_
  exact impl_branchOk_z7) : p := h
theorem impl_branchOk_z27 {p : Prop} (h : p := by
  refine join_ (σ := Value × Value × Value) 4 impl_branchOk_bools15_ (fun s_ => [(88, s_.1), (90, s_.2.1), (92, s_.2.2)]) (fun s_ w' => (w'.cell? ⟨gbz2, 0, none⟩ = some (.slice Az5 ((rd_T32 lz2 xz3).f0).length cz11) ∧ w'.cell? ⟨gbz2, 1, none⟩ = some (.slice Az6 ((rd_T32 lz2 xz3).f1).length cz12) ∧ w'.cell? ⟨gbz2, 2, none⟩ = some (.slice Az7 ((rd_T32 lz2 xz3).f2).length cz13)) ∧ (Kd.R Kd.string 9 w' w.heap.size (fun k_ => some k_ ≠ (s_.2.2 : Value).ownBlock) s_.2.1 yz2) ∧ (Kd.R Kd.string 9 w' w.heap.size (fun k_ => some k_ ≠ (s_.2.1 : Value).ownBlock) s_.2.2 yz3) ∧ (w'.heap[gbz1]? = some (.cells #[.slice (some adz1) lz1.length cz1, .slice (some adz2) lz2.length cz2, .slice Az3 lz3.length cz3] 32 (0, 0))) ∧ (w'.heap[gbz2]? = some (.cells #[.slice Az5 ((rd_T32 lz2 xz3).f0).length cz11, .slice Az6 ((rd_T32 lz2 xz3).f1).length cz12, .slice Az7 ((rd_T32 lz2 xz3).f2).length cz13] 32 (0, 0))) ∧ (Below w.heap.size w w')) ?_ ?_
  rotate_left
  · exact impl_branchOk_z12
  rintro ⟨vz1, vz2, vz3⟩ wz4 ⟨hS_, hz1, hz2, hz3, hz4, hz5⟩
  have nz1 : Aside0 (Kd.R Kd.string 9 wz4 w.heap.size (fun k_ => some k_ ≠ (vz3 : Value).ownBlock) vz2 yz2) := ⟨hz1⟩
  have nz2 : Aside0 (Kd.R Kd.string 9 wz4 w.heap.size (fun k_ => some k_ ≠ (vz2 : Value).ownBlock) vz3 yz3) := ⟨hz2⟩
  have nz3 : Aside0 (wz4.heap[gbz1]? = some (.cells #[.slice (some adz1) lz1.length cz1, .slice (some adz2) lz2.length cz2, .slice Az3 lz3.length cz3] 32 (0, 0))) := ⟨hz3⟩
  have nz4 : Aside0 (wz4.heap[gbz2]? = some (.cells #[.slice Az5 ((rd_T32 lz2 xz3).f0).length cz11, .slice Az6 ((rd_T32 lz2 xz3).f1).length cz12, .slice Az7 ((rd_T32 lz2 xz3).f2).length cz13] 32 (0, 0))) := ⟨hz4⟩
  have nz5 : Aside0 (Below w.heap.size w wz4) := ⟨hz5⟩
  clear BKz1
  clear BKz2
  clear HB
  clear hz1 hz2 hz3 hz4 hz5
  have HOz1 := nz1
  have HOz2 := nz2
  have BKz1 := nz3
  have BKz2 := nz4
  have HB := nz5
  clear nz1 nz2 nz3 nz4 nz5
  have hHeld : wz4.cell? ⟨gbz2, 0, none⟩ = some (.slice Az5 ((rd_T32 lz2 xz3).f0).length cz11) ∧ wz4.cell? ⟨gbz2, 1, none⟩ = some (.slice Az6 ((rd_T32 lz2 xz3).f1).length cz12) ∧ wz4.cell? ⟨gbz2, 2, none⟩ = some (.slice Az7 ((rd_T32 lz2 xz3).f2).length cz13) := hS_
  obtain ⟨Aoz1, coz1, eoz1⟩ := Kd.R_slice HOz2.out
  (first | subst eoz1 | (injection eoz1 with f1_ f2_ f3_; have fz1 := f1_.symm; have fz2 := f3_.symm; clear f1_ f2_ f3_; subst fz1; subst fz2))
  refine norm_ (a' := ?_) ?_ ?_
  rotate_left
  · simp only [putAll, Act.put, List.setIfInBounds_toArray, List.set_cons_zero, List.set_cons_succ]
    rfl
  refine one_ (i := 17) (N := some 93) impl_branchOk_bools20_ rfl rfl (one_of HT_.out (by kernel_rfl)) (by decide) (fun K hK => ?_)
  refine Kd.R_append_rows_step Kd.string (w0 := w) w.heap.size (by rfl) (.tmp 90) (.tmp 92) 22 9 (.string ⟨#[]⟩) 16 rfl Tryd.underlying22 info9 rfl (by decide) (by omega) vz2 yz2 yz3 _ _ _ (fun k_ => some k_ ≠ (.slice Aoz1 yz3.length coz1 : Value).ownBlock) (fun _ => False) rfl rfl ?aO ?aR (fun _ _ h => h) (fun _ h => h.elim) ?aF ?aB ?aS ?aL ?_
  (case aR => repeat (first | exact (Kd.R_reads' HOz2.out).2.2 | (with_reducible refine Kd.C_alloc ?_ _) | (with_reducible refine Kd.C_drewN ?_ _) | (with_reducible refine Kd.C_drew ?_)))
  (case aB => exact be_)
  (case aF => exact (fun k_ hk => Kd.fresh' (Kd.R_lt (by (with_reducible repeat (first | apply Kd.R_alloc | apply Kd.R_drewN | apply Kd.R_drew)); exact HOz2.out)) k_ hk))
  (case aO => exact (by (with_reducible repeat (first | apply Kd.R_alloc | apply Kd.R_drewN | apply Kd.R_drew)); exact HOz1.out))
  (case aS => exact (below_size be_))
  (case aL => have := LMcz2.out; omega)
  intro vz4 wz5 ho hb hg hat
  rw [← Nyz4.out] at ho
  have nz1 := Aside0.mk (blk_grown (g := gbz1) (o := .cells #[.slice (some adz1) lz1.length cz1, .slice (some adz2) lz2.length cz2, .slice Az3 lz3.length cz3] 32 (0, 0)) bk_ hg (Kd.R_ne HOz1.out BKz1.out (by decide)))
  have nz2 := Aside0.mk (blk_grown (g := gbz2) (o := .cells #[.slice Az5 ((rd_T32 lz2 xz3).f0).length cz11, .slice Az6 ((rd_T32 lz2 xz3).f1).length cz12, .slice Az7 ((rd_T32 lz2 xz3).f2).length cz13] 32 (0, 0)) bk_ hg (Kd.R_ne HOz1.out BKz2.out (by decide)))
  have nz3 := Aside0.mk (Kd.R_after (ok := (fun _ => True)) (by (with_reducible repeat (first | apply Kd.R_alloc | apply Kd.R_drewN | apply Kd.R_drew)); exact Kd.R_mono HOz2.out (fun _ hk => ⟨trivial, hk⟩)) hg hat)
  have nz4 := Aside0.mk (hb)
  have nz5 := Aside0.mk (ho)
  clear BKz1
  clear BKz2
  clear HOz2
  clear HB
  clear HOz1
  have BKz1 := nz1
  have BKz2 := nz2
  have HOz2 := nz3
  have HB := nz4
  have HOz3 := nz5
  clear nz1 nz2 nz3 nz4 nz5
  clear ho hb hg hat
  obtain ⟨Aoz2, coz2, eoz2⟩ := Kd.R_slice HOz3.out
  (first | subst eoz2 | (injection eoz2 with f1_ f2_ f3_; have fz1 := f1_.symm; have fz2 := f3_.symm; clear f1_ f2_ f3_; subst fz1; subst fz2))
  refine hK.out _ _ ⟨(blk_cell BKz2.out 0).trans rfl, (blk_cell BKz2.out 1).trans rfl, (blk_cell BKz2.out 2).trans rfl⟩ (fun hHeld => ?_)
  clear hK K
  refine norm_ (a' := ?_) ?_ ?_
  rotate_left
  · show Act.put _ (some 93) _ = _
    simp only [Act.put, List.setIfInBounds_toArray, List.set_cons_zero, List.set_cons_succ, i64_w, i32_w]
    rfl
  refine one_ (i := 18) (N := some 94) impl_branchOk_bools21_ rfl rfl (one_of HT_.out (by kernel_rfl)) (by decide) (fun K hK => ?_)
  refine goes_ Tryd.func30 (by kernel_rfl) rfl #[.agg #[.slice Az5 ((rd_T32 lz2 xz3).f0).length cz11, .slice Az6 ((rd_T32 lz2 xz3).f1).length cz12, .slice Az7 ((rd_T32 lz2 xz3).f2).length cz13], .slice Aoz2 yz4.length coz2] (by rfl) rfl rfl ar_ ?_
  with_reducible refine (ih kjz3 (by have := HJz1.out; have := HJz2.out; have := HKz1.out; have := HJz3.out; omega) _ _ ((rd_T32 lz2 xz3).f0) _ _ ((rd_T32 lz2 xz3).f1) _ _ ((rd_T32 lz2 xz3).f2) _ _ yz4 true _ ?side1 ?side2 ?side3 ?side4 ?side5 ?side6 ?side7 ?side8 ?side9 Az9.out).mono ?_
  (case side1 => exact Kd.C_below HRz5.out be_)
  (case side2 => exact HCz8.out)
  (case side3 => exact Kd.C_below HRz6.out be_)
  (case side4 => exact HCz9.out)
  (case side5 => exact Kd.C_below HRz7.out be_)
  (case side6 => exact HCz10.out)
  (case side7 => repeat (first | exact (Kd.R_reads' HOz3.out).2.2 | (with_reducible refine Kd.C_alloc ?_ _) | (with_reducible refine Kd.C_drewN ?_ _) | (with_reducible refine Kd.C_drew ?_)))
  (case side8 => exact (Kd.R_reads' HOz3.out).2.1)
  (case side9 => exact Tabs.below HT.out be_)
  rintro e wz6 ⟨rfl, hb⟩
  refine ⟨_, rfl, ?_⟩
  have nz1 := Aside0.mk (Kd.R_below (by (with_reducible repeat (first | apply Kd.R_alloc | apply Kd.R_drewN | apply Kd.R_drew)); exact HOz2.out) hb)
  have nz2 := Aside0.mk (Kd.R_below (by (with_reducible repeat (first | apply Kd.R_alloc | apply Kd.R_drewN | apply Kd.R_drew)); exact HOz3.out) hb)
  have nz3 := Aside0.mk (blk_below (g := gbz1) (o := .cells #[.slice (some adz1) lz1.length cz1, .slice (some adz2) lz2.length cz2, .slice Az3 lz3.length cz3] 32 (0, 0)) bk_ hb)
  have nz4 := Aside0.mk (blk_below (g := gbz2) (o := .cells #[.slice Az5 ((rd_T32 lz2 xz3).f0).length cz11, .slice Az6 ((rd_T32 lz2 xz3).f1).length cz12, .slice Az7 ((rd_T32 lz2 xz3).f2).length cz13] 32 (0, 0)) bk_ hb)
  have nz5 := Aside0.mk (below_step be_ hb)
  clear HOz2
  clear HOz3
  clear BKz1
  clear BKz2
  clear HB
  have HOz2 := nz1
  have HOz3 := nz2
  have BKz1 := nz3
  have BKz2 := nz4
  have HB := nz5
  clear nz1 nz2 nz3 nz4 nz5
  (try clear hb)
  (try clear hb2)
  (try clear hk)
  (try clear hi)
  refine hK.out _ _ ⟨(blk_cell BKz2.out 0).trans rfl, (blk_cell BKz2.out 1).trans rfl, (blk_cell BKz2.out 2).trans rfl⟩ (fun hHeld => ?_)
  clear hK K
  refine norm_ (a' := ?_) ?_ ?_
  rotate_left
  · show Act.put _ (some 94) _ = _
    simp only [Act.put, List.setIfInBounds_toArray, List.set_cons_zero, List.set_cons_succ, i64_w, i32_w]
    rfl
  refine pu_ HT_ 19 95 impl_branchOk_bools22_ ?_
  refine pu_ HT_ 20 96 impl_branchOk_bools23_ ?_
  refine done_ (done_of HT_.out (by kernel_rfl)) ?_
  try go_wp2
  go_roundg kjz3
  case measure => have := HJz1.out; have := HJz2.out; have := HKz1.out; have := HJz3.out; omega
  case rel => exact ⟨(wrap64 (xz3 + 1)), (by first | rfl | (simp; done) | (simp [*]; done)), H', ⟨by have := HJz1.out; have := HJz2.out; have := HKz1.out; have := HJz3.out; omega⟩, ⟨bk_⟩, ⟨be_⟩⟩) : p := h
theorem impl_branchOk_z26 {p : Prop} (h : p := by
  refine ta_ HT_ HW_ hHeld 11 87 impl_branchOk_bools14_ ?_
  exact impl_branchOk_z27) : p := h
theorem impl_branchOk_z25 {p : Prop} (h : p := by
  refine pu_ HT_ 15 91 impl_branchOk_bools13_ ?_
  exact impl_branchOk_z26) : p := h
theorem impl_branchOk_z24 {p : Prop} (h : p := by
  refine pu_ HT_ 13 89 impl_branchOk_bools12_ ?_
  exact impl_branchOk_z25) : p := h
theorem impl_branchOk_z23 {p : Prop} (h : p := by
  refine pu_ HT_ 10 86 impl_branchOk_bools11_ ?_
  exact impl_branchOk_z24) : p := h
theorem impl_branchOk_z22 {p : Prop} (h : p := by
  refine pu_ HT_ 9 85 impl_branchOk_bools10_ ?_
  exact impl_branchOk_z23) : p := h
set_option maxHeartbeats 8000000 in
set_option maxRecDepth 100000 in
theorem impl_branchOk.calls (k : Nat) : ∀ (A0_0 : Option Addr) (c0_0 : Nat) (l0_0 : List ByteArray) (A0_1 : Option Addr) (c0_1 : Nat) (l0_1 : List (S32)) (A0_2 : Option Addr) (c0_2 : Nat) (l0_2 : List (S81)) (A1 : Option Addr) (c1 : Nat) (l1 : List ByteArray) (r : Bool) (w : World) (hr0_0 : Kd.C Kd.string w A0_0 l0_0.length l0_0) (hc0_0 : l0_0.length ≤ c0_0) (hr0_1 : Kd.C k32 w A0_1 l0_1.length l0_1) (hc0_1 : l0_1.length ≤ c0_1) (hr0_2 : Kd.C k81 w A0_2 l0_2.length l0_2) (hc0_2 : l0_2.length ≤ c0_2) (hr1 : Kd.C Kd.string w A1 l1.length l1) (hc1 : l1.length ≤ c1) (hT : Tabs w) (h : impl_branchOk.f k l0_0 l0_1 l0_2 l1 = some r),
    Calls Tryd.prog 30 #[.agg #[.slice A0_0 l0_0.length c0_0, .slice A0_1 l0_1.length c0_1, .slice A0_2 l0_2.length c0_2], .slice A1 l1.length c1] w fun e w' => e = .returned (.bool r) ∧ Below w.heap.size w w' := by
  induction k using Nat.strongRecOn with
  | _ k ih =>
  intro Az1 cz1 lz1 Az2 cz2 lz2 Az3 cz3 lz3 Az4 cz4 lz4 r w hrz1 hcz1 hrz2 hcz2 hrz3 hcz3 hrz4 hcz4 hT h
  cases k with
  | zero => exact absurd h (by simp [impl_branchOk.f])
  | succ k =>
  simp only [impl_branchOk.f] at h
  have huz1 := Tryd.underlying32
  have HT := Aside0.mk hT
  clear hT
  have HRz1 := Aside0.mk hrz1
  have HCz1 := Aside0.mk hcz1
  clear hrz1 hcz1
  have HRz2 := Aside0.mk hrz2
  have HCz2 := Aside0.mk hcz2
  clear hrz2 hcz2
  have HRz3 := Aside0.mk hrz3
  have HCz3 := Aside0.mk hcz3
  clear hrz3 hcz3
  have HRz4 := Aside0.mk hrz4
  have HCz4 := Aside0.mk hcz4
  clear hrz4 hcz4
  have HB := Aside0.mk (Below.refl w.heap.size w)
  have H : (if (lz1.length : Int) = (lz2.length : Int) then (if (lz4.length : Int) > 6 then (impl_branchOk.j0 k lz4 true lz1 lz2 lz3) else ((impl_subsOk.f k lz3).bind fun t206 => (impl_branchOk.j0 k lz4 (!t206) lz1 lz2 lz3))) else (impl_branchOk.j0 k lz4 true lz1 lz2 lz3)) = some r := h
  clear h
  have HCz5 := Aside0.mk H
  clear H
  go_enter Tryd.func30, Tryd.ntmps30
  go_upto_region 1 with (first | ((with_reducible refine gate_dst (N := 2) rfl ?_); (try (refine gate_guard (by rfl) ?_; dsimp only)); refine box_event ?hg (N := 2) ?hd (cs := #[.slice Az1 lz1.length cz1, .slice Az2 lz2.length cz2, .slice Az3 lz3.length cz3]) (t := 32) ?hr ?_; (case hd => rfl); (case hg => rfl); (case hr => first | (go_simp; done) | (go_simp; rfl)); intro gbz1 hg wz1 hbox hb; have nz1 := Aside0.mk (below_step be_ hb); have nz2 := Aside0.mk (hbox); have nz3 := Aside0.mk ((sz_ : w.heap.size ≤ gbz1)); have nz4 := Aside0.mk ((sz_ : w.heap.size ≤ gbz1)); clear HB; have HB := nz1; have BKz1 := nz2; have GWz1 := nz3; have GEz1 := nz4; clear nz1 nz2 nz3 nz4; clear hb hbox hg))
  (try simp only [Act.put, List.setIfInBounds_toArray, List.set_cons_zero, List.set_cons_succ])
  go_cut [25] (fun v25 wc => ∃ (kq : Nat) (x25_2 : Bool), v25 = .bool x25_2 ∧ Aside0 (impl_branchOk.j0 kq lz4 x25_2 lz1 lz2 lz3 = some r) ∧ Aside0 (kq ≤ k) ∧ Aside0 (wc.heap[gbz1]? = some (.cells #[(.slice Az1 lz1.length cz1), (.slice Az2 lz2.length cz2), (.slice Az3 lz3.length cz3)] 32 (0, 0))) ∧ Aside0 (Below w.heap.size w wc))
  case first =>
    have H := HCz5.out
    clear HCz5
    by_cases cz5 : (lz1.length : Int) = (lz2.length : Int)
    rotate_left
    · rw [if_neg cz5] at H
      have c5b0 : ((lz1.length : Int) == (lz2.length : Int)) = false := beq_eq_false_iff_ne.mpr cz5
      have c5b1 : ((lz1.length : Int) != (lz2.length : Int)) = true := bne_iff_ne.mpr cz5
      have c5b2 : (lz1.length == lz2.length) = false := by first | simpa using cz5 | (simp at cz5 ⊢; omega)
      (first | rw [c5b0] | (simp only [i64_w, i32_w]; rw [c5b0]) | skip)
      exact impl_branchOk_z0
    rw [if_pos cz5] at H
    have c5b0 : ((lz1.length : Int) == (lz2.length : Int)) = true := beq_iff_eq.mpr cz5
    have c5b1 : ((lz1.length : Int) != (lz2.length : Int)) = false := bne_eq_false_iff_eq.mpr cz5
    have c5b2 : (lz1.length == lz2.length) = true := by first | simpa using cz5 | (simp at cz5 ⊢; omega)
    clear cz5
    (first | rw [c5b0] | (simp only [i64_w, i32_w]; rw [c5b0]) | skip)
    by_cases cz6 : (lz4.length : Int) > 6
    · rw [if_pos cz6] at H
      have c6b0 : decide (6 < (lz4.length : Int)) = true := decide_eq_true cz6
      have c6b1 : decide (6 < lz4.length) = true := decide_eq_true (by omega)
      clear cz6
      exact impl_branchOk_z0
    rw [if_neg cz6] at H
    have c6b0 : decide (6 < (lz4.length : Int)) = false := decide_eq_false cz6
    have c6b1 : decide (6 < lz4.length) = false := decide_eq_false (by omega)
    clear cz6
    replace H := Option.bind_eq_some_iff.mp H
    obtain ⟨tz1, Az5, H⟩ := H
    replace H : (impl_branchOk.j0 k lz4 (!tz1) lz1 lz2 lz3) = some r := H
    have Az6 := Aside0.mk Az5
    clear Az5
    have H' := Aside0.mk H
    clear H
    have hczz1 : wz1.cell? ⟨gbz1, 0, none⟩ = some (.slice Az1 lz1.length cz1) := (blk_cell BKz1.out 0).trans rfl
    have hczz2 : wz1.cell? ⟨gbz1, 1, none⟩ = some (.slice Az2 lz2.length cz2) := (blk_cell BKz1.out 1).trans rfl
    have hczz3 : wz1.cell? ⟨gbz1, 2, none⟩ = some (.slice Az3 lz3.length cz3) := (blk_cell BKz1.out 2).trans rfl
    have hfzz1 := blk_frozen BKz1.out 0
    have hfzz2 := blk_frozen BKz1.out 1
    have hfzz3 := blk_frozen BKz1.out 2
    go_wp2_with (first | (go_at_call 53; (with_reducible refine (impl_subsOk.calls k _ _ lz3 tz1 _ ?side1 ?side2 ?side3 Az6.out).mono ?_); (case side1 => exact Kd.C_below HRz3.out be_); (case side2 => exact HCz3.out); (case side3 => exact Tabs.below HT.out be_); rintro e wz2 ⟨rfl, hb⟩; have nz1 := Aside0.mk (blk_below (g := gbz1) (o := .cells #[.slice Az1 lz1.length cz1, .slice Az2 lz2.length cz2, .slice Az3 lz3.length cz3] 32 (0, 0)) bk_ hb); have nz2 := Aside0.mk (below_step be_ hb); clear BKz1; clear HB; have BKz1 := nz1; have HB := nz2; clear nz1 nz2; (try clear hb); (try clear hb2); (try clear hk); (try clear hi)))
    go_meet
    case rel => exact ⟨_, (!tz1), (by first | rfl | (simp; done) | (simp [*]; done)), H', ⟨by first | omega | exact Nat.le_refl _⟩, ⟨bk_⟩, ⟨be_⟩⟩
  case rest =>
    clear HCz5
    try clear cz4
    try clear p2
    try clear c3
    try clear c5
    try clear c5b0
    try clear c5b1
    try clear c5b2
    try clear c6
    try clear c6b0
    try clear c6b1
    try clear hcz11_0
    try clear hcz11_1
    try clear hcz11_2
    try clear hcz7_0
    try clear hcz7_1
    try clear hcz7_2
    try clear hcz9_0
    try clear hcz9_1
    try clear hcz9_2
    try clear hfz11_0
    try clear hfz11_1
    try clear hfz11_2
    try clear hfz7_0
    try clear hfz7_1
    try clear hfz7_2
    try clear hfz9_0
    try clear hfz9_1
    try clear hfz9_2
    obtain ⟨kq, xz1, rfl, HA, HJz1, BKz1, HB⟩ := hcut
    cases kq with
    | zero => exact absurd HA.out (by simp [impl_branchOk.j0])
    | succ kjz1 =>
      have H := HA.out
      clear HA
      simp only [impl_branchOk.j0] at H
      by_cases cz5 : xz1 = true
      · subst cz5
        have Hz1 : (some false) = some r := by rw [if_pos rfl] at H; exact H
        clear H
        have H := Hz1
        clear Hz1
        obtain rfl := Option.some.inj H
        go_wp2
        go_ret
        exact ⟨by first | rfl | (simp [errW_none, errW_some] <;> rfl) | (simp [*, errW_none, errW_some] <;> rfl), be_⟩
      replace cz5 := Bool.eq_false_iff.mpr cz5
      subst cz5
      have Hz1 : (if (lz3.length : Int) > 0 then ((impl_Join.f lz4).bind fun t207 => ((impl_FilterOk.f kjz1 t207).bind fun t208 => (impl_branchOk.j1 kjz1 lz4 (!t208) lz1 lz2 lz3))) else (impl_branchOk.j1 kjz1 lz4 false lz1 lz2 lz3)) = some r := by rw [if_neg (show ¬ (false = true) by decide)] at H; exact H
      clear H
      have H := Hz1
      clear Hz1
      have HCz6 := Aside0.mk H
      clear H
      go_upto_region 3 with (fail)
      go_cut [35] (fun v35 wc => ∃ (kq : Nat) (x35_12 : Bool), v35 = .bool x35_12 ∧ Aside0 (impl_branchOk.j1 kq lz4 x35_12 lz1 lz2 lz3 = some r) ∧ Aside0 (kq ≤ kjz1) ∧ Aside0 (wc.heap[gbz1]? = some (.cells #[(.slice Az1 lz1.length cz1), (.slice Az2 lz2.length cz2), (.slice Az3 lz3.length cz3)] 32 (0, 0))) ∧ Aside0 (Below w.heap.size w wc))
      case first =>
        have H := HCz6.out
        clear HCz6
        by_cases cz6 : (lz3.length : Int) > 0
        rotate_left
        · rw [if_neg cz6] at H
          have c14b0 : decide (0 < (lz3.length : Int)) = false := decide_eq_false cz6
          have c14b1 : decide (0 < lz3.length) = false := decide_eq_false (by omega)
          clear cz6
          (first | rw [c14b0] | (simp only [i64_w, i32_w]; rw [c14b0]) | skip)
          have H' := Aside0.mk H
          clear H
          have hczz1 : wc.cell? ⟨gbz1, 0, none⟩ = some (.slice Az1 lz1.length cz1) := (blk_cell BKz1.out 0).trans rfl
          have hczz2 : wc.cell? ⟨gbz1, 1, none⟩ = some (.slice Az2 lz2.length cz2) := (blk_cell BKz1.out 1).trans rfl
          have hczz3 : wc.cell? ⟨gbz1, 2, none⟩ = some (.slice Az3 lz3.length cz3) := (blk_cell BKz1.out 2).trans rfl
          have hfzz1 := blk_frozen BKz1.out 0
          have hfzz2 := blk_frozen BKz1.out 1
          have hfzz3 := blk_frozen BKz1.out 2
          go_wp2
          go_meet
          case rel => exact ⟨_, (false), (by first | rfl | (simp; done) | (simp [*]; done)), H', ⟨by have := HJz1.out; first | omega | exact Nat.le_refl _⟩, ⟨bk_⟩, ⟨be_⟩⟩
        rw [if_pos cz6] at H
        have c14b0 : decide (0 < (lz3.length : Int)) = true := decide_eq_true cz6
        have c14b1 : decide (0 < lz3.length) = true := decide_eq_true (by omega)
        clear cz6
        (first | rw [c14b0] | (simp only [i64_w, i32_w]; rw [c14b0]) | skip)
        replace H := Option.bind_eq_some_iff.mp H
        obtain ⟨tz1, Az5, H⟩ := H
        replace H : ((impl_FilterOk.f kjz1 tz1).bind fun t208 => (impl_branchOk.j1 kjz1 lz4 (!t208) lz1 lz2 lz3)) = some r := H
        have Az6 := Aside0.mk Az5
        clear Az5
        replace H := Option.bind_eq_some_iff.mp H
        obtain ⟨tz2, Az7, H⟩ := H
        replace H : (impl_branchOk.j1 kjz1 lz4 (!tz2) lz1 lz2 lz3) = some r := H
        have Az8 := Aside0.mk Az7
        clear Az7
        have H' := Aside0.mk H
        clear H
        have hczz1 : wc.cell? ⟨gbz1, 0, none⟩ = some (.slice Az1 lz1.length cz1) := (blk_cell BKz1.out 0).trans rfl
        have hczz2 : wc.cell? ⟨gbz1, 1, none⟩ = some (.slice Az2 lz2.length cz2) := (blk_cell BKz1.out 1).trans rfl
        have hczz3 : wc.cell? ⟨gbz1, 2, none⟩ = some (.slice Az3 lz3.length cz3) := (blk_cell BKz1.out 2).trans rfl
        have hfzz1 := blk_frozen BKz1.out 0
        have hfzz2 := blk_frozen BKz1.out 1
        have hfzz3 := blk_frozen BKz1.out 2
        go_wp2_with (first | (go_at_call 55; (with_reducible refine (impl_Join.calls _ _ lz4 tz1 _ ?side1 ?side2 Az6.out).mono ?_); (case side1 => exact Kd.C_below HRz4.out be_); (case side2 => exact HCz4.out); rintro e wz2 ⟨rfl, hb⟩; have nz1 := Aside0.mk (blk_below (g := gbz1) (o := .cells #[.slice Az1 lz1.length cz1, .slice Az2 lz2.length cz2, .slice Az3 lz3.length cz3] 32 (0, 0)) bk_ hb); have nz2 := Aside0.mk (below_step be_ hb); clear BKz1; clear HB; have BKz1 := nz1; have HB := nz2; clear nz1 nz2; (try clear hb); (try clear hb2); (try clear hk); (try clear hi)) | (go_at_call 54; (with_reducible refine (impl_FilterOk.calls kjz1 tz1 tz2 _ ?side1 Az8.out).mono ?_); (case side1 => exact Tabs.below HT.out be_); rintro e wz3 ⟨rfl, hb⟩; have nz1 := Aside0.mk (blk_below (g := gbz1) (o := .cells #[.slice Az1 lz1.length cz1, .slice Az2 lz2.length cz2, .slice Az3 lz3.length cz3] 32 (0, 0)) bk_ hb); have nz2 := Aside0.mk (below_step be_ hb); clear BKz1; clear HB; have BKz1 := nz1; have HB := nz2; clear nz1 nz2; (try clear hb); (try clear hb2); (try clear hk); (try clear hi)))
        go_meet
        case rel => exact ⟨_, (!tz2), (by first | rfl | (simp; done) | (simp [*]; done)), H', ⟨by have := HJz1.out; first | omega | exact Nat.le_refl _⟩, ⟨bk_⟩, ⟨be_⟩⟩
      case rest =>
        clear HCz6
        try clear cz4
        try clear p2
        try clear c3
        try clear c5
        try clear c5b0
        try clear c5b1
        try clear c5b2
        try clear c6
        try clear c6b0
        try clear c6b1
        try clear cz5
        try clear c14
        try clear c14b0
        try clear c14b1
        try clear hcz11_0
        try clear hcz11_1
        try clear hcz11_2
        try clear hcz17_0
        try clear hcz17_1
        try clear hcz17_2
        try clear hcz20_0
        try clear hcz20_1
        try clear hcz20_2
        try clear hcz7_0
        try clear hcz7_1
        try clear hcz7_2
        try clear hcz9_0
        try clear hcz9_1
        try clear hcz9_2
        try clear hfz11_0
        try clear hfz11_1
        try clear hfz11_2
        try clear hfz17_0
        try clear hfz17_1
        try clear hfz17_2
        try clear hfz20_0
        try clear hfz20_1
        try clear hfz20_2
        try clear hfz7_0
        try clear hfz7_1
        try clear hfz7_2
        try clear hfz9_0
        try clear hfz9_1
        try clear hfz9_2
        try clear p2
        obtain ⟨kq, xz2, rfl, HA, HJz2, BKz1, HB⟩ := hcut
        cases kq with
        | zero => exact absurd HA.out (by simp [impl_branchOk.j1])
        | succ kjz2 =>
          have H := HA.out
          clear HA
          simp only [impl_branchOk.j1] at H
          by_cases cz6 : xz2 = true
          · subst cz6
            have Hz1 : (some false) = some r := by rw [if_pos rfl] at H; exact H
            clear H
            have H := Hz1
            clear Hz1
            obtain rfl := Option.some.inj H
            go_wp2
            go_ret
            exact ⟨by first | rfl | (simp [errW_none, errW_some] <;> rfl) | (simp [*, errW_none, errW_some] <;> rfl), be_⟩
          replace cz6 := Bool.eq_false_iff.mpr cz6
          subst cz6
          have Hz1 : (impl_branchOk.l0 kjz2 lz4 lz1 (lz1.length : Int) 0 lz1 lz2 lz3) = some r := by rw [if_neg (show ¬ (false = true) by decide)] at H; exact H
          clear H
          have H := Hz1
          clear Hz1
          have H' := Aside0.mk H
          clear H
          have hczz1 : wc.cell? ⟨gbz1, 0, none⟩ = some (.slice Az1 lz1.length cz1) := (blk_cell BKz1.out 0).trans rfl
          have hczz2 : wc.cell? ⟨gbz1, 1, none⟩ = some (.slice Az2 lz2.length cz2) := (blk_cell BKz1.out 1).trans rfl
          have hczz3 : wc.cell? ⟨gbz1, 2, none⟩ = some (.slice Az3 lz3.length cz3) := (blk_cell BKz1.out 2).trans rfl
          have hfzz1 := blk_frozen BKz1.out 0
          have hfzz2 := blk_frozen BKz1.out 1
          have hfzz3 := blk_frozen BKz1.out 2
          go_wp2
          go_loopg [39] kjz2 (fun kq v39 w' => ∃ (x39_3 : Int), v39 = .int .i64 x39_3 ∧ Aside0 (impl_branchOk.l0 kq lz4 lz1 (lz1.length : Int) x39_3 lz1 lz2 lz3 = some r) ∧ Aside0 (kq ≤ kjz2) ∧ Aside0 (w'.heap[gbz1]? = some (.cells #[(.slice Az1 lz1.length cz1), (.slice Az2 lz2.length cz2), (.slice Az3 lz3.length cz3)] 32 (0, 0))) ∧ Aside0 (Below w.heap.size w w'))
          case atStart => exact ⟨(0), (by first | rfl | (simp; done) | (simp [*]; done)), H', ⟨Nat.le_refl _⟩, ⟨bk_⟩, ⟨be_⟩⟩
          case round =>
            clear H'
            try clear cz4
            try clear c2
            try clear p2
            try clear c3
            try clear c5
            try clear c5b0
            try clear c5b1
            try clear c5b2
            try clear c6
            try clear c6b0
            try clear c6b1
            try clear cz5
            try clear c14
            try clear c14b0
            try clear c14b1
            try clear cz6
            try clear hcz11_0
            try clear hcz11_1
            try clear hcz11_2
            try clear hcz17_0
            try clear hcz17_1
            try clear hcz17_2
            try clear hcz20_0
            try clear hcz20_1
            try clear hcz20_2
            try clear hczz1
            try clear hczz2
            try clear hczz3
            try clear hcz7_0
            try clear hcz7_1
            try clear hcz7_2
            try clear hcz9_0
            try clear hcz9_1
            try clear hcz9_2
            try clear hfz11_0
            try clear hfz11_1
            try clear hfz11_2
            try clear hfz17_0
            try clear hfz17_1
            try clear hfz17_2
            try clear hfz20_0
            try clear hfz20_1
            try clear hfz20_2
            try clear hfzz1
            try clear hfzz2
            try clear hfzz3
            try clear hfz7_0
            try clear hfz7_1
            try clear hfz7_2
            try clear hfz9_0
            try clear hfz9_1
            try clear hfz9_2
            try clear p2
            obtain ⟨xz3, rfl, HA, HKz1, BKz1, HB⟩ := hrel
            cases gk with
            | zero => exact absurd HA.out (by simp [impl_branchOk.l0])
            | succ kz1 =>
              have H := HA.out
              clear HA
              simp only [impl_branchOk.l0] at H
              by_cases cz7 : xz3 < (lz1.length : Int)
              rotate_left
              · rw [if_neg cz7] at H
                have c23b0 : decide (xz3 < (lz1.length : Int)) = false := decide_eq_false cz7
                clear cz7
                obtain rfl := Option.some.inj H
                go_wp2
                go_ret
                exact ⟨by first | rfl | (simp [errW_none, errW_some] <;> rfl) | (simp [*, errW_none, errW_some] <;> rfl), be_⟩
              rw [if_pos cz7] at H
              have c23b0 : decide (xz3 < (lz1.length : Int)) = true := decide_eq_true cz7
              clear cz7
              by_cases cz8 : 0 ≤ xz3
              rotate_left
              · rw [if_neg cz8] at H
                exact absurd H (by simp)
              rw [if_pos cz8] at H
              have c24b0 : decide (0 ≤ xz3) = true := decide_eq_true cz8
              clear cz8
              by_cases cz9 : xz3 < (lz1.length : Int)
              rotate_left
              · rw [if_neg cz9] at H
                exact absurd H (by simp)
              rw [if_pos cz9] at H
              have c25b0 : decide (xz3 < (lz1.length : Int)) = true := decide_eq_true cz9
              clear cz9
              by_cases cz10 : xz3 < (lz2.length : Int)
              rotate_left
              · rw [if_neg cz10] at H
                exact absurd H (by simp)
              rw [if_pos cz10] at H
              have c26b0 : decide (xz3 < (lz2.length : Int)) = true := decide_eq_true cz10
              clear cz10
              have HCz7 := Aside0.mk H
              clear H
              have pz1 : 0 ≤ (xz3 : Int) := of_decide_eq_true as_
              have qz1 : xz3 < (lz1.length : Int) := of_decide_eq_true as_
              obtain ⟨adz1, ez1, hxz1⟩ := Kd.at_string HRz1.out xz3 pz1 qz1
              cases ez1
              replace hxz1 := (HB.out.cell (World.block_lt_of_cell? w _ hxz1)).trans hxz1
              replace pz1 := eq_true pz1
              replace qz1 := eq_true qz1
              have hczz4 : wr.cell? ⟨gbz1, 0, none⟩ = some (.slice (some adz1) lz1.length cz1) := (blk_cell BKz1.out 0).trans rfl
              have hczz5 : wr.cell? ⟨gbz1, 1, none⟩ = some (.slice Az2 lz2.length cz2) := (blk_cell BKz1.out 1).trans rfl
              have hczz6 : wr.cell? ⟨gbz1, 2, none⟩ = some (.slice Az3 lz3.length cz3) := (blk_cell BKz1.out 2).trans rfl
              have hfzz4 := blk_frozen BKz1.out 0
              have hfzz5 := blk_frozen BKz1.out 1
              have hfzz6 := blk_frozen BKz1.out 2
              have pz2 : 0 ≤ (xz3 : Int) := of_decide_eq_true as_
              have qz2 : xz3 < (lz2.length : Int) := of_decide_eq_true as_
              obtain ⟨adz2, Az5, cz11, Az6, cz12, Az7, cz13, ez2, hxz2, hxz3, hxz4, hlz1, hiz1, hlz2, hiz2, hlz3, hiz3⟩ := at_T32 HRz2.out xz3 pz2 qz2
              cases ez2
              replace hxz2 := (HB.out.cell (World.block_lt_of_cell? w _ hxz2)).trans hxz2
              replace hxz3 := (HB.out.cell (World.block_lt_of_cell? w _ hxz3)).trans hxz3
              replace hxz4 := (HB.out.cell (World.block_lt_of_cell? w _ hxz4)).trans hxz4
              have HRz5 := Aside0.mk hiz1
              have HCz8 := Aside0.mk hlz1
              clear hiz1 hlz1
              have HRz6 := Aside0.mk hiz2
              have HCz9 := Aside0.mk hlz2
              clear hiz2 hlz2
              have HRz7 := Aside0.mk hiz3
              have HCz10 := Aside0.mk hlz3
              clear hiz3 hlz3
              replace pz2 := eq_true pz2
              replace qz2 := eq_true qz2
              go_upto_region 9 with (first | ((with_reducible refine gate_dst (N := 7) rfl ?_); (try (refine gate_guard (by rfl) ?_; dsimp only)); refine box_event ?hg (N := 7) ?hd (cs := #[.slice none 0 0, .slice none 0 0, .slice none 0 0]) (t := 32) ?hr ?_; (case hd => rfl); (case hg => rfl); (case hr => first | (go_simp; done) | (go_simp; rfl)); intro gbz2 hg wz2 hbox hb; have nz1 := Aside0.mk (blk_below (g := gbz1) (o := .cells #[.slice (some adz1) lz1.length cz1, .slice (some adz2) lz2.length cz2, .slice Az3 lz3.length cz3] 32 (0, 0)) bk_ hb); have nz2 := Aside0.mk (below_step be_ hb); have nz3 := Aside0.mk (hbox); have nz4 := Aside0.mk ((sz_ : w.heap.size ≤ gbz2)); have nz5 := Aside0.mk ((sz_ : w.heap.size ≤ gbz2)); have nz6 := Aside0.mk ((by rw [hg]; exact Nat.ne_of_lt (blk_lt (g := gbz1) (o := .cells #[.slice (some adz1) lz1.length cz1, .slice (some adz2) lz2.length cz2, .slice Az3 lz3.length cz3] 32 (0, 0)) bk_) : gbz1 ≠ gbz2)); have nz7 := Aside0.mk ((by rw [hg]; exact Nat.ne_of_gt (blk_lt (g := gbz1) (o := .cells #[.slice (some adz1) lz1.length cz1, .slice (some adz2) lz2.length cz2, .slice Az3 lz3.length cz3] 32 (0, 0)) bk_) : gbz2 ≠ gbz1)); clear BKz1; clear HB; have BKz1 := nz1; have HB := nz2; have BKz2 := nz3; have GWz2 := nz4; have GEz2 := nz5; have NBz1 := nz6; have NBz2 := nz7; clear nz1 nz2 nz3 nz4 nz5 nz6 nz7; clear hb hbox hg; have hnbz1 := NBz2.out; have hncz1 := NBz1.out; have hczz7 : wz2.cell? ⟨gbz2, 0, none⟩ = some (.slice none 0 0) := (blk_cell BKz2.out 0).trans rfl; have hczz8 : wz2.cell? ⟨gbz2, 1, none⟩ = some (.slice none 0 0) := (blk_cell BKz2.out 1).trans rfl; have hczz9 : wz2.cell? ⟨gbz2, 2, none⟩ = some (.slice none 0 0) := (blk_cell BKz2.out 2).trans rfl; have hfzz7 := blk_frozen BKz2.out 0; have hfzz8 := blk_frozen BKz2.out 1; have hfzz9 := blk_frozen BKz2.out 2))
              (try simp only [Act.put, List.setIfInBounds_toArray, List.set_cons_zero, List.set_cons_succ])
              go_cut [75] (fun v75 wc => ∃ (kq : Nat) (x75_26 : Bool), v75 = .bool x75_26 ∧ Aside0 (impl_branchOk.j3 kq lz4 (rdOf ByteArray.empty lz1 xz3) lz1 (lz1.length : Int) xz3 x75_26 lz1 lz2 lz3 ((rd_T32 lz2 xz3).f0) ((rd_T32 lz2 xz3).f1) ((rd_T32 lz2 xz3).f2) = some r) ∧ Aside0 (kq ≤ kz1) ∧ Aside0 (wc.heap[gbz1]? = some (.cells #[(.slice (some adz1) lz1.length cz1), (.slice (some adz2) lz2.length cz2), (.slice Az3 lz3.length cz3)] 32 (0, 0))) ∧ Aside0 (wc.heap[gbz2]? = some (.cells #[(.slice Az5 ((rd_T32 lz2 xz3).f0).length cz11), (.slice Az6 ((rd_T32 lz2 xz3).f1).length cz12), (.slice Az7 ((rd_T32 lz2 xz3).f2).length cz13)] 32 (0, 0))) ∧ Aside0 (Below w.heap.size w wc))
              case first =>
                have H := HCz7.out
                clear HCz7
                by_cases cz14 : xz3 > 0
                rotate_left
                · rw [if_neg cz14] at H
                  have c32b0 : decide (0 < xz3) = false := decide_eq_false cz14
                  clear cz14
                  (first | rw [c32b0] | (simp only [i64_w, i32_w]; rw [c32b0]) | skip)
                  replace H := Option.bind_eq_some_iff.mp H
                  obtain ⟨tz1, Az8, H⟩ := H
                  replace H : (if (tz1.length : Int) > 1 then (impl_branchOk.j3 kz1 lz4 (rdOf ByteArray.empty lz1 xz3) lz1 (lz1.length : Int) xz3 true lz1 lz2 lz3 ((rd_T32 lz2 xz3).f0) ((rd_T32 lz2 xz3).f1) ((rd_T32 lz2 xz3).f2)) else ((impl_levelOk.f (rdOf ByteArray.empty lz1 xz3) ((((rd_T32 lz2 xz3).f1).length : Int) == 0)).bind fun t220 => (impl_branchOk.j3 kz1 lz4 (rdOf ByteArray.empty lz1 xz3) lz1 (lz1.length : Int) xz3 (!t220) lz1 lz2 lz3 ((rd_T32 lz2 xz3).f0) ((rd_T32 lz2 xz3).f1) ((rd_T32 lz2 xz3).f2)))) = some r := H
                  have Az9 := Aside0.mk Az8
                  clear Az8
                  by_cases cz15 : (tz1.length : Int) > 1
                  · rw [if_pos cz15] at H
                    have c53b0 : decide (1 < (tz1.length : Int)) = true := decide_eq_true cz15
                    have c53b1 : decide (1 < tz1.length) = true := decide_eq_true (by omega)
                    clear cz15
                    have H' := Aside0.mk H
                    clear H
                    exact impl_branchOk_z5
                  rw [if_neg cz15] at H
                  have c53b0 : decide (1 < (tz1.length : Int)) = false := decide_eq_false cz15
                  have c53b1 : decide (1 < tz1.length) = false := decide_eq_false (by omega)
                  clear cz15
                  replace H := Option.bind_eq_some_iff.mp H
                  obtain ⟨tz2, Az10, H⟩ := H
                  replace H : (impl_branchOk.j3 kz1 lz4 (rdOf ByteArray.empty lz1 xz3) lz1 (lz1.length : Int) xz3 (!tz2) lz1 lz2 lz3 ((rd_T32 lz2 xz3).f0) ((rd_T32 lz2 xz3).f1) ((rd_T32 lz2 xz3).f2)) = some r := H
                  have Az11 := Aside0.mk Az10
                  clear Az10
                  have H' := Aside0.mk H
                  clear H
                  go_wp2_with (first | (go_at_call 56; (with_reducible refine (impl_Levels.calls (rdOf ByteArray.empty lz1 xz3) tz1 _ ?side1 Az9.out).mono ?_); (case side1 => exact Tabs.below HT.out be_); rintro e wz3 ⟨vz1, rfl, hoz1, hb⟩; have nz1 := Aside0.mk (Kd.R_lower hoz1 (below_size be_)); have nz2 := Aside0.mk (blk_below (g := gbz1) (o := .cells #[.slice (some adz1) lz1.length cz1, .slice (some adz2) lz2.length cz2, .slice Az3 lz3.length cz3] 32 (0, 0)) (by (with_reducible repeat (first | refine blk_drewN ?_ _ | refine blk_drew ?_ | refine blk_alloc ?_ _)); refine blk_far ?_ NBz1.out _; (with_reducible repeat (first | refine blk_drewN ?_ _ | refine blk_drew ?_ | refine blk_alloc ?_ _)); refine blk_far ?_ NBz1.out _; (with_reducible repeat (first | refine blk_drewN ?_ _ | refine blk_drew ?_ | refine blk_alloc ?_ _)); refine blk_far ?_ NBz1.out _; (with_reducible repeat (first | refine blk_drewN ?_ _ | refine blk_drew ?_ | refine blk_alloc ?_ _)); exact BKz1.out) hb); have nz3 := Aside0.mk (blk_below (g := gbz2) (o := .cells #[.slice Az5 ((rd_T32 lz2 xz3).f0).length cz11, .slice Az6 ((rd_T32 lz2 xz3).f1).length cz12, .slice Az7 ((rd_T32 lz2 xz3).f2).length cz13] 32 (0, 0)) (by (with_reducible repeat (first | refine blk_drewN ?_ _ | refine blk_drew ?_ | refine blk_alloc ?_ _)); refine blk_put (cs := #[.slice Az5 ((rd_T32 lz2 xz3).f0).length cz11, .slice Az6 ((rd_T32 lz2 xz3).f1).length cz12, .slice none 0 0]) ?_ 2 _ rfl; (with_reducible repeat (first | refine blk_drewN ?_ _ | refine blk_drew ?_ | refine blk_alloc ?_ _)); refine blk_put (cs := #[.slice Az5 ((rd_T32 lz2 xz3).f0).length cz11, .slice none 0 0, .slice none 0 0]) ?_ 1 _ rfl; (with_reducible repeat (first | refine blk_drewN ?_ _ | refine blk_drew ?_ | refine blk_alloc ?_ _)); refine blk_put (cs := #[.slice none 0 0, .slice none 0 0, .slice none 0 0]) ?_ 0 _ rfl; (with_reducible repeat (first | refine blk_drewN ?_ _ | refine blk_drew ?_ | refine blk_alloc ?_ _)); exact BKz2.out) hb); have nz4 := Aside0.mk (below_step be_ hb); clear BKz1; clear BKz2; clear HB; have HOz1 := nz1; have BKz1 := nz2; have BKz2 := nz3; have HB := nz4; clear nz1 nz2 nz3 nz4; (try clear hb); (try clear hb2); (try clear hk); (try clear hi); (try clear hoz1); obtain ⟨Aoz1, coz1, eoz1⟩ := Kd.R_slice HOz1.out; subst eoz1; have hnbz2 := NBz2.out; have hncz2 := NBz1.out; have hczz10 : wz3.cell? ⟨gbz2, 0, none⟩ = some (.slice Az5 ((rd_T32 lz2 xz3).f0).length cz11) := (blk_cell BKz2.out 0).trans rfl; have hczz11 : wz3.cell? ⟨gbz2, 1, none⟩ = some (.slice Az6 ((rd_T32 lz2 xz3).f1).length cz12) := (blk_cell BKz2.out 1).trans rfl; have hczz12 : wz3.cell? ⟨gbz2, 2, none⟩ = some (.slice Az7 ((rd_T32 lz2 xz3).f2).length cz13) := (blk_cell BKz2.out 2).trans rfl; have hfzz10 := blk_frozen BKz2.out 0; have hfzz11 := blk_frozen BKz2.out 1; have hfzz12 := blk_frozen BKz2.out 2) | (go_at_call 57; (with_reducible refine (impl_levelOk.calls (rdOf ByteArray.empty lz1 xz3) ((((rd_T32 lz2 xz3).f1).length : Int) == 0) tz2 _ Az11.out).mono ?_); rintro e wz4 ⟨rfl, hb⟩; have nz1 := Aside0.mk (Kd.R_below (by (with_reducible repeat (first | apply Kd.R_alloc | apply Kd.R_drewN | apply Kd.R_drew)); exact HOz1.out) hb); have nz2 := Aside0.mk (blk_below (g := gbz1) (o := .cells #[.slice (some adz1) lz1.length cz1, .slice (some adz2) lz2.length cz2, .slice Az3 lz3.length cz3] 32 (0, 0)) bk_ hb); have nz3 := Aside0.mk (blk_below (g := gbz2) (o := .cells #[.slice Az5 ((rd_T32 lz2 xz3).f0).length cz11, .slice Az6 ((rd_T32 lz2 xz3).f1).length cz12, .slice Az7 ((rd_T32 lz2 xz3).f2).length cz13] 32 (0, 0)) bk_ hb); have nz4 := Aside0.mk (below_step be_ hb); clear HOz1; clear BKz1; clear BKz2; clear HB; have HOz1 := nz1; have BKz1 := nz2; have BKz2 := nz3; have HB := nz4; clear nz1 nz2 nz3 nz4; (try clear hb); (try clear hb2); (try clear hk); (try clear hi)))
                  go_meet
                  case rel => exact ⟨_, (!tz2), (by first | rfl | (simp; done) | (simp [*]; done)), H', ⟨by have := HJz1.out; have := HJz2.out; have := HKz1.out; first | omega | exact Nat.le_refl _⟩, ⟨bk_⟩, ⟨bk_⟩, ⟨be_⟩⟩
                rw [if_pos cz14] at H
                have c32b0 : decide (0 < xz3) = true := decide_eq_true cz14
                clear cz14
                (first | rw [c32b0] | (simp only [i64_w, i32_w]; rw [c32b0]) | skip)
                obtain ⟨jiz1, hjiz1⟩ : ∃ j_ : Int, (wrap64 (xz3 - 1)) = j_ := ⟨_, rfl⟩
                replace H : (if 0 ≤ (jiz1) then (if (jiz1) < (lz1.length : Int) then (if ((Op.bytesLess ((rdOf ByteArray.empty lz1 (jiz1)).toList) ((rdOf ByteArray.empty lz1 xz3).toList)) = true) then ((impl_Levels.f (rdOf ByteArray.empty lz1 xz3)).bind fun t213 => (if (t213.length : Int) > 1 then (impl_branchOk.j3 kz1 lz4 (rdOf ByteArray.empty lz1 xz3) lz1 (lz1.length : Int) xz3 true lz1 lz2 lz3 ((rd_T32 lz2 xz3).f0) ((rd_T32 lz2 xz3).f1) ((rd_T32 lz2 xz3).f2)) else ((impl_levelOk.f (rdOf ByteArray.empty lz1 xz3) ((((rd_T32 lz2 xz3).f1).length : Int) == 0)).bind fun t216 => (impl_branchOk.j3 kz1 lz4 (rdOf ByteArray.empty lz1 xz3) lz1 (lz1.length : Int) xz3 (!t216) lz1 lz2 lz3 ((rd_T32 lz2 xz3).f0) ((rd_T32 lz2 xz3).f1) ((rd_T32 lz2 xz3).f2))))) else (impl_branchOk.j3 kz1 lz4 (rdOf ByteArray.empty lz1 xz3) lz1 (lz1.length : Int) xz3 true lz1 lz2 lz3 ((rd_T32 lz2 xz3).f0) ((rd_T32 lz2 xz3).f1) ((rd_T32 lz2 xz3).f2))) else (none)) else (none)) = some r := by first | (rw [hjiz1] at H; exact H) | (simp only [hjiz1] at H ⊢; exact H)
                have hji33w : (IntKind.i64.wrap (xz3 - 1)) = jiz1 := (i64_w _).trans hjiz1
                by_cases cz15 : 0 ≤ (jiz1)
                rotate_left
                · rw [if_neg cz15] at H
                  exact absurd H (by simp)
                rw [if_pos cz15] at H
                have c34b0 : decide (0 ≤ (jiz1)) = true := decide_eq_true cz15
                clear cz15
                by_cases cz16 : (jiz1) < (lz1.length : Int)
                rotate_left
                · rw [if_neg cz16] at H
                  exact absurd H (by simp)
                rw [if_pos cz16] at H
                have c35b0 : decide ((jiz1) < (lz1.length : Int)) = true := decide_eq_true cz16
                clear cz16
                by_cases cz17 : ((Op.bytesLess ((rdOf ByteArray.empty lz1 (jiz1)).toList) ((rdOf ByteArray.empty lz1 xz3).toList)) = true)
                rotate_left
                · rw [if_neg cz17] at H
                  have c36b0 : (Op.bytesLess ((rdOf ByteArray.empty lz1 (jiz1)).toList) ((rdOf ByteArray.empty lz1 xz3).toList)) = false := by simpa using cz17
                  clear cz17
                  have H' := Aside0.mk H
                  clear H
                  have hnbz2 := NBz1.out
                  have hncz2 := NBz2.out
                  have hczz10 : wz2.cell? ⟨gbz1, 0, none⟩ = some (.slice (some adz1) lz1.length cz1) := (blk_cell BKz1.out 0).trans rfl
                  have hczz11 : wz2.cell? ⟨gbz1, 1, none⟩ = some (.slice (some adz2) lz2.length cz2) := (blk_cell BKz1.out 1).trans rfl
                  have hczz12 : wz2.cell? ⟨gbz1, 2, none⟩ = some (.slice Az3 lz3.length cz3) := (blk_cell BKz1.out 2).trans rfl
                  have hfzz10 := blk_frozen BKz1.out 0
                  have hfzz11 := blk_frozen BKz1.out 1
                  have hfzz12 := blk_frozen BKz1.out 2
                  have pz3 : 0 ≤ ((jiz1) : Int) := of_decide_eq_true as_
                  have qz3 : (jiz1) < (lz1.length : Int) := of_decide_eq_true as_
                  obtain ⟨adz3, ez3, hxz5⟩ := Kd.at_string HRz1.out (jiz1) pz3 qz3
                  obtain rfl : adz1 = adz3 := (by injection ez3)
                  have hnz1 : adz1.block ≠ gbz2 := Nat.ne_of_lt (Nat.lt_of_lt_of_le (by have := World.block_lt_of_cell? _ _ hxz5; first | rwa [add_block] at this | exact this) GWz2.out)
                  have hnz2 : adz1.block ≠ gbz2 := Nat.ne_of_lt (Nat.lt_of_lt_of_le (by have := World.block_lt_of_cell? _ _ hxz5; first | rwa [add_block] at this | exact this) GWz2.out)
                  have hnz3 : adz1.block ≠ gbz2 := Nat.ne_of_lt (Nat.lt_of_lt_of_le (by have := World.block_lt_of_cell? _ _ hxz5; first | rwa [add_block] at this | exact this) GWz2.out)
                  replace hxz5 := (HB.out.cell (World.block_lt_of_cell? w _ hxz5)).trans hxz5
                  replace hxz5 := (cell_far (p := ⟨gbz2, 0, none⟩) (by first | (rw [add_block]; exact hnz1) | (show (Addr.add _ _).block ≠ _; rw [add_block]; exact hnz1) | exact hnz1) (.slice Az5 ((rd_T32 lz2 xz3).f0).length cz11)).trans hxz5
                  replace hxz5 := (cell_far (p := ⟨gbz2, 1, none⟩) (by first | (rw [add_block]; exact hnz2) | (show (Addr.add _ _).block ≠ _; rw [add_block]; exact hnz2) | exact hnz2) (.slice Az6 ((rd_T32 lz2 xz3).f1).length cz12)).trans hxz5
                  replace hxz5 := (cell_far (p := ⟨gbz2, 2, none⟩) (by first | (rw [add_block]; exact hnz3) | (show (Addr.add _ _).block ≠ _; rw [add_block]; exact hnz3) | exact hnz3) (.slice Az7 ((rd_T32 lz2 xz3).f2).length cz13)).trans hxz5
                  clear hnz1
                  clear hnz2
                  clear hnz3
                  replace pz3 := eq_true pz3
                  replace qz3 := eq_true qz3
                  go_wp2
                  go_meet
                  case rel => exact ⟨_, (true), (by first | rfl | (simp; done) | (simp [*]; done)), H', ⟨by have := HJz1.out; have := HJz2.out; have := HKz1.out; first | omega | exact Nat.le_refl _⟩, ⟨by (with_reducible repeat (first | refine blk_drewN ?_ _ | refine blk_drew ?_ | refine blk_alloc ?_ _)); refine blk_far ?_ NBz1.out _; (with_reducible repeat (first | refine blk_drewN ?_ _ | refine blk_drew ?_ | refine blk_alloc ?_ _)); refine blk_far ?_ NBz1.out _; (with_reducible repeat (first | refine blk_drewN ?_ _ | refine blk_drew ?_ | refine blk_alloc ?_ _)); refine blk_far ?_ NBz1.out _; (with_reducible repeat (first | refine blk_drewN ?_ _ | refine blk_drew ?_ | refine blk_alloc ?_ _)); exact BKz1.out⟩, ⟨by (with_reducible repeat (first | refine blk_drewN ?_ _ | refine blk_drew ?_ | refine blk_alloc ?_ _)); refine blk_put (cs := #[.slice Az5 ((rd_T32 lz2 xz3).f0).length cz11, .slice Az6 ((rd_T32 lz2 xz3).f1).length cz12, .slice none 0 0]) ?_ 2 _ rfl; (with_reducible repeat (first | refine blk_drewN ?_ _ | refine blk_drew ?_ | refine blk_alloc ?_ _)); refine blk_put (cs := #[.slice Az5 ((rd_T32 lz2 xz3).f0).length cz11, .slice none 0 0, .slice none 0 0]) ?_ 1 _ rfl; (with_reducible repeat (first | refine blk_drewN ?_ _ | refine blk_drew ?_ | refine blk_alloc ?_ _)); refine blk_put (cs := #[.slice none 0 0, .slice none 0 0, .slice none 0 0]) ?_ 0 _ rfl; (with_reducible repeat (first | refine blk_drewN ?_ _ | refine blk_drew ?_ | refine blk_alloc ?_ _)); exact BKz2.out⟩, ⟨be_⟩⟩
                rw [if_pos cz17] at H
                have c36b0 : (Op.bytesLess ((rdOf ByteArray.empty lz1 (jiz1)).toList) ((rdOf ByteArray.empty lz1 xz3).toList)) = true := cz17
                clear cz17
                replace H := Option.bind_eq_some_iff.mp H
                obtain ⟨tz1, Az8, H⟩ := H
                replace H : (if (tz1.length : Int) > 1 then (impl_branchOk.j3 kz1 lz4 (rdOf ByteArray.empty lz1 xz3) lz1 (lz1.length : Int) xz3 true lz1 lz2 lz3 ((rd_T32 lz2 xz3).f0) ((rd_T32 lz2 xz3).f1) ((rd_T32 lz2 xz3).f2)) else ((impl_levelOk.f (rdOf ByteArray.empty lz1 xz3) ((((rd_T32 lz2 xz3).f1).length : Int) == 0)).bind fun t216 => (impl_branchOk.j3 kz1 lz4 (rdOf ByteArray.empty lz1 xz3) lz1 (lz1.length : Int) xz3 (!t216) lz1 lz2 lz3 ((rd_T32 lz2 xz3).f0) ((rd_T32 lz2 xz3).f1) ((rd_T32 lz2 xz3).f2)))) = some r := H
                have Az9 := Aside0.mk Az8
                clear Az8
                by_cases cz18 : (tz1.length : Int) > 1
                · rw [if_pos cz18] at H
                  have c38b0 : decide (1 < (tz1.length : Int)) = true := decide_eq_true cz18
                  have c38b1 : decide (1 < tz1.length) = true := decide_eq_true (by omega)
                  clear cz18
                  have H' := Aside0.mk H
                  clear H
                  have hnbz2 := NBz1.out
                  have hncz2 := NBz2.out
                  have hczz10 : wz2.cell? ⟨gbz1, 0, none⟩ = some (.slice (some adz1) lz1.length cz1) := (blk_cell BKz1.out 0).trans rfl
                  have hczz11 : wz2.cell? ⟨gbz1, 1, none⟩ = some (.slice (some adz2) lz2.length cz2) := (blk_cell BKz1.out 1).trans rfl
                  have hczz12 : wz2.cell? ⟨gbz1, 2, none⟩ = some (.slice Az3 lz3.length cz3) := (blk_cell BKz1.out 2).trans rfl
                  have hfzz10 := blk_frozen BKz1.out 0
                  have hfzz11 := blk_frozen BKz1.out 1
                  have hfzz12 := blk_frozen BKz1.out 2
                  have pz3 : 0 ≤ ((jiz1) : Int) := of_decide_eq_true as_
                  have qz3 : (jiz1) < (lz1.length : Int) := of_decide_eq_true as_
                  obtain ⟨adz3, ez3, hxz5⟩ := Kd.at_string HRz1.out (jiz1) pz3 qz3
                  obtain rfl : adz1 = adz3 := (by injection ez3)
                  have hnz1 : adz1.block ≠ gbz2 := Nat.ne_of_lt (Nat.lt_of_lt_of_le (by have := World.block_lt_of_cell? _ _ hxz5; first | rwa [add_block] at this | exact this) GWz2.out)
                  have hnz2 : adz1.block ≠ gbz2 := Nat.ne_of_lt (Nat.lt_of_lt_of_le (by have := World.block_lt_of_cell? _ _ hxz5; first | rwa [add_block] at this | exact this) GWz2.out)
                  have hnz3 : adz1.block ≠ gbz2 := Nat.ne_of_lt (Nat.lt_of_lt_of_le (by have := World.block_lt_of_cell? _ _ hxz5; first | rwa [add_block] at this | exact this) GWz2.out)
                  replace hxz5 := (HB.out.cell (World.block_lt_of_cell? w _ hxz5)).trans hxz5
                  replace hxz5 := (cell_far (p := ⟨gbz2, 0, none⟩) (by first | (rw [add_block]; exact hnz1) | (show (Addr.add _ _).block ≠ _; rw [add_block]; exact hnz1) | exact hnz1) (.slice Az5 ((rd_T32 lz2 xz3).f0).length cz11)).trans hxz5
                  replace hxz5 := (cell_far (p := ⟨gbz2, 1, none⟩) (by first | (rw [add_block]; exact hnz2) | (show (Addr.add _ _).block ≠ _; rw [add_block]; exact hnz2) | exact hnz2) (.slice Az6 ((rd_T32 lz2 xz3).f1).length cz12)).trans hxz5
                  replace hxz5 := (cell_far (p := ⟨gbz2, 2, none⟩) (by first | (rw [add_block]; exact hnz3) | (show (Addr.add _ _).block ≠ _; rw [add_block]; exact hnz3) | exact hnz3) (.slice Az7 ((rd_T32 lz2 xz3).f2).length cz13)).trans hxz5
                  clear hnz1
                  clear hnz2
                  clear hnz3
                  replace pz3 := eq_true pz3
                  replace qz3 := eq_true qz3
                  exact impl_branchOk_z5
                rw [if_neg cz18] at H
                have c38b0 : decide (1 < (tz1.length : Int)) = false := decide_eq_false cz18
                have c38b1 : decide (1 < tz1.length) = false := decide_eq_false (by omega)
                clear cz18
                replace H := Option.bind_eq_some_iff.mp H
                obtain ⟨tz2, Az10, H⟩ := H
                replace H : (impl_branchOk.j3 kz1 lz4 (rdOf ByteArray.empty lz1 xz3) lz1 (lz1.length : Int) xz3 (!tz2) lz1 lz2 lz3 ((rd_T32 lz2 xz3).f0) ((rd_T32 lz2 xz3).f1) ((rd_T32 lz2 xz3).f2)) = some r := H
                have Az11 := Aside0.mk Az10
                clear Az10
                have H' := Aside0.mk H
                clear H
                have hnbz2 := NBz1.out
                have hncz2 := NBz2.out
                have hczz10 : wz2.cell? ⟨gbz1, 0, none⟩ = some (.slice (some adz1) lz1.length cz1) := (blk_cell BKz1.out 0).trans rfl
                have hczz11 : wz2.cell? ⟨gbz1, 1, none⟩ = some (.slice (some adz2) lz2.length cz2) := (blk_cell BKz1.out 1).trans rfl
                have hczz12 : wz2.cell? ⟨gbz1, 2, none⟩ = some (.slice Az3 lz3.length cz3) := (blk_cell BKz1.out 2).trans rfl
                have hfzz10 := blk_frozen BKz1.out 0
                have hfzz11 := blk_frozen BKz1.out 1
                have hfzz12 := blk_frozen BKz1.out 2
                have pz3 : 0 ≤ ((jiz1) : Int) := of_decide_eq_true as_
                have qz3 : (jiz1) < (lz1.length : Int) := of_decide_eq_true as_
                obtain ⟨adz3, ez3, hxz5⟩ := Kd.at_string HRz1.out (jiz1) pz3 qz3
                obtain rfl : adz1 = adz3 := (by injection ez3)
                have hnz1 : adz1.block ≠ gbz2 := Nat.ne_of_lt (Nat.lt_of_lt_of_le (by have := World.block_lt_of_cell? _ _ hxz5; first | rwa [add_block] at this | exact this) GWz2.out)
                have hnz2 : adz1.block ≠ gbz2 := Nat.ne_of_lt (Nat.lt_of_lt_of_le (by have := World.block_lt_of_cell? _ _ hxz5; first | rwa [add_block] at this | exact this) GWz2.out)
                have hnz3 : adz1.block ≠ gbz2 := Nat.ne_of_lt (Nat.lt_of_lt_of_le (by have := World.block_lt_of_cell? _ _ hxz5; first | rwa [add_block] at this | exact this) GWz2.out)
                replace hxz5 := (HB.out.cell (World.block_lt_of_cell? w _ hxz5)).trans hxz5
                replace hxz5 := (cell_far (p := ⟨gbz2, 0, none⟩) (by first | (rw [add_block]; exact hnz1) | (show (Addr.add _ _).block ≠ _; rw [add_block]; exact hnz1) | exact hnz1) (.slice Az5 ((rd_T32 lz2 xz3).f0).length cz11)).trans hxz5
                replace hxz5 := (cell_far (p := ⟨gbz2, 1, none⟩) (by first | (rw [add_block]; exact hnz2) | (show (Addr.add _ _).block ≠ _; rw [add_block]; exact hnz2) | exact hnz2) (.slice Az6 ((rd_T32 lz2 xz3).f1).length cz12)).trans hxz5
                replace hxz5 := (cell_far (p := ⟨gbz2, 2, none⟩) (by first | (rw [add_block]; exact hnz3) | (show (Addr.add _ _).block ≠ _; rw [add_block]; exact hnz3) | exact hnz3) (.slice Az7 ((rd_T32 lz2 xz3).f2).length cz13)).trans hxz5
                clear hnz1
                clear hnz2
                clear hnz3
                replace pz3 := eq_true pz3
                replace qz3 := eq_true qz3
                go_wp2_with (first | (go_at_call 56; (with_reducible refine (impl_Levels.calls (rdOf ByteArray.empty lz1 xz3) tz1 _ ?side1 Az9.out).mono ?_); (case side1 => exact Tabs.below HT.out be_); rintro e wz3 ⟨vz1, rfl, hoz1, hb⟩; have nz1 := Aside0.mk (Kd.R_lower hoz1 (below_size be_)); have nz2 := Aside0.mk (blk_below (g := gbz1) (o := .cells #[.slice (some adz1) lz1.length cz1, .slice (some adz2) lz2.length cz2, .slice Az3 lz3.length cz3] 32 (0, 0)) (by (with_reducible repeat (first | refine blk_drewN ?_ _ | refine blk_drew ?_ | refine blk_alloc ?_ _)); refine blk_far ?_ NBz1.out _; (with_reducible repeat (first | refine blk_drewN ?_ _ | refine blk_drew ?_ | refine blk_alloc ?_ _)); refine blk_far ?_ NBz1.out _; (with_reducible repeat (first | refine blk_drewN ?_ _ | refine blk_drew ?_ | refine blk_alloc ?_ _)); refine blk_far ?_ NBz1.out _; (with_reducible repeat (first | refine blk_drewN ?_ _ | refine blk_drew ?_ | refine blk_alloc ?_ _)); exact BKz1.out) hb); have nz3 := Aside0.mk (blk_below (g := gbz2) (o := .cells #[.slice Az5 ((rd_T32 lz2 xz3).f0).length cz11, .slice Az6 ((rd_T32 lz2 xz3).f1).length cz12, .slice Az7 ((rd_T32 lz2 xz3).f2).length cz13] 32 (0, 0)) (by (with_reducible repeat (first | refine blk_drewN ?_ _ | refine blk_drew ?_ | refine blk_alloc ?_ _)); refine blk_put (cs := #[.slice Az5 ((rd_T32 lz2 xz3).f0).length cz11, .slice Az6 ((rd_T32 lz2 xz3).f1).length cz12, .slice none 0 0]) ?_ 2 _ rfl; (with_reducible repeat (first | refine blk_drewN ?_ _ | refine blk_drew ?_ | refine blk_alloc ?_ _)); refine blk_put (cs := #[.slice Az5 ((rd_T32 lz2 xz3).f0).length cz11, .slice none 0 0, .slice none 0 0]) ?_ 1 _ rfl; (with_reducible repeat (first | refine blk_drewN ?_ _ | refine blk_drew ?_ | refine blk_alloc ?_ _)); refine blk_put (cs := #[.slice none 0 0, .slice none 0 0, .slice none 0 0]) ?_ 0 _ rfl; (with_reducible repeat (first | refine blk_drewN ?_ _ | refine blk_drew ?_ | refine blk_alloc ?_ _)); exact BKz2.out) hb); have nz4 := Aside0.mk (below_step be_ hb); clear BKz1; clear BKz2; clear HB; have HOz1 := nz1; have BKz1 := nz2; have BKz2 := nz3; have HB := nz4; clear nz1 nz2 nz3 nz4; (try clear hb); (try clear hb2); (try clear hk); (try clear hi); (try clear hoz1); obtain ⟨Aoz1, coz1, eoz1⟩ := Kd.R_slice HOz1.out; subst eoz1; have hczz13 : wz3.cell? ⟨gbz2, 0, none⟩ = some (.slice Az5 ((rd_T32 lz2 xz3).f0).length cz11) := (blk_cell BKz2.out 0).trans rfl; have hczz14 : wz3.cell? ⟨gbz2, 1, none⟩ = some (.slice Az6 ((rd_T32 lz2 xz3).f1).length cz12) := (blk_cell BKz2.out 1).trans rfl; have hczz15 : wz3.cell? ⟨gbz2, 2, none⟩ = some (.slice Az7 ((rd_T32 lz2 xz3).f2).length cz13) := (blk_cell BKz2.out 2).trans rfl; have hfzz13 := blk_frozen BKz2.out 0; have hfzz14 := blk_frozen BKz2.out 1; have hfzz15 := blk_frozen BKz2.out 2) | (go_at_call 57; (with_reducible refine (impl_levelOk.calls (rdOf ByteArray.empty lz1 xz3) ((((rd_T32 lz2 xz3).f1).length : Int) == 0) tz2 _ Az11.out).mono ?_); rintro e wz4 ⟨rfl, hb⟩; have nz1 := Aside0.mk (Kd.R_below (by (with_reducible repeat (first | apply Kd.R_alloc | apply Kd.R_drewN | apply Kd.R_drew)); exact HOz1.out) hb); have nz2 := Aside0.mk (blk_below (g := gbz1) (o := .cells #[.slice (some adz1) lz1.length cz1, .slice (some adz2) lz2.length cz2, .slice Az3 lz3.length cz3] 32 (0, 0)) bk_ hb); have nz3 := Aside0.mk (blk_below (g := gbz2) (o := .cells #[.slice Az5 ((rd_T32 lz2 xz3).f0).length cz11, .slice Az6 ((rd_T32 lz2 xz3).f1).length cz12, .slice Az7 ((rd_T32 lz2 xz3).f2).length cz13] 32 (0, 0)) bk_ hb); have nz4 := Aside0.mk (below_step be_ hb); clear HOz1; clear BKz1; clear BKz2; clear HB; have HOz1 := nz1; have BKz1 := nz2; have BKz2 := nz3; have HB := nz4; clear nz1 nz2 nz3 nz4; (try clear hb); (try clear hb2); (try clear hk); (try clear hi)))
                go_meet
                case rel => exact ⟨_, (!tz2), (by first | rfl | (simp; done) | (simp [*]; done)), H', ⟨by have := HJz1.out; have := HJz2.out; have := HKz1.out; first | omega | exact Nat.le_refl _⟩, ⟨bk_⟩, ⟨bk_⟩, ⟨be_⟩⟩
              case rest =>
                clear HCz7
                try clear cz4
                try clear c2
                try clear p2
                try clear q2
                try clear hx2
                try clear c3
                try clear c4
                try clear c5
                try clear c5b0
                try clear c5b1
                try clear c5b2
                try clear c6
                try clear c6b0
                try clear c6b1
                try clear p6
                try clear cz5
                try clear c14
                try clear c14b0
                try clear c14b1
                try clear p20
                try clear q20
                try clear hx20
                try clear cz6
                try clear p21
                try clear q21
                try clear hx21
                try clear cz7
                try clear c23b0
                try clear cz8
                try clear c24b0
                try clear cz9
                try clear c25b0
                try clear cz10
                try clear c26b0
                try clear c30
                try clear c32
                try clear c32b0
                try clear c34
                try clear c34b0
                try clear c35
                try clear c35b0
                try clear c36
                try clear c36b0
                try clear c38
                try clear c38b0
                try clear c38b1
                try clear c39
                try clear c44
                try clear c50
                try clear c53
                try clear c53b0
                try clear c53b1
                try clear c59
                try clear hcz11_0
                try clear hcz11_1
                try clear hcz11_2
                try clear hcz17_0
                try clear hcz17_1
                try clear hcz17_2
                try clear hcz20_0
                try clear hcz20_1
                try clear hcz20_2
                try clear hczz1
                try clear hczz2
                try clear hczz3
                try clear hczz4
                try clear hczz5
                try clear hczz6
                try clear hczz7
                try clear hczz8
                try clear hczz9
                try clear hcz40_0
                try clear hcz40_1
                try clear hcz40_2
                try clear hcz45_0
                try clear hcz45_1
                try clear hcz45_2
                try clear hcz48_0
                try clear hcz48_1
                try clear hcz48_2
                try clear hcz51_0
                try clear hcz51_1
                try clear hcz51_2
                try clear hcz60_0
                try clear hcz60_1
                try clear hcz60_2
                try clear hcz7_0
                try clear hcz7_1
                try clear hcz7_2
                try clear hcz9_0
                try clear hcz9_1
                try clear hcz9_2
                try clear hfz11_0
                try clear hfz11_1
                try clear hfz11_2
                try clear hfz17_0
                try clear hfz17_1
                try clear hfz17_2
                try clear hfz20_0
                try clear hfz20_1
                try clear hfz20_2
                try clear hfzz1
                try clear hfzz2
                try clear hfzz3
                try clear hfzz4
                try clear hfzz5
                try clear hfzz6
                try clear hfzz7
                try clear hfzz8
                try clear hfzz9
                try clear hfz40_0
                try clear hfz40_1
                try clear hfz40_2
                try clear hfz45_0
                try clear hfz45_1
                try clear hfz45_2
                try clear hfz48_0
                try clear hfz48_1
                try clear hfz48_2
                try clear hfz51_0
                try clear hfz51_1
                try clear hfz51_2
                try clear hfz60_0
                try clear hfz60_1
                try clear hfz60_2
                try clear hfz7_0
                try clear hfz7_1
                try clear hfz7_2
                try clear hfz9_0
                try clear hfz9_1
                try clear hfz9_2
                try clear hxz1
                try clear hxz2
                try clear hxz3
                try clear hxz4
                try clear hx212_0
                try clear p2
                try clear pz1
                try clear pz2
                try clear p212
                try clear qz1
                try clear qz2
                try clear q212
                obtain ⟨kq, xz4, rfl, HA, HJz3, BKz1, BKz2, HB⟩ := hcut
                cases kq with
                | zero => exact absurd HA.out (by simp [impl_branchOk.j3])
                | succ kjz3 =>
                  have H := HA.out
                  clear HA
                  simp only [impl_branchOk.j3] at H
                  by_cases cz14 : xz4 = true
                  · subst cz14
                    have Hz1 : (some false) = some r := by rw [if_pos rfl] at H; exact H
                    clear H
                    have H := Hz1
                    clear Hz1
                    obtain rfl := Option.some.inj H
                    go_wp2
                    go_ret
                    exact ⟨by first | rfl | (simp [errW_none, errW_some] <;> rfl) | (simp [*, errW_none, errW_some] <;> rfl), be_⟩
                  replace cz14 := Bool.eq_false_iff.mpr cz14
                  subst cz14
                  have Hz1 : (if (((rd_T32 lz2 xz3).f1).length : Int) = 0 then (if (((rd_T32 lz2 xz3).f2).length : Int) = 0 then (some false) else ((some (([] : List ByteArray) : List ByteArray)).bind fun y221 => (if y221.length + lz4.length < 8796093022208 then ((some (y221 ++ lz4 : List ByteArray)).bind fun y224 => ((some (([(rdOf ByteArray.empty lz1 xz3)] : List ByteArray) : List ByteArray)).bind fun y227 => (if y224.length + y227.length < 8796093022208 then ((impl_branchOk.f kjz3 ((rd_T32 lz2 xz3).f0) ((rd_T32 lz2 xz3).f1) ((rd_T32 lz2 xz3).f2) (y224 ++ y227)).bind fun t233 => (if t233 = true then (impl_branchOk.l0 kjz3 lz4 lz1 (lz1.length : Int) (wrap64 (xz3 + 1)) lz1 lz2 lz3) else (some false))) else (none)))) else (none)))) else ((some (([] : List ByteArray) : List ByteArray)).bind fun y234 => (if y234.length + lz4.length < 8796093022208 then ((some (y234 ++ lz4 : List ByteArray)).bind fun y237 => ((some (([(rdOf ByteArray.empty lz1 xz3)] : List ByteArray) : List ByteArray)).bind fun y240 => (if y237.length + y240.length < 8796093022208 then ((impl_branchOk.f kjz3 ((rd_T32 lz2 xz3).f0) ((rd_T32 lz2 xz3).f1) ((rd_T32 lz2 xz3).f2) (y237 ++ y240)).bind fun t246 => (if t246 = true then (impl_branchOk.l0 kjz3 lz4 lz1 (lz1.length : Int) (wrap64 (xz3 + 1)) lz1 lz2 lz3) else (some false))) else (none)))) else (none)))) = some r := by rw [if_neg (show ¬ (false = true) by decide)] at H; exact H
                  clear H
                  have H := Hz1
                  clear Hz1
                  by_cases cz15 : (((rd_T32 lz2 xz3).f1).length : Int) = 0
                  rotate_left
                  · rw [if_neg cz15] at H
                    have c63b0 : ((((rd_T32 lz2 xz3).f1).length : Int) == 0) = false := beq_eq_false_iff_ne.mpr cz15
                    have c63b1 : ((((rd_T32 lz2 xz3).f1).length : Int) != 0) = true := bne_iff_ne.mpr cz15
                    have c63b2 : ¬ (((rd_T32 lz2 xz3).f1) = []) := fun h_ => cz15 (by rw [h_]; rfl)
                    obtain ⟨yz1, hyz1⟩ : ∃ y_ : List ByteArray, y_ = (([] : List ByteArray)) := ⟨_, rfl⟩
                    replace H : (if yz1.length + lz4.length < 8796093022208 then ((some (yz1 ++ lz4 : List ByteArray)).bind fun y237 => ((some (([(rdOf ByteArray.empty lz1 xz3)] : List ByteArray) : List ByteArray)).bind fun y240 => (if y237.length + y240.length < 8796093022208 then ((impl_branchOk.f kjz3 ((rd_T32 lz2 xz3).f0) ((rd_T32 lz2 xz3).f1) ((rd_T32 lz2 xz3).f2) (y237 ++ y240)).bind fun t246 => (if t246 = true then (impl_branchOk.l0 kjz3 lz4 lz1 (lz1.length : Int) (wrap64 (xz3 + 1)) lz1 lz2 lz3) else (some false))) else (none)))) else (none)) = some r := by first | (rw [hyz1]; with_reducible exact H) | (have Hz2 := (Option.bind_some _ _).symm.trans H; rw [hyz1]; with_reducible exact Hz2) | (have Hz2 := (Option.bind_some _ _).symm.trans H; with_reducible exact Hz2) | with_reducible exact H | (rw [hyz1]; exact H) | exact H
                    have Nyz1 := Aside0.mk hyz1
                    clear hyz1
                    by_cases cz16 : yz1.length + lz4.length < 8796093022208
                    rotate_left
                    · rw [if_neg cz16] at H
                      exact absurd H (by simp)
                    rw [if_pos cz16] at H
                    have LMcz1 := Aside0.mk cz16
                    clear cz16
                    obtain ⟨yz2, hyz2⟩ : ∃ y_ : List ByteArray, y_ = (yz1 ++ lz4) := ⟨_, rfl⟩
                    replace H : ((some (([(rdOf ByteArray.empty lz1 xz3)] : List ByteArray) : List ByteArray)).bind fun y240 => (if yz2.length + y240.length < 8796093022208 then ((impl_branchOk.f kjz3 ((rd_T32 lz2 xz3).f0) ((rd_T32 lz2 xz3).f1) ((rd_T32 lz2 xz3).f2) (yz2 ++ y240)).bind fun t246 => (if t246 = true then (impl_branchOk.l0 kjz3 lz4 lz1 (lz1.length : Int) (wrap64 (xz3 + 1)) lz1 lz2 lz3) else (some false))) else (none))) = some r := by first | (rw [hyz2]; with_reducible exact H) | (have Hz2 := (Option.bind_some _ _).symm.trans H; rw [hyz2]; with_reducible exact Hz2) | (have Hz2 := (Option.bind_some _ _).symm.trans H; with_reducible exact Hz2) | with_reducible exact H | (rw [hyz2]; exact H) | exact H
                    have Nyz2 := Aside0.mk hyz2
                    clear hyz2
                    obtain ⟨yz3, hyz3⟩ : ∃ y_ : List ByteArray, y_ = (([(rdOf ByteArray.empty lz1 xz3)] : List ByteArray)) := ⟨_, rfl⟩
                    replace H : (if yz2.length + yz3.length < 8796093022208 then ((impl_branchOk.f kjz3 ((rd_T32 lz2 xz3).f0) ((rd_T32 lz2 xz3).f1) ((rd_T32 lz2 xz3).f2) (yz2 ++ yz3)).bind fun t246 => (if t246 = true then (impl_branchOk.l0 kjz3 lz4 lz1 (lz1.length : Int) (wrap64 (xz3 + 1)) lz1 lz2 lz3) else (some false))) else (none)) = some r := by first | (rw [hyz3]; with_reducible exact H) | (have Hz2 := (Option.bind_some _ _).symm.trans H; rw [hyz3]; with_reducible exact Hz2) | (have Hz2 := (Option.bind_some _ _).symm.trans H; with_reducible exact Hz2) | with_reducible exact H | (rw [hyz3]; exact H) | exact H
                    have Nyz3 := Aside0.mk hyz3
                    clear hyz3
                    by_cases cz17 : yz2.length + yz3.length < 8796093022208
                    rotate_left
                    · rw [if_neg cz17] at H
                      exact absurd H (by simp)
                    rw [if_pos cz17] at H
                    have LMcz2 := Aside0.mk cz17
                    clear cz17
                    obtain ⟨yz4, hyz4⟩ : ∃ y_ : List ByteArray, y_ = (yz2 ++ yz3) := ⟨_, rfl⟩
                    replace H : ((impl_branchOk.f kjz3 ((rd_T32 lz2 xz3).f0) ((rd_T32 lz2 xz3).f1) ((rd_T32 lz2 xz3).f2) yz4).bind fun t246 => (if t246 = true then (impl_branchOk.l0 kjz3 lz4 lz1 (lz1.length : Int) (wrap64 (xz3 + 1)) lz1 lz2 lz3) else (some false))) = some r := by first | (rw [hyz4]; with_reducible exact H) | (have Hz2 := (Option.bind_some _ _).symm.trans H; rw [hyz4]; with_reducible exact Hz2) | (have Hz2 := (Option.bind_some _ _).symm.trans H; with_reducible exact Hz2) | with_reducible exact H | (rw [hyz4]; exact H) | exact H
                    have Nyz4 := Aside0.mk hyz4
                    clear hyz4
                    replace H := Option.bind_eq_some_iff.mp H
                    obtain ⟨tz1, Az8, H⟩ := H
                    replace H : (if tz1 = true then (impl_branchOk.l0 kjz3 lz4 lz1 (lz1.length : Int) (wrap64 (xz3 + 1)) lz1 lz2 lz3) else (some false)) = some r := H
                    have Az9 := Aside0.mk Az8
                    clear Az8
                    by_cases cz18 : tz1 = true
                    rotate_left
                    · replace cz18 := Bool.eq_false_iff.mpr cz18
                      subst cz18
                      have Hz1 : (some false) = some r := by rw [if_neg (show ¬ (false = true) by decide)] at H; exact H
                      clear H
                      have H := Hz1
                      clear Hz1
                      obtain rfl := Option.some.inj H
                      try go_wp2
                      have nz1 := Aside0.mk (blk_drew BKz1.out)
                      have nz2 := Aside0.mk (blk_drew BKz2.out)
                      have nz3 := Aside0.mk (below_drew1 HB.out)
                      clear BKz1
                      clear BKz2
                      clear HB
                      have BKz1 := nz1
                      have BKz2 := nz2
                      have HB := nz3
                      clear nz1 nz2 nz3
                      refine start_ (n := 21) (S := fun w' => w'.cell? ⟨gbz2, 0, none⟩ = some (.slice Az5 ((rd_T32 lz2 xz3).f0).length cz11) ∧ w'.cell? ⟨gbz2, 1, none⟩ = some (.slice Az6 ((rd_T32 lz2 xz3).f1).length cz12) ∧ w'.cell? ⟨gbz2, 2, none⟩ = some (.slice Az7 ((rd_T32 lz2 xz3).f2).length cz13)) (ds := []) impl_branchOk_bools0_ (by kernel_rfl) rfl (by kernel_rfl) ⟨(blk_cell BKz2.out 0).trans rfl, (blk_cell BKz2.out 1).trans rfl, (blk_cell BKz2.out 2).trans rfl⟩ (fun hHeld => ?_); refine with_tabW impl_branchOk.tab11 impl_branchOk.bits11 (fun HT_ HW_ => ?_)
                      generalize wc.drew = wz3 at BKz1 BKz2 HB hHeld ⊢
                      refine pu_ HT_ 0 76 impl_branchOk_bools1_ ?_
                      refine ta_ HT_ HW_ hHeld 1 77 impl_branchOk_bools2_ ?_
                      refine pu_ HT_ 2 78 impl_branchOk_bools3_ ?_
                      refine pu_ HT_ 3 79 impl_branchOk_bools4_ ?_
                      refine pu_ HT_ 4 80 impl_branchOk_bools5_ ?_
                      refine un_ HT_ 5 81 impl_branchOk_bools6_ ?_
                      refine un_ HT_ 6 82 impl_branchOk_bools7_ ?_
                      refine un_ HT_ 7 83 impl_branchOk_bools8_ ?_
                      refine un_ HT_ 8 84 impl_branchOk_bools9_ ?_
                      exact impl_branchOk_z6
                    subst cz18
                    have Hz1 : (impl_branchOk.l0 kjz3 lz4 lz1 (lz1.length : Int) (wrap64 (xz3 + 1)) lz1 lz2 lz3) = some r := by rw [if_pos rfl] at H; exact H
                    clear H
                    have H := Hz1
                    clear Hz1
                    have H' := Aside0.mk H
                    clear H
                    try go_wp2
                    have nz1 := Aside0.mk (blk_drew BKz1.out)
                    have nz2 := Aside0.mk (blk_drew BKz2.out)
                    have nz3 := Aside0.mk (below_drew1 HB.out)
                    clear BKz1
                    clear BKz2
                    clear HB
                    have BKz1 := nz1
                    have BKz2 := nz2
                    have HB := nz3
                    clear nz1 nz2 nz3
                    refine start_ (n := 21) (S := fun w' => w'.cell? ⟨gbz2, 0, none⟩ = some (.slice Az5 ((rd_T32 lz2 xz3).f0).length cz11) ∧ w'.cell? ⟨gbz2, 1, none⟩ = some (.slice Az6 ((rd_T32 lz2 xz3).f1).length cz12) ∧ w'.cell? ⟨gbz2, 2, none⟩ = some (.slice Az7 ((rd_T32 lz2 xz3).f2).length cz13)) (ds := []) impl_branchOk_bools0_ (by kernel_rfl) rfl (by kernel_rfl) ⟨(blk_cell BKz2.out 0).trans rfl, (blk_cell BKz2.out 1).trans rfl, (blk_cell BKz2.out 2).trans rfl⟩ (fun hHeld => ?_); refine with_tabW impl_branchOk.tab11 impl_branchOk.bits11 (fun HT_ HW_ => ?_)
                    generalize wc.drew = wz3 at BKz1 BKz2 HB hHeld ⊢
                    refine pu_ HT_ 0 76 impl_branchOk_bools1_ ?_
                    refine ta_ HT_ HW_ hHeld 1 77 impl_branchOk_bools2_ ?_
                    refine pu_ HT_ 2 78 impl_branchOk_bools3_ ?_
                    refine pu_ HT_ 3 79 impl_branchOk_bools4_ ?_
                    refine pu_ HT_ 4 80 impl_branchOk_bools5_ ?_
                    refine un_ HT_ 5 81 impl_branchOk_bools6_ ?_
                    refine un_ HT_ 6 82 impl_branchOk_bools7_ ?_
                    refine un_ HT_ 7 83 impl_branchOk_bools8_ ?_
                    refine un_ HT_ 8 84 impl_branchOk_bools9_ ?_
                    exact impl_branchOk_z22
                  rw [if_pos cz15] at H
                  have c63b0 : ((((rd_T32 lz2 xz3).f1).length : Int) == 0) = true := beq_iff_eq.mpr cz15
                  have c63b1 : ((((rd_T32 lz2 xz3).f1).length : Int) != 0) = false := bne_eq_false_iff_eq.mpr cz15
                  clear cz15
                  by_cases cz16 : (((rd_T32 lz2 xz3).f2).length : Int) = 0
                  · rw [if_pos cz16] at H
                    have c64b0 : ((((rd_T32 lz2 xz3).f2).length : Int) == 0) = true := beq_iff_eq.mpr cz16
                    have c64b1 : ((((rd_T32 lz2 xz3).f2).length : Int) != 0) = false := bne_eq_false_iff_eq.mpr cz16
                    clear cz16
                    obtain rfl := Option.some.inj H
                    try go_wp2
                    have nz1 := Aside0.mk (blk_drew BKz1.out)
                    have nz2 := Aside0.mk (blk_drew BKz2.out)
                    have nz3 := Aside0.mk (below_drew1 HB.out)
                    clear BKz1
                    clear BKz2
                    clear HB
                    have BKz1 := nz1
                    have BKz2 := nz2
                    have HB := nz3
                    clear nz1 nz2 nz3
                    refine start_ (n := 21) (S := fun w' => w'.cell? ⟨gbz2, 0, none⟩ = some (.slice Az5 ((rd_T32 lz2 xz3).f0).length cz11) ∧ w'.cell? ⟨gbz2, 1, none⟩ = some (.slice Az6 ((rd_T32 lz2 xz3).f1).length cz12) ∧ w'.cell? ⟨gbz2, 2, none⟩ = some (.slice Az7 ((rd_T32 lz2 xz3).f2).length cz13)) (ds := []) impl_branchOk_bools0_ (by kernel_rfl) rfl (by kernel_rfl) ⟨(blk_cell BKz2.out 0).trans rfl, (blk_cell BKz2.out 1).trans rfl, (blk_cell BKz2.out 2).trans rfl⟩ (fun hHeld => ?_); refine with_tabW impl_branchOk.tab11 impl_branchOk.bits11 (fun HT_ HW_ => ?_)
                    generalize wc.drew = wz3 at BKz1 BKz2 HB hHeld ⊢
                    refine pu_ HT_ 0 76 impl_branchOk_bools1_ ?_
                    refine ta_ HT_ HW_ hHeld 1 77 impl_branchOk_bools2_ ?_
                    refine pu_ HT_ 2 78 impl_branchOk_bools3_ ?_
                    refine pu_ HT_ 3 79 impl_branchOk_bools4_ ?_
                    refine pu_ HT_ 4 80 impl_branchOk_bools5_ ?_
                    refine pu_ HT_ 5 81 impl_branchOk_bools6_ ?_
                    refine ta_ HT_ HW_ hHeld 6 82 impl_branchOk_bools7_ ?_
                    refine pu_ HT_ 7 83 impl_branchOk_bools8_ ?_
                    refine pu_ HT_ 8 84 impl_branchOk_bools9_ ?_
                    refine pu_ HT_ 9 85 impl_branchOk_bools10_ ?_
                    refine pu_ HT_ 10 86 impl_branchOk_bools11_ ?_
                    refine un_ HT_ 11 87 impl_branchOk_bools24_ ?_
                    refine un_ HT_ 12 88 impl_branchOk_bools25_ ?_
                    refine un_ HT_ 13 89 impl_branchOk_bools26_ ?_
                    refine un_ HT_ 14 90 impl_branchOk_bools27_ ?_
                    refine un_ HT_ 15 91 impl_branchOk_bools18_ ?_
                    refine un_ HT_ 16 92 impl_branchOk_bools15_ ?_
                    refine un_ HT_ 17 93 impl_branchOk_bools20_ ?_
                    refine un_ HT_ 18 94 impl_branchOk_bools21_ ?_
                    refine un_ HT_ 19 95 impl_branchOk_bools22_ ?_
                    refine pu_ HT_ 20 96 impl_branchOk_bools23_ ?_
                    refine done_ (done_of HT_.out (by kernel_rfl)) ?_
                    try go_wp2
                    go_ret
                    exact ⟨by first | rfl | (simp [errW_none, errW_some] <;> rfl) | (simp [*, errW_none, errW_some] <;> rfl), be_⟩
                  rw [if_neg cz16] at H
                  have c64b0 : ((((rd_T32 lz2 xz3).f2).length : Int) == 0) = false := beq_eq_false_iff_ne.mpr cz16
                  have c64b1 : ((((rd_T32 lz2 xz3).f2).length : Int) != 0) = true := bne_iff_ne.mpr cz16
                  have c64b2 : ¬ (((rd_T32 lz2 xz3).f2) = []) := fun h_ => cz16 (by rw [h_]; rfl)
                  obtain ⟨yz1, hyz1⟩ : ∃ y_ : List ByteArray, y_ = (([] : List ByteArray)) := ⟨_, rfl⟩
                  replace H : (if yz1.length + lz4.length < 8796093022208 then ((some (yz1 ++ lz4 : List ByteArray)).bind fun y224 => ((some (([(rdOf ByteArray.empty lz1 xz3)] : List ByteArray) : List ByteArray)).bind fun y227 => (if y224.length + y227.length < 8796093022208 then ((impl_branchOk.f kjz3 ((rd_T32 lz2 xz3).f0) ((rd_T32 lz2 xz3).f1) ((rd_T32 lz2 xz3).f2) (y224 ++ y227)).bind fun t233 => (if t233 = true then (impl_branchOk.l0 kjz3 lz4 lz1 (lz1.length : Int) (wrap64 (xz3 + 1)) lz1 lz2 lz3) else (some false))) else (none)))) else (none)) = some r := by first | (rw [hyz1]; with_reducible exact H) | (have Hz2 := (Option.bind_some _ _).symm.trans H; rw [hyz1]; with_reducible exact Hz2) | (have Hz2 := (Option.bind_some _ _).symm.trans H; with_reducible exact Hz2) | with_reducible exact H | (rw [hyz1]; exact H) | exact H
                  have Nyz1 := Aside0.mk hyz1
                  clear hyz1
                  by_cases cz17 : yz1.length + lz4.length < 8796093022208
                  rotate_left
                  · rw [if_neg cz17] at H
                    exact absurd H (by simp)
                  rw [if_pos cz17] at H
                  have LMcz1 := Aside0.mk cz17
                  clear cz17
                  obtain ⟨yz2, hyz2⟩ : ∃ y_ : List ByteArray, y_ = (yz1 ++ lz4) := ⟨_, rfl⟩
                  replace H : ((some (([(rdOf ByteArray.empty lz1 xz3)] : List ByteArray) : List ByteArray)).bind fun y227 => (if yz2.length + y227.length < 8796093022208 then ((impl_branchOk.f kjz3 ((rd_T32 lz2 xz3).f0) ((rd_T32 lz2 xz3).f1) ((rd_T32 lz2 xz3).f2) (yz2 ++ y227)).bind fun t233 => (if t233 = true then (impl_branchOk.l0 kjz3 lz4 lz1 (lz1.length : Int) (wrap64 (xz3 + 1)) lz1 lz2 lz3) else (some false))) else (none))) = some r := by first | (rw [hyz2]; with_reducible exact H) | (have Hz2 := (Option.bind_some _ _).symm.trans H; rw [hyz2]; with_reducible exact Hz2) | (have Hz2 := (Option.bind_some _ _).symm.trans H; with_reducible exact Hz2) | with_reducible exact H | (rw [hyz2]; exact H) | exact H
                  have Nyz2 := Aside0.mk hyz2
                  clear hyz2
                  obtain ⟨yz3, hyz3⟩ : ∃ y_ : List ByteArray, y_ = (([(rdOf ByteArray.empty lz1 xz3)] : List ByteArray)) := ⟨_, rfl⟩
                  replace H : (if yz2.length + yz3.length < 8796093022208 then ((impl_branchOk.f kjz3 ((rd_T32 lz2 xz3).f0) ((rd_T32 lz2 xz3).f1) ((rd_T32 lz2 xz3).f2) (yz2 ++ yz3)).bind fun t233 => (if t233 = true then (impl_branchOk.l0 kjz3 lz4 lz1 (lz1.length : Int) (wrap64 (xz3 + 1)) lz1 lz2 lz3) else (some false))) else (none)) = some r := by first | (rw [hyz3]; with_reducible exact H) | (have Hz2 := (Option.bind_some _ _).symm.trans H; rw [hyz3]; with_reducible exact Hz2) | (have Hz2 := (Option.bind_some _ _).symm.trans H; with_reducible exact Hz2) | with_reducible exact H | (rw [hyz3]; exact H) | exact H
                  have Nyz3 := Aside0.mk hyz3
                  clear hyz3
                  by_cases cz18 : yz2.length + yz3.length < 8796093022208
                  rotate_left
                  · rw [if_neg cz18] at H
                    exact absurd H (by simp)
                  rw [if_pos cz18] at H
                  have LMcz2 := Aside0.mk cz18
                  clear cz18
                  obtain ⟨yz4, hyz4⟩ : ∃ y_ : List ByteArray, y_ = (yz2 ++ yz3) := ⟨_, rfl⟩
                  replace H : ((impl_branchOk.f kjz3 ((rd_T32 lz2 xz3).f0) ((rd_T32 lz2 xz3).f1) ((rd_T32 lz2 xz3).f2) yz4).bind fun t233 => (if t233 = true then (impl_branchOk.l0 kjz3 lz4 lz1 (lz1.length : Int) (wrap64 (xz3 + 1)) lz1 lz2 lz3) else (some false))) = some r := by first | (rw [hyz4]; with_reducible exact H) | (have Hz2 := (Option.bind_some _ _).symm.trans H; rw [hyz4]; with_reducible exact Hz2) | (have Hz2 := (Option.bind_some _ _).symm.trans H; with_reducible exact Hz2) | with_reducible exact H | (rw [hyz4]; exact H) | exact H
                  have Nyz4 := Aside0.mk hyz4
                  clear hyz4
                  replace H := Option.bind_eq_some_iff.mp H
                  obtain ⟨tz1, Az8, H⟩ := H
                  replace H : (if tz1 = true then (impl_branchOk.l0 kjz3 lz4 lz1 (lz1.length : Int) (wrap64 (xz3 + 1)) lz1 lz2 lz3) else (some false)) = some r := H
                  have Az9 := Aside0.mk Az8
                  clear Az8
                  by_cases cz19 : tz1 = true
                  rotate_left
                  · replace cz19 := Bool.eq_false_iff.mpr cz19
                    subst cz19
                    have Hz1 : (some false) = some r := by rw [if_neg (show ¬ (false = true) by decide)] at H; exact H
                    clear H
                    have H := Hz1
                    clear Hz1
                    obtain rfl := Option.some.inj H
                    try go_wp2
                    have nz1 := Aside0.mk (blk_drew BKz1.out)
                    have nz2 := Aside0.mk (blk_drew BKz2.out)
                    have nz3 := Aside0.mk (below_drew1 HB.out)
                    clear BKz1
                    clear BKz2
                    clear HB
                    have BKz1 := nz1
                    have BKz2 := nz2
                    have HB := nz3
                    clear nz1 nz2 nz3
                    refine start_ (n := 21) (S := fun w' => w'.cell? ⟨gbz2, 0, none⟩ = some (.slice Az5 ((rd_T32 lz2 xz3).f0).length cz11) ∧ w'.cell? ⟨gbz2, 1, none⟩ = some (.slice Az6 ((rd_T32 lz2 xz3).f1).length cz12) ∧ w'.cell? ⟨gbz2, 2, none⟩ = some (.slice Az7 ((rd_T32 lz2 xz3).f2).length cz13)) (ds := []) impl_branchOk_bools0_ (by kernel_rfl) rfl (by kernel_rfl) ⟨(blk_cell BKz2.out 0).trans rfl, (blk_cell BKz2.out 1).trans rfl, (blk_cell BKz2.out 2).trans rfl⟩ (fun hHeld => ?_); refine with_tabW impl_branchOk.tab11 impl_branchOk.bits11 (fun HT_ HW_ => ?_)
                    generalize wc.drew = wz3 at BKz1 BKz2 HB hHeld ⊢
                    refine pu_ HT_ 0 76 impl_branchOk_bools1_ ?_
                    refine ta_ HT_ HW_ hHeld 1 77 impl_branchOk_bools2_ ?_
                    refine pu_ HT_ 2 78 impl_branchOk_bools3_ ?_
                    refine pu_ HT_ 3 79 impl_branchOk_bools4_ ?_
                    refine pu_ HT_ 4 80 impl_branchOk_bools5_ ?_
                    refine pu_ HT_ 5 81 impl_branchOk_bools6_ ?_
                    refine ta_ HT_ HW_ hHeld 6 82 impl_branchOk_bools7_ ?_
                    refine pu_ HT_ 7 83 impl_branchOk_bools8_ ?_
                    refine pu_ HT_ 8 84 impl_branchOk_bools9_ ?_
                    exact impl_branchOk_z6
                  subst cz19
                  have Hz1 : (impl_branchOk.l0 kjz3 lz4 lz1 (lz1.length : Int) (wrap64 (xz3 + 1)) lz1 lz2 lz3) = some r := by rw [if_pos rfl] at H; exact H
                  clear H
                  have H := Hz1
                  clear Hz1
                  have H' := Aside0.mk H
                  clear H
                  try go_wp2
                  have nz1 := Aside0.mk (blk_drew BKz1.out)
                  have nz2 := Aside0.mk (blk_drew BKz2.out)
                  have nz3 := Aside0.mk (below_drew1 HB.out)
                  clear BKz1
                  clear BKz2
                  clear HB
                  have BKz1 := nz1
                  have BKz2 := nz2
                  have HB := nz3
                  clear nz1 nz2 nz3
                  refine start_ (n := 21) (S := fun w' => w'.cell? ⟨gbz2, 0, none⟩ = some (.slice Az5 ((rd_T32 lz2 xz3).f0).length cz11) ∧ w'.cell? ⟨gbz2, 1, none⟩ = some (.slice Az6 ((rd_T32 lz2 xz3).f1).length cz12) ∧ w'.cell? ⟨gbz2, 2, none⟩ = some (.slice Az7 ((rd_T32 lz2 xz3).f2).length cz13)) (ds := []) impl_branchOk_bools0_ (by kernel_rfl) rfl (by kernel_rfl) ⟨(blk_cell BKz2.out 0).trans rfl, (blk_cell BKz2.out 1).trans rfl, (blk_cell BKz2.out 2).trans rfl⟩ (fun hHeld => ?_); refine with_tabW impl_branchOk.tab11 impl_branchOk.bits11 (fun HT_ HW_ => ?_)
                  generalize wc.drew = wz3 at BKz1 BKz2 HB hHeld ⊢
                  refine pu_ HT_ 0 76 impl_branchOk_bools1_ ?_
                  refine ta_ HT_ HW_ hHeld 1 77 impl_branchOk_bools2_ ?_
                  refine pu_ HT_ 2 78 impl_branchOk_bools3_ ?_
                  refine pu_ HT_ 3 79 impl_branchOk_bools4_ ?_
                  refine pu_ HT_ 4 80 impl_branchOk_bools5_ ?_
                  refine pu_ HT_ 5 81 impl_branchOk_bools6_ ?_
                  refine ta_ HT_ HW_ hHeld 6 82 impl_branchOk_bools7_ ?_
                  refine pu_ HT_ 7 83 impl_branchOk_bools8_ ?_
                  refine pu_ HT_ 8 84 impl_branchOk_bools9_ ?_
                  exact impl_branchOk_z22

end Go.Proofs.YtemehnmbmajnfaaDoor.P
