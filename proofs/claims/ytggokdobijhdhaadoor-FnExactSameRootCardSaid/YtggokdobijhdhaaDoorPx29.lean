-- Printed by a program over the kit's print.py (mp.sh), several laws in one namespace.
import Derived.Test.YtggokdobijhdhaaDoorPx0
import Derived.Test.YtggokdobijhdhaaDoorS
import Derived.Test.YtggokdobijhdhaaDoorPx1
import Derived.Test.YtggokdobijhdhaaDoorPx10
import Derived.Test.YtggokdobijhdhaaDoorPx28
namespace Go.Proofs.YtggokdobijhdhaaDoor.P
open Go.RowKit Go.Proofs.YtggokdobijhdhaaDoor.X Go.Proofs.YtggokdobijhdhaaDoorW.PrintWords Go.Proofs.YtggokdobijhdhaaDoorW.PrintLast Go.Proofs.YtggokdobijhdhaaDoorW.PrintMore
attribute [local go_sem] max2_int min2_int max_two min_two max_three min_three max_four min_four   -- for this text's walks alone
set_option maxHeartbeats 8000000
set_option maxRecDepth 100000
set_option linter.unusedVariables false
set_option linter.unusedSimpArgs false

attribute [local go_sem high] eqA63
mutual
def spec_SameRoot.j0 : Nat → List (S63) → List (S63) → Bool → Int → List ByteArray → List (S33) → List (S86) → List (S77) → Int → List ByteArray → List (S33) → List (S86) → List (S77) → Option (Bool)
 | 0, _, _, _, _, _, _, _, _, _, _, _, _, _ => none
 | k + 1, x5, x6, x35, x468000, x468001, x468002, x468003, x468004, x469000, x469001, x469002, x469003, x469004 => if x35 = true then (some false) else (spec_SameRoot.l0 k x5 x6 0 x468000 x468001 x468002 x468003 x468004 x469000 x469001 x469002 x469003 x469004)
def spec_SameRoot.l0 : Nat → List (S63) → List (S63) → Int → Int → List ByteArray → List (S33) → List (S86) → List (S77) → Int → List ByteArray → List (S33) → List (S86) → List (S77) → Option (Bool)
 | 0, _, _, _, _, _, _, _, _, _, _, _, _, _ => none
 | k + 1, x5, x6, x7, x468000, x468001, x468002, x468003, x468004, x469000, x469001, x469002, x469003, x469004 => if x7 < (x5.length : Int) then (if 0 ≤ x7 then (if x7 < (x6.length : Int) then (if (!((((rd_T63 x5 x7).f0).toList) == (((rd_T63 x6 x7).f0).toList)) || (!((((rd_T63 x5 x7).f1).toList) == (((rd_T63 x6 x7).f1).toList)) || (!(((rd_T63 x5 x7).f2) == ((rd_T63 x6 x7).f2)) || (!(((rd_T63 x5 x7).f3) == ((rd_T63 x6 x7).f3)))))) = true then (some false) else (spec_SameRoot.l0 k x5 x6 (wrap64 (x7 + 1)) x468000 x468001 x468002 x468003 x468004 x469000 x469001 x469002 x469003 x469004)) else (none)) else (none)) else (spec_SameRoot.l1 k 0 x468000 x468001 x468002 x468003 x468004 x469000 x469001 x469002 x469003 x469004)
def spec_SameRoot.l1 : Nat → Int → Int → List ByteArray → List (S33) → List (S86) → List (S77) → Int → List ByteArray → List (S33) → List (S86) → List (S77) → Option (Bool)
 | 0, _, _, _, _, _, _, _, _, _, _, _ => none
 | k + 1, x8, x468000, x468001, x468002, x468003, x468004, x469000, x469001, x469002, x469003, x469004 => if x8 < (x468004.length : Int) then (if 0 ≤ x8 then (if x8 < (x469004.length : Int) then (if ((rd_T77 x468004 x8).f0).toList = ((rd_T77 x469004 x8).f0).toList then ((spec_l1Same.f ((rd_T77 x468004 x8).f1) ((rd_T77 x469004 x8).f1)).bind fun t481 => (if t481 = true then (if ((rd_T77 x468004 x8).f2) = ((rd_T77 x469004 x8).f2) then (spec_SameRoot.l1 k (wrap64 (x8 + 1)) x468000 x468001 x468002 x468003 x468004 x469000 x469001 x469002 x469003 x469004) else (some false)) else (some false))) else (some false)) else (none)) else (none)) else (some true)
end
def spec_SameRoot.f (k : Nat) (a0_0 : Int) (l0_1 : List ByteArray) (l0_2 : List (S33)) (l0_3 : List (S86)) (l0_4 : List (S77)) (a1_0 : Int) (l1_1 : List ByteArray) (l1_2 : List (S33)) (l1_3 : List (S86)) (l1_4 : List (S77)) : Option (Bool) := (spec_Entries.f k l0_1 l0_2 l0_3).bind fun t469 => ((spec_Entries.f k l1_1 l1_2 l1_3).bind fun t472 => (if a0_0 = a1_0 then (if (t469.length : Int) = (t472.length : Int) then (spec_SameRoot.j0 k t469 t472 ((l0_4.length : Int) != (l1_4.length : Int)) a0_0 l0_1 l0_2 l0_3 l0_4 a1_0 l1_1 l1_2 l1_3 l1_4) else (spec_SameRoot.j0 k t469 t472 true a0_0 l0_1 l0_2 l0_3 l0_4 a1_0 l1_1 l1_2 l1_3 l1_4)) else (spec_SameRoot.j0 k t469 t472 true a0_0 l0_1 l0_2 l0_3 l0_4 a1_0 l1_1 l1_2 l1_3 l1_4)))
def spec_SameRoot.T8 : Bool × List (List Nat × List Nat) := (true, [([], []), ([], []), ([0, 1], [0, 1]), ([2], [2]), ([], []), ([], []), ([4, 5], [4, 5]), ([6], [6]), ([3, 7], [3, 7])])
def spec_SameRoot.B8 : List Nat := [0, 0, 3, 7, 0, 0, 48, 112, 255]
theorem spec_SameRoot.tab8 : rtab .any (opsOf Tryd.f20 8) = spec_SameRoot.T8 := by kernel_rfl
theorem spec_SameRoot.bits8 : waitsOk spec_SameRoot.T8.2 spec_SameRoot.B8 = true := by kernel_rfl
def spec_SameRoot.T13 : Bool × List (List Nat × List Nat) := (true, [([], []), ([0], [0]), ([], []), ([1, 2], [1, 2]), ([3], [3]), ([4], [4]), ([], []), ([6], [6]), ([], []), ([7, 8], [7, 8]), ([9], [9]), ([10], [10]), ([5, 11], [5, 11]), ([12], [12]), ([13], [13]), ([14, 13], [13, 14]), ([13], [13]), ([15, 16, 13], [13, 15, 16]), ([17, 13], [13, 17]), ([18, 13], [13, 18]), ([13], [13]), ([20, 13], [13, 20]), ([13], [13]), ([21, 22, 13], [13, 21, 22]), ([23, 13], [13, 23]), ([24, 13], [13, 24]), ([19, 25, 13, 13], [13, 19, 25]), ([26, 13], [13, 26]), ([13, 27], [13, 27]), ([28, 26], [28]), ([29], [29]), ([30, 29], [29, 30]), ([29], [29]), ([31, 32, 29], [29, 31, 32]), ([33, 29], [29, 33]), ([34, 29], [29, 34]), ([29], [29]), ([36, 29], [29, 36]), ([29], [29]), ([37, 38, 29], [29, 37, 38]), ([39, 29], [29, 39]), ([40, 29], [29, 40]), ([35, 41, 29], [29, 35, 41]), ([29, 42], [29, 42])])
def spec_SameRoot.B13 : List Nat := [0, 1, 0, 7, 15, 31, 0, 64, 0, 448, 960, 1984, 4095, 8191, 16383, 32767, 16383, 131071, 262143, 524287, 16383, 1064959, 16383, 7356415, 15745023, 32522239, 67108863, 134217727, 268435455, 536870911, 1073741823, 2147483647, 1073741823, 8589934591, 17179869183, 34359738367, 1073741823, 69793218559, 1073741823, 482110078975, 1031865892863, 2131377520639, 4398046511103, 8796093022207]
theorem spec_SameRoot.tab13 : rtab .any (opsOf Tryd.f20 13) = spec_SameRoot.T13 := by kernel_rfl
theorem spec_SameRoot.bits13 : waitsOk spec_SameRoot.T13.2 spec_SameRoot.B13 = true := by kernel_rfl
theorem spec_SameRoot_z1 {p : Prop} (h : p := by
 go_meet
 case rel => exact ⟨_, (true), rs_, H', ⟨by first | omega | exact Nat.le_refl _⟩, ⟨lR_ (Kd.R_mono HOz1.out (fun _ hk => hk.2))⟩, ⟨lR_ (Kd.R_mono HOz2.out (fun _ hk => hk.2))⟩, ⟨bk_⟩, ⟨bk_⟩, ⟨be_⟩⟩) : p := h
theorem spec_SameRoot_z0 {p : Prop} (h : p := by
 go_wp2
 exact spec_SameRoot_z1) : p := h
theorem spec_SameRoot.calls (k : Nat) (a0_0 : Int) (A0_1 : Option Addr) (c0_1 : Nat) (l0_1 : List ByteArray) (A0_2 : Option Addr) (c0_2 : Nat) (l0_2 : List (S33)) (A0_3 : Option Addr) (c0_3 : Nat) (l0_3 : List (S86)) (A0_4 : Option Addr) (c0_4 : Nat) (l0_4 : List (S77)) (a1_0 : Int) (A1_1 : Option Addr) (c1_1 : Nat) (l1_1 : List ByteArray) (A1_2 : Option Addr) (c1_2 : Nat) (l1_2 : List (S33)) (A1_3 : Option Addr) (c1_3 : Nat) (l1_3 : List (S86)) (A1_4 : Option Addr) (c1_4 : Nat) (l1_4 : List (S77)) (r : Bool) (w : World) (hr0_1 : Kd.C Kd.string w A0_1 l0_1.length l0_1) (hc0_1 : l0_1.length ≤ c0_1) (hr0_2 : Kd.C k33 w A0_2 l0_2.length l0_2) (hc0_2 : l0_2.length ≤ c0_2) (hr0_3 : Kd.C k86 w A0_3 l0_3.length l0_3) (hc0_3 : l0_3.length ≤ c0_3) (hr0_4 : Kd.C k77 w A0_4 l0_4.length l0_4) (hc0_4 : l0_4.length ≤ c0_4) (hr1_1 : Kd.C Kd.string w A1_1 l1_1.length l1_1) (hc1_1 : l1_1.length ≤ c1_1) (hr1_2 : Kd.C k33 w A1_2 l1_2.length l1_2) (hc1_2 : l1_2.length ≤ c1_2) (hr1_3 : Kd.C k86 w A1_3 l1_3.length l1_3) (hc1_3 : l1_3.length ≤ c1_3) (hr1_4 : Kd.C k77 w A1_4 l1_4.length l1_4) (hc1_4 : l1_4.length ≤ c1_4) (h : spec_SameRoot.f k a0_0 l0_1 l0_2 l0_3 l0_4 a1_0 l1_1 l1_2 l1_3 l1_4 = some r) :
  Calls Tryd.prog 20 #[.agg #[.int .i64 a0_0, .slice A0_1 l0_1.length c0_1, .slice A0_2 l0_2.length c0_2, .slice A0_3 l0_3.length c0_3, .slice A0_4 l0_4.length c0_4], .agg #[.int .i64 a1_0, .slice A1_1 l1_1.length c1_1, .slice A1_2 l1_2.length c1_2, .slice A1_3 l1_3.length c1_3, .slice A1_4 l1_4.length c1_4]] w fun e w' => e = .returned (.bool r) ∧ Below w.heap.size w w' := by
 have huz1 := Tryd.underlying47
 have huz2 := Tryd.underlying33
 have huz3 := Tryd.underlying63
 have HRz1 := Aside0.mk hr0_1
 have HCz1 := Aside0.mk hc0_1
 clear hr0_1 hc0_1
 have HRz2 := Aside0.mk hr0_2
 have HCz2 := Aside0.mk hc0_2
 clear hr0_2 hc0_2
 have HRz3 := Aside0.mk hr0_3
 have HCz3 := Aside0.mk hc0_3
 clear hr0_3 hc0_3
 have HRz4 := Aside0.mk hr0_4
 have HCz4 := Aside0.mk hc0_4
 clear hr0_4 hc0_4
 have HRz5 := Aside0.mk hr1_1
 have HCz5 := Aside0.mk hc1_1
 clear hr1_1 hc1_1
 have HRz6 := Aside0.mk hr1_2
 have HCz6 := Aside0.mk hc1_2
 clear hr1_2 hc1_2
 have HRz7 := Aside0.mk hr1_3
 have HCz7 := Aside0.mk hc1_3
 clear hr1_3 hc1_3
 have HRz8 := Aside0.mk hr1_4
 have HCz8 := Aside0.mk hc1_4
 clear hr1_4 hc1_4
 have HB := Aside0.mk (Below.refl w.heap.size w)
 have H : ((spec_Entries.f k l0_1 l0_2 l0_3).bind fun t469 => ((spec_Entries.f k l1_1 l1_2 l1_3).bind fun t472 => (if a0_0 = a1_0 then (if (t469.length : Int) = (t472.length : Int) then (spec_SameRoot.j0 k t469 t472 ((l0_4.length : Int) != (l1_4.length : Int)) a0_0 l0_1 l0_2 l0_3 l0_4 a1_0 l1_1 l1_2 l1_3 l1_4) else (spec_SameRoot.j0 k t469 t472 true a0_0 l0_1 l0_2 l0_3 l0_4 a1_0 l1_1 l1_2 l1_3 l1_4)) else (spec_SameRoot.j0 k t469 t472 true a0_0 l0_1 l0_2 l0_3 l0_4 a1_0 l1_1 l1_2 l1_3 l1_4)))) = some r := h
 clear h
 replace H := bo_ H
 obtain ⟨tz1, Az2, H⟩ := H
 (try dsimp only at H)
 replace H := bo_ H
 obtain ⟨tz2, Az4, H⟩ := H
 (try dsimp only at H)
 have HCz9 := Aside0.mk H
 clear H
 go_enter Tryd.func20, Tryd.ntmps20
 go_upto_region 3 with (first | ((with_reducible refine gate_dst (N := 2) rfl ?_); (try (refine gate_guard (by rfl) ?_; dsimp only)); refine box_event ?hg (N := 2) ?hd (cs := #[.int .i64 a0_0, .slice A0_1 l0_1.length c0_1, .slice A0_2 l0_2.length c0_2, .slice A0_3 l0_3.length c0_3, .slice A0_4 l0_4.length c0_4]) (t := 47) ?hr ?_; (case hd => rfl); (case hg => rfl); (case hr => first | (go_simp; done) | (go_simp; rfl)); intro gbz1 hg wz1 hbox hb; have BKz1 := Aside0.mk (hbox); have GWz1 := Aside0.mk ((sz_ : w.heap.size ≤ gbz1)); have GEz1 := Aside0.mk ((sz_ : w.heap.size ≤ gbz1)); replace HB := bw_ hb; clear hb hbox hg) | ((with_reducible refine gate_dst (N := 3) rfl ?_); (try (refine gate_guard (by rfl) ?_; dsimp only)); refine box_event ?hg (N := 3) ?hd (cs := #[.int .i64 a1_0, .slice A1_1 l1_1.length c1_1, .slice A1_2 l1_2.length c1_2, .slice A1_3 l1_3.length c1_3, .slice A1_4 l1_4.length c1_4]) (t := 47) ?hr ?_; (case hd => rfl); (case hg => rfl); (case hr => first | (go_simp; done) | (go_simp; rfl)); intro gbz2 hg wz2 hbox hb; have BKz2 := Aside0.mk (hbox); have GWz2 := Aside0.mk ((sz_ : w.heap.size ≤ gbz2)); have GEz2 := Aside0.mk ((sz_ : w.heap.size ≤ gbz2)); replace HB := bw_ hb; have NBz1 := Aside0.mk ((by rw [hg]; exact Nat.ne_of_lt (blk_lt (g := gbz1) (o := .cells #[.int .i64 a0_0, .slice A0_1 l0_1.length c0_1, .slice A0_2 l0_2.length c0_2, .slice A0_3 l0_3.length c0_3, .slice A0_4 l0_4.length c0_4] 47 (0, 0)) bk_) : gbz1 ≠ gbz2)); have NBz2 := Aside0.mk ((by rw [hg]; exact Nat.ne_of_gt (blk_lt (g := gbz1) (o := .cells #[.int .i64 a0_0, .slice A0_1 l0_1.length c0_1, .slice A0_2 l0_2.length c0_2, .slice A0_3 l0_3.length c0_3, .slice A0_4 l0_4.length c0_4] 47 (0, 0)) bk_) : gbz2 ≠ gbz1)); replace BKz1 := kb_ BKz1 hb; clear hb hbox hg; have hnbz1 := NBz1.out; have hncz1 := NBz2.out; have hczz1 : wz2.cell? ⟨gbz1, 0, none⟩ = some (.int .i64 a0_0) := bc_ BKz1 0; have hczz2 : wz2.cell? ⟨gbz1, 1, none⟩ = some (.slice A0_1 l0_1.length c0_1) := bc_ BKz1 1; have hczz3 : wz2.cell? ⟨gbz1, 2, none⟩ = some (.slice A0_2 l0_2.length c0_2) := bc_ BKz1 2; have hczz4 : wz2.cell? ⟨gbz1, 3, none⟩ = some (.slice A0_3 l0_3.length c0_3) := bc_ BKz1 3; have hczz5 : wz2.cell? ⟨gbz1, 4, none⟩ = some (.slice A0_4 l0_4.length c0_4) := bc_ BKz1 4; have hfzz1 := blk_frozen BKz1.out 0; have hfzz2 := blk_frozen BKz1.out 1; have hfzz3 := blk_frozen BKz1.out 2; have hfzz4 := blk_frozen BKz1.out 3; have hfzz5 := blk_frozen BKz1.out 4) | ((with_reducible refine gate_callee (f := 7) rfl ?_); refine ca_ 11 Tryd.func7 #[.agg #[.slice A0_1 l0_1.length c0_1, .slice A0_2 l0_2.length c0_2, .slice A0_3 l0_3.length c0_3]] ?_; (with_reducible refine (spec_Entries.calls k _ _ l0_1 _ _ l0_2 _ _ l0_3 tz1 _ ?side1 ?side2 ?side3 ?side4 ?side5 ?side6 Az2.out).mono ?_); (case side1 => exact Kd.C_below HRz1.out be_); (case side2 => exact HCz1.out); (case side3 => exact Kd.C_below HRz2.out be_); (case side4 => exact HCz2.out); (case side5 => exact Kd.C_below HRz3.out be_); (case side6 => exact HCz3.out); rintro e wz3 ⟨vz1, rfl, hoz1, hb⟩; refine ⟨_, rfl, ?_⟩; have nz1 := Aside0.mk (Kd.R_lower hoz1 (below_size be_)); have nz2 := Aside0.mk (blk_below (g := gbz1) (o := .cells #[.int .i64 a0_0, .slice A0_1 l0_1.length c0_1, .slice A0_2 l0_2.length c0_2, .slice A0_3 l0_3.length c0_3, .slice A0_4 l0_4.length c0_4] 47 (0, 0)) bk_ hb); have nz3 := Aside0.mk (blk_below (g := gbz2) (o := .cells #[.int .i64 a1_0, .slice A1_1 l1_1.length c1_1, .slice A1_2 l1_2.length c1_2, .slice A1_3 l1_3.length c1_3, .slice A1_4 l1_4.length c1_4] 47 (0, 0)) bk_ hb); have nz4 := bw_ hb; clear BKz1 BKz2 HB; have HOz1 := nz1; have BKz1 := nz2; have BKz2 := nz3; have HB := nz4; clear nz1 nz2 nz3 nz4 hb hoz1; have hczz6 : wz3.cell? ⟨gbz2, 0, none⟩ = some (.int .i64 a1_0) := bc_ BKz2 0; have hczz7 : wz3.cell? ⟨gbz2, 1, none⟩ = some (.slice A1_1 l1_1.length c1_1) := bc_ BKz2 1; have hczz8 : wz3.cell? ⟨gbz2, 2, none⟩ = some (.slice A1_2 l1_2.length c1_2) := bc_ BKz2 2; have hczz9 : wz3.cell? ⟨gbz2, 3, none⟩ = some (.slice A1_3 l1_3.length c1_3) := bc_ BKz2 3; have hczz10 : wz3.cell? ⟨gbz2, 4, none⟩ = some (.slice A1_4 l1_4.length c1_4) := bc_ BKz2 4; have hfzz6 := blk_frozen BKz2.out 0; have hfzz7 := blk_frozen BKz2.out 1; have hfzz8 := blk_frozen BKz2.out 2; have hfzz9 := blk_frozen BKz2.out 3; have hfzz10 := blk_frozen BKz2.out 4) | ((with_reducible refine gate_callee (f := 7) rfl ?_); refine ca_ 14 Tryd.func7 #[.agg #[.slice A1_1 l1_1.length c1_1, .slice A1_2 l1_2.length c1_2, .slice A1_3 l1_3.length c1_3]] ?_; (with_reducible refine (spec_Entries.calls k _ _ l1_1 _ _ l1_2 _ _ l1_3 tz2 _ ?side1 ?side2 ?side3 ?side4 ?side5 ?side6 Az4.out).mono ?_); (case side1 => exact Kd.C_below HRz5.out be_); (case side2 => exact HCz5.out); (case side3 => exact Kd.C_below HRz6.out be_); (case side4 => exact HCz6.out); (case side5 => exact Kd.C_below HRz7.out be_); (case side6 => exact HCz7.out); rintro e wz4 ⟨vz2, rfl, hoz1, hb⟩; refine ⟨_, rfl, ?_⟩; have nz1 := eR_ HOz1 (Kd.R_base hoz1) hb; have nz2 := Aside0.mk (Kd.R_lower (Kd.R_new' hoz1 (Kd.R_lt (lR_ HOz1.out))) (below_size be_)); have nz3 := Aside0.mk (blk_below (g := gbz1) (o := .cells #[.int .i64 a0_0, .slice A0_1 l0_1.length c0_1, .slice A0_2 l0_2.length c0_2, .slice A0_3 l0_3.length c0_3, .slice A0_4 l0_4.length c0_4] 47 (0, 0)) bk_ hb); have nz4 := Aside0.mk (blk_below (g := gbz2) (o := .cells #[.int .i64 a1_0, .slice A1_1 l1_1.length c1_1, .slice A1_2 l1_2.length c1_2, .slice A1_3 l1_3.length c1_3, .slice A1_4 l1_4.length c1_4] 47 (0, 0)) bk_ hb); have nz5 := bw_ hb; clear HOz1 BKz1 BKz2 HB; have HOz1 := nz1; have HOz2 := nz2; have BKz1 := nz3; have BKz2 := nz4; have HB := nz5; clear nz1 nz2 nz3 nz4 nz5 hb hoz1))
 (try simp only [Act.put, List.setIfInBounds_toArray, List.set_cons_zero, List.set_cons_succ])
 go_cut [35] (fun v35 wc => ∃ (kq : Nat) (x35_4 : Bool), v35 = .bool x35_4 ∧ Aside0 (spec_SameRoot.j0 kq tz1 tz2 x35_4 a0_0 l0_1 l0_2 l0_3 l0_4 a1_0 l1_1 l1_2 l1_3 l1_4 = some r) ∧ Aside0 (kq ≤ k) ∧ Aside0 (Kd.R k63 63 wc w.heap.size (fun k_ => some k_ ≠ (vz2 : Value).ownBlock) vz1 tz1) ∧ Aside0 (Kd.R k63 63 wc w.heap.size (fun k_ => some k_ ≠ (vz1 : Value).ownBlock) vz2 tz2) ∧ Aside0 (wc.heap[gbz1]? = some (.cells #[.int .i64 a0_0, (.slice A0_1 l0_1.length c0_1), (.slice A0_2 l0_2.length c0_2), (.slice A0_3 l0_3.length c0_3), (.slice A0_4 l0_4.length c0_4)] 47 (0, 0))) ∧ Aside0 (wc.heap[gbz2]? = some (.cells #[.int .i64 a1_0, (.slice A1_1 l1_1.length c1_1), (.slice A1_2 l1_2.length c1_2), (.slice A1_3 l1_3.length c1_3), (.slice A1_4 l1_4.length c1_4)] 47 (0, 0))) ∧ Aside0 (Below w.heap.size w wc))
 case first =>
  have H := HCz9.out
  clear HCz9
  by_cases cz1 : a0_0 = a1_0
  rotate_left
  ·rw [if_neg cz1] at H
   have cz2 : (a0_0 == a1_0) = false := beq_eq_false_iff_ne.mpr cz1
   have cz3 : (a0_0 != a1_0) = true := bne_iff_ne.mpr cz1
   (first | rw [cz2] | (simp only [i64_w, i32_w]; rw [cz2]) | skip)
   have H' := Aside0.mk H
   clear H
   have hnbz2 := NBz1.out
   have hncz2 := NBz2.out
   have hczz11 : wz4.cell? ⟨gbz1, 0, none⟩ = some (.int .i64 a0_0) := bc_ BKz1 0
   have hczz12 : wz4.cell? ⟨gbz1, 1, none⟩ = some (.slice A0_1 l0_1.length c0_1) := bc_ BKz1 1
   have hczz13 : wz4.cell? ⟨gbz1, 2, none⟩ = some (.slice A0_2 l0_2.length c0_2) := bc_ BKz1 2
   have hczz14 : wz4.cell? ⟨gbz1, 3, none⟩ = some (.slice A0_3 l0_3.length c0_3) := bc_ BKz1 3
   have hczz15 : wz4.cell? ⟨gbz1, 4, none⟩ = some (.slice A0_4 l0_4.length c0_4) := bc_ BKz1 4
   have hfzz11 := blk_frozen BKz1.out 0
   have hfzz12 := blk_frozen BKz1.out 1
   have hfzz13 := blk_frozen BKz1.out 2
   have hfzz14 := blk_frozen BKz1.out 3
   have hfzz15 := blk_frozen BKz1.out 4
   have hczz16 : wz4.cell? ⟨gbz2, 0, none⟩ = some (.int .i64 a1_0) := bc_ BKz2 0
   have hczz17 : wz4.cell? ⟨gbz2, 1, none⟩ = some (.slice A1_1 l1_1.length c1_1) := bc_ BKz2 1
   have hczz18 : wz4.cell? ⟨gbz2, 2, none⟩ = some (.slice A1_2 l1_2.length c1_2) := bc_ BKz2 2
   have hczz19 : wz4.cell? ⟨gbz2, 3, none⟩ = some (.slice A1_3 l1_3.length c1_3) := bc_ BKz2 3
   have hczz20 : wz4.cell? ⟨gbz2, 4, none⟩ = some (.slice A1_4 l1_4.length c1_4) := bc_ BKz2 4
   have hfzz16 := blk_frozen BKz2.out 0
   have hfzz17 := blk_frozen BKz2.out 1
   have hfzz18 := blk_frozen BKz2.out 2
   have hfzz19 := blk_frozen BKz2.out 3
   have hfzz20 := blk_frozen BKz2.out 4
   exact spec_SameRoot_z0
  rw [if_pos cz1] at H
  have cz2 : (a0_0 == a1_0) = true := beq_iff_eq.mpr cz1
  have cz3 : (a0_0 != a1_0) = false := bne_eq_false_iff_eq.mpr cz1
  clear cz1
  (first | rw [cz2] | (simp only [i64_w, i32_w]; rw [cz2]) | skip)
  by_cases cz4 : (tz1.length : Int) = (tz2.length : Int)
  rotate_left
  ·rw [if_neg cz4] at H
   have cz5 : ((tz1.length : Int) == (tz2.length : Int)) = false := beq_eq_false_iff_ne.mpr cz4
   have cz6 : ((tz1.length : Int) != (tz2.length : Int)) = true := bne_iff_ne.mpr cz4
   have cz7 : (tz1.length == tz2.length) = false := by first | simpa using cz4 | (simp at cz4 ⊢; omega)
   have H' := Aside0.mk H
   clear H
   have hnbz2 := NBz1.out
   have hncz2 := NBz2.out
   have hczz11 : wz4.cell? ⟨gbz1, 0, none⟩ = some (.int .i64 a0_0) := bc_ BKz1 0
   have hczz12 : wz4.cell? ⟨gbz1, 1, none⟩ = some (.slice A0_1 l0_1.length c0_1) := bc_ BKz1 1
   have hczz13 : wz4.cell? ⟨gbz1, 2, none⟩ = some (.slice A0_2 l0_2.length c0_2) := bc_ BKz1 2
   have hczz14 : wz4.cell? ⟨gbz1, 3, none⟩ = some (.slice A0_3 l0_3.length c0_3) := bc_ BKz1 3
   have hczz15 : wz4.cell? ⟨gbz1, 4, none⟩ = some (.slice A0_4 l0_4.length c0_4) := bc_ BKz1 4
   have hfzz11 := blk_frozen BKz1.out 0
   have hfzz12 := blk_frozen BKz1.out 1
   have hfzz13 := blk_frozen BKz1.out 2
   have hfzz14 := blk_frozen BKz1.out 3
   have hfzz15 := blk_frozen BKz1.out 4
   have hczz16 : wz4.cell? ⟨gbz2, 0, none⟩ = some (.int .i64 a1_0) := bc_ BKz2 0
   have hczz17 : wz4.cell? ⟨gbz2, 1, none⟩ = some (.slice A1_1 l1_1.length c1_1) := bc_ BKz2 1
   have hczz18 : wz4.cell? ⟨gbz2, 2, none⟩ = some (.slice A1_2 l1_2.length c1_2) := bc_ BKz2 2
   have hczz19 : wz4.cell? ⟨gbz2, 3, none⟩ = some (.slice A1_3 l1_3.length c1_3) := bc_ BKz2 3
   have hczz20 : wz4.cell? ⟨gbz2, 4, none⟩ = some (.slice A1_4 l1_4.length c1_4) := bc_ BKz2 4
   have hfzz16 := blk_frozen BKz2.out 0
   have hfzz17 := blk_frozen BKz2.out 1
   have hfzz18 := blk_frozen BKz2.out 2
   have hfzz19 := blk_frozen BKz2.out 3
   have hfzz20 := blk_frozen BKz2.out 4
   obtain ⟨Aoz1, coz1, eoz1⟩ := Kd.R_slice HOz1.out
   subst eoz1
   obtain ⟨Aoz2, coz2, eoz2⟩ := Kd.R_slice HOz2.out
   subst eoz2
   exact spec_SameRoot_z0
  rw [if_pos cz4] at H
  have cz5 : ((tz1.length : Int) == (tz2.length : Int)) = true := beq_iff_eq.mpr cz4
  have cz6 : ((tz1.length : Int) != (tz2.length : Int)) = false := bne_eq_false_iff_eq.mpr cz4
  have cz7 : (tz1.length == tz2.length) = true := by first | simpa using cz4 | (simp at cz4 ⊢; omega)
  clear cz4
  have H' := Aside0.mk H
  clear H
  have hnbz2 := NBz1.out
  have hncz2 := NBz2.out
  have hczz11 : wz4.cell? ⟨gbz1, 0, none⟩ = some (.int .i64 a0_0) := bc_ BKz1 0
  have hczz12 : wz4.cell? ⟨gbz1, 1, none⟩ = some (.slice A0_1 l0_1.length c0_1) := bc_ BKz1 1
  have hczz13 : wz4.cell? ⟨gbz1, 2, none⟩ = some (.slice A0_2 l0_2.length c0_2) := bc_ BKz1 2
  have hczz14 : wz4.cell? ⟨gbz1, 3, none⟩ = some (.slice A0_3 l0_3.length c0_3) := bc_ BKz1 3
  have hczz15 : wz4.cell? ⟨gbz1, 4, none⟩ = some (.slice A0_4 l0_4.length c0_4) := bc_ BKz1 4
  have hfzz11 := blk_frozen BKz1.out 0
  have hfzz12 := blk_frozen BKz1.out 1
  have hfzz13 := blk_frozen BKz1.out 2
  have hfzz14 := blk_frozen BKz1.out 3
  have hfzz15 := blk_frozen BKz1.out 4
  have hczz16 : wz4.cell? ⟨gbz2, 0, none⟩ = some (.int .i64 a1_0) := bc_ BKz2 0
  have hczz17 : wz4.cell? ⟨gbz2, 1, none⟩ = some (.slice A1_1 l1_1.length c1_1) := bc_ BKz2 1
  have hczz18 : wz4.cell? ⟨gbz2, 2, none⟩ = some (.slice A1_2 l1_2.length c1_2) := bc_ BKz2 2
  have hczz19 : wz4.cell? ⟨gbz2, 3, none⟩ = some (.slice A1_3 l1_3.length c1_3) := bc_ BKz2 3
  have hczz20 : wz4.cell? ⟨gbz2, 4, none⟩ = some (.slice A1_4 l1_4.length c1_4) := bc_ BKz2 4
  have hfzz16 := blk_frozen BKz2.out 0
  have hfzz17 := blk_frozen BKz2.out 1
  have hfzz18 := blk_frozen BKz2.out 2
  have hfzz19 := blk_frozen BKz2.out 3
  have hfzz20 := blk_frozen BKz2.out 4
  obtain ⟨Aoz1, coz1, eoz1⟩ := Kd.R_slice HOz1.out
  subst eoz1
  obtain ⟨Aoz2, coz2, eoz2⟩ := Kd.R_slice HOz2.out
  subst eoz2
  go_wp2
  go_meet
  case rel => exact ⟨_, (((l0_4.length : Int) != (l1_4.length : Int))), rs_, H', ⟨by first | omega | exact Nat.le_refl _⟩, ⟨lR_ (Kd.R_mono HOz1.out (fun _ hk => hk.2))⟩, ⟨lR_ (Kd.R_mono HOz2.out (fun _ hk => hk.2))⟩, ⟨bk_⟩, ⟨bk_⟩, ⟨be_⟩⟩
 case rest =>
  clear HCz9
  obtain ⟨kq, xz1, rfl, HA, HJz1, HO_5, HO_6, BKz1, BKz2, HB⟩ := hcut
  cases kq with
  | zero => exact absurd HA.out (by simp [spec_SameRoot.j0])
  | succ kjz1 =>
   have H := HA.out
   clear HA
   simp only [spec_SameRoot.j0] at H
   by_cases cz1 : xz1 = true
   ·subst cz1
    replace H := bt_ H
    obtain rfl := Option.some.inj H
    go_wp2
    go_ret
    exact ⟨er_, be_⟩
   replace cz1 := Bool.eq_false_iff.mpr cz1
   subst cz1
   replace H := bf_ H
   have H' := Aside0.mk H
   clear H
   go_wp2
   go_loopg [7] kjz1 (fun kq v7 w' => ∃ (x7_2 : Int), v7 = .int .i64 x7_2 ∧ Aside0 (spec_SameRoot.l0 kq tz1 tz2 x7_2 a0_0 l0_1 l0_2 l0_3 l0_4 a1_0 l1_1 l1_2 l1_3 l1_4 = some r) ∧ Aside0 (kq ≤ kjz1) ∧ Aside0 (Kd.R k63 63 w' w.heap.size (fun k_ => some k_ ≠ (vz2 : Value).ownBlock) vz1 tz1) ∧ Aside0 (Kd.R k63 63 w' w.heap.size (fun k_ => some k_ ≠ (vz1 : Value).ownBlock) vz2 tz2) ∧ Aside0 (w'.heap[gbz1]? = some (.cells #[.int .i64 a0_0, (.slice A0_1 l0_1.length c0_1), (.slice A0_2 l0_2.length c0_2), (.slice A0_3 l0_3.length c0_3), (.slice A0_4 l0_4.length c0_4)] 47 (0, 0))) ∧ Aside0 (w'.heap[gbz2]? = some (.cells #[.int .i64 a1_0, (.slice A1_1 l1_1.length c1_1), (.slice A1_2 l1_2.length c1_2), (.slice A1_3 l1_3.length c1_3), (.slice A1_4 l1_4.length c1_4)] 47 (0, 0))) ∧ Aside0 (Below w.heap.size w w'))
   case atStart => exact ⟨(0), rs_, H', ⟨Nat.le_refl _⟩, ⟨lR_ HO_5.out⟩, ⟨lR_ HO_6.out⟩, ⟨bk_⟩, ⟨bk_⟩, ⟨be_⟩⟩
   case round =>
    clear H'
    obtain ⟨xz2, rfl, HA, HKz1, HO_5, HO_6, BKz1, BKz2, HB⟩ := hrel
    cases gk with
    | zero => exact absurd HA.out (by simp [spec_SameRoot.l0])
    | succ kz1 =>
     have H := HA.out
     clear HA
     simp only [spec_SameRoot.l0] at H
     by_cases cz2 : xz2 < (tz1.length : Int)
     ·rw [if_pos cz2] at H
      have cz3 : decide (xz2 < (tz1.length : Int)) = true := decide_eq_true cz2
      clear cz2
      by_cases cz4 : 0 ≤ xz2
      rotate_left
      ·rw [if_neg cz4] at H
       exact absurd H (by simp)
      rw [if_pos cz4] at H
      have cz5 : decide (0 ≤ xz2) = true := decide_eq_true cz4
      clear cz4
      by_cases cz6 : xz2 < (tz2.length : Int)
      rotate_left
      ·rw [if_neg cz6] at H
       exact absurd H (by simp)
      rw [if_pos cz6] at H
      have cz7 : decide (xz2 < (tz2.length : Int)) = true := decide_eq_true cz6
      clear cz6
      by_cases cz8 : (!((((rd_T63 tz1 xz2).f0).toList) == (((rd_T63 tz2 xz2).f0).toList)) || (!((((rd_T63 tz1 xz2).f1).toList) == (((rd_T63 tz2 xz2).f1).toList)) || (!(((rd_T63 tz1 xz2).f2) == ((rd_T63 tz2 xz2).f2)) || (!(((rd_T63 tz1 xz2).f3) == ((rd_T63 tz2 xz2).f3)))))) = true
      ·rw [if_pos cz8] at H
       have cz9 : (!((((rd_T63 tz1 xz2).f0).toList) == (((rd_T63 tz2 xz2).f0).toList)) || (!((((rd_T63 tz1 xz2).f1).toList) == (((rd_T63 tz2 xz2).f1).toList)) || (!(((rd_T63 tz1 xz2).f2) == ((rd_T63 tz2 xz2).f2)) || (!(((rd_T63 tz1 xz2).f3) == ((rd_T63 tz2 xz2).f3)))))) = true := cz8
       clear cz8
       obtain rfl := Option.some.inj H
       obtain ⟨Aoz1, coz1, eoz1⟩ := Kd.R_slice HO_5.out
       subst eoz1
       try go_wp2
       replace HO_5 := Aside0.mk (Kd.R_drew HO_5.out)
       replace HO_6 := Aside0.mk (Kd.R_drew HO_6.out)
       replace BKz1 := Aside0.mk (blk_drew BKz1.out)
       replace BKz2 := Aside0.mk (blk_drew BKz2.out)
       replace HB := Aside0.mk (below_drew1 HB.out)
       obtain ⟨pz1, qz1, adz1, ez1, hxz1, hxz2, hxz3, hxz4⟩ := aa_ (at_T63 (Kd.R_reads' HO_5.out).2.2 xz2)
       cases ez1
       obtain ⟨Aoz2, coz2, eoz2⟩ := Kd.R_slice HO_6.out
       (first | subst eoz2 | (injection eoz2 with f1_ f2_ f3_; have fz1 := f1_.symm; have fz2 := f3_.symm; clear f1_ f2_ f3_; subst fz1; subst fz2))
       obtain ⟨pz2, qz2, adz2, ez2, hxz5, hxz6, hxz7, hxz8⟩ := aa_ (at_T63 (Kd.R_reads' HO_6.out).2.2 xz2)
       cases ez2
       refine start_ (n := 9) (S := fun w' => w'.cell? (adz1.add ((xz2).toNat * 4)) = some (.string ((rd_T63 tz1 xz2).f0)) ∧ w'.cell? ⟨(adz1.add ((xz2).toNat * 4)).block, (adz1.add ((xz2).toNat * 4)).off + 1, none⟩ = some (.string ((rd_T63 tz1 xz2).f1)) ∧ w'.cell? ⟨(adz1.add ((xz2).toNat * 4)).block, (adz1.add ((xz2).toNat * 4)).off + 2, none⟩ = some (.int .i64 ((rd_T63 tz1 xz2).f2)) ∧ w'.cell? ⟨(adz1.add ((xz2).toNat * 4)).block, (adz1.add ((xz2).toNat * 4)).off + 3, none⟩ = some (.int .i64 ((rd_T63 tz1 xz2).f3)) ∧ w'.cell? (adz2.add ((xz2).toNat * 4)) = some (.string ((rd_T63 tz2 xz2).f0)) ∧ w'.cell? ⟨(adz2.add ((xz2).toNat * 4)).block, (adz2.add ((xz2).toNat * 4)).off + 1, none⟩ = some (.string ((rd_T63 tz2 xz2).f1)) ∧ w'.cell? ⟨(adz2.add ((xz2).toNat * 4)).block, (adz2.add ((xz2).toNat * 4)).off + 2, none⟩ = some (.int .i64 ((rd_T63 tz2 xz2).f2)) ∧ w'.cell? ⟨(adz2.add ((xz2).toNat * 4)).block, (adz2.add ((xz2).toNat * 4)).off + 3, none⟩ = some (.int .i64 ((rd_T63 tz2 xz2).f3))) (ds := []) (bs_ 9 0) (by kernel_rfl) rfl (by kernel_rfl) ⟨hxz1, hxz2, hxz3, hxz4, hxz5, hxz6, hxz7, hxz8⟩ (fun hHeld => ?_); refine with_tabW spec_SameRoot.tab8 spec_SameRoot.bits8 (fun HT_ HW_ => ?_)
       generalize wr.drew = wz5 at HO_5 HO_6 BKz1 BKz2 HB hxz1 hxz2 hxz3 hxz4 hxz5 hxz6 hxz7 hxz8 hHeld ⊢
       refine pv_ HT_ 0 ?_
       refine pv_ HT_ 1 ?_
       refine pv_ HT_ 2 ?_
       refine pv_ HT_ 4 ?_
       refine pv_ HT_ 5 ?_
       refine pv_ HT_ 6 ?_
       refine tv_ HT_ HW_ hHeld 3 ?_
       refine tv_ HT_ HW_ hHeld 7 ?_
       refine pv_ HT_ 8 ?_
       refine done_ (done_of HT_.out (by kernel_rfl)) ?_
       try go_wp2
       go_ret
       exact ⟨er_, be_⟩
      rw [if_neg cz8] at H
      have cz9 : (!((((rd_T63 tz1 xz2).f0).toList) == (((rd_T63 tz2 xz2).f0).toList)) || (!((((rd_T63 tz1 xz2).f1).toList) == (((rd_T63 tz2 xz2).f1).toList)) || (!(((rd_T63 tz1 xz2).f2) == ((rd_T63 tz2 xz2).f2)) || (!(((rd_T63 tz1 xz2).f3) == ((rd_T63 tz2 xz2).f3)))))) = false := by simpa using cz8
      clear cz8
      have H' := Aside0.mk H
      clear H
      obtain ⟨Aoz1, coz1, eoz1⟩ := Kd.R_slice HO_5.out
      subst eoz1
      try go_wp2
      replace HO_5 := Aside0.mk (Kd.R_drew HO_5.out)
      replace HO_6 := Aside0.mk (Kd.R_drew HO_6.out)
      replace BKz1 := Aside0.mk (blk_drew BKz1.out)
      replace BKz2 := Aside0.mk (blk_drew BKz2.out)
      replace HB := Aside0.mk (below_drew1 HB.out)
      obtain ⟨pz1, qz1, adz1, ez1, hxz1, hxz2, hxz3, hxz4⟩ := aa_ (at_T63 (Kd.R_reads' HO_5.out).2.2 xz2)
      cases ez1
      obtain ⟨Aoz2, coz2, eoz2⟩ := Kd.R_slice HO_6.out
      (first | subst eoz2 | (injection eoz2 with f1_ f2_ f3_; have fz1 := f1_.symm; have fz2 := f3_.symm; clear f1_ f2_ f3_; subst fz1; subst fz2))
      obtain ⟨pz2, qz2, adz2, ez2, hxz5, hxz6, hxz7, hxz8⟩ := aa_ (at_T63 (Kd.R_reads' HO_6.out).2.2 xz2)
      cases ez2
      refine start_ (n := 9) (S := fun w' => w'.cell? (adz1.add ((xz2).toNat * 4)) = some (.string ((rd_T63 tz1 xz2).f0)) ∧ w'.cell? ⟨(adz1.add ((xz2).toNat * 4)).block, (adz1.add ((xz2).toNat * 4)).off + 1, none⟩ = some (.string ((rd_T63 tz1 xz2).f1)) ∧ w'.cell? ⟨(adz1.add ((xz2).toNat * 4)).block, (adz1.add ((xz2).toNat * 4)).off + 2, none⟩ = some (.int .i64 ((rd_T63 tz1 xz2).f2)) ∧ w'.cell? ⟨(adz1.add ((xz2).toNat * 4)).block, (adz1.add ((xz2).toNat * 4)).off + 3, none⟩ = some (.int .i64 ((rd_T63 tz1 xz2).f3)) ∧ w'.cell? (adz2.add ((xz2).toNat * 4)) = some (.string ((rd_T63 tz2 xz2).f0)) ∧ w'.cell? ⟨(adz2.add ((xz2).toNat * 4)).block, (adz2.add ((xz2).toNat * 4)).off + 1, none⟩ = some (.string ((rd_T63 tz2 xz2).f1)) ∧ w'.cell? ⟨(adz2.add ((xz2).toNat * 4)).block, (adz2.add ((xz2).toNat * 4)).off + 2, none⟩ = some (.int .i64 ((rd_T63 tz2 xz2).f2)) ∧ w'.cell? ⟨(adz2.add ((xz2).toNat * 4)).block, (adz2.add ((xz2).toNat * 4)).off + 3, none⟩ = some (.int .i64 ((rd_T63 tz2 xz2).f3))) (ds := []) (bs_ 9 0) (by kernel_rfl) rfl (by kernel_rfl) ⟨hxz1, hxz2, hxz3, hxz4, hxz5, hxz6, hxz7, hxz8⟩ (fun hHeld => ?_); refine with_tabW spec_SameRoot.tab8 spec_SameRoot.bits8 (fun HT_ HW_ => ?_)
      generalize wr.drew = wz5 at HO_5 HO_6 BKz1 BKz2 HB hxz1 hxz2 hxz3 hxz4 hxz5 hxz6 hxz7 hxz8 hHeld ⊢
      refine pv_ HT_ 0 ?_
      refine pv_ HT_ 1 ?_
      refine pv_ HT_ 2 ?_
      refine pv_ HT_ 4 ?_
      refine pv_ HT_ 5 ?_
      refine pv_ HT_ 6 ?_
      refine tv_ HT_ HW_ hHeld 3 ?_
      refine tv_ HT_ HW_ hHeld 7 ?_
      refine pv_ HT_ 8 ?_
      refine done_ (done_of HT_.out (by kernel_rfl)) ?_
      try go_wp2
      go_roundg kz1
      case measure => have := HJz1.out; have := HKz1.out; omega
      case rel => exact ⟨(wrap64 (xz2 + 1)), rs_, H', ⟨by have := HJz1.out; have := HKz1.out; omega⟩, ⟨lR_ HO_5.out⟩, ⟨lR_ HO_6.out⟩, ⟨bk_⟩, ⟨bk_⟩, ⟨be_⟩⟩
     rw [if_neg cz2] at H
     have cz3 : decide (xz2 < (tz1.length : Int)) = false := decide_eq_false cz2
     clear cz2
     have H' := Aside0.mk H
     clear H
     obtain ⟨Aoz1, coz1, eoz1⟩ := Kd.R_slice HO_5.out
     subst eoz1
     go_wp2
     go_loopg [8] kz1 (fun kq v8 w' => ∃ (x8_3 : Int), v8 = .int .i64 x8_3 ∧ Aside0 (spec_SameRoot.l1 kq x8_3 a0_0 l0_1 l0_2 l0_3 l0_4 a1_0 l1_1 l1_2 l1_3 l1_4 = some r) ∧ Aside0 (kq ≤ kz1) ∧ Aside0 (w'.heap[gbz1]? = some (.cells #[.int .i64 a0_0, (.slice A0_1 l0_1.length c0_1), (.slice A0_2 l0_2.length c0_2), (.slice A0_3 l0_3.length c0_3), (.slice A0_4 l0_4.length c0_4)] 47 (0, 0))) ∧ Aside0 (w'.heap[gbz2]? = some (.cells #[.int .i64 a1_0, (.slice A1_1 l1_1.length c1_1), (.slice A1_2 l1_2.length c1_2), (.slice A1_3 l1_3.length c1_3), (.slice A1_4 l1_4.length c1_4)] 47 (0, 0))) ∧ Aside0 (Below w.heap.size w w'))
     case atStart => exact ⟨(0), rs_, H', ⟨Nat.le_refl _⟩, ⟨bk_⟩, ⟨bk_⟩, ⟨be_⟩⟩
     case round =>
      clear H'
      obtain ⟨xz3, rfl, HA, HKz2, BKz1, BKz2, HB⟩ := hrel
      cases gk with
      | zero => exact absurd HA.out (by simp [spec_SameRoot.l1])
      | succ kz2 =>
       have H := HA.out
       clear HA
       simp only [spec_SameRoot.l1] at H
       by_cases cz4 : xz3 < (l0_4.length : Int)
       rotate_left
       ·rw [if_neg cz4] at H
        have cz5 : decide (xz3 < (l0_4.length : Int)) = false := decide_eq_false cz4
        clear cz4
        obtain rfl := Option.some.inj H
        have hnbz2 := NBz1.out
        have hncz2 := NBz2.out
        have hczz11 : wr.cell? ⟨gbz1, 0, none⟩ = some (.int .i64 a0_0) := bc_ BKz1 0
        have hczz12 : wr.cell? ⟨gbz1, 1, none⟩ = some (.slice A0_1 l0_1.length c0_1) := bc_ BKz1 1
        have hczz13 : wr.cell? ⟨gbz1, 2, none⟩ = some (.slice A0_2 l0_2.length c0_2) := bc_ BKz1 2
        have hczz14 : wr.cell? ⟨gbz1, 3, none⟩ = some (.slice A0_3 l0_3.length c0_3) := bc_ BKz1 3
        have hczz15 : wr.cell? ⟨gbz1, 4, none⟩ = some (.slice A0_4 l0_4.length c0_4) := bc_ BKz1 4
        have hfzz11 := blk_frozen BKz1.out 0
        have hfzz12 := blk_frozen BKz1.out 1
        have hfzz13 := blk_frozen BKz1.out 2
        have hfzz14 := blk_frozen BKz1.out 3
        have hfzz15 := blk_frozen BKz1.out 4
        go_wp2
        go_ret
        exact ⟨er_, be_⟩
       rw [if_pos cz4] at H
       have cz5 : decide (xz3 < (l0_4.length : Int)) = true := decide_eq_true cz4
       clear cz4
       by_cases cz6 : 0 ≤ xz3
       rotate_left
       ·rw [if_neg cz6] at H
        exact absurd H (by simp)
       rw [if_pos cz6] at H
       have cz7 : decide (0 ≤ xz3) = true := decide_eq_true cz6
       clear cz6
       by_cases cz8 : xz3 < (l1_4.length : Int)
       rotate_left
       ·rw [if_neg cz8] at H
        exact absurd H (by simp)
       rw [if_pos cz8] at H
       have cz9 : decide (xz3 < (l1_4.length : Int)) = true := decide_eq_true cz8
       clear cz8
       by_cases cz10 : ((rd_T77 l0_4 xz3).f0).toList = ((rd_T77 l1_4 xz3).f0).toList
       rotate_left
       ·rw [if_neg cz10] at H
        have cz11 : (((rd_T77 l0_4 xz3).f0).toList == ((rd_T77 l1_4 xz3).f0).toList) = false := beq_eq_false_iff_ne.mpr cz10
        have cz12 : (((rd_T77 l0_4 xz3).f0).toList != ((rd_T77 l1_4 xz3).f0).toList) = true := bne_iff_ne.mpr cz10
        obtain rfl := Option.some.inj H
        have hnbz2 := NBz1.out
        have hncz2 := NBz2.out
        have hczz11 : wr.cell? ⟨gbz1, 0, none⟩ = some (.int .i64 a0_0) := bc_ BKz1 0
        have hczz12 : wr.cell? ⟨gbz1, 1, none⟩ = some (.slice A0_1 l0_1.length c0_1) := bc_ BKz1 1
        have hczz13 : wr.cell? ⟨gbz1, 2, none⟩ = some (.slice A0_2 l0_2.length c0_2) := bc_ BKz1 2
        have hczz14 : wr.cell? ⟨gbz1, 3, none⟩ = some (.slice A0_3 l0_3.length c0_3) := bc_ BKz1 3
        have hczz15 : wr.cell? ⟨gbz1, 4, none⟩ = some (.slice A0_4 l0_4.length c0_4) := bc_ BKz1 4
        have hfzz11 := blk_frozen BKz1.out 0
        have hfzz12 := blk_frozen BKz1.out 1
        have hfzz13 := blk_frozen BKz1.out 2
        have hfzz14 := blk_frozen BKz1.out 3
        have hfzz15 := blk_frozen BKz1.out 4
        try go_wp2
        replace BKz1 := Aside0.mk (blk_drew BKz1.out)
        replace BKz2 := Aside0.mk (blk_drew BKz2.out)
        replace HB := Aside0.mk (below_drew1 HB.out)
        obtain ⟨pz1, qz1, adz1, Az5, cz13, ez1, hxz1, hxz2, hxz3, hlz1, hiz1⟩ := aa_ (at_T77 HRz4.out xz3)
        have hwz1 := hxz3
        have hwz2 := hxz2
        have hwz3 := hxz1
        cases ez1
        replace hxz1 := cl_ HB hxz1
        replace hxz2 := cl_ HB hxz2
        replace hxz3 := cl_ HB hxz3
        have HRz9 := Aside0.mk hiz1
        have HCz10 := Aside0.mk hlz1
        clear hiz1 hlz1
        obtain ⟨pz2, qz2, adz2, Az6, cz14, ez2, hxz4, hxz5, hxz6, hlz2, hiz2⟩ := aa_ (at_T77 HRz8.out xz3)
        have hwz4 := hxz6
        have hwz5 := hxz5
        have hwz6 := hxz4
        cases ez2
        replace hxz4 := cl_ HB hxz4
        replace hxz5 := cl_ HB hxz5
        replace hxz6 := cl_ HB hxz6
        have HRz10 := Aside0.mk hiz2
        have HCz11 := Aside0.mk hlz2
        clear hiz2 hlz2
        refine start_ (n := 44) (S := fun w' => w'.cell? ⟨gbz1, 0, none⟩ = some (.int .i64 a0_0) ∧ w'.cell? ⟨gbz1, 1, none⟩ = some (.slice A0_1 l0_1.length c0_1) ∧ w'.cell? ⟨gbz1, 2, none⟩ = some (.slice A0_2 l0_2.length c0_2) ∧ w'.cell? ⟨gbz1, 3, none⟩ = some (.slice A0_3 l0_3.length c0_3) ∧ w'.cell? ⟨gbz1, 4, none⟩ = some (.slice (some adz1) l0_4.length c0_4) ∧ w'.cell? ⟨gbz2, 0, none⟩ = some (.int .i64 a1_0) ∧ w'.cell? ⟨gbz2, 1, none⟩ = some (.slice A1_1 l1_1.length c1_1) ∧ w'.cell? ⟨gbz2, 2, none⟩ = some (.slice A1_2 l1_2.length c1_2) ∧ w'.cell? ⟨gbz2, 3, none⟩ = some (.slice A1_3 l1_3.length c1_3) ∧ w'.cell? ⟨gbz2, 4, none⟩ = some (.slice (some adz2) l1_4.length c1_4) ∧ w'.cell? (adz1.add ((xz3).toNat * 3)) = some (.string ((rd_T77 l0_4 xz3).f0)) ∧ w'.cell? ⟨(adz1.add ((xz3).toNat * 3)).block, (adz1.add ((xz3).toNat * 3)).off + 1, none⟩ = some (.slice Az5 ((rd_T77 l0_4 xz3).f1).length cz13) ∧ w'.cell? ⟨(adz1.add ((xz3).toNat * 3)).block, (adz1.add ((xz3).toNat * 3)).off + 2, none⟩ = some (.int .i64 ((rd_T77 l0_4 xz3).f2)) ∧ w'.cell? (adz2.add ((xz3).toNat * 3)) = some (.string ((rd_T77 l1_4 xz3).f0)) ∧ w'.cell? ⟨(adz2.add ((xz3).toNat * 3)).block, (adz2.add ((xz3).toNat * 3)).off + 1, none⟩ = some (.slice Az6 ((rd_T77 l1_4 xz3).f1).length cz14) ∧ w'.cell? ⟨(adz2.add ((xz3).toNat * 3)).block, (adz2.add ((xz3).toNat * 3)).off + 2, none⟩ = some (.int .i64 ((rd_T77 l1_4 xz3).f2))) (ds := []) (bs_ 44 0) (by kernel_rfl) rfl (by kernel_rfl) ⟨bc_ BKz1 0, bc_ BKz1 1, bc_ BKz1 2, bc_ BKz1 3, bc_ BKz1 4, bc_ BKz2 0, bc_ BKz2 1, bc_ BKz2 2, bc_ BKz2 3, bc_ BKz2 4, (cl_ HB hwz3), (cl_ HB hwz2), (cl_ HB hwz1), (cl_ HB hwz6), (cl_ HB hwz5), (cl_ HB hwz4)⟩ (fun hHeld => ?_); refine with_tabW spec_SameRoot.tab13 spec_SameRoot.bits13 (fun HT_ HW_ => ?_)
        generalize wr.drew = wz5 at BKz1 BKz2 HB HRz9 HRz10 hxz1 hxz2 hxz3 hxz4 hxz5 hxz6 hHeld ⊢
        refine pv_ HT_ 0 ?_
        refine pv_ HT_ 2 ?_
        refine pv_ HT_ 6 ?_
        refine pv_ HT_ 8 ?_
        refine tv_ HT_ HW_ hHeld 1 ?_
        refine pv_ HT_ 3 ?_
        refine pv_ HT_ 4 ?_
        refine tv_ HT_ HW_ hHeld 5 ?_
        refine tv_ HT_ HW_ hHeld 7 ?_
        refine pv_ HT_ 9 ?_
        refine pv_ HT_ 10 ?_
        refine tv_ HT_ HW_ hHeld 11 ?_
        refine pv_ HT_ 12 ?_
        refine pv_ HT_ 13 ?_
        refine uv_ HT_ 14 ?_
        refine uv_ HT_ 15 ?_
        refine uv_ HT_ 16 ?_
        refine uv_ HT_ 17 ?_
        refine uv_ HT_ 18 ?_
        refine uv_ HT_ 19 ?_
        refine uv_ HT_ 20 ?_
        refine uv_ HT_ 21 ?_
        refine uv_ HT_ 22 ?_
        refine uv_ HT_ 23 ?_
        refine uv_ HT_ 24 ?_
        refine uv_ HT_ 25 ?_
        refine uv_ HT_ 26 ?_
        refine uv_ HT_ 27 ?_
        refine pv_ HT_ 28 ?_
        refine pv_ HT_ 29 ?_
        refine uv_ HT_ 30 ?_
        refine uv_ HT_ 31 ?_
        refine uv_ HT_ 32 ?_
        refine uv_ HT_ 33 ?_
        refine uv_ HT_ 34 ?_
        refine uv_ HT_ 35 ?_
        refine uv_ HT_ 36 ?_
        refine uv_ HT_ 37 ?_
        refine uv_ HT_ 38 ?_
        refine uv_ HT_ 39 ?_
        refine uv_ HT_ 40 ?_
        refine uv_ HT_ 41 ?_
        refine uv_ HT_ 42 ?_
        refine pv_ HT_ 43 ?_
        refine done_ (done_of HT_.out (by kernel_rfl)) ?_
        try go_wp2
        go_ret
        exact ⟨er_, be_⟩
       rw [if_pos cz10] at H
       have cz11 : (((rd_T77 l0_4 xz3).f0).toList == ((rd_T77 l1_4 xz3).f0).toList) = true := beq_iff_eq.mpr cz10
       have cz12 : (((rd_T77 l0_4 xz3).f0).toList != ((rd_T77 l1_4 xz3).f0).toList) = false := bne_eq_false_iff_eq.mpr cz10
       clear cz10
       replace H := bo_ H
       obtain ⟨tz3, Az6, H⟩ := H
       (try dsimp only at H)
       by_cases cz13 : tz3 = true
       rotate_left
       ·replace cz13 := Bool.eq_false_iff.mpr cz13
        subst cz13
        replace H := bf_ H
        obtain rfl := Option.some.inj H
        have hnbz2 := NBz1.out
        have hncz2 := NBz2.out
        have hczz11 : wr.cell? ⟨gbz1, 0, none⟩ = some (.int .i64 a0_0) := bc_ BKz1 0
        have hczz12 : wr.cell? ⟨gbz1, 1, none⟩ = some (.slice A0_1 l0_1.length c0_1) := bc_ BKz1 1
        have hczz13 : wr.cell? ⟨gbz1, 2, none⟩ = some (.slice A0_2 l0_2.length c0_2) := bc_ BKz1 2
        have hczz14 : wr.cell? ⟨gbz1, 3, none⟩ = some (.slice A0_3 l0_3.length c0_3) := bc_ BKz1 3
        have hczz15 : wr.cell? ⟨gbz1, 4, none⟩ = some (.slice A0_4 l0_4.length c0_4) := bc_ BKz1 4
        have hfzz11 := blk_frozen BKz1.out 0
        have hfzz12 := blk_frozen BKz1.out 1
        have hfzz13 := blk_frozen BKz1.out 2
        have hfzz14 := blk_frozen BKz1.out 3
        have hfzz15 := blk_frozen BKz1.out 4
        try go_wp2
        replace BKz1 := Aside0.mk (blk_drew BKz1.out)
        replace BKz2 := Aside0.mk (blk_drew BKz2.out)
        replace HB := Aside0.mk (below_drew1 HB.out)
        obtain ⟨pz1, qz1, adz1, Az7, cz14, ez1, hxz1, hxz2, hxz3, hlz1, hiz1⟩ := aa_ (at_T77 HRz4.out xz3)
        have hwz1 := hxz3
        have hwz2 := hxz2
        have hwz3 := hxz1
        cases ez1
        replace hxz1 := cl_ HB hxz1
        replace hxz2 := cl_ HB hxz2
        replace hxz3 := cl_ HB hxz3
        have HRz9 := Aside0.mk hiz1
        have HCz10 := Aside0.mk hlz1
        clear hiz1 hlz1
        obtain ⟨pz2, qz2, adz2, Az8, cz15, ez2, hxz4, hxz5, hxz6, hlz2, hiz2⟩ := aa_ (at_T77 HRz8.out xz3)
        have hwz4 := hxz6
        have hwz5 := hxz5
        have hwz6 := hxz4
        cases ez2
        replace hxz4 := cl_ HB hxz4
        replace hxz5 := cl_ HB hxz5
        replace hxz6 := cl_ HB hxz6
        have HRz10 := Aside0.mk hiz2
        have HCz11 := Aside0.mk hlz2
        clear hiz2 hlz2
        obtain ⟨pz3, qz3, adz3, Az9, cz16, ez3, hxz7, hxz8, hxz9, hlz3, hiz3⟩ := aa_ (at_T77 HRz4.out xz3)
        have hwz7 := hxz9
        have hwz8 := hxz8
        have hwz9 := hxz7
        obtain rfl : adz1 = adz3 := (by injection ez3)
        replace hxz7 := cl_ HB hxz7
        replace hxz8 := cl_ HB hxz8
        replace hxz9 := cl_ HB hxz9
        have HRz11 := Aside0.mk hiz3
        have HCz12 := Aside0.mk hlz3
        clear hiz3 hlz3
        have ea_ := Option.some.inj (hxz2.symm.trans hxz8)
        injection ea_ with ea_ en_ ec_
        subst ea_
        subst ec_
        clear en_
        obtain ⟨pz4, qz4, adz4, Az10, cz17, ez4, hxz10, hxz11, hxz12, hlz4, hiz4⟩ := aa_ (at_T77 HRz8.out xz3)
        have hwz10 := hxz12
        have hwz11 := hxz11
        have hwz12 := hxz10
        obtain rfl : adz2 = adz4 := (by injection ez4)
        replace hxz10 := cl_ HB hxz10
        replace hxz11 := cl_ HB hxz11
        replace hxz12 := cl_ HB hxz12
        have HRz12 := Aside0.mk hiz4
        have HCz13 := Aside0.mk hlz4
        clear hiz4 hlz4
        have ea_ := Option.some.inj (hxz5.symm.trans hxz11)
        injection ea_ with ea_ en_ ec_
        subst ea_
        subst ec_
        clear en_
        refine start_ (n := 44) (S := fun w' => w'.cell? ⟨gbz1, 0, none⟩ = some (.int .i64 a0_0) ∧ w'.cell? ⟨gbz1, 1, none⟩ = some (.slice A0_1 l0_1.length c0_1) ∧ w'.cell? ⟨gbz1, 2, none⟩ = some (.slice A0_2 l0_2.length c0_2) ∧ w'.cell? ⟨gbz1, 3, none⟩ = some (.slice A0_3 l0_3.length c0_3) ∧ w'.cell? ⟨gbz1, 4, none⟩ = some (.slice (some adz1) l0_4.length c0_4) ∧ w'.cell? ⟨gbz2, 0, none⟩ = some (.int .i64 a1_0) ∧ w'.cell? ⟨gbz2, 1, none⟩ = some (.slice A1_1 l1_1.length c1_1) ∧ w'.cell? ⟨gbz2, 2, none⟩ = some (.slice A1_2 l1_2.length c1_2) ∧ w'.cell? ⟨gbz2, 3, none⟩ = some (.slice A1_3 l1_3.length c1_3) ∧ w'.cell? ⟨gbz2, 4, none⟩ = some (.slice (some adz2) l1_4.length c1_4) ∧ w'.cell? (adz1.add ((xz3).toNat * 3)) = some (.string ((rd_T77 l0_4 xz3).f0)) ∧ w'.cell? ⟨(adz1.add ((xz3).toNat * 3)).block, (adz1.add ((xz3).toNat * 3)).off + 1, none⟩ = some (.slice Az7 ((rd_T77 l0_4 xz3).f1).length cz14) ∧ w'.cell? ⟨(adz1.add ((xz3).toNat * 3)).block, (adz1.add ((xz3).toNat * 3)).off + 2, none⟩ = some (.int .i64 ((rd_T77 l0_4 xz3).f2)) ∧ w'.cell? (adz2.add ((xz3).toNat * 3)) = some (.string ((rd_T77 l1_4 xz3).f0)) ∧ w'.cell? ⟨(adz2.add ((xz3).toNat * 3)).block, (adz2.add ((xz3).toNat * 3)).off + 1, none⟩ = some (.slice Az8 ((rd_T77 l1_4 xz3).f1).length cz15) ∧ w'.cell? ⟨(adz2.add ((xz3).toNat * 3)).block, (adz2.add ((xz3).toNat * 3)).off + 2, none⟩ = some (.int .i64 ((rd_T77 l1_4 xz3).f2)) ∧ w'.cell? (adz1.add ((xz3).toNat * 3)) = some (.string ((rd_T77 l0_4 xz3).f0)) ∧ w'.cell? ⟨(adz1.add ((xz3).toNat * 3)).block, (adz1.add ((xz3).toNat * 3)).off + 1, none⟩ = some (.slice Az7 ((rd_T77 l0_4 xz3).f1).length cz14) ∧ w'.cell? ⟨(adz1.add ((xz3).toNat * 3)).block, (adz1.add ((xz3).toNat * 3)).off + 2, none⟩ = some (.int .i64 ((rd_T77 l0_4 xz3).f2)) ∧ w'.cell? (adz2.add ((xz3).toNat * 3)) = some (.string ((rd_T77 l1_4 xz3).f0)) ∧ w'.cell? ⟨(adz2.add ((xz3).toNat * 3)).block, (adz2.add ((xz3).toNat * 3)).off + 1, none⟩ = some (.slice Az8 ((rd_T77 l1_4 xz3).f1).length cz15) ∧ w'.cell? ⟨(adz2.add ((xz3).toNat * 3)).block, (adz2.add ((xz3).toNat * 3)).off + 2, none⟩ = some (.int .i64 ((rd_T77 l1_4 xz3).f2))) (ds := []) (bs_ 44 0) (by kernel_rfl) rfl (by kernel_rfl) ⟨bc_ BKz1 0, bc_ BKz1 1, bc_ BKz1 2, bc_ BKz1 3, bc_ BKz1 4, bc_ BKz2 0, bc_ BKz2 1, bc_ BKz2 2, bc_ BKz2 3, bc_ BKz2 4, (cl_ HB hwz3), (cl_ HB hwz2), (cl_ HB hwz1), (cl_ HB hwz6), (cl_ HB hwz5), (cl_ HB hwz4), (cl_ HB hwz9), (cl_ HB hwz8), (cl_ HB hwz7), (cl_ HB hwz12), (cl_ HB hwz11), (cl_ HB hwz10)⟩ (fun hHeld => ?_); refine with_tabW spec_SameRoot.tab13 spec_SameRoot.bits13 (fun HT_ HW_ => ?_)
        generalize wr.drew = wz5 at BKz1 BKz2 HB HRz9 HRz10 HRz11 HRz12 hxz1 hxz2 hxz3 hxz4 hxz5 hxz6 hxz7 hxz8 hxz9 hxz10 hxz11 hxz12 hHeld ⊢
        refine pv_ HT_ 0 ?_
        refine pv_ HT_ 2 ?_
        refine pv_ HT_ 6 ?_
        refine pv_ HT_ 8 ?_
        refine tv_ HT_ HW_ hHeld 1 ?_
        refine pv_ HT_ 3 ?_
        refine pv_ HT_ 4 ?_
        refine tv_ HT_ HW_ hHeld 5 ?_
        refine tv_ HT_ HW_ hHeld 7 ?_
        refine pv_ HT_ 9 ?_
        refine pv_ HT_ 10 ?_
        refine tv_ HT_ HW_ hHeld 11 ?_
        refine pv_ HT_ 12 ?_
        refine pv_ HT_ 13 ?_
        refine pv_ HT_ 14 ?_
        refine pv_ HT_ 16 ?_
        refine pv_ HT_ 20 ?_
        refine pv_ HT_ 22 ?_
        refine tv_ HT_ HW_ hHeld 15 ?_
        refine pv_ HT_ 17 ?_
        refine pv_ HT_ 18 ?_
        refine tv_ HT_ HW_ hHeld 19 ?_
        refine tv_ HT_ HW_ hHeld 21 ?_
        refine pv_ HT_ 23 ?_
        refine pv_ HT_ 24 ?_
        refine tv_ HT_ HW_ hHeld 25 ?_
        refine ov_ HT_ 26 (fun K hK => ?_)
        refine goes_ Tryd.func47 (by kernel_rfl) rfl #[.slice Az7 ((rd_T77 l0_4 xz3).f1).length cz14, .slice Az8 ((rd_T77 l1_4 xz3).f1).length cz15] (by rfl) rfl rfl ar_ ?_
        with_reducible refine (spec_l1Same.calls _ _ ((rd_T77 l0_4 xz3).f1) _ _ ((rd_T77 l1_4 xz3).f1) false _ ?side1 ?side2 ?side3 ?side4 Az6.out).mono ?_
        (case side1 => exact Kd.C_below HRz11.out be_)
        (case side2 => exact HCz12.out)
        (case side3 => exact Kd.C_below HRz12.out be_)
        (case side4 => exact HCz13.out)
        rintro e w' ⟨rfl, ⟨nd, rfl⟩⟩
        refine ⟨_, rfl, ?_⟩
        refine hK.out _ _ ⟨bc_ BKz1 0, bc_ BKz1 1, bc_ BKz1 2, bc_ BKz1 3, bc_ BKz1 4, bc_ BKz2 0, bc_ BKz2 1, bc_ BKz2 2, bc_ BKz2 3, bc_ BKz2 4, (cl_ HB hwz3), (cl_ HB hwz2), (cl_ HB hwz1), (cl_ HB hwz6), (cl_ HB hwz5), (cl_ HB hwz4), (cl_ HB hwz9), (cl_ HB hwz8), (cl_ HB hwz7), (cl_ HB hwz12), (cl_ HB hwz11), (cl_ HB hwz10)⟩ (fun hHeld => ?_)
        clear hK K
        refine nm_ 84 ?_
        refine pv_ HT_ 27 ?_
        refine pv_ HT_ 28 ?_
        refine pv_ HT_ 29 ?_
        refine uv_ HT_ 30 ?_
        refine uv_ HT_ 31 ?_
        refine uv_ HT_ 32 ?_
        refine uv_ HT_ 33 ?_
        refine uv_ HT_ 34 ?_
        refine uv_ HT_ 35 ?_
        refine uv_ HT_ 36 ?_
        refine uv_ HT_ 37 ?_
        refine uv_ HT_ 38 ?_
        refine uv_ HT_ 39 ?_
        refine uv_ HT_ 40 ?_
        refine uv_ HT_ 41 ?_
        refine uv_ HT_ 42 ?_
        refine pv_ HT_ 43 ?_
        refine done_ (done_of HT_.out (by kernel_rfl)) ?_
        try go_wp2
        go_ret
        exact ⟨er_, be_⟩
       subst cz13
       replace H := bt_ H
       by_cases cz14 : ((rd_T77 l0_4 xz3).f2) = ((rd_T77 l1_4 xz3).f2)
       rotate_left
       ·rw [if_neg cz14] at H
        have cz15 : (((rd_T77 l0_4 xz3).f2) == ((rd_T77 l1_4 xz3).f2)) = false := beq_eq_false_iff_ne.mpr cz14
        have cz16 : (((rd_T77 l0_4 xz3).f2) != ((rd_T77 l1_4 xz3).f2)) = true := bne_iff_ne.mpr cz14
        obtain rfl := Option.some.inj H
        have hnbz2 := NBz1.out
        have hncz2 := NBz2.out
        have hczz11 : wr.cell? ⟨gbz1, 0, none⟩ = some (.int .i64 a0_0) := bc_ BKz1 0
        have hczz12 : wr.cell? ⟨gbz1, 1, none⟩ = some (.slice A0_1 l0_1.length c0_1) := bc_ BKz1 1
        have hczz13 : wr.cell? ⟨gbz1, 2, none⟩ = some (.slice A0_2 l0_2.length c0_2) := bc_ BKz1 2
        have hczz14 : wr.cell? ⟨gbz1, 3, none⟩ = some (.slice A0_3 l0_3.length c0_3) := bc_ BKz1 3
        have hczz15 : wr.cell? ⟨gbz1, 4, none⟩ = some (.slice A0_4 l0_4.length c0_4) := bc_ BKz1 4
        have hfzz11 := blk_frozen BKz1.out 0
        have hfzz12 := blk_frozen BKz1.out 1
        have hfzz13 := blk_frozen BKz1.out 2
        have hfzz14 := blk_frozen BKz1.out 3
        have hfzz15 := blk_frozen BKz1.out 4
        try go_wp2
        replace BKz1 := Aside0.mk (blk_drew BKz1.out)
        replace BKz2 := Aside0.mk (blk_drew BKz2.out)
        replace HB := Aside0.mk (below_drew1 HB.out)
        obtain ⟨pz1, qz1, adz1, Az7, cz17, ez1, hxz1, hxz2, hxz3, hlz1, hiz1⟩ := aa_ (at_T77 HRz4.out xz3)
        have hwz1 := hxz3
        have hwz2 := hxz2
        have hwz3 := hxz1
        cases ez1
        replace hxz1 := cl_ HB hxz1
        replace hxz2 := cl_ HB hxz2
        replace hxz3 := cl_ HB hxz3
        have HRz9 := Aside0.mk hiz1
        have HCz10 := Aside0.mk hlz1
        clear hiz1 hlz1
        obtain ⟨pz2, qz2, adz2, Az8, cz18, ez2, hxz4, hxz5, hxz6, hlz2, hiz2⟩ := aa_ (at_T77 HRz8.out xz3)
        have hwz4 := hxz6
        have hwz5 := hxz5
        have hwz6 := hxz4
        cases ez2
        replace hxz4 := cl_ HB hxz4
        replace hxz5 := cl_ HB hxz5
        replace hxz6 := cl_ HB hxz6
        have HRz10 := Aside0.mk hiz2
        have HCz11 := Aside0.mk hlz2
        clear hiz2 hlz2
        obtain ⟨pz3, qz3, adz3, Az9, cz19, ez3, hxz7, hxz8, hxz9, hlz3, hiz3⟩ := aa_ (at_T77 HRz4.out xz3)
        have hwz7 := hxz9
        have hwz8 := hxz8
        have hwz9 := hxz7
        obtain rfl : adz1 = adz3 := (by injection ez3)
        replace hxz7 := cl_ HB hxz7
        replace hxz8 := cl_ HB hxz8
        replace hxz9 := cl_ HB hxz9
        have HRz11 := Aside0.mk hiz3
        have HCz12 := Aside0.mk hlz3
        clear hiz3 hlz3
        have ea_ := Option.some.inj (hxz2.symm.trans hxz8)
        injection ea_ with ea_ en_ ec_
        subst ea_
        subst ec_
        clear en_
        obtain ⟨pz4, qz4, adz4, Az10, cz20, ez4, hxz10, hxz11, hxz12, hlz4, hiz4⟩ := aa_ (at_T77 HRz8.out xz3)
        have hwz10 := hxz12
        have hwz11 := hxz11
        have hwz12 := hxz10
        obtain rfl : adz2 = adz4 := (by injection ez4)
        replace hxz10 := cl_ HB hxz10
        replace hxz11 := cl_ HB hxz11
        replace hxz12 := cl_ HB hxz12
        have HRz12 := Aside0.mk hiz4
        have HCz13 := Aside0.mk hlz4
        clear hiz4 hlz4
        have ea_ := Option.some.inj (hxz5.symm.trans hxz11)
        injection ea_ with ea_ en_ ec_
        subst ea_
        subst ec_
        clear en_
        obtain ⟨pz5, qz5, adz5, Az11, cz21, ez5, hxz13, hxz14, hxz15, hlz5, hiz5⟩ := aa_ (at_T77 HRz4.out xz3)
        have hwz13 := hxz15
        have hwz14 := hxz14
        have hwz15 := hxz13
        obtain rfl : adz1 = adz5 := (by injection ez5)
        replace hxz13 := cl_ HB hxz13
        replace hxz14 := cl_ HB hxz14
        replace hxz15 := cl_ HB hxz15
        have HRz13 := Aside0.mk hiz5
        have HCz14 := Aside0.mk hlz5
        clear hiz5 hlz5
        have ea_ := Option.some.inj (hxz2.symm.trans hxz14)
        injection ea_ with ea_ en_ ec_
        subst ea_
        subst ec_
        clear en_
        obtain ⟨pz6, qz6, adz6, Az12, cz22, ez6, hxz16, hxz17, hxz18, hlz6, hiz6⟩ := aa_ (at_T77 HRz8.out xz3)
        have hwz16 := hxz18
        have hwz17 := hxz17
        have hwz18 := hxz16
        obtain rfl : adz2 = adz6 := (by injection ez6)
        replace hxz16 := cl_ HB hxz16
        replace hxz17 := cl_ HB hxz17
        replace hxz18 := cl_ HB hxz18
        have HRz14 := Aside0.mk hiz6
        have HCz15 := Aside0.mk hlz6
        clear hiz6 hlz6
        have ea_ := Option.some.inj (hxz5.symm.trans hxz17)
        injection ea_ with ea_ en_ ec_
        subst ea_
        subst ec_
        clear en_
        refine start_ (n := 44) (S := fun w' => w'.cell? ⟨gbz1, 0, none⟩ = some (.int .i64 a0_0) ∧ w'.cell? ⟨gbz1, 1, none⟩ = some (.slice A0_1 l0_1.length c0_1) ∧ w'.cell? ⟨gbz1, 2, none⟩ = some (.slice A0_2 l0_2.length c0_2) ∧ w'.cell? ⟨gbz1, 3, none⟩ = some (.slice A0_3 l0_3.length c0_3) ∧ w'.cell? ⟨gbz1, 4, none⟩ = some (.slice (some adz1) l0_4.length c0_4) ∧ w'.cell? ⟨gbz2, 0, none⟩ = some (.int .i64 a1_0) ∧ w'.cell? ⟨gbz2, 1, none⟩ = some (.slice A1_1 l1_1.length c1_1) ∧ w'.cell? ⟨gbz2, 2, none⟩ = some (.slice A1_2 l1_2.length c1_2) ∧ w'.cell? ⟨gbz2, 3, none⟩ = some (.slice A1_3 l1_3.length c1_3) ∧ w'.cell? ⟨gbz2, 4, none⟩ = some (.slice (some adz2) l1_4.length c1_4) ∧ w'.cell? (adz1.add ((xz3).toNat * 3)) = some (.string ((rd_T77 l0_4 xz3).f0)) ∧ w'.cell? ⟨(adz1.add ((xz3).toNat * 3)).block, (adz1.add ((xz3).toNat * 3)).off + 1, none⟩ = some (.slice Az7 ((rd_T77 l0_4 xz3).f1).length cz17) ∧ w'.cell? ⟨(adz1.add ((xz3).toNat * 3)).block, (adz1.add ((xz3).toNat * 3)).off + 2, none⟩ = some (.int .i64 ((rd_T77 l0_4 xz3).f2)) ∧ w'.cell? (adz2.add ((xz3).toNat * 3)) = some (.string ((rd_T77 l1_4 xz3).f0)) ∧ w'.cell? ⟨(adz2.add ((xz3).toNat * 3)).block, (adz2.add ((xz3).toNat * 3)).off + 1, none⟩ = some (.slice Az8 ((rd_T77 l1_4 xz3).f1).length cz18) ∧ w'.cell? ⟨(adz2.add ((xz3).toNat * 3)).block, (adz2.add ((xz3).toNat * 3)).off + 2, none⟩ = some (.int .i64 ((rd_T77 l1_4 xz3).f2)) ∧ w'.cell? (adz1.add ((xz3).toNat * 3)) = some (.string ((rd_T77 l0_4 xz3).f0)) ∧ w'.cell? ⟨(adz1.add ((xz3).toNat * 3)).block, (adz1.add ((xz3).toNat * 3)).off + 1, none⟩ = some (.slice Az7 ((rd_T77 l0_4 xz3).f1).length cz17) ∧ w'.cell? ⟨(adz1.add ((xz3).toNat * 3)).block, (adz1.add ((xz3).toNat * 3)).off + 2, none⟩ = some (.int .i64 ((rd_T77 l0_4 xz3).f2)) ∧ w'.cell? (adz2.add ((xz3).toNat * 3)) = some (.string ((rd_T77 l1_4 xz3).f0)) ∧ w'.cell? ⟨(adz2.add ((xz3).toNat * 3)).block, (adz2.add ((xz3).toNat * 3)).off + 1, none⟩ = some (.slice Az8 ((rd_T77 l1_4 xz3).f1).length cz18) ∧ w'.cell? ⟨(adz2.add ((xz3).toNat * 3)).block, (adz2.add ((xz3).toNat * 3)).off + 2, none⟩ = some (.int .i64 ((rd_T77 l1_4 xz3).f2)) ∧ w'.cell? (adz1.add ((xz3).toNat * 3)) = some (.string ((rd_T77 l0_4 xz3).f0)) ∧ w'.cell? ⟨(adz1.add ((xz3).toNat * 3)).block, (adz1.add ((xz3).toNat * 3)).off + 1, none⟩ = some (.slice Az7 ((rd_T77 l0_4 xz3).f1).length cz17) ∧ w'.cell? ⟨(adz1.add ((xz3).toNat * 3)).block, (adz1.add ((xz3).toNat * 3)).off + 2, none⟩ = some (.int .i64 ((rd_T77 l0_4 xz3).f2)) ∧ w'.cell? (adz2.add ((xz3).toNat * 3)) = some (.string ((rd_T77 l1_4 xz3).f0)) ∧ w'.cell? ⟨(adz2.add ((xz3).toNat * 3)).block, (adz2.add ((xz3).toNat * 3)).off + 1, none⟩ = some (.slice Az8 ((rd_T77 l1_4 xz3).f1).length cz18) ∧ w'.cell? ⟨(adz2.add ((xz3).toNat * 3)).block, (adz2.add ((xz3).toNat * 3)).off + 2, none⟩ = some (.int .i64 ((rd_T77 l1_4 xz3).f2))) (ds := []) (bs_ 44 0) (by kernel_rfl) rfl (by kernel_rfl) ⟨bc_ BKz1 0, bc_ BKz1 1, bc_ BKz1 2, bc_ BKz1 3, bc_ BKz1 4, bc_ BKz2 0, bc_ BKz2 1, bc_ BKz2 2, bc_ BKz2 3, bc_ BKz2 4, (cl_ HB hwz3), (cl_ HB hwz2), (cl_ HB hwz1), (cl_ HB hwz6), (cl_ HB hwz5), (cl_ HB hwz4), (cl_ HB hwz9), (cl_ HB hwz8), (cl_ HB hwz7), (cl_ HB hwz12), (cl_ HB hwz11), (cl_ HB hwz10), (cl_ HB hwz15), (cl_ HB hwz14), (cl_ HB hwz13), (cl_ HB hwz18), (cl_ HB hwz17), (cl_ HB hwz16)⟩ (fun hHeld => ?_); refine with_tabW spec_SameRoot.tab13 spec_SameRoot.bits13 (fun HT_ HW_ => ?_)
        generalize wr.drew = wz5 at BKz1 BKz2 HB HRz9 HRz10 HRz11 HRz12 HRz13 HRz14 hxz1 hxz2 hxz3 hxz4 hxz5 hxz6 hxz7 hxz8 hxz9 hxz10 hxz11 hxz12 hxz13 hxz14 hxz15 hxz16 hxz17 hxz18 hHeld ⊢
        refine pv_ HT_ 0 ?_
        refine pv_ HT_ 2 ?_
        refine pv_ HT_ 6 ?_
        refine pv_ HT_ 8 ?_
        refine tv_ HT_ HW_ hHeld 1 ?_
        refine pv_ HT_ 3 ?_
        refine pv_ HT_ 4 ?_
        refine tv_ HT_ HW_ hHeld 5 ?_
        refine tv_ HT_ HW_ hHeld 7 ?_
        refine pv_ HT_ 9 ?_
        refine pv_ HT_ 10 ?_
        refine tv_ HT_ HW_ hHeld 11 ?_
        refine pv_ HT_ 12 ?_
        refine pv_ HT_ 13 ?_
        refine pv_ HT_ 14 ?_
        refine pv_ HT_ 16 ?_
        refine pv_ HT_ 20 ?_
        refine pv_ HT_ 22 ?_
        refine tv_ HT_ HW_ hHeld 15 ?_
        refine pv_ HT_ 17 ?_
        refine pv_ HT_ 18 ?_
        refine tv_ HT_ HW_ hHeld 19 ?_
        refine tv_ HT_ HW_ hHeld 21 ?_
        refine pv_ HT_ 23 ?_
        refine pv_ HT_ 24 ?_
        refine tv_ HT_ HW_ hHeld 25 ?_
        refine ov_ HT_ 26 (fun K hK => ?_)
        refine goes_ Tryd.func47 (by kernel_rfl) rfl #[.slice Az7 ((rd_T77 l0_4 xz3).f1).length cz17, .slice Az8 ((rd_T77 l1_4 xz3).f1).length cz18] (by rfl) rfl rfl ar_ ?_
        with_reducible refine (spec_l1Same.calls _ _ ((rd_T77 l0_4 xz3).f1) _ _ ((rd_T77 l1_4 xz3).f1) true _ ?side1 ?side2 ?side3 ?side4 Az6.out).mono ?_
        (case side1 => exact Kd.C_below HRz11.out be_)
        (case side2 => exact HCz12.out)
        (case side3 => exact Kd.C_below HRz12.out be_)
        (case side4 => exact HCz13.out)
        rintro e w' ⟨rfl, ⟨nd, rfl⟩⟩
        refine ⟨_, rfl, ?_⟩
        refine hK.out _ _ ⟨bc_ BKz1 0, bc_ BKz1 1, bc_ BKz1 2, bc_ BKz1 3, bc_ BKz1 4, bc_ BKz2 0, bc_ BKz2 1, bc_ BKz2 2, bc_ BKz2 3, bc_ BKz2 4, (cl_ HB hwz3), (cl_ HB hwz2), (cl_ HB hwz1), (cl_ HB hwz6), (cl_ HB hwz5), (cl_ HB hwz4), (cl_ HB hwz9), (cl_ HB hwz8), (cl_ HB hwz7), (cl_ HB hwz12), (cl_ HB hwz11), (cl_ HB hwz10), (cl_ HB hwz15), (cl_ HB hwz14), (cl_ HB hwz13), (cl_ HB hwz18), (cl_ HB hwz17), (cl_ HB hwz16)⟩ (fun hHeld => ?_)
        clear hK K
        refine nm_ 84 ?_
        refine pv_ HT_ 27 ?_
        refine pv_ HT_ 28 ?_
        refine pv_ HT_ 29 ?_
        refine pv_ HT_ 30 ?_
        refine pv_ HT_ 32 ?_
        refine pv_ HT_ 36 ?_
        refine pv_ HT_ 38 ?_
        refine tv_ HT_ HW_ hHeld 31 ?_
        refine pv_ HT_ 33 ?_
        refine pv_ HT_ 34 ?_
        refine tv_ HT_ HW_ hHeld 35 ?_
        refine tv_ HT_ HW_ hHeld 37 ?_
        refine pv_ HT_ 39 ?_
        refine pv_ HT_ 40 ?_
        refine tv_ HT_ HW_ hHeld 41 ?_
        refine pv_ HT_ 42 ?_
        refine pv_ HT_ 43 ?_
        refine done_ (done_of HT_.out (by kernel_rfl)) ?_
        try go_wp2
        go_ret
        exact ⟨er_, be_⟩
       rw [if_pos cz14] at H
       have cz15 : (((rd_T77 l0_4 xz3).f2) == ((rd_T77 l1_4 xz3).f2)) = true := beq_iff_eq.mpr cz14
       have cz16 : (((rd_T77 l0_4 xz3).f2) != ((rd_T77 l1_4 xz3).f2)) = false := bne_eq_false_iff_eq.mpr cz14
       clear cz14
       have H' := Aside0.mk H
       clear H
       have hnbz2 := NBz1.out
       have hncz2 := NBz2.out
       have hczz11 : wr.cell? ⟨gbz1, 0, none⟩ = some (.int .i64 a0_0) := bc_ BKz1 0
       have hczz12 : wr.cell? ⟨gbz1, 1, none⟩ = some (.slice A0_1 l0_1.length c0_1) := bc_ BKz1 1
       have hczz13 : wr.cell? ⟨gbz1, 2, none⟩ = some (.slice A0_2 l0_2.length c0_2) := bc_ BKz1 2
       have hczz14 : wr.cell? ⟨gbz1, 3, none⟩ = some (.slice A0_3 l0_3.length c0_3) := bc_ BKz1 3
       have hczz15 : wr.cell? ⟨gbz1, 4, none⟩ = some (.slice A0_4 l0_4.length c0_4) := bc_ BKz1 4
       have hfzz11 := blk_frozen BKz1.out 0
       have hfzz12 := blk_frozen BKz1.out 1
       have hfzz13 := blk_frozen BKz1.out 2
       have hfzz14 := blk_frozen BKz1.out 3
       have hfzz15 := blk_frozen BKz1.out 4
       try go_wp2
       replace BKz1 := Aside0.mk (blk_drew BKz1.out)
       replace BKz2 := Aside0.mk (blk_drew BKz2.out)
       replace HB := Aside0.mk (below_drew1 HB.out)
       obtain ⟨pz1, qz1, adz1, Az7, cz17, ez1, hxz1, hxz2, hxz3, hlz1, hiz1⟩ := aa_ (at_T77 HRz4.out xz3)
       have hwz1 := hxz3
       have hwz2 := hxz2
       have hwz3 := hxz1
       cases ez1
       replace hxz1 := cl_ HB hxz1
       replace hxz2 := cl_ HB hxz2
       replace hxz3 := cl_ HB hxz3
       have HRz9 := Aside0.mk hiz1
       have HCz10 := Aside0.mk hlz1
       clear hiz1 hlz1
       obtain ⟨pz2, qz2, adz2, Az8, cz18, ez2, hxz4, hxz5, hxz6, hlz2, hiz2⟩ := aa_ (at_T77 HRz8.out xz3)
       have hwz4 := hxz6
       have hwz5 := hxz5
       have hwz6 := hxz4
       cases ez2
       replace hxz4 := cl_ HB hxz4
       replace hxz5 := cl_ HB hxz5
       replace hxz6 := cl_ HB hxz6
       have HRz10 := Aside0.mk hiz2
       have HCz11 := Aside0.mk hlz2
       clear hiz2 hlz2
       obtain ⟨pz3, qz3, adz3, Az9, cz19, ez3, hxz7, hxz8, hxz9, hlz3, hiz3⟩ := aa_ (at_T77 HRz4.out xz3)
       have hwz7 := hxz9
       have hwz8 := hxz8
       have hwz9 := hxz7
       obtain rfl : adz1 = adz3 := (by injection ez3)
       replace hxz7 := cl_ HB hxz7
       replace hxz8 := cl_ HB hxz8
       replace hxz9 := cl_ HB hxz9
       have HRz11 := Aside0.mk hiz3
       have HCz12 := Aside0.mk hlz3
       clear hiz3 hlz3
       have ea_ := Option.some.inj (hxz2.symm.trans hxz8)
       injection ea_ with ea_ en_ ec_
       subst ea_
       subst ec_
       clear en_
       obtain ⟨pz4, qz4, adz4, Az10, cz20, ez4, hxz10, hxz11, hxz12, hlz4, hiz4⟩ := aa_ (at_T77 HRz8.out xz3)
       have hwz10 := hxz12
       have hwz11 := hxz11
       have hwz12 := hxz10
       obtain rfl : adz2 = adz4 := (by injection ez4)
       replace hxz10 := cl_ HB hxz10
       replace hxz11 := cl_ HB hxz11
       replace hxz12 := cl_ HB hxz12
       have HRz12 := Aside0.mk hiz4
       have HCz13 := Aside0.mk hlz4
       clear hiz4 hlz4
       have ea_ := Option.some.inj (hxz5.symm.trans hxz11)
       injection ea_ with ea_ en_ ec_
       subst ea_
       subst ec_
       clear en_
       obtain ⟨pz5, qz5, adz5, Az11, cz21, ez5, hxz13, hxz14, hxz15, hlz5, hiz5⟩ := aa_ (at_T77 HRz4.out xz3)
       have hwz13 := hxz15
       have hwz14 := hxz14
       have hwz15 := hxz13
       obtain rfl : adz1 = adz5 := (by injection ez5)
       replace hxz13 := cl_ HB hxz13
       replace hxz14 := cl_ HB hxz14
       replace hxz15 := cl_ HB hxz15
       have HRz13 := Aside0.mk hiz5
       have HCz14 := Aside0.mk hlz5
       clear hiz5 hlz5
       have ea_ := Option.some.inj (hxz2.symm.trans hxz14)
       injection ea_ with ea_ en_ ec_
       subst ea_
       subst ec_
       clear en_
       obtain ⟨pz6, qz6, adz6, Az12, cz22, ez6, hxz16, hxz17, hxz18, hlz6, hiz6⟩ := aa_ (at_T77 HRz8.out xz3)
       have hwz16 := hxz18
       have hwz17 := hxz17
       have hwz18 := hxz16
       obtain rfl : adz2 = adz6 := (by injection ez6)
       replace hxz16 := cl_ HB hxz16
       replace hxz17 := cl_ HB hxz17
       replace hxz18 := cl_ HB hxz18
       have HRz14 := Aside0.mk hiz6
       have HCz15 := Aside0.mk hlz6
       clear hiz6 hlz6
       have ea_ := Option.some.inj (hxz5.symm.trans hxz17)
       injection ea_ with ea_ en_ ec_
       subst ea_
       subst ec_
       clear en_
       refine start_ (n := 44) (S := fun w' => w'.cell? ⟨gbz1, 0, none⟩ = some (.int .i64 a0_0) ∧ w'.cell? ⟨gbz1, 1, none⟩ = some (.slice A0_1 l0_1.length c0_1) ∧ w'.cell? ⟨gbz1, 2, none⟩ = some (.slice A0_2 l0_2.length c0_2) ∧ w'.cell? ⟨gbz1, 3, none⟩ = some (.slice A0_3 l0_3.length c0_3) ∧ w'.cell? ⟨gbz1, 4, none⟩ = some (.slice (some adz1) l0_4.length c0_4) ∧ w'.cell? ⟨gbz2, 0, none⟩ = some (.int .i64 a1_0) ∧ w'.cell? ⟨gbz2, 1, none⟩ = some (.slice A1_1 l1_1.length c1_1) ∧ w'.cell? ⟨gbz2, 2, none⟩ = some (.slice A1_2 l1_2.length c1_2) ∧ w'.cell? ⟨gbz2, 3, none⟩ = some (.slice A1_3 l1_3.length c1_3) ∧ w'.cell? ⟨gbz2, 4, none⟩ = some (.slice (some adz2) l1_4.length c1_4) ∧ w'.cell? (adz1.add ((xz3).toNat * 3)) = some (.string ((rd_T77 l0_4 xz3).f0)) ∧ w'.cell? ⟨(adz1.add ((xz3).toNat * 3)).block, (adz1.add ((xz3).toNat * 3)).off + 1, none⟩ = some (.slice Az7 ((rd_T77 l0_4 xz3).f1).length cz17) ∧ w'.cell? ⟨(adz1.add ((xz3).toNat * 3)).block, (adz1.add ((xz3).toNat * 3)).off + 2, none⟩ = some (.int .i64 ((rd_T77 l0_4 xz3).f2)) ∧ w'.cell? (adz2.add ((xz3).toNat * 3)) = some (.string ((rd_T77 l1_4 xz3).f0)) ∧ w'.cell? ⟨(adz2.add ((xz3).toNat * 3)).block, (adz2.add ((xz3).toNat * 3)).off + 1, none⟩ = some (.slice Az8 ((rd_T77 l1_4 xz3).f1).length cz18) ∧ w'.cell? ⟨(adz2.add ((xz3).toNat * 3)).block, (adz2.add ((xz3).toNat * 3)).off + 2, none⟩ = some (.int .i64 ((rd_T77 l1_4 xz3).f2)) ∧ w'.cell? (adz1.add ((xz3).toNat * 3)) = some (.string ((rd_T77 l0_4 xz3).f0)) ∧ w'.cell? ⟨(adz1.add ((xz3).toNat * 3)).block, (adz1.add ((xz3).toNat * 3)).off + 1, none⟩ = some (.slice Az7 ((rd_T77 l0_4 xz3).f1).length cz17) ∧ w'.cell? ⟨(adz1.add ((xz3).toNat * 3)).block, (adz1.add ((xz3).toNat * 3)).off + 2, none⟩ = some (.int .i64 ((rd_T77 l0_4 xz3).f2)) ∧ w'.cell? (adz2.add ((xz3).toNat * 3)) = some (.string ((rd_T77 l1_4 xz3).f0)) ∧ w'.cell? ⟨(adz2.add ((xz3).toNat * 3)).block, (adz2.add ((xz3).toNat * 3)).off + 1, none⟩ = some (.slice Az8 ((rd_T77 l1_4 xz3).f1).length cz18) ∧ w'.cell? ⟨(adz2.add ((xz3).toNat * 3)).block, (adz2.add ((xz3).toNat * 3)).off + 2, none⟩ = some (.int .i64 ((rd_T77 l1_4 xz3).f2)) ∧ w'.cell? (adz1.add ((xz3).toNat * 3)) = some (.string ((rd_T77 l0_4 xz3).f0)) ∧ w'.cell? ⟨(adz1.add ((xz3).toNat * 3)).block, (adz1.add ((xz3).toNat * 3)).off + 1, none⟩ = some (.slice Az7 ((rd_T77 l0_4 xz3).f1).length cz17) ∧ w'.cell? ⟨(adz1.add ((xz3).toNat * 3)).block, (adz1.add ((xz3).toNat * 3)).off + 2, none⟩ = some (.int .i64 ((rd_T77 l0_4 xz3).f2)) ∧ w'.cell? (adz2.add ((xz3).toNat * 3)) = some (.string ((rd_T77 l1_4 xz3).f0)) ∧ w'.cell? ⟨(adz2.add ((xz3).toNat * 3)).block, (adz2.add ((xz3).toNat * 3)).off + 1, none⟩ = some (.slice Az8 ((rd_T77 l1_4 xz3).f1).length cz18) ∧ w'.cell? ⟨(adz2.add ((xz3).toNat * 3)).block, (adz2.add ((xz3).toNat * 3)).off + 2, none⟩ = some (.int .i64 ((rd_T77 l1_4 xz3).f2))) (ds := []) (bs_ 44 0) (by kernel_rfl) rfl (by kernel_rfl) ⟨bc_ BKz1 0, bc_ BKz1 1, bc_ BKz1 2, bc_ BKz1 3, bc_ BKz1 4, bc_ BKz2 0, bc_ BKz2 1, bc_ BKz2 2, bc_ BKz2 3, bc_ BKz2 4, (cl_ HB hwz3), (cl_ HB hwz2), (cl_ HB hwz1), (cl_ HB hwz6), (cl_ HB hwz5), (cl_ HB hwz4), (cl_ HB hwz9), (cl_ HB hwz8), (cl_ HB hwz7), (cl_ HB hwz12), (cl_ HB hwz11), (cl_ HB hwz10), (cl_ HB hwz15), (cl_ HB hwz14), (cl_ HB hwz13), (cl_ HB hwz18), (cl_ HB hwz17), (cl_ HB hwz16)⟩ (fun hHeld => ?_); refine with_tabW spec_SameRoot.tab13 spec_SameRoot.bits13 (fun HT_ HW_ => ?_)
       generalize wr.drew = wz5 at BKz1 BKz2 HB HRz9 HRz10 HRz11 HRz12 HRz13 HRz14 hxz1 hxz2 hxz3 hxz4 hxz5 hxz6 hxz7 hxz8 hxz9 hxz10 hxz11 hxz12 hxz13 hxz14 hxz15 hxz16 hxz17 hxz18 hHeld ⊢
       refine pv_ HT_ 0 ?_
       refine pv_ HT_ 2 ?_
       refine pv_ HT_ 6 ?_
       refine pv_ HT_ 8 ?_
       refine tv_ HT_ HW_ hHeld 1 ?_
       refine pv_ HT_ 3 ?_
       refine pv_ HT_ 4 ?_
       refine tv_ HT_ HW_ hHeld 5 ?_
       refine tv_ HT_ HW_ hHeld 7 ?_
       refine pv_ HT_ 9 ?_
       refine pv_ HT_ 10 ?_
       refine tv_ HT_ HW_ hHeld 11 ?_
       refine pv_ HT_ 12 ?_
       refine pv_ HT_ 13 ?_
       refine pv_ HT_ 14 ?_
       refine pv_ HT_ 16 ?_
       refine pv_ HT_ 20 ?_
       refine pv_ HT_ 22 ?_
       refine tv_ HT_ HW_ hHeld 15 ?_
       refine pv_ HT_ 17 ?_
       refine pv_ HT_ 18 ?_
       refine tv_ HT_ HW_ hHeld 19 ?_
       refine tv_ HT_ HW_ hHeld 21 ?_
       refine pv_ HT_ 23 ?_
       refine pv_ HT_ 24 ?_
       refine tv_ HT_ HW_ hHeld 25 ?_
       refine ov_ HT_ 26 (fun K hK => ?_)
       refine goes_ Tryd.func47 (by kernel_rfl) rfl #[.slice Az7 ((rd_T77 l0_4 xz3).f1).length cz17, .slice Az8 ((rd_T77 l1_4 xz3).f1).length cz18] (by rfl) rfl rfl ar_ ?_
       with_reducible refine (spec_l1Same.calls _ _ ((rd_T77 l0_4 xz3).f1) _ _ ((rd_T77 l1_4 xz3).f1) true _ ?side1 ?side2 ?side3 ?side4 Az6.out).mono ?_
       (case side1 => exact Kd.C_below HRz11.out be_)
       (case side2 => exact HCz12.out)
       (case side3 => exact Kd.C_below HRz12.out be_)
       (case side4 => exact HCz13.out)
       rintro e w' ⟨rfl, ⟨nd, rfl⟩⟩
       refine ⟨_, rfl, ?_⟩
       refine hK.out _ _ ⟨bc_ BKz1 0, bc_ BKz1 1, bc_ BKz1 2, bc_ BKz1 3, bc_ BKz1 4, bc_ BKz2 0, bc_ BKz2 1, bc_ BKz2 2, bc_ BKz2 3, bc_ BKz2 4, (cl_ HB hwz3), (cl_ HB hwz2), (cl_ HB hwz1), (cl_ HB hwz6), (cl_ HB hwz5), (cl_ HB hwz4), (cl_ HB hwz9), (cl_ HB hwz8), (cl_ HB hwz7), (cl_ HB hwz12), (cl_ HB hwz11), (cl_ HB hwz10), (cl_ HB hwz15), (cl_ HB hwz14), (cl_ HB hwz13), (cl_ HB hwz18), (cl_ HB hwz17), (cl_ HB hwz16)⟩ (fun hHeld => ?_)
       clear hK K
       refine nm_ 84 ?_
       refine pv_ HT_ 27 ?_
       refine pv_ HT_ 28 ?_
       refine pv_ HT_ 29 ?_
       refine pv_ HT_ 30 ?_
       refine pv_ HT_ 32 ?_
       refine pv_ HT_ 36 ?_
       refine pv_ HT_ 38 ?_
       refine tv_ HT_ HW_ hHeld 31 ?_
       refine pv_ HT_ 33 ?_
       refine pv_ HT_ 34 ?_
       refine tv_ HT_ HW_ hHeld 35 ?_
       refine tv_ HT_ HW_ hHeld 37 ?_
       refine pv_ HT_ 39 ?_
       refine pv_ HT_ 40 ?_
       refine tv_ HT_ HW_ hHeld 41 ?_
       refine pv_ HT_ 42 ?_
       refine pv_ HT_ 43 ?_
       refine done_ (done_of HT_.out (by kernel_rfl)) ?_
       try go_wp2
       go_roundg kz2
       case measure => have := HJz1.out; have := HKz1.out; have := HKz2.out; omega
       case rel => exact ⟨(wrap64 (xz3 + 1)), rs_, H', ⟨by have := HJz1.out; have := HKz1.out; have := HKz2.out; omega⟩, ⟨bk_⟩, ⟨bk_⟩, ⟨be_⟩⟩

end Go.Proofs.YtggokdobijhdhaaDoor.P
