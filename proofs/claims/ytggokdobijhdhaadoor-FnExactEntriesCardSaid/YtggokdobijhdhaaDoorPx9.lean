-- Printed by a program over the kit's print.py (mp.sh), several laws in one namespace.
import Derived.Test.YtggokdobijhdhaaDoorPx0
import Derived.Test.YtggokdobijhdhaaDoorS
namespace Go.Proofs.YtggokdobijhdhaaDoor.P
open Go.RowKit Go.Proofs.YtggokdobijhdhaaDoor.X Go.Proofs.YtggokdobijhdhaaDoorW.PrintWords Go.Proofs.YtggokdobijhdhaaDoorW.PrintLast Go.Proofs.YtggokdobijhdhaaDoorW.PrintMore
attribute [local go_sem] max2_int min2_int max_two min_two max_three min_three max_four min_four   -- for this text's walks alone
set_option maxHeartbeats 8000000
set_option maxRecDepth 100000
set_option linter.unusedVariables false
set_option linter.unusedSimpArgs false

mutual
def spec_l8Entries.l0 : Nat → ByteArray → Int → List (S63) → Int → List ByteArray → List (S33) → List (S86) → Option ((List (S63)))
 | 0, _, _, _, _, _, _, _ => none
 | k + 1, x1, x2, x7, x8, x177000, x177001, x177002 => if x8 < (x177002.length : Int) then (if 0 ≤ x8 then (if x7.length < 2932031007402 then (spec_l8Entries.l0 k x1 x2 (x7 ++ [(⟨x1, (rd_T86 x177002 x8).f0, (rd_T86 x177002 x8).f1, (rd_T86 x177002 x8).f2⟩ : S63)]) (wrap64 (x8 + 1)) x177000 x177001 x177002) else (none)) else (none)) else (spec_l8Entries.l1 k x1 x2 x7 0 x177000 x177001 x177002)
def spec_l8Entries.l1 : Nat → ByteArray → Int → List (S63) → Int → List ByteArray → List (S33) → List (S86) → Option ((List (S63)))
 | 0, _, _, _, _, _, _, _ => none
 | k + 1, x1, x2, x7, x9, x177000, x177001, x177002 => if x9 < (x177000.length : Int) then (if 0 ≤ x9 then (if x2 > 0 then (if x1.size + 1 ≤ 9223372036854775807 then (if (x1 ++ (⟨#[47]⟩ : ByteArray)).size + (rdOf ByteArray.empty x177000 x9).size ≤ 9223372036854775807 then (if x9 < (x177001.length : Int) then ((spec_l8Entries.f k ((rd_T33 x177001 x9).f0) ((rd_T33 x177001 x9).f1) ((rd_T33 x177001 x9).f2) ((x1 ++ (⟨#[47]⟩ : ByteArray)) ++ (rdOf ByteArray.empty x177000 x9)) (wrap64 (x2 + 1))).bind fun t188 => (if x7.length + t188.length < 2932031007402 then (spec_l8Entries.l1 k x1 x2 (x7 ++ t188) (wrap64 (x9 + 1)) x177000 x177001 x177002) else (none))) else (none)) else (none)) else (none)) else (if x9 < (x177001.length : Int) then ((spec_l8Entries.f k ((rd_T33 x177001 x9).f0) ((rd_T33 x177001 x9).f1) ((rd_T33 x177001 x9).f2) (rdOf ByteArray.empty x177000 x9) (wrap64 (x2 + 1))).bind fun t195 => (if x7.length + t195.length < 2932031007402 then (spec_l8Entries.l1 k x1 x2 (x7 ++ t195) (wrap64 (x9 + 1)) x177000 x177001 x177002) else (none))) else (none))) else (none)) else (some x7)
def spec_l8Entries.f : Nat → List ByteArray → List (S33) → List (S86) → ByteArray → Int → Option ((List (S63)))
 | 0, _, _, _, _, _ => none
 | k + 1, l0_0, l0_1, l0_2, a1, a2 => spec_l8Entries.l0 k a1 a2 (([] : List (S63))) 0 l0_0 l0_1 l0_2
end
def spec_l8Entries.T5 : Bool × List (List Nat × List Nat) := (true, [([], []), ([], []), ([], []), ([2], [2]), ([], []), ([3, 4], [3, 4]), ([5], [5]), ([6], [6]), ([], []), ([8], [8]), ([], []), ([9, 10], [9, 10]), ([11], [11]), ([12], [12]), ([], []), ([14], [14]), ([], []), ([15, 16], [15, 16]), ([17], [17]), ([18], [18]), ([1, 7, 13, 19], [1, 7, 13, 19]), ([20], [20]), ([0, 21], [0, 21]), ([22, 22, 0, 1, 2, 3, 4, 5, 6, 7, 8, 9, 10, 11, 12, 13, 14, 15, 16, 17, 18, 19, 20, 21, 22], [0, 22])])
def spec_l8Entries.B5 : List Nat := [0, 0, 0, 4, 0, 28, 60, 124, 0, 256, 0, 1792, 3840, 7936, 0, 16384, 0, 114688, 245760, 507904, 1048574, 2097150, 4194303, 8388607]
theorem spec_l8Entries.tab5 : rtab .any (opsOf Tryd.f26 5) = spec_l8Entries.T5 := by kernel_rfl
theorem spec_l8Entries.bits5 : waitsOk spec_l8Entries.T5.2 spec_l8Entries.B5 = true := by kernel_rfl
theorem spec_l8Entries.calls (k : Nat) : ∀ (A0_0 : Option Addr) (c0_0 : Nat) (l0_0 : List ByteArray) (A0_1 : Option Addr) (c0_1 : Nat) (l0_1 : List (S33)) (A0_2 : Option Addr) (c0_2 : Nat) (l0_2 : List (S86)) (a1 : ByteArray) (a2 : Int) (r : List (S63)) (w : World) (hr0_0 : Kd.C Kd.string w A0_0 l0_0.length l0_0) (hc0_0 : l0_0.length ≤ c0_0) (hr0_1 : Kd.C k33 w A0_1 l0_1.length l0_1) (hc0_1 : l0_1.length ≤ c0_1) (hr0_2 : Kd.C k86 w A0_2 l0_2.length l0_2) (hc0_2 : l0_2.length ≤ c0_2) (h : spec_l8Entries.f k l0_0 l0_1 l0_2 a1 a2 = some r),
  Calls Tryd.prog 26 #[.agg #[.slice A0_0 l0_0.length c0_0, .slice A0_1 l0_1.length c0_1, .slice A0_2 l0_2.length c0_2], .string a1, .int .i64 a2] w fun e w' => ∃ v0_ : Value, e = .returned (v0_) ∧ Kd.R k63 63 w' w.heap.size (fun _ => True) v0_ r ∧ Below w.heap.size w w' := by
 induction k using Nat.strongRecOn with
 | _ k ih =>
 intro Az1 cz1 lz1 Az2 cz2 lz2 Az3 cz3 lz3 az1 az2 r w hrz1 hcz1 hrz2 hcz2 hrz3 hcz3 h
 cases k with
 | zero => exact absurd h (by simp [spec_l8Entries.f])
 | succ k =>
 simp only [spec_l8Entries.f] at h
 have huz1 := Tryd.underlying33
 have huz2 := Tryd.underlying63
 have HRz1 := Aside0.mk hrz1
 have HCz1 := Aside0.mk hcz1
 clear hrz1 hcz1
 have HRz2 := Aside0.mk hrz2
 have HCz2 := Aside0.mk hcz2
 clear hrz2 hcz2
 have HRz3 := Aside0.mk hrz3
 have HCz3 := Aside0.mk hcz3
 clear hrz3 hcz3
 have HB := Aside0.mk (Below.refl w.heap.size w)
 have H : (spec_l8Entries.l0 k az1 az2 (([] : List (S63))) 0 lz1 lz2 lz3) = some r := h
 clear h
 obtain ⟨yz1, hyz1⟩ : ∃ y_ : List (S63), y_ = (([] : List (S63))) := ⟨_, rfl⟩
 (first | (with_reducible replace H := ys_ hyz1 H; (try dsimp only at H)) | rw [← hyz1] at H | skip)
 have Nyz1 := Aside0.mk hyz1
 clear hyz1
 have H' := Aside0.mk H
 clear H
 go_enter Tryd.func26, Tryd.ntmps26
 go_wp2_with (first | ((with_reducible refine gate_dst (N := 3) rfl ?_); refine box_event ?hg (N := 3) ?hd (cs := #[.slice Az1 lz1.length cz1, .slice Az2 lz2.length cz2, .slice Az3 lz3.length cz3]) (t := 33) ?hr ?_; (case hd => rfl); (case hg => rfl); (case hr => first | (go_simp; done) | (go_simp; rfl)); intro gbz1 hg wz1 hbox hb; have BKz1 := Aside0.mk (hbox); have GWz1 := Aside0.mk ((sz_ : w.heap.size ≤ gbz1)); have GEz1 := Aside0.mk ((sz_ : w.heap.size ≤ gbz1)); replace HB := bw_ hb; clear hb hbox hg) | ((with_reducible refine gate_dst (N := 11) rfl ?_); refine Kd.R_lit k63 _ 63 ?hg (N := 11) ?hd (xs := ([] : List (S63))) (inner := []) (ok := fun _ => True) (okp := fun _ => True) ?hr ?hp (fun _ hk => hk) trivial (Below.refl _ _) (Nat.le_refl _) (by simp) ?_; (case hd => rfl); (case hg => rfl); (case hr => first | (go_simp; done) | (go_simp; rfl)); (case hp => exact (Reps.none _ _)); intro vz1 wz2 hoz1 hb hg_ hnew_; clear hg_ hnew_; (first | rw [← Nyz1.out] at hoz1 | (simp only [Int.reduceToNat] at hoz1; rw [← Nyz1.out] at hoz1)); have HOz1 := Aside0.mk (Kd.R_lower hoz1 (below_size be_)); replace HB := bw_ hb; replace BKz1 := kb_ BKz1 hb; clear hb hoz1))
 go_loopg [7, 8] k (fun kq v7 v8 w' => ∃ (x7_1 : List (S63)) (x8_1 : Int), v8 = .int .i64 x8_1 ∧ Aside0 (spec_l8Entries.l0 kq az1 az2 x7_1 x8_1 lz1 lz2 lz3 = some r) ∧ Aside0 (kq ≤ k) ∧ Aside0 (Kd.R k63 63 w' w.heap.size (fun _ => True) v7 x7_1) ∧ Aside0 (w'.heap[gbz1]? = some (.cells #[(.slice Az1 lz1.length cz1), (.slice Az2 lz2.length cz2), (.slice Az3 lz3.length cz3)] 33 (0, 0))) ∧ Aside0 (Below w.heap.size w w'))
 case atStart => exact ⟨(yz1), (0), rs_, H', ⟨Nat.le_refl _⟩, ⟨lR_ HOz1.out⟩, ⟨bk_⟩, ⟨be_⟩⟩
 case round =>
  clear H'
  obtain ⟨xz1, xz2, rfl, HA, HKz1, HO_7, BKz1, HB⟩ := hrel
  cases gk with
  | zero => exact absurd HA.out (by simp [spec_l8Entries.l0])
  | succ kz1 =>
   have H := HA.out
   clear HA
   simp only [spec_l8Entries.l0] at H
   by_cases cz4 : xz2 < (lz3.length : Int)
   rotate_left
   ·rw [if_neg cz4] at H
    have cz5 : decide (xz2 < (lz3.length : Int)) = false := decide_eq_false cz4
    clear cz4
    have H' := Aside0.mk H
    clear H
    have hczz1 : wr.cell? ⟨gbz1, 0, none⟩ = some (.slice Az1 lz1.length cz1) := bc_ BKz1 0
    have hczz2 : wr.cell? ⟨gbz1, 1, none⟩ = some (.slice Az2 lz2.length cz2) := bc_ BKz1 1
    have hczz3 : wr.cell? ⟨gbz1, 2, none⟩ = some (.slice Az3 lz3.length cz3) := bc_ BKz1 2
    have hfzz1 := blk_frozen BKz1.out 0
    have hfzz2 := blk_frozen BKz1.out 1
    have hfzz3 := blk_frozen BKz1.out 2
    go_wp2
    go_loopg [7, 9] kz1 (fun kq v7 v9 w' => ∃ (x7_2 : List (S63)) (x9_2 : Int), v9 = .int .i64 x9_2 ∧ Aside0 (spec_l8Entries.l1 kq az1 az2 x7_2 x9_2 lz1 lz2 lz3 = some r) ∧ Aside0 (kq ≤ kz1) ∧ Aside0 (Kd.R k63 63 w' w.heap.size (fun _ => True) v7 x7_2) ∧ Aside0 (w'.heap[gbz1]? = some (.cells #[(.slice Az1 lz1.length cz1), (.slice Az2 lz2.length cz2), (.slice Az3 lz3.length cz3)] 33 (0, 0))) ∧ Aside0 (Below w.heap.size w w'))
    case atStart => exact ⟨(xz1), (0), rs_, H', ⟨Nat.le_refl _⟩, ⟨lR_ HO_7.out⟩, ⟨bk_⟩, ⟨be_⟩⟩
    case round =>
     clear H'
     obtain ⟨xz3, xz4, rfl, HA, HKz2, HO_7, BKz1, HB⟩ := hrel
     cases gk with
     | zero => exact absurd HA.out (by simp [spec_l8Entries.l1])
     | succ kz2 =>
      have H := HA.out
      clear HA
      simp only [spec_l8Entries.l1] at H
      by_cases cz6 : xz4 < (lz1.length : Int)
      rotate_left
      ·rw [if_neg cz6] at H
       have cz7 : decide (xz4 < (lz1.length : Int)) = false := decide_eq_false cz6
       clear cz6
       obtain rfl := Option.some.inj H
       have hczz4 : wr.cell? ⟨gbz1, 0, none⟩ = some (.slice Az1 lz1.length cz1) := bc_ BKz1 0
       have hczz5 : wr.cell? ⟨gbz1, 1, none⟩ = some (.slice Az2 lz2.length cz2) := bc_ BKz1 1
       have hczz6 : wr.cell? ⟨gbz1, 2, none⟩ = some (.slice Az3 lz3.length cz3) := bc_ BKz1 2
       have hfzz4 := blk_frozen BKz1.out 0
       have hfzz5 := blk_frozen BKz1.out 1
       have hfzz6 := blk_frozen BKz1.out 2
       go_wp2
       go_ret
       exact ⟨_, er_, lR_ HO_7.out, be_⟩
      rw [if_pos cz6] at H
      have cz7 : decide (xz4 < (lz1.length : Int)) = true := decide_eq_true cz6
      clear cz6
      by_cases cz8 : 0 ≤ xz4
      rotate_left
      ·rw [if_neg cz8] at H
       exact absurd H (by simp)
      rw [if_pos cz8] at H
      have cz9 : decide (0 ≤ xz4) = true := decide_eq_true cz8
      clear cz8
      by_cases cz10 : az2 > 0
      rotate_left
      ·rw [if_neg cz10] at H
       have cz11 : decide (0 < az2) = false := decide_eq_false cz10
       clear cz10
       by_cases cz12 : xz4 < (lz2.length : Int)
       rotate_left
       ·rw [if_neg cz12] at H
        exact absurd H (by simp)
       rw [if_pos cz12] at H
       have cz13 : decide (xz4 < (lz2.length : Int)) = true := decide_eq_true cz12
       clear cz12
       replace H := bo_ H
       obtain ⟨tz1, Az5, H⟩ := H
       (try dsimp only at H)
       by_cases cz14 : xz3.length + tz1.length < 2932031007402
       rotate_left
       ·rw [if_neg cz14] at H
        exact absurd H (by simp)
       rw [if_pos cz14] at H
       have LMcz1 := Aside0.mk cz14
       clear cz14
       obtain ⟨yz2, hyz2⟩ : ∃ y_ : List (S63), y_ = (xz3 ++ tz1) := ⟨_, rfl⟩
       (first | (with_reducible replace H := ys_ hyz2 H; (try dsimp only at H)) | rw [← hyz2] at H | skip)
       have Nyz2 := Aside0.mk hyz2
       clear hyz2
       have H' := Aside0.mk H
       clear H
       have hczz4 : wr.cell? ⟨gbz1, 0, none⟩ = some (.slice Az1 lz1.length cz1) := bc_ BKz1 0
       have hczz5 : wr.cell? ⟨gbz1, 1, none⟩ = some (.slice Az2 lz2.length cz2) := bc_ BKz1 1
       have hczz6 : wr.cell? ⟨gbz1, 2, none⟩ = some (.slice Az3 lz3.length cz3) := bc_ BKz1 2
       have hfzz4 := blk_frozen BKz1.out 0
       have hfzz5 := blk_frozen BKz1.out 1
       have hfzz6 := blk_frozen BKz1.out 2
       have pz1 : 0 ≤ (xz4 : Int) := dt_
       have qz1 : xz4 < (lz1.length : Int) := dt_
       obtain ⟨adz1, ez1, hxz1⟩ := Kd.at_string HRz1.out xz4 pz1 qz1
       cases ez1
       replace hxz1 := cl_ HB hxz1
       replace pz1 := eq_true pz1
       replace qz1 := eq_true qz1
       obtain ⟨pz2, qz2, adz2, Az6, cz15, Az7, cz16, Az8, cz17, ez2, hxz2, hxz3, hxz4, hlz1, hiz1, hlz2, hiz2, hlz3, hiz3⟩ := aa_ (at_T33 HRz2.out xz4)
       cases ez2
       replace hxz2 := cl_ HB hxz2
       replace hxz3 := cl_ HB hxz3
       replace hxz4 := cl_ HB hxz4
       have HRz4 := Aside0.mk hiz1
       have HCz4 := Aside0.mk hlz1
       clear hiz1 hlz1
       have HRz5 := Aside0.mk hiz2
       have HCz5 := Aside0.mk hlz2
       clear hiz2 hlz2
       have HRz6 := Aside0.mk hiz3
       have HCz6 := Aside0.mk hlz3
       clear hiz3 hlz3
       go_wp2_with (first | ((with_reducible refine gate_callee (f := 26) rfl ?_); refine ca_ 69 Tryd.func26 #[.agg #[.slice Az6 ((rd_T33 lz2 xz4).f0).length cz15, .slice Az7 ((rd_T33 lz2 xz4).f1).length cz16, .slice Az8 ((rd_T33 lz2 xz4).f2).length cz17], .string (rdOf ByteArray.empty lz1 xz4), .int .i64 (wrap64 (az2 + 1))] ?_; (with_reducible refine (ih kz2 (by have := HKz1.out; have := HKz2.out; omega) _ _ ((rd_T33 lz2 xz4).f0) _ _ ((rd_T33 lz2 xz4).f1) _ _ ((rd_T33 lz2 xz4).f2) (rdOf ByteArray.empty lz1 xz4) (wrap64 (az2 + 1)) tz1 _ ?side1 ?side2 ?side3 ?side4 ?side5 ?side6 Az5.out).mono ?_); (case side1 => exact Kd.C_below HRz4.out be_); (case side2 => exact HCz4.out); (case side3 => exact Kd.C_below HRz5.out be_); (case side4 => exact HCz5.out); (case side5 => exact Kd.C_below HRz6.out be_); (case side6 => exact HCz6.out); rintro e wz3 ⟨vz2, rfl, hoz2, hb⟩; refine ⟨_, rfl, ?_⟩; have HOz2 := Aside0.mk (Kd.R_lower (Kd.R_new' hoz2 (Kd.R_lt (lR_ HO_7.out))) (below_size be_)); replace HO_7 := eR_ HO_7 (Kd.R_base hoz2) hb; replace HB := bw_ hb; replace BKz1 := kb_ BKz1 hb; clear hb hoz2; obtain ⟨Aoz1, coz1, eoz1⟩ := Kd.R_slice HOz2.out; subst eoz1) | ((with_reducible refine gate_builtin (b := .append) (xs := #[.tmp 60, .tmp 69]) rfl ?_); at_builtin; refine Kd.R_append_rows k63 (w0 := w) w.heap.size rfl (.tmp 60) (.tmp 69) 28 63 (.agg #[(.string ⟨#[]⟩), (.string ⟨#[]⟩), (.int .i64 0), (.int .i64 0)]) 48 rfl Tryd.underlying28 info63 rfl (by decide) (by omega) u7 xz3 tz1 _ _ _ (fun k_ => some k_ ≠ (.slice Aoz1 tz1.length coz1 : Value).ownBlock) (fun _ => False) rfl rfl ?aO ?aR (fun _ _ h => h) (fun _ h => h.elim) ?aF ?aB ?aS ?aL ?_; (case aR => exact cR_ HOz2); (case aB => exact be_); (case aF => exact (fun k_ hk => Kd.fresh' (Kd.R_lt (lR_ HOz2.out)) k_ hk)); (case aO => exact (lR_ (Kd.R_mono HO_7.out (fun _ hk => hk.2)))); (case aS => exact (below_size be_)); (case aL => have := LMcz1.out; omega); intro vz3 wz4 ho hb hg hat; rw [← Nyz2.out] at ho; replace BKz1 := Aside0.mk (blk_grown (g := gbz1) (o := .cells #[.slice (some adz1) lz1.length cz1, .slice (some adz2) lz2.length cz2, .slice Az3 lz3.length cz3] 33 (0, 0)) bk_ hg (Kd.R_ne HO_7.out BKz1.out (by decide))); replace HOz2 := Aside0.mk (Kd.R_after (ok := (fun _ => True)) (lR_ HOz2.out) hg hat); replace HB := Aside0.mk (hb); have HOz3 := Aside0.mk (ho); clear HO_7 ho hb hg hat))
       go_roundg kz2
       case measure => have := HKz1.out; have := HKz2.out; omega
       case rel => exact ⟨(yz2), (wrap64 (xz4 + 1)), rs_, H', ⟨by have := HKz1.out; have := HKz2.out; omega⟩, ⟨lR_ (Kd.R_mono HOz3.out (fun _ hk => trivial))⟩, ⟨bk_⟩, ⟨be_⟩⟩
      rw [if_pos cz10] at H
      have cz11 : decide (0 < az2) = true := decide_eq_true cz10
      clear cz10
      by_cases cz12 : az1.size + 1 ≤ 9223372036854775807
      rotate_left
      ·rw [if_neg cz12] at H
       exact absurd H (by simp)
      rw [if_pos cz12] at H
      have cz13 := eq_true cz12
      have cz14 : decide (az1.size + 1 ≤ 9223372036854775807) = true := decide_eq_true cz12
      try have cz15 : (9223372036854775807 < az1.size + 1) = False := eq_false (Nat.not_lt.2 cz12)
      by_cases cz16 : (az1 ++ (⟨#[47]⟩ : ByteArray)).size + (rdOf ByteArray.empty lz1 xz4).size ≤ 9223372036854775807
      rotate_left
      ·rw [if_neg cz16] at H
       exact absurd H (by simp)
      rw [if_pos cz16] at H
      have cz17 := eq_true cz16
      have cz18 : decide ((az1 ++ (⟨#[47]⟩ : ByteArray)).size + (rdOf ByteArray.empty lz1 xz4).size ≤ 9223372036854775807) = true := decide_eq_true cz16
      try have cz19 : (9223372036854775807 < (az1 ++ (⟨#[47]⟩ : ByteArray)).size + (rdOf ByteArray.empty lz1 xz4).size) = False := eq_false (Nat.not_lt.2 cz16)
      by_cases cz20 : xz4 < (lz2.length : Int)
      rotate_left
      ·rw [if_neg cz20] at H
       exact absurd H (by simp)
      rw [if_pos cz20] at H
      have cz21 : decide (xz4 < (lz2.length : Int)) = true := decide_eq_true cz20
      clear cz20
      replace H := bo_ H
      obtain ⟨tz1, Az5, H⟩ := H
      (try dsimp only at H)
      by_cases cz22 : xz3.length + tz1.length < 2932031007402
      rotate_left
      ·rw [if_neg cz22] at H
       exact absurd H (by simp)
      rw [if_pos cz22] at H
      have LMcz1 := Aside0.mk cz22
      clear cz22
      obtain ⟨yz2, hyz2⟩ : ∃ y_ : List (S63), y_ = (xz3 ++ tz1) := ⟨_, rfl⟩
      (first | (with_reducible replace H := ys_ hyz2 H; (try dsimp only at H)) | rw [← hyz2] at H | skip)
      have Nyz2 := Aside0.mk hyz2
      clear hyz2
      have H' := Aside0.mk H
      clear H
      have hczz4 : wr.cell? ⟨gbz1, 0, none⟩ = some (.slice Az1 lz1.length cz1) := bc_ BKz1 0
      have hczz5 : wr.cell? ⟨gbz1, 1, none⟩ = some (.slice Az2 lz2.length cz2) := bc_ BKz1 1
      have hczz6 : wr.cell? ⟨gbz1, 2, none⟩ = some (.slice Az3 lz3.length cz3) := bc_ BKz1 2
      have hfzz4 := blk_frozen BKz1.out 0
      have hfzz5 := blk_frozen BKz1.out 1
      have hfzz6 := blk_frozen BKz1.out 2
      have pz1 : 0 ≤ (xz4 : Int) := dt_
      have qz1 : xz4 < (lz1.length : Int) := dt_
      obtain ⟨adz1, ez1, hxz1⟩ := Kd.at_string HRz1.out xz4 pz1 qz1
      cases ez1
      replace hxz1 := cl_ HB hxz1
      replace pz1 := eq_true pz1
      replace qz1 := eq_true qz1
      obtain ⟨pz2, qz2, adz2, Az6, cz23, Az7, cz24, Az8, cz25, ez2, hxz2, hxz3, hxz4, hlz1, hiz1, hlz2, hiz2, hlz3, hiz3⟩ := aa_ (at_T33 HRz2.out xz4)
      cases ez2
      replace hxz2 := cl_ HB hxz2
      replace hxz3 := cl_ HB hxz3
      replace hxz4 := cl_ HB hxz4
      have HRz4 := Aside0.mk hiz1
      have HCz4 := Aside0.mk hlz1
      clear hiz1 hlz1
      have HRz5 := Aside0.mk hiz2
      have HCz5 := Aside0.mk hlz2
      clear hiz2 hlz2
      have HRz6 := Aside0.mk hiz3
      have HCz6 := Aside0.mk hlz3
      clear hiz3 hlz3
      go_wp2_with (first | ((with_reducible refine gate_callee (f := 26) rfl ?_); refine ca_ 69 Tryd.func26 #[.agg #[.slice Az6 ((rd_T33 lz2 xz4).f0).length cz23, .slice Az7 ((rd_T33 lz2 xz4).f1).length cz24, .slice Az8 ((rd_T33 lz2 xz4).f2).length cz25], .string ((az1 ++ (⟨#[47]⟩ : ByteArray)) ++ (rdOf ByteArray.empty lz1 xz4)), .int .i64 (wrap64 (az2 + 1))] ?_; (with_reducible refine (ih kz2 (by have := HKz1.out; have := HKz2.out; omega) _ _ ((rd_T33 lz2 xz4).f0) _ _ ((rd_T33 lz2 xz4).f1) _ _ ((rd_T33 lz2 xz4).f2) ((az1 ++ (⟨#[47]⟩ : ByteArray)) ++ (rdOf ByteArray.empty lz1 xz4)) (wrap64 (az2 + 1)) tz1 _ ?side1 ?side2 ?side3 ?side4 ?side5 ?side6 Az5.out).mono ?_); (case side1 => exact Kd.C_below HRz4.out be_); (case side2 => exact HCz4.out); (case side3 => exact Kd.C_below HRz5.out be_); (case side4 => exact HCz5.out); (case side5 => exact Kd.C_below HRz6.out be_); (case side6 => exact HCz6.out); rintro e wz3 ⟨vz2, rfl, hoz2, hb⟩; refine ⟨_, rfl, ?_⟩; have HOz2 := Aside0.mk (Kd.R_lower (Kd.R_new' hoz2 (Kd.R_lt (lR_ HO_7.out))) (below_size be_)); replace HO_7 := eR_ HO_7 (Kd.R_base hoz2) hb; replace HB := bw_ hb; replace BKz1 := kb_ BKz1 hb; clear hb hoz2; obtain ⟨Aoz1, coz1, eoz1⟩ := Kd.R_slice HOz2.out; subst eoz1) | ((with_reducible refine gate_builtin (b := .append) (xs := #[.tmp 60, .tmp 69]) rfl ?_); at_builtin; refine Kd.R_append_rows k63 (w0 := w) w.heap.size rfl (.tmp 60) (.tmp 69) 28 63 (.agg #[(.string ⟨#[]⟩), (.string ⟨#[]⟩), (.int .i64 0), (.int .i64 0)]) 48 rfl Tryd.underlying28 info63 rfl (by decide) (by omega) u7 xz3 tz1 _ _ _ (fun k_ => some k_ ≠ (.slice Aoz1 tz1.length coz1 : Value).ownBlock) (fun _ => False) rfl rfl ?aO ?aR (fun _ _ h => h) (fun _ h => h.elim) ?aF ?aB ?aS ?aL ?_; (case aR => exact cR_ HOz2); (case aB => exact be_); (case aF => exact (fun k_ hk => Kd.fresh' (Kd.R_lt (lR_ HOz2.out)) k_ hk)); (case aO => exact (lR_ (Kd.R_mono HO_7.out (fun _ hk => hk.2)))); (case aS => exact (below_size be_)); (case aL => have := LMcz1.out; omega); intro vz3 wz4 ho hb hg hat; rw [← Nyz2.out] at ho; replace BKz1 := Aside0.mk (blk_grown (g := gbz1) (o := .cells #[.slice (some adz1) lz1.length cz1, .slice (some adz2) lz2.length cz2, .slice Az3 lz3.length cz3] 33 (0, 0)) bk_ hg (Kd.R_ne HO_7.out BKz1.out (by decide))); replace HOz2 := Aside0.mk (Kd.R_after (ok := (fun _ => True)) (lR_ HOz2.out) hg hat); replace HB := Aside0.mk (hb); have HOz3 := Aside0.mk (ho); clear HO_7 ho hb hg hat))
      go_roundg kz2
      case measure => have := HKz1.out; have := HKz2.out; omega
      case rel => exact ⟨(yz2), (wrap64 (xz4 + 1)), rs_, H', ⟨by have := HKz1.out; have := HKz2.out; omega⟩, ⟨lR_ (Kd.R_mono HOz3.out (fun _ hk => trivial))⟩, ⟨bk_⟩, ⟨be_⟩⟩
   rw [if_pos cz4] at H
   have cz5 : decide (xz2 < (lz3.length : Int)) = true := decide_eq_true cz4
   clear cz4
   by_cases cz6 : 0 ≤ xz2
   rotate_left
   ·rw [if_neg cz6] at H
    exact absurd H (by simp)
   rw [if_pos cz6] at H
   have cz7 : decide (0 ≤ xz2) = true := decide_eq_true cz6
   clear cz6
   by_cases cz8 : xz1.length < 2932031007402
   rotate_left
   ·rw [if_neg cz8] at H
    exact absurd H (by simp)
   rw [if_pos cz8] at H
   have LMcz1 := Aside0.mk cz8
   clear cz8
   obtain ⟨yz2, hyz2⟩ : ∃ y_ : List (S63), y_ = (xz1 ++ [(⟨az1, (rd_T86 lz3 xz2).f0, (rd_T86 lz3 xz2).f1, (rd_T86 lz3 xz2).f2⟩ : S63)]) := ⟨_, rfl⟩
   (first | (with_reducible replace H := ys_ hyz2 H; (try dsimp only at H)) | rw [← hyz2] at H | skip)
   have Nyz2 := Aside0.mk hyz2
   clear hyz2
   have H' := Aside0.mk H
   clear H
   have hczz1 : wr.cell? ⟨gbz1, 0, none⟩ = some (.slice Az1 lz1.length cz1) := bc_ BKz1 0
   have hczz2 : wr.cell? ⟨gbz1, 1, none⟩ = some (.slice Az2 lz2.length cz2) := bc_ BKz1 1
   have hczz3 : wr.cell? ⟨gbz1, 2, none⟩ = some (.slice Az3 lz3.length cz3) := bc_ BKz1 2
   have hfzz1 := blk_frozen BKz1.out 0
   have hfzz2 := blk_frozen BKz1.out 1
   have hfzz3 := blk_frozen BKz1.out 2
   try go_wp2
   replace HO_7 := Aside0.mk (Kd.R_drew HO_7.out)
   replace BKz1 := Aside0.mk (blk_drew BKz1.out)
   replace HB := Aside0.mk (below_drew1 HB.out)
   obtain ⟨pz1, qz1, adz1, ez1, hxz1, hxz2, hxz3⟩ := aa_ (at_T86 HRz3.out xz2)
   have hwz1 := hxz3
   have hwz2 := hxz2
   have hwz3 := hxz1
   cases ez1
   replace hxz1 := cl_ HB hxz1
   replace hxz2 := cl_ HB hxz2
   replace hxz3 := cl_ HB hxz3
   obtain ⟨pz2, qz2, adz2, ez2, hxz4, hxz5, hxz6⟩ := aa_ (at_T86 HRz3.out xz2)
   have hwz4 := hxz6
   have hwz5 := hxz5
   have hwz6 := hxz4
   obtain rfl : adz1 = adz2 := (by injection ez2)
   replace hxz4 := cl_ HB hxz4
   replace hxz5 := cl_ HB hxz5
   replace hxz6 := cl_ HB hxz6
   obtain ⟨pz3, qz3, adz3, ez3, hxz7, hxz8, hxz9⟩ := aa_ (at_T86 HRz3.out xz2)
   have hwz7 := hxz9
   have hwz8 := hxz8
   have hwz9 := hxz7
   obtain rfl : adz1 = adz3 := (by injection ez3)
   replace hxz7 := cl_ HB hxz7
   replace hxz8 := cl_ HB hxz8
   replace hxz9 := cl_ HB hxz9
   refine start_ (n := 24) (S := fun w' => w'.cell? ⟨gbz1, 0, none⟩ = some (.slice Az1 lz1.length cz1) ∧ w'.cell? ⟨gbz1, 1, none⟩ = some (.slice Az2 lz2.length cz2) ∧ w'.cell? ⟨gbz1, 2, none⟩ = some (.slice (some adz1) lz3.length cz3) ∧ w'.cell? (adz1.add ((xz2).toNat * 3)) = some (.string ((rd_T86 lz3 xz2).f0)) ∧ w'.cell? ⟨(adz1.add ((xz2).toNat * 3)).block, (adz1.add ((xz2).toNat * 3)).off + 1, none⟩ = some (.int .i64 ((rd_T86 lz3 xz2).f1)) ∧ w'.cell? ⟨(adz1.add ((xz2).toNat * 3)).block, (adz1.add ((xz2).toNat * 3)).off + 2, none⟩ = some (.int .i64 ((rd_T86 lz3 xz2).f2)) ∧ w'.cell? (adz1.add ((xz2).toNat * 3)) = some (.string ((rd_T86 lz3 xz2).f0)) ∧ w'.cell? ⟨(adz1.add ((xz2).toNat * 3)).block, (adz1.add ((xz2).toNat * 3)).off + 1, none⟩ = some (.int .i64 ((rd_T86 lz3 xz2).f1)) ∧ w'.cell? ⟨(adz1.add ((xz2).toNat * 3)).block, (adz1.add ((xz2).toNat * 3)).off + 2, none⟩ = some (.int .i64 ((rd_T86 lz3 xz2).f2)) ∧ w'.cell? (adz1.add ((xz2).toNat * 3)) = some (.string ((rd_T86 lz3 xz2).f0)) ∧ w'.cell? ⟨(adz1.add ((xz2).toNat * 3)).block, (adz1.add ((xz2).toNat * 3)).off + 1, none⟩ = some (.int .i64 ((rd_T86 lz3 xz2).f1)) ∧ w'.cell? ⟨(adz1.add ((xz2).toNat * 3)).block, (adz1.add ((xz2).toNat * 3)).off + 2, none⟩ = some (.int .i64 ((rd_T86 lz3 xz2).f2))) (ds := []) (bs_ 24 0) (by kernel_rfl) rfl (by kernel_rfl) ⟨bc_ BKz1 0, bc_ BKz1 1, bc_ BKz1 2, (cl_ HB hwz3), (cl_ HB hwz2), (cl_ HB hwz1), (cl_ HB hwz6), (cl_ HB hwz5), (cl_ HB hwz4), (cl_ HB hwz9), (cl_ HB hwz8), (cl_ HB hwz7)⟩ (fun hHeld => ?_); refine with_tabW spec_l8Entries.tab5 spec_l8Entries.bits5 (fun HT_ HW_ => ?_)
   generalize wr.drew = wz3 at HO_7 BKz1 HB hxz1 hxz2 hxz3 hxz4 hxz5 hxz6 hxz7 hxz8 hxz9 hHeld ⊢
   refine pv_ HT_ 0 ?_
   refine pv_ HT_ 1 ?_
   refine pv_ HT_ 2 ?_
   refine pv_ HT_ 4 ?_
   refine pv_ HT_ 8 ?_
   refine pv_ HT_ 10 ?_
   refine pv_ HT_ 14 ?_
   refine pv_ HT_ 16 ?_
   refine tv_ HT_ HW_ hHeld 3 ?_
   refine pv_ HT_ 5 ?_
   refine pv_ HT_ 6 ?_
   refine tv_ HT_ HW_ hHeld 7 ?_
   refine tv_ HT_ HW_ hHeld 9 ?_
   refine pv_ HT_ 11 ?_
   refine pv_ HT_ 12 ?_
   refine tv_ HT_ HW_ hHeld 13 ?_
   refine tv_ HT_ HW_ hHeld 15 ?_
   refine pv_ HT_ 17 ?_
   refine pv_ HT_ 18 ?_
   refine tv_ HT_ HW_ hHeld 19 ?_
   refine pv_ HT_ 20 ?_
   refine ov_ HT_ 21 (fun K hK => ?_)
   refine value_ (w1 := ?_) (v := ?_) (by rfl) rfl ?_ ?_
   rotate_left 2
   ·go_simp
    constructor
    ·rfl
    ·rfl
   refine hK.out _ _ ⟨(blk_cell (blk_alloc BKz1.out _) 0).trans rfl, (blk_cell (blk_alloc BKz1.out _) 1).trans rfl, (blk_cell (blk_alloc BKz1.out _) 2).trans rfl, (World.cell?_alloc_lt _ _ _ (World.block_lt_of_cell? _ _ ((cl_ HB hwz3)))).trans ((cl_ HB hwz3)), (World.cell?_alloc_lt _ _ _ (World.block_lt_of_cell? _ _ ((cl_ HB hwz2)))).trans ((cl_ HB hwz2)), (World.cell?_alloc_lt _ _ _ (World.block_lt_of_cell? _ _ ((cl_ HB hwz1)))).trans ((cl_ HB hwz1)), (World.cell?_alloc_lt _ _ _ (World.block_lt_of_cell? _ _ ((cl_ HB hwz6)))).trans ((cl_ HB hwz6)), (World.cell?_alloc_lt _ _ _ (World.block_lt_of_cell? _ _ ((cl_ HB hwz5)))).trans ((cl_ HB hwz5)), (World.cell?_alloc_lt _ _ _ (World.block_lt_of_cell? _ _ ((cl_ HB hwz4)))).trans ((cl_ HB hwz4)), (World.cell?_alloc_lt _ _ _ (World.block_lt_of_cell? _ _ ((cl_ HB hwz9)))).trans ((cl_ HB hwz9)), (World.cell?_alloc_lt _ _ _ (World.block_lt_of_cell? _ _ ((cl_ HB hwz8)))).trans ((cl_ HB hwz8)), (World.cell?_alloc_lt _ _ _ (World.block_lt_of_cell? _ _ ((cl_ HB hwz7)))).trans ((cl_ HB hwz7))⟩ (fun hHeld => ?_)
   clear hK K
   refine nm_ 40 ?_
   refine ov_ HT_ 22 (fun K hK => ?_)
   refine Kd.R_append_step k63 (w0 := w) w.heap.size (by rfl) (.tmp 19) (.tmp 40) 28 63 (.agg #[(.string ⟨#[]⟩), (.string ⟨#[]⟩), (.int .i64 0), (.int .i64 0)]) 48 rfl Tryd.underlying28 info63 rfl (by decide) (by omega) u7 xz1 (⟨az1, (rd_T86 lz3 xz2).f0, (rd_T86 lz3 xz2).f1, (rd_T86 lz3 xz2).f2⟩ : S63) [.string az1, .string ((rd_T86 lz3 xz2).f0), .int .i64 ((rd_T86 lz3 xz2).f1), .int .i64 ((rd_T86 lz3 xz2).f2)] (fun _ => True) (fun _ => False) rfl rfl ?aP (fun _ hk => hk.elim) ?aF ?aO ?aB ?aS ?aL ?_
   (case aP => exact k63_mkM _ _ _ (⟨az1, (rd_T86 lz3 xz2).f0, (rd_T86 lz3 xz2).f1, (rd_T86 lz3 xz2).f2⟩ : S63))
   (case aB => exact be_)
   (case aF => exact (fun _ _ => trivial))
   (case aO => exact (lR_ HO_7.out))
   (case aS => exact (below_size be_))
   (case aL => have := LMcz1.out; omega)
   intro vz2 wz4 ho hb hg hat
   rw [← Nyz2.out] at ho
   replace BKz1 := Aside0.mk (blk_grown (g := gbz1) (o := .cells #[.slice Az1 lz1.length cz1, .slice Az2 lz2.length cz2, .slice (some adz1) lz3.length cz3] 33 (0, 0)) bk_ hg (Kd.R_ne HO_7.out BKz1.out (by decide)))
   replace HB := Aside0.mk (hb)
   have HOz2 := Aside0.mk (ho)
   clear HO_7 ho hb hg hat
   refine hK.out _ _ ⟨bc_ BKz1 0, bc_ BKz1 1, bc_ BKz1 2, (cl_ HB hwz3), (cl_ HB hwz2), (cl_ HB hwz1), (cl_ HB hwz6), (cl_ HB hwz5), (cl_ HB hwz4), (cl_ HB hwz9), (cl_ HB hwz8), (cl_ HB hwz7)⟩ (fun hHeld => ?_)
   clear hK K
   refine nm_ 41 ?_
   refine pv_ HT_ 23 ?_
   refine done_ (done_of HT_.out (by kernel_rfl)) ?_
   try go_wp2
   go_roundg kz1
   case measure => have := HKz1.out; omega
   case rel => exact ⟨(yz2), (wrap64 (xz2 + 1)), rs_, H', ⟨by have := HKz1.out; omega⟩, ⟨lR_ HOz2.out⟩, ⟨bk_⟩, ⟨be_⟩⟩

end Go.Proofs.YtggokdobijhdhaaDoor.P
