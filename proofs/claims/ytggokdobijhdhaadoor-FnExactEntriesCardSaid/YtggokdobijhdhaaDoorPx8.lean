-- Printed by a program over the kit's print.py (mp.sh), several laws in one namespace.
import Derived.Test.YtggokdobijhdhaaDoorPx0
import Derived.Test.YtggokdobijhdhaaDoorS
import Derived.Test.YtggokdobijhdhaaDoorPx6
import Derived.Test.YtggokdobijhdhaaDoorPx7
namespace Go.Proofs.YtggokdobijhdhaaDoor.P
open Go.RowKit Go.Proofs.YtggokdobijhdhaaDoor.X Go.Proofs.YtggokdobijhdhaaDoorW.PrintWords Go.Proofs.YtggokdobijhdhaaDoorW.PrintLast Go.Proofs.YtggokdobijhdhaaDoorW.PrintMore
attribute [local go_sem] max2_int min2_int max_two min_two max_three min_three max_four min_four   -- for this text's walks alone
set_option maxHeartbeats 8000000
set_option maxRecDepth 100000
set_option linter.unusedVariables false
set_option linter.unusedSimpArgs false

mutual
def spec_l8Texts.j0 : Nat → ByteArray → Int → Bool → List ByteArray → List (S33) → List (S86) → Option (Bool)
 | 0, _, _, _, _, _, _ => none
 | k + 1, x1, x2, x21, x167000, x167001, x167002 => if x21 = true then (some false) else (spec_l8Texts.l0 k x1 x2 0 x167000 x167001 x167002)
def spec_l8Texts.l0 : Nat → ByteArray → Int → Int → List ByteArray → List (S33) → List (S86) → Option (Bool)
 | 0, _, _, _, _, _, _ => none
 | k + 1, x1, x2, x7, x167000, x167001, x167002 => if x7 < (x167000.length : Int) then (if 0 ≤ x7 then (if x2 > 0 then (if x1.size + 1 ≤ 9223372036854775807 then (if (x1 ++ (⟨#[47]⟩ : ByteArray)).size + (rdOf ByteArray.empty x167000 x7).size ≤ 9223372036854775807 then (if x7 < (x167001.length : Int) then ((spec_l8Texts.f k ((rd_T33 x167001 x7).f0) ((rd_T33 x167001 x7).f1) ((rd_T33 x167001 x7).f2) ((x1 ++ (⟨#[47]⟩ : ByteArray)) ++ (rdOf ByteArray.empty x167000 x7)) (wrap64 (x2 + 1))).bind fun t170 => (if t170 = true then (spec_l8Texts.l0 k x1 x2 (wrap64 (x7 + 1)) x167000 x167001 x167002) else (some false))) else (none)) else (none)) else (none)) else (if x7 < (x167001.length : Int) then ((spec_l8Texts.f k ((rd_T33 x167001 x7).f0) ((rd_T33 x167001 x7).f1) ((rd_T33 x167001 x7).f2) (rdOf ByteArray.empty x167000 x7) (wrap64 (x2 + 1))).bind fun t172 => (if t172 = true then (spec_l8Texts.l0 k x1 x2 (wrap64 (x7 + 1)) x167000 x167001 x167002) else (some false))) else (none))) else (none)) else (some true)
def spec_l8Texts.f : Nat → List ByteArray → List (S33) → List (S86) → ByteArray → Int → Option (Bool)
 | 0, _, _, _, _, _ => none
 | k + 1, l0_0, l0_1, l0_2, a1, a2 => if a2 > 0 then (if (l0_2.length : Int) > 0 then ((spec_FilterOk.f k a1).bind fun t167 => (spec_l8Texts.j0 k a1 a2 (!t167) l0_0 l0_1 l0_2)) else (spec_l8Texts.j0 k a1 a2 false l0_0 l0_1 l0_2)) else (spec_l8Texts.j0 k a1 a2 false l0_0 l0_1 l0_2)
end
theorem spec_l8Texts.calls (k : Nat) : ∀ (A0_0 : Option Addr) (c0_0 : Nat) (l0_0 : List ByteArray) (A0_1 : Option Addr) (c0_1 : Nat) (l0_1 : List (S33)) (A0_2 : Option Addr) (c0_2 : Nat) (l0_2 : List (S86)) (a1 : ByteArray) (a2 : Int) (r : Bool) (w : World) (hr0_0 : Kd.C Kd.string w A0_0 l0_0.length l0_0) (hc0_0 : l0_0.length ≤ c0_0) (hr0_1 : Kd.C k33 w A0_1 l0_1.length l0_1) (hc0_1 : l0_1.length ≤ c0_1) (hr0_2 : Kd.C k86 w A0_2 l0_2.length l0_2) (hc0_2 : l0_2.length ≤ c0_2) (h : spec_l8Texts.f k l0_0 l0_1 l0_2 a1 a2 = some r),
  Calls Tryd.prog 53 #[.agg #[.slice A0_0 l0_0.length c0_0, .slice A0_1 l0_1.length c0_1, .slice A0_2 l0_2.length c0_2], .string a1, .int .i64 a2] w fun e w' => e = .returned (.bool r) ∧ Below w.heap.size w w' := by
 induction k using Nat.strongRecOn with
 | _ k ih =>
 intro Az1 cz1 lz1 Az2 cz2 lz2 Az3 cz3 lz3 az1 az2 r w hrz1 hcz1 hrz2 hcz2 hrz3 hcz3 h
 cases k with
 | zero => exact absurd h (by simp [spec_l8Texts.f])
 | succ k =>
 simp only [spec_l8Texts.f] at h
 have huz1 := Tryd.underlying33
 have HRz1 := Aside0.mk hrz1
 have HCz1 := Aside0.mk hcz1
 clear hrz1 hcz1
 have HRz2 := Aside0.mk hrz2
 have HCz2 := Aside0.mk hcz2
 clear hrz2 hcz2
 have HRz3 := Aside0.mk hrz3
 have HCz3 := Aside0.mk hcz3
 clear hrz3 hcz3
 have HB := Aside0.mk (Below.refl w.heap.size w)
 have H : (if az2 > 0 then (if (lz3.length : Int) > 0 then ((spec_FilterOk.f k az1).bind fun t167 => (spec_l8Texts.j0 k az1 az2 (!t167) lz1 lz2 lz3)) else (spec_l8Texts.j0 k az1 az2 false lz1 lz2 lz3)) else (spec_l8Texts.j0 k az1 az2 false lz1 lz2 lz3)) = some r := h
 clear h
 have HCz4 := Aside0.mk H
 clear H
 go_enter Tryd.func53, Tryd.ntmps53
 go_upto_region 1 with (first | ((with_reducible refine gate_dst (N := 3) rfl ?_); (try (refine gate_guard (by rfl) ?_; dsimp only)); refine box_event ?hg (N := 3) ?hd (cs := #[.slice Az1 lz1.length cz1, .slice Az2 lz2.length cz2, .slice Az3 lz3.length cz3]) (t := 33) ?hr ?_; (case hd => rfl); (case hg => rfl); (case hr => first | (go_simp; done) | (go_simp; rfl)); intro gbz1 hg wz1 hbox hb; have BKz1 := Aside0.mk (hbox); have GWz1 := Aside0.mk ((sz_ : w.heap.size ≤ gbz1)); have GEz1 := Aside0.mk ((sz_ : w.heap.size ≤ gbz1)); replace HB := bw_ hb; clear hb hbox hg))
 (try simp only [Act.put, List.setIfInBounds_toArray, List.set_cons_zero, List.set_cons_succ])
 go_cut [21] (fun v21 wc => ∃ (kq : Nat) (x21_3 : Bool), v21 = .bool x21_3 ∧ Aside0 (spec_l8Texts.j0 kq az1 az2 x21_3 lz1 lz2 lz3 = some r) ∧ Aside0 (kq ≤ k) ∧ Aside0 (wc.heap[gbz1]? = some (.cells #[(.slice Az1 lz1.length cz1), (.slice Az2 lz2.length cz2), (.slice Az3 lz3.length cz3)] 33 (0, 0))) ∧ Aside0 (Below w.heap.size w wc))
 case first =>
  have H := HCz4.out
  clear HCz4
  by_cases cz4 : az2 > 0
  rotate_left
  ·rw [if_neg cz4] at H
   have cz5 : decide (0 < az2) = false := decide_eq_false cz4
   clear cz4
   (first | rw [cz5] | (simp only [i64_w, i32_w]; rw [cz5]) | skip)
   have H' := Aside0.mk H
   clear H
   go_wp2
   go_meet
   case rel => exact ⟨_, (false), rs_, H', ⟨by first | omega | exact Nat.le_refl _⟩, ⟨bk_⟩, ⟨be_⟩⟩
  rw [if_pos cz4] at H
  have cz5 : decide (0 < az2) = true := decide_eq_true cz4
  clear cz4
  (first | rw [cz5] | (simp only [i64_w, i32_w]; rw [cz5]) | skip)
  by_cases cz6 : (lz3.length : Int) > 0
  rotate_left
  ·rw [if_neg cz6] at H
   have cz7 : decide (0 < (lz3.length : Int)) = false := decide_eq_false cz6
   have cz8 : decide (0 < lz3.length) = false := decide_eq_false (by omega)
   clear cz6
   have H' := Aside0.mk H
   clear H
   have hczz1 : wz1.cell? ⟨gbz1, 0, none⟩ = some (.slice Az1 lz1.length cz1) := bc_ BKz1 0
   have hczz2 : wz1.cell? ⟨gbz1, 1, none⟩ = some (.slice Az2 lz2.length cz2) := bc_ BKz1 1
   have hczz3 : wz1.cell? ⟨gbz1, 2, none⟩ = some (.slice Az3 lz3.length cz3) := bc_ BKz1 2
   have hfzz1 := blk_frozen BKz1.out 0
   have hfzz2 := blk_frozen BKz1.out 1
   have hfzz3 := blk_frozen BKz1.out 2
   go_wp2
   go_meet
   case rel => exact ⟨_, (false), rs_, H', ⟨by first | omega | exact Nat.le_refl _⟩, ⟨bk_⟩, ⟨be_⟩⟩
  rw [if_pos cz6] at H
  have cz7 : decide (0 < (lz3.length : Int)) = true := decide_eq_true cz6
  have cz8 : decide (0 < lz3.length) = true := decide_eq_true (by omega)
  clear cz6
  replace H := bo_ H
  obtain ⟨tz1, Az5, H⟩ := H
  (try dsimp only at H)
  have H' := Aside0.mk H
  clear H
  have hczz1 : wz1.cell? ⟨gbz1, 0, none⟩ = some (.slice Az1 lz1.length cz1) := bc_ BKz1 0
  have hczz2 : wz1.cell? ⟨gbz1, 1, none⟩ = some (.slice Az2 lz2.length cz2) := bc_ BKz1 1
  have hczz3 : wz1.cell? ⟨gbz1, 2, none⟩ = some (.slice Az3 lz3.length cz3) := bc_ BKz1 2
  have hfzz1 := blk_frozen BKz1.out 0
  have hfzz2 := blk_frozen BKz1.out 1
  have hfzz3 := blk_frozen BKz1.out 2
  go_wp2_with (first | (go_at_call 67; (with_reducible refine (spec_FilterOk.calls k az1 tz1 _ Az5.out).mono ?_); rintro e wz2 ⟨rfl, hb⟩; replace HB := bw_ hb; replace BKz1 := kb_ BKz1 hb; clear hb))
  go_meet
  case rel => exact ⟨_, (!tz1), rs_, H', ⟨by first | omega | exact Nat.le_refl _⟩, ⟨bk_⟩, ⟨be_⟩⟩
 case rest =>
  clear HCz4
  obtain ⟨kq, xz1, rfl, HA, HJz1, BKz1, HB⟩ := hcut
  cases kq with
  | zero => exact absurd HA.out (by simp [spec_l8Texts.j0])
  | succ kjz1 =>
   have H := HA.out
   clear HA
   simp only [spec_l8Texts.j0] at H
   by_cases cz4 : xz1 = true
   ·subst cz4
    replace H := bt_ H
    obtain rfl := Option.some.inj H
    go_wp2
    go_ret
    exact ⟨er_, be_⟩
   replace cz4 := Bool.eq_false_iff.mpr cz4
   subst cz4
   replace H := bf_ H
   have H' := Aside0.mk H
   clear H
   go_wp2
   go_loopg [7] kjz1 (fun kq v7 w' => ∃ (x7_2 : Int), v7 = .int .i64 x7_2 ∧ Aside0 (spec_l8Texts.l0 kq az1 az2 x7_2 lz1 lz2 lz3 = some r) ∧ Aside0 (kq ≤ kjz1) ∧ Aside0 (w'.heap[gbz1]? = some (.cells #[(.slice Az1 lz1.length cz1), (.slice Az2 lz2.length cz2), (.slice Az3 lz3.length cz3)] 33 (0, 0))) ∧ Aside0 (Below w.heap.size w w'))
   case atStart => exact ⟨(0), rs_, H', ⟨Nat.le_refl _⟩, ⟨bk_⟩, ⟨be_⟩⟩
   case round =>
    clear H'
    obtain ⟨xz2, rfl, HA, HKz1, BKz1, HB⟩ := hrel
    cases gk with
    | zero => exact absurd HA.out (by simp [spec_l8Texts.l0])
    | succ kz1 =>
     have H := HA.out
     clear HA
     simp only [spec_l8Texts.l0] at H
     by_cases cz5 : xz2 < (lz1.length : Int)
     rotate_left
     ·rw [if_neg cz5] at H
      have cz6 : decide (xz2 < (lz1.length : Int)) = false := decide_eq_false cz5
      clear cz5
      obtain rfl := Option.some.inj H
      have hczz1 : wr.cell? ⟨gbz1, 0, none⟩ = some (.slice Az1 lz1.length cz1) := bc_ BKz1 0
      have hczz2 : wr.cell? ⟨gbz1, 1, none⟩ = some (.slice Az2 lz2.length cz2) := bc_ BKz1 1
      have hczz3 : wr.cell? ⟨gbz1, 2, none⟩ = some (.slice Az3 lz3.length cz3) := bc_ BKz1 2
      have hfzz1 := blk_frozen BKz1.out 0
      have hfzz2 := blk_frozen BKz1.out 1
      have hfzz3 := blk_frozen BKz1.out 2
      go_wp2
      go_ret
      exact ⟨er_, be_⟩
     rw [if_pos cz5] at H
     have cz6 : decide (xz2 < (lz1.length : Int)) = true := decide_eq_true cz5
     clear cz5
     by_cases cz7 : 0 ≤ xz2
     rotate_left
     ·rw [if_neg cz7] at H
      exact absurd H (by simp)
     rw [if_pos cz7] at H
     have cz8 : decide (0 ≤ xz2) = true := decide_eq_true cz7
     clear cz7
     by_cases cz9 : az2 > 0
     rotate_left
     ·rw [if_neg cz9] at H
      have cz10 : decide (0 < az2) = false := decide_eq_false cz9
      clear cz9
      by_cases cz11 : xz2 < (lz2.length : Int)
      rotate_left
      ·rw [if_neg cz11] at H
       exact absurd H (by simp)
      rw [if_pos cz11] at H
      have cz12 : decide (xz2 < (lz2.length : Int)) = true := decide_eq_true cz11
      clear cz11
      replace H := bo_ H
      obtain ⟨tz1, Az5, H⟩ := H
      (try dsimp only at H)
      by_cases cz13 : tz1 = true
      rotate_left
      ·replace cz13 := Bool.eq_false_iff.mpr cz13
       subst cz13
       replace H := bf_ H
       obtain rfl := Option.some.inj H
       have hczz1 : wr.cell? ⟨gbz1, 0, none⟩ = some (.slice Az1 lz1.length cz1) := bc_ BKz1 0
       have hczz2 : wr.cell? ⟨gbz1, 1, none⟩ = some (.slice Az2 lz2.length cz2) := bc_ BKz1 1
       have hczz3 : wr.cell? ⟨gbz1, 2, none⟩ = some (.slice Az3 lz3.length cz3) := bc_ BKz1 2
       have hfzz1 := blk_frozen BKz1.out 0
       have hfzz2 := blk_frozen BKz1.out 1
       have hfzz3 := blk_frozen BKz1.out 2
       have pz1 : 0 ≤ (xz2 : Int) := dt_
       have qz1 : xz2 < (lz1.length : Int) := dt_
       obtain ⟨adz1, ez1, hxz1⟩ := Kd.at_string HRz1.out xz2 pz1 qz1
       cases ez1
       replace hxz1 := cl_ HB hxz1
       replace pz1 := eq_true pz1
       replace qz1 := eq_true qz1
       obtain ⟨pz2, qz2, adz2, Az6, cz14, Az7, cz15, Az8, cz16, ez2, hxz2, hxz3, hxz4, hlz1, hiz1, hlz2, hiz2, hlz3, hiz3⟩ := aa_ (at_T33 HRz2.out xz2)
       cases ez2
       replace hxz2 := cl_ HB hxz2
       replace hxz3 := cl_ HB hxz3
       replace hxz4 := cl_ HB hxz4
       have HRz4 := Aside0.mk hiz1
       have HCz5 := Aside0.mk hlz1
       clear hiz1 hlz1
       have HRz5 := Aside0.mk hiz2
       have HCz6 := Aside0.mk hlz2
       clear hiz2 hlz2
       have HRz6 := Aside0.mk hiz3
       have HCz7 := Aside0.mk hlz3
       clear hiz3 hlz3
       go_wp2_with (first | ((with_reducible refine gate_callee (f := 53) rfl ?_); refine ca_ 48 Tryd.func53 #[.agg #[.slice Az6 ((rd_T33 lz2 xz2).f0).length cz14, .slice Az7 ((rd_T33 lz2 xz2).f1).length cz15, .slice Az8 ((rd_T33 lz2 xz2).f2).length cz16], .string (rdOf ByteArray.empty lz1 xz2), .int .i64 (wrap64 (az2 + 1))] ?_; (with_reducible refine (ih kz1 (by have := HJz1.out; have := HKz1.out; omega) _ _ ((rd_T33 lz2 xz2).f0) _ _ ((rd_T33 lz2 xz2).f1) _ _ ((rd_T33 lz2 xz2).f2) (rdOf ByteArray.empty lz1 xz2) (wrap64 (az2 + 1)) false _ ?side1 ?side2 ?side3 ?side4 ?side5 ?side6 Az5.out).mono ?_); (case side1 => exact Kd.C_below HRz4.out be_); (case side2 => exact HCz5.out); (case side3 => exact Kd.C_below HRz5.out be_); (case side4 => exact HCz6.out); (case side5 => exact Kd.C_below HRz6.out be_); (case side6 => exact HCz7.out); rintro e wz2 ⟨rfl, hb⟩; refine ⟨_, rfl, ?_⟩; replace HB := bw_ hb; replace BKz1 := kb_ BKz1 hb; clear hb))
       go_ret
       exact ⟨er_, be_⟩
      subst cz13
      replace H := bt_ H
      have H' := Aside0.mk H
      clear H
      have hczz1 : wr.cell? ⟨gbz1, 0, none⟩ = some (.slice Az1 lz1.length cz1) := bc_ BKz1 0
      have hczz2 : wr.cell? ⟨gbz1, 1, none⟩ = some (.slice Az2 lz2.length cz2) := bc_ BKz1 1
      have hczz3 : wr.cell? ⟨gbz1, 2, none⟩ = some (.slice Az3 lz3.length cz3) := bc_ BKz1 2
      have hfzz1 := blk_frozen BKz1.out 0
      have hfzz2 := blk_frozen BKz1.out 1
      have hfzz3 := blk_frozen BKz1.out 2
      have pz1 : 0 ≤ (xz2 : Int) := dt_
      have qz1 : xz2 < (lz1.length : Int) := dt_
      obtain ⟨adz1, ez1, hxz1⟩ := Kd.at_string HRz1.out xz2 pz1 qz1
      cases ez1
      replace hxz1 := cl_ HB hxz1
      replace pz1 := eq_true pz1
      replace qz1 := eq_true qz1
      obtain ⟨pz2, qz2, adz2, Az6, cz14, Az7, cz15, Az8, cz16, ez2, hxz2, hxz3, hxz4, hlz1, hiz1, hlz2, hiz2, hlz3, hiz3⟩ := aa_ (at_T33 HRz2.out xz2)
      cases ez2
      replace hxz2 := cl_ HB hxz2
      replace hxz3 := cl_ HB hxz3
      replace hxz4 := cl_ HB hxz4
      have HRz4 := Aside0.mk hiz1
      have HCz5 := Aside0.mk hlz1
      clear hiz1 hlz1
      have HRz5 := Aside0.mk hiz2
      have HCz6 := Aside0.mk hlz2
      clear hiz2 hlz2
      have HRz6 := Aside0.mk hiz3
      have HCz7 := Aside0.mk hlz3
      clear hiz3 hlz3
      go_wp2_with (first | ((with_reducible refine gate_callee (f := 53) rfl ?_); refine ca_ 48 Tryd.func53 #[.agg #[.slice Az6 ((rd_T33 lz2 xz2).f0).length cz14, .slice Az7 ((rd_T33 lz2 xz2).f1).length cz15, .slice Az8 ((rd_T33 lz2 xz2).f2).length cz16], .string (rdOf ByteArray.empty lz1 xz2), .int .i64 (wrap64 (az2 + 1))] ?_; (with_reducible refine (ih kz1 (by have := HJz1.out; have := HKz1.out; omega) _ _ ((rd_T33 lz2 xz2).f0) _ _ ((rd_T33 lz2 xz2).f1) _ _ ((rd_T33 lz2 xz2).f2) (rdOf ByteArray.empty lz1 xz2) (wrap64 (az2 + 1)) true _ ?side1 ?side2 ?side3 ?side4 ?side5 ?side6 Az5.out).mono ?_); (case side1 => exact Kd.C_below HRz4.out be_); (case side2 => exact HCz5.out); (case side3 => exact Kd.C_below HRz5.out be_); (case side4 => exact HCz6.out); (case side5 => exact Kd.C_below HRz6.out be_); (case side6 => exact HCz7.out); rintro e wz2 ⟨rfl, hb⟩; refine ⟨_, rfl, ?_⟩; replace HB := bw_ hb; replace BKz1 := kb_ BKz1 hb; clear hb))
      go_roundg kz1
      case measure => have := HJz1.out; have := HKz1.out; omega
      case rel => exact ⟨(wrap64 (xz2 + 1)), rs_, H', ⟨by have := HJz1.out; have := HKz1.out; omega⟩, ⟨bk_⟩, ⟨be_⟩⟩
     rw [if_pos cz9] at H
     have cz10 : decide (0 < az2) = true := decide_eq_true cz9
     clear cz9
     by_cases cz11 : az1.size + 1 ≤ 9223372036854775807
     rotate_left
     ·rw [if_neg cz11] at H
      exact absurd H (by simp)
     rw [if_pos cz11] at H
     have cz12 := eq_true cz11
     have cz13 : decide (az1.size + 1 ≤ 9223372036854775807) = true := decide_eq_true cz11
     try have cz14 : (9223372036854775807 < az1.size + 1) = False := eq_false (Nat.not_lt.2 cz11)
     by_cases cz15 : (az1 ++ (⟨#[47]⟩ : ByteArray)).size + (rdOf ByteArray.empty lz1 xz2).size ≤ 9223372036854775807
     rotate_left
     ·rw [if_neg cz15] at H
      exact absurd H (by simp)
     rw [if_pos cz15] at H
     have cz16 := eq_true cz15
     have cz17 : decide ((az1 ++ (⟨#[47]⟩ : ByteArray)).size + (rdOf ByteArray.empty lz1 xz2).size ≤ 9223372036854775807) = true := decide_eq_true cz15
     try have cz18 : (9223372036854775807 < (az1 ++ (⟨#[47]⟩ : ByteArray)).size + (rdOf ByteArray.empty lz1 xz2).size) = False := eq_false (Nat.not_lt.2 cz15)
     by_cases cz19 : xz2 < (lz2.length : Int)
     rotate_left
     ·rw [if_neg cz19] at H
      exact absurd H (by simp)
     rw [if_pos cz19] at H
     have cz20 : decide (xz2 < (lz2.length : Int)) = true := decide_eq_true cz19
     clear cz19
     replace H := bo_ H
     obtain ⟨tz1, Az5, H⟩ := H
     (try dsimp only at H)
     by_cases cz21 : tz1 = true
     rotate_left
     ·replace cz21 := Bool.eq_false_iff.mpr cz21
      subst cz21
      replace H := bf_ H
      obtain rfl := Option.some.inj H
      have hczz1 : wr.cell? ⟨gbz1, 0, none⟩ = some (.slice Az1 lz1.length cz1) := bc_ BKz1 0
      have hczz2 : wr.cell? ⟨gbz1, 1, none⟩ = some (.slice Az2 lz2.length cz2) := bc_ BKz1 1
      have hczz3 : wr.cell? ⟨gbz1, 2, none⟩ = some (.slice Az3 lz3.length cz3) := bc_ BKz1 2
      have hfzz1 := blk_frozen BKz1.out 0
      have hfzz2 := blk_frozen BKz1.out 1
      have hfzz3 := blk_frozen BKz1.out 2
      have pz1 : 0 ≤ (xz2 : Int) := dt_
      have qz1 : xz2 < (lz1.length : Int) := dt_
      obtain ⟨adz1, ez1, hxz1⟩ := Kd.at_string HRz1.out xz2 pz1 qz1
      cases ez1
      replace hxz1 := cl_ HB hxz1
      replace pz1 := eq_true pz1
      replace qz1 := eq_true qz1
      obtain ⟨pz2, qz2, adz2, Az6, cz22, Az7, cz23, Az8, cz24, ez2, hxz2, hxz3, hxz4, hlz1, hiz1, hlz2, hiz2, hlz3, hiz3⟩ := aa_ (at_T33 HRz2.out xz2)
      cases ez2
      replace hxz2 := cl_ HB hxz2
      replace hxz3 := cl_ HB hxz3
      replace hxz4 := cl_ HB hxz4
      have HRz4 := Aside0.mk hiz1
      have HCz5 := Aside0.mk hlz1
      clear hiz1 hlz1
      have HRz5 := Aside0.mk hiz2
      have HCz6 := Aside0.mk hlz2
      clear hiz2 hlz2
      have HRz6 := Aside0.mk hiz3
      have HCz7 := Aside0.mk hlz3
      clear hiz3 hlz3
      go_wp2_with (first | ((with_reducible refine gate_callee (f := 53) rfl ?_); refine ca_ 48 Tryd.func53 #[.agg #[.slice Az6 ((rd_T33 lz2 xz2).f0).length cz22, .slice Az7 ((rd_T33 lz2 xz2).f1).length cz23, .slice Az8 ((rd_T33 lz2 xz2).f2).length cz24], .string ((az1 ++ (⟨#[47]⟩ : ByteArray)) ++ (rdOf ByteArray.empty lz1 xz2)), .int .i64 (wrap64 (az2 + 1))] ?_; (with_reducible refine (ih kz1 (by have := HJz1.out; have := HKz1.out; omega) _ _ ((rd_T33 lz2 xz2).f0) _ _ ((rd_T33 lz2 xz2).f1) _ _ ((rd_T33 lz2 xz2).f2) ((az1 ++ (⟨#[47]⟩ : ByteArray)) ++ (rdOf ByteArray.empty lz1 xz2)) (wrap64 (az2 + 1)) false _ ?side1 ?side2 ?side3 ?side4 ?side5 ?side6 Az5.out).mono ?_); (case side1 => exact Kd.C_below HRz4.out be_); (case side2 => exact HCz5.out); (case side3 => exact Kd.C_below HRz5.out be_); (case side4 => exact HCz6.out); (case side5 => exact Kd.C_below HRz6.out be_); (case side6 => exact HCz7.out); rintro e wz2 ⟨rfl, hb⟩; refine ⟨_, rfl, ?_⟩; replace HB := bw_ hb; replace BKz1 := kb_ BKz1 hb; clear hb))
      go_ret
      exact ⟨er_, be_⟩
     subst cz21
     replace H := bt_ H
     have H' := Aside0.mk H
     clear H
     have hczz1 : wr.cell? ⟨gbz1, 0, none⟩ = some (.slice Az1 lz1.length cz1) := bc_ BKz1 0
     have hczz2 : wr.cell? ⟨gbz1, 1, none⟩ = some (.slice Az2 lz2.length cz2) := bc_ BKz1 1
     have hczz3 : wr.cell? ⟨gbz1, 2, none⟩ = some (.slice Az3 lz3.length cz3) := bc_ BKz1 2
     have hfzz1 := blk_frozen BKz1.out 0
     have hfzz2 := blk_frozen BKz1.out 1
     have hfzz3 := blk_frozen BKz1.out 2
     have pz1 : 0 ≤ (xz2 : Int) := dt_
     have qz1 : xz2 < (lz1.length : Int) := dt_
     obtain ⟨adz1, ez1, hxz1⟩ := Kd.at_string HRz1.out xz2 pz1 qz1
     cases ez1
     replace hxz1 := cl_ HB hxz1
     replace pz1 := eq_true pz1
     replace qz1 := eq_true qz1
     obtain ⟨pz2, qz2, adz2, Az6, cz22, Az7, cz23, Az8, cz24, ez2, hxz2, hxz3, hxz4, hlz1, hiz1, hlz2, hiz2, hlz3, hiz3⟩ := aa_ (at_T33 HRz2.out xz2)
     cases ez2
     replace hxz2 := cl_ HB hxz2
     replace hxz3 := cl_ HB hxz3
     replace hxz4 := cl_ HB hxz4
     have HRz4 := Aside0.mk hiz1
     have HCz5 := Aside0.mk hlz1
     clear hiz1 hlz1
     have HRz5 := Aside0.mk hiz2
     have HCz6 := Aside0.mk hlz2
     clear hiz2 hlz2
     have HRz6 := Aside0.mk hiz3
     have HCz7 := Aside0.mk hlz3
     clear hiz3 hlz3
     go_wp2_with (first | ((with_reducible refine gate_callee (f := 53) rfl ?_); refine ca_ 48 Tryd.func53 #[.agg #[.slice Az6 ((rd_T33 lz2 xz2).f0).length cz22, .slice Az7 ((rd_T33 lz2 xz2).f1).length cz23, .slice Az8 ((rd_T33 lz2 xz2).f2).length cz24], .string ((az1 ++ (⟨#[47]⟩ : ByteArray)) ++ (rdOf ByteArray.empty lz1 xz2)), .int .i64 (wrap64 (az2 + 1))] ?_; (with_reducible refine (ih kz1 (by have := HJz1.out; have := HKz1.out; omega) _ _ ((rd_T33 lz2 xz2).f0) _ _ ((rd_T33 lz2 xz2).f1) _ _ ((rd_T33 lz2 xz2).f2) ((az1 ++ (⟨#[47]⟩ : ByteArray)) ++ (rdOf ByteArray.empty lz1 xz2)) (wrap64 (az2 + 1)) true _ ?side1 ?side2 ?side3 ?side4 ?side5 ?side6 Az5.out).mono ?_); (case side1 => exact Kd.C_below HRz4.out be_); (case side2 => exact HCz5.out); (case side3 => exact Kd.C_below HRz5.out be_); (case side4 => exact HCz6.out); (case side5 => exact Kd.C_below HRz6.out be_); (case side6 => exact HCz7.out); rintro e wz2 ⟨rfl, hb⟩; refine ⟨_, rfl, ?_⟩; replace HB := bw_ hb; replace BKz1 := kb_ BKz1 hb; clear hb))
     go_roundg kz1
     case measure => have := HJz1.out; have := HKz1.out; omega
     case rel => exact ⟨(wrap64 (xz2 + 1)), rs_, H', ⟨by have := HJz1.out; have := HKz1.out; omega⟩, ⟨bk_⟩, ⟨be_⟩⟩

def spec_NodeOk.f (k : Nat) (l0_0 : List ByteArray) (l0_1 : List (S33)) (l0_2 : List (S86)) : Option (Bool) := if (l0_2.length : Int) = 0 then ((spec_l8Ok.f k l0_0 l0_1 l0_2 0).bind fun t174 => (if t174 = true then ((spec_l8Texts.f k l0_0 l0_1 l0_2 (⟨#[]⟩ : ByteArray) 0).bind fun t175 => (some t175)) else (some false))) else (some false)
theorem spec_NodeOk.calls (k : Nat) (A0_0 : Option Addr) (c0_0 : Nat) (l0_0 : List ByteArray) (A0_1 : Option Addr) (c0_1 : Nat) (l0_1 : List (S33)) (A0_2 : Option Addr) (c0_2 : Nat) (l0_2 : List (S86)) (r : Bool) (w : World) (hr0_0 : Kd.C Kd.string w A0_0 l0_0.length l0_0) (hc0_0 : l0_0.length ≤ c0_0) (hr0_1 : Kd.C k33 w A0_1 l0_1.length l0_1) (hc0_1 : l0_1.length ≤ c0_1) (hr0_2 : Kd.C k86 w A0_2 l0_2.length l0_2) (hc0_2 : l0_2.length ≤ c0_2) (h : spec_NodeOk.f k l0_0 l0_1 l0_2 = some r) :
  Calls Tryd.prog 25 #[.agg #[.slice A0_0 l0_0.length c0_0, .slice A0_1 l0_1.length c0_1, .slice A0_2 l0_2.length c0_2]] w fun e w' => e = .returned (.bool r) ∧ Below w.heap.size w w' := by
 have huz1 := Tryd.underlying33
 have HRz1 := Aside0.mk hr0_0
 have HCz1 := Aside0.mk hc0_0
 clear hr0_0 hc0_0
 have HRz2 := Aside0.mk hr0_1
 have HCz2 := Aside0.mk hc0_1
 clear hr0_1 hc0_1
 have HRz3 := Aside0.mk hr0_2
 have HCz3 := Aside0.mk hc0_2
 clear hr0_2 hc0_2
 have HB := Aside0.mk (Below.refl w.heap.size w)
 have H : (if (l0_2.length : Int) = 0 then ((spec_l8Ok.f k l0_0 l0_1 l0_2 0).bind fun t174 => (if t174 = true then ((spec_l8Texts.f k l0_0 l0_1 l0_2 (⟨#[]⟩ : ByteArray) 0).bind fun t175 => (some t175)) else (some false))) else (some false)) = some r := h
 clear h
 by_cases cz1 : (l0_2.length : Int) = 0
 rotate_left
 ·rw [if_neg cz1] at H
  have cz2 : ((l0_2.length : Int) == 0) = false := beq_eq_false_iff_ne.mpr cz1
  have cz3 : ((l0_2.length : Int) != 0) = true := bne_iff_ne.mpr cz1
  have cz4 : ¬ (l0_2 = []) := fun h_ => cz1 (by rw [h_]; rfl)
  obtain rfl := Option.some.inj H
  go_enter Tryd.func25, Tryd.ntmps25
  go_wp2_with (first | ((with_reducible refine gate_dst (N := 1) rfl ?_); refine box_event ?hg (N := 1) ?hd (cs := #[.slice A0_0 l0_0.length c0_0, .slice A0_1 l0_1.length c0_1, .slice A0_2 l0_2.length c0_2]) (t := 33) ?hr ?_; (case hd => rfl); (case hg => rfl); (case hr => first | (go_simp; done) | (go_simp; rfl)); intro gbz1 hg wz1 hbox hb; have BKz1 := Aside0.mk (hbox); have GWz1 := Aside0.mk ((sz_ : w.heap.size ≤ gbz1)); have GEz1 := Aside0.mk ((sz_ : w.heap.size ≤ gbz1)); replace HB := bw_ hb; clear hb hbox hg; have hczz1 : wz1.cell? ⟨gbz1, 0, none⟩ = some (.slice A0_0 l0_0.length c0_0) := bc_ BKz1 0; have hczz2 : wz1.cell? ⟨gbz1, 1, none⟩ = some (.slice A0_1 l0_1.length c0_1) := bc_ BKz1 1; have hczz3 : wz1.cell? ⟨gbz1, 2, none⟩ = some (.slice A0_2 l0_2.length c0_2) := bc_ BKz1 2; have hfzz1 := blk_frozen BKz1.out 0; have hfzz2 := blk_frozen BKz1.out 1; have hfzz3 := blk_frozen BKz1.out 2))
  go_ret
  exact ⟨er_, be_⟩
 rw [if_pos cz1] at H
 have cz2 : ((l0_2.length : Int) == 0) = true := beq_iff_eq.mpr cz1
 have cz3 : ((l0_2.length : Int) != 0) = false := bne_eq_false_iff_eq.mpr cz1
 clear cz1
 replace H := bo_ H
 obtain ⟨tz1, Az2, H⟩ := H
 (try dsimp only at H)
 by_cases cz4 : tz1 = true
 rotate_left
 ·replace cz4 := Bool.eq_false_iff.mpr cz4
  subst cz4
  replace H := bf_ H
  obtain rfl := Option.some.inj H
  go_enter Tryd.func25, Tryd.ntmps25
  go_wp2_with (first | ((with_reducible refine gate_dst (N := 1) rfl ?_); refine box_event ?hg (N := 1) ?hd (cs := #[.slice A0_0 l0_0.length c0_0, .slice A0_1 l0_1.length c0_1, .slice A0_2 l0_2.length c0_2]) (t := 33) ?hr ?_; (case hd => rfl); (case hg => rfl); (case hr => first | (go_simp; done) | (go_simp; rfl)); intro gbz1 hg wz1 hbox hb; have BKz1 := Aside0.mk (hbox); have GWz1 := Aside0.mk ((sz_ : w.heap.size ≤ gbz1)); have GEz1 := Aside0.mk ((sz_ : w.heap.size ≤ gbz1)); replace HB := bw_ hb; clear hb hbox hg; have hczz1 : wz1.cell? ⟨gbz1, 0, none⟩ = some (.slice A0_0 l0_0.length c0_0) := bc_ BKz1 0; have hczz2 : wz1.cell? ⟨gbz1, 1, none⟩ = some (.slice A0_1 l0_1.length c0_1) := bc_ BKz1 1; have hczz3 : wz1.cell? ⟨gbz1, 2, none⟩ = some (.slice A0_2 l0_2.length c0_2) := bc_ BKz1 2; have hfzz1 := blk_frozen BKz1.out 0; have hfzz2 := blk_frozen BKz1.out 1; have hfzz3 := blk_frozen BKz1.out 2) | (go_at_call 52; (with_reducible refine (spec_l8Ok.calls k _ _ l0_0 _ _ l0_1 _ _ l0_2 0 false _ ?side1 ?side2 ?side3 ?side4 ?side5 ?side6 Az2.out).mono ?_); (case side1 => exact Kd.C_below HRz1.out be_); (case side2 => exact HCz1.out); (case side3 => exact Kd.C_below HRz2.out be_); (case side4 => exact HCz2.out); (case side5 => exact Kd.C_below HRz3.out be_); (case side6 => exact HCz3.out); rintro e wz2 ⟨rfl, hb⟩; replace HB := bw_ hb; replace BKz1 := kb_ BKz1 hb; clear hb))
  go_ret
  exact ⟨er_, be_⟩
 subst cz4
 replace H := bt_ H
 replace H := bo_ H
 obtain ⟨tz2, Az4, H⟩ := H
 (try dsimp only at H)
 obtain rfl := Option.some.inj H
 go_enter Tryd.func25, Tryd.ntmps25
 go_wp2_with (first | ((with_reducible refine gate_dst (N := 1) rfl ?_); refine box_event ?hg (N := 1) ?hd (cs := #[.slice A0_0 l0_0.length c0_0, .slice A0_1 l0_1.length c0_1, .slice A0_2 l0_2.length c0_2]) (t := 33) ?hr ?_; (case hd => rfl); (case hg => rfl); (case hr => first | (go_simp; done) | (go_simp; rfl)); intro gbz1 hg wz1 hbox hb; have BKz1 := Aside0.mk (hbox); have GWz1 := Aside0.mk ((sz_ : w.heap.size ≤ gbz1)); have GEz1 := Aside0.mk ((sz_ : w.heap.size ≤ gbz1)); replace HB := bw_ hb; clear hb hbox hg; have hczz1 : wz1.cell? ⟨gbz1, 0, none⟩ = some (.slice A0_0 l0_0.length c0_0) := bc_ BKz1 0; have hczz2 : wz1.cell? ⟨gbz1, 1, none⟩ = some (.slice A0_1 l0_1.length c0_1) := bc_ BKz1 1; have hczz3 : wz1.cell? ⟨gbz1, 2, none⟩ = some (.slice A0_2 l0_2.length c0_2) := bc_ BKz1 2; have hfzz1 := blk_frozen BKz1.out 0; have hfzz2 := blk_frozen BKz1.out 1; have hfzz3 := blk_frozen BKz1.out 2) | (go_at_call 52; (with_reducible refine (spec_l8Ok.calls k _ _ l0_0 _ _ l0_1 _ _ l0_2 0 true _ ?side1 ?side2 ?side3 ?side4 ?side5 ?side6 Az2.out).mono ?_); (case side1 => exact Kd.C_below HRz1.out be_); (case side2 => exact HCz1.out); (case side3 => exact Kd.C_below HRz2.out be_); (case side4 => exact HCz2.out); (case side5 => exact Kd.C_below HRz3.out be_); (case side6 => exact HCz3.out); rintro e wz2 ⟨rfl, hb⟩; replace HB := bw_ hb; replace BKz1 := kb_ BKz1 hb; clear hb; have hczz4 : wz2.cell? ⟨gbz1, 0, none⟩ = some (.slice A0_0 l0_0.length c0_0) := bc_ BKz1 0; have hczz5 : wz2.cell? ⟨gbz1, 1, none⟩ = some (.slice A0_1 l0_1.length c0_1) := bc_ BKz1 1; have hczz6 : wz2.cell? ⟨gbz1, 2, none⟩ = some (.slice A0_2 l0_2.length c0_2) := bc_ BKz1 2; have hfzz4 := blk_frozen BKz1.out 0; have hfzz5 := blk_frozen BKz1.out 1; have hfzz6 := blk_frozen BKz1.out 2) | (go_at_call 53; (with_reducible refine (spec_l8Texts.calls k _ _ l0_0 _ _ l0_1 _ _ l0_2 (⟨#[]⟩ : ByteArray) 0 tz2 _ ?side1 ?side2 ?side3 ?side4 ?side5 ?side6 Az4.out).mono ?_); (case side1 => exact Kd.C_below HRz1.out be_); (case side2 => exact HCz1.out); (case side3 => exact Kd.C_below HRz2.out be_); (case side4 => exact HCz2.out); (case side5 => exact Kd.C_below HRz3.out be_); (case side6 => exact HCz3.out); rintro e wz3 ⟨rfl, hb⟩; replace HB := bw_ hb; replace BKz1 := kb_ BKz1 hb; clear hb))
 go_ret
 exact ⟨er_, be_⟩

end Go.Proofs.YtggokdobijhdhaaDoor.P
