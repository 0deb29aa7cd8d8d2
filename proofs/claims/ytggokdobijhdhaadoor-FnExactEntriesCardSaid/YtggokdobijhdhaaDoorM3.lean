/- laws_eqNode and laws_eqNodeS call each other: told by mutual recursion on the rounds, and walked by induction on them, out of two printed halves (a program of this work, mutual.py). -/
import Derived.Test.YtggokdobijhdhaaDoorPx0
import Derived.Test.YtggokdobijhdhaaDoorS
import Derived.Test.YtggokdobijhdhaaDoorPx24
import Derived.Test.YtggokdobijhdhaaDoorPx25
namespace Go.Proofs.YtggokdobijhdhaaDoor.X
open Go.RowKit Go.Proofs.YtggokdobijhdhaaDoor.X Go.Proofs.YtggokdobijhdhaaDoor.P Go.Proofs.YtggokdobijhdhaaDoorW.PrintWords Go.Proofs.YtggokdobijhdhaaDoorW.PrintLast Go.Proofs.YtggokdobijhdhaaDoorW.PrintMore
set_option maxHeartbeats 8000000
set_option maxRecDepth 100000
set_option linter.unusedVariables false
set_option linter.unusedSimpArgs false
mutual
def laws_eqNodeS.l0 : Nat → List (S33) → List (S33) → Int → Option (Bool)
 | 0, _, _, _ => none
 | k + 1, x0, x1, x5 => if x5 < (x0.length : Int) then (if 0 ≤ x5 then (if x5 < (x1.length : Int) then ((laws_eqNode.f k ((rd_T33 x0 x5).f0) ((rd_T33 x0 x5).f1) ((rd_T33 x0 x5).f2) ((rd_T33 x1 x5).f0) ((rd_T33 x1 x5).f1) ((rd_T33 x1 x5).f2)).bind fun t421 => (if t421 = true then (laws_eqNodeS.l0 k x0 x1 (wrap64 (x5 + 1))) else (some false))) else (none)) else (none)) else (some true)
def laws_eqNodeS.f : Nat → List (S33) → List (S33) → Option (Bool)
 | 0, _, _ => none
 | k + 1, l0, l1 => if (l0.length : Int) = (l1.length : Int) then (laws_eqNodeS.l0 k l0 l1 0) else (some false)
def laws_eqNode.f : Nat → List ByteArray → List (S33) → List (S86) → List ByteArray → List (S33) → List (S86) → Option (Bool)
 | 0, _, _, _, _, _, _ => none
 | k + 1, l0_0, l0_1, l0_2, l1_0, l1_1, l1_2 => (laws_eqStringS.f k l0_0 l1_0).bind fun t428 => (if t428 = true then ((laws_eqNodeS.f k l0_1 l1_1).bind fun t429 => (if t429 = true then ((laws_eqSubS.f k l0_2 l1_2).bind fun t430 => (if t430 = true then (some true) else (some false))) else (some false))) else (some false))
end
theorem laws_eqNodeS.f_succ (k : Nat) (l0 : List (S33)) (l1 : List (S33)) : laws_eqNodeS.f (k + 1) l0 l1 = (if (l0.length : Int) = (l1.length : Int) then (laws_eqNodeS.l0 k l0 l1 0) else (some false)) := by rw [laws_eqNodeS.f]
theorem laws_eqNode.f_succ (k : Nat) (l0_0 : List ByteArray) (l0_1 : List (S33)) (l0_2 : List (S86)) (l1_0 : List ByteArray) (l1_1 : List (S33)) (l1_2 : List (S86)) : laws_eqNode.f (k + 1) l0_0 l0_1 l0_2 l1_0 l1_1 l1_2 = ((laws_eqStringS.f k l0_0 l1_0).bind fun t428 => (if t428 = true then ((laws_eqNodeS.f k l0_1 l1_1).bind fun t429 => (if t429 = true then ((laws_eqSubS.f k l0_2 l1_2).bind fun t430 => (if t430 = true then (some true) else (some false))) else (some false))) else (some false))) := by rw [laws_eqNode.f]
def laws_eqNodeS.T6 : Bool × List (List Nat × List Nat) := (true, [([], []), ([], []), ([0, 1], [0, 1]), ([2], [2]), ([], []), ([], []), ([4, 5], [4, 5]), ([6], [6]), ([3, 7], [3, 7]), ([8], [8])])
def laws_eqNodeS.B6 : List Nat := [0, 0, 3, 7, 0, 0, 48, 112, 255, 511]
theorem laws_eqNodeS.tab6 : rtab .any (opsOf Tryd.f34 6) = laws_eqNodeS.T6 := by kernel_rfl
theorem laws_eqNodeS.bits6 : waitsOk laws_eqNodeS.T6.2 laws_eqNodeS.B6 = true := by kernel_rfl
abbrev laws_eqNodeS.C (k : Nat) : Prop := ∀ (A0 : Option Addr) (c0 : Nat) (l0 : List (S33)) (A1 : Option Addr) (c1 : Nat) (l1 : List (S33)) (r : Bool) (w : World) (hr0 : Kd.C k33 w A0 l0.length l0) (hc0 : l0.length ≤ c0) (hr1 : Kd.C k33 w A1 l1.length l1) (hc1 : l1.length ≤ c1) (h : laws_eqNodeS.f k l0 l1 = some r), Calls Tryd.prog 34 #[.slice A0 l0.length c0, .slice A1 l1.length c1] w fun e w' => e = .returned (.bool r) ∧ Below w.heap.size w w'
abbrev laws_eqNode.C (k : Nat) : Prop := ∀ (A0_0 : Option Addr) (c0_0 : Nat) (l0_0 : List ByteArray) (A0_1 : Option Addr) (c0_1 : Nat) (l0_1 : List (S33)) (A0_2 : Option Addr) (c0_2 : Nat) (l0_2 : List (S86)) (A1_0 : Option Addr) (c1_0 : Nat) (l1_0 : List ByteArray) (A1_1 : Option Addr) (c1_1 : Nat) (l1_1 : List (S33)) (A1_2 : Option Addr) (c1_2 : Nat) (l1_2 : List (S86)) (r : Bool) (w : World) (hr0_0 : Kd.C Kd.string w A0_0 l0_0.length l0_0) (hc0_0 : l0_0.length ≤ c0_0) (hr0_1 : Kd.C k33 w A0_1 l0_1.length l0_1) (hc0_1 : l0_1.length ≤ c0_1) (hr0_2 : Kd.C k86 w A0_2 l0_2.length l0_2) (hc0_2 : l0_2.length ≤ c0_2) (hr1_0 : Kd.C Kd.string w A1_0 l1_0.length l1_0) (hc1_0 : l1_0.length ≤ c1_0) (hr1_1 : Kd.C k33 w A1_1 l1_1.length l1_1) (hc1_1 : l1_1.length ≤ c1_1) (hr1_2 : Kd.C k86 w A1_2 l1_2.length l1_2) (hc1_2 : l1_2.length ≤ c1_2) (h : laws_eqNode.f k l0_0 l0_1 l0_2 l1_0 l1_1 l1_2 = some r), Calls Tryd.prog 11 #[.agg #[.slice A0_0 l0_0.length c0_0, .slice A0_1 l0_1.length c0_1, .slice A0_2 l0_2.length c0_2], .agg #[.slice A1_0 l1_0.length c1_0, .slice A1_1 l1_1.length c1_1, .slice A1_2 l1_2.length c1_2]] w fun e w' => e = .returned (.bool r) ∧ Below w.heap.size w w'
theorem laws_eqNodeS.step (k : Nat) (IH : ∀ j, j < k → laws_eqNode.C j) (A0 : Option Addr) (c0 : Nat) (l0 : List (S33)) (A1 : Option Addr) (c1 : Nat) (l1 : List (S33)) (r : Bool) (w : World) (hr0 : Kd.C k33 w A0 l0.length l0) (hc0 : l0.length ≤ c0) (hr1 : Kd.C k33 w A1 l1.length l1) (hc1 : l1.length ≤ c1) (h : (if (l0.length : Int) = (l1.length : Int) then (laws_eqNodeS.l0 k l0 l1 0) else (some false)) = some r) :
  Calls Tryd.prog 34 #[.slice A0 l0.length c0, .slice A1 l1.length c1] w fun e w' => e = .returned (.bool r) ∧ Below w.heap.size w w' := by
 have huz1 := Tryd.underlying33
 have HRz1 := Aside0.mk hr0
 have HCz1 := Aside0.mk hc0
 clear hr0 hc0
 have HRz2 := Aside0.mk hr1
 have HCz2 := Aside0.mk hc1
 clear hr1 hc1
 have HB := Aside0.mk (Below.refl w.heap.size w)
 have H : (if (l0.length : Int) = (l1.length : Int) then (laws_eqNodeS.l0 k l0 l1 0) else (some false)) = some r := h
 clear h
 by_cases cz1 : (l0.length : Int) = (l1.length : Int)
 ·rw [if_pos cz1] at H
  have cz2 : ((l0.length : Int) == (l1.length : Int)) = true := beq_iff_eq.mpr cz1
  have cz3 : ((l0.length : Int) != (l1.length : Int)) = false := bne_eq_false_iff_eq.mpr cz1
  have cz4 : (l0.length == l1.length) = true := by first | simpa using cz1 | (simp at cz1 ⊢; omega)
  clear cz1
  have H' := Aside0.mk H
  clear H
  go_enter Tryd.func34, Tryd.ntmps34
  go_wp2
  go_loopg [5] k (fun kq v5 w' => ∃ (x5_1 : Int), v5 = .int .i64 x5_1 ∧ Aside0 (laws_eqNodeS.l0 kq l0 l1 x5_1 = some r) ∧ Aside0 (kq ≤ k) ∧ Aside0 (Below w.heap.size w w'))
  case atStart => exact ⟨(0), rs_, H', ⟨Nat.le_refl _⟩, ⟨be_⟩⟩
  case round =>
   clear H'
   obtain ⟨xz1, rfl, HA, HKz1, HB⟩ := hrel
   cases gk with
   | zero => exact absurd HA.out (by simp [laws_eqNodeS.l0])
   | succ kz1 =>
    have H := HA.out
    clear HA
    simp only [laws_eqNodeS.l0] at H
    by_cases cz5 : xz1 < (l0.length : Int)
    ·rw [if_pos cz5] at H
     have cz6 : decide (xz1 < (l0.length : Int)) = true := decide_eq_true cz5
     clear cz5
     by_cases cz7 : 0 ≤ xz1
     ·rw [if_pos cz7] at H
      have cz8 : decide (0 ≤ xz1) = true := decide_eq_true cz7
      clear cz7
      by_cases cz9 : xz1 < (l1.length : Int)
      ·rw [if_pos cz9] at H
       have cz10 : decide (xz1 < (l1.length : Int)) = true := decide_eq_true cz9
       clear cz9
       replace H := bo_ H
       obtain ⟨tz1, Az2, H⟩ := H
       (try dsimp only at H)
       by_cases cz11 : tz1 = true
       ·subst cz11
        replace H := bt_ H
        have H' := Aside0.mk H
        clear H
        try go_wp2
        replace HB := Aside0.mk (below_drew1 HB.out)
        obtain ⟨pz1, qz1, adz1, Az3, cz12, Az4, cz13, Az5, cz14, ez1, hxz1, hxz2, hxz3, hlz1, hiz1, hlz2, hiz2, hlz3, hiz3⟩ := aa_ (at_T33 HRz1.out xz1)
        have hwz1 := hxz3
        have hwz2 := hxz2
        have hwz3 := hxz1
        cases ez1
        replace hxz1 := cl_ HB hxz1
        replace hxz2 := cl_ HB hxz2
        replace hxz3 := cl_ HB hxz3
        have HRz3 := Aside0.mk hiz1
        have HCz3 := Aside0.mk hlz1
        clear hiz1 hlz1
        have HRz4 := Aside0.mk hiz2
        have HCz4 := Aside0.mk hlz2
        clear hiz2 hlz2
        have HRz5 := Aside0.mk hiz3
        have HCz5 := Aside0.mk hlz3
        clear hiz3 hlz3
        obtain ⟨pz2, qz2, adz2, Az6, cz15, Az7, cz16, Az8, cz17, ez2, hxz4, hxz5, hxz6, hlz4, hiz4, hlz5, hiz5, hlz6, hiz6⟩ := aa_ (at_T33 HRz2.out xz1)
        have hwz4 := hxz6
        have hwz5 := hxz5
        have hwz6 := hxz4
        cases ez2
        replace hxz4 := cl_ HB hxz4
        replace hxz5 := cl_ HB hxz5
        replace hxz6 := cl_ HB hxz6
        have HRz6 := Aside0.mk hiz4
        have HCz6 := Aside0.mk hlz4
        clear hiz4 hlz4
        have HRz7 := Aside0.mk hiz5
        have HCz7 := Aside0.mk hlz5
        clear hiz5 hlz5
        have HRz8 := Aside0.mk hiz6
        have HCz8 := Aside0.mk hlz6
        clear hiz6 hlz6
        refine start_ (n := 10) (S := fun w' => w'.cell? (adz1.add ((xz1).toNat * 3)) = some (.slice Az3 ((rd_T33 l0 xz1).f0).length cz12) ∧ w'.cell? ⟨(adz1.add ((xz1).toNat * 3)).block, (adz1.add ((xz1).toNat * 3)).off + 1, none⟩ = some (.slice Az4 ((rd_T33 l0 xz1).f1).length cz13) ∧ w'.cell? ⟨(adz1.add ((xz1).toNat * 3)).block, (adz1.add ((xz1).toNat * 3)).off + 2, none⟩ = some (.slice Az5 ((rd_T33 l0 xz1).f2).length cz14) ∧ w'.cell? (adz2.add ((xz1).toNat * 3)) = some (.slice Az6 ((rd_T33 l1 xz1).f0).length cz15) ∧ w'.cell? ⟨(adz2.add ((xz1).toNat * 3)).block, (adz2.add ((xz1).toNat * 3)).off + 1, none⟩ = some (.slice Az7 ((rd_T33 l1 xz1).f1).length cz16) ∧ w'.cell? ⟨(adz2.add ((xz1).toNat * 3)).block, (adz2.add ((xz1).toNat * 3)).off + 2, none⟩ = some (.slice Az8 ((rd_T33 l1 xz1).f2).length cz17)) (ds := []) (bs_ 10 0) (by kernel_rfl) rfl rfl ⟨(cl_ HB hwz3), (cl_ HB hwz2), (cl_ HB hwz1), (cl_ HB hwz6), (cl_ HB hwz5), (cl_ HB hwz4)⟩ (fun hHeld => ?_); refine with_tabW laws_eqNodeS.tab6 laws_eqNodeS.bits6 (fun HT_ HW_ => ?_)
        generalize wr.drew = wz1 at HB HRz3 HRz4 HRz5 HRz6 HRz7 HRz8 hxz1 hxz2 hxz3 hxz4 hxz5 hxz6 hHeld ⊢
        refine pv_ HT_ 0 ?_
        refine pv_ HT_ 1 ?_
        refine pv_ HT_ 2 ?_
        refine pv_ HT_ 4 ?_
        refine pv_ HT_ 5 ?_
        refine pv_ HT_ 6 ?_
        refine tv_ HT_ HW_ hHeld 3 ?_
        refine tv_ HT_ HW_ hHeld 7 ?_
        refine ov_ HT_ 8 (fun K hK => ?_)
        refine goes_ Tryd.func11 (by kernel_rfl) rfl #[.agg #[.slice Az3 ((rd_T33 l0 xz1).f0).length cz12, .slice Az4 ((rd_T33 l0 xz1).f1).length cz13, .slice Az5 ((rd_T33 l0 xz1).f2).length cz14], .agg #[.slice Az6 ((rd_T33 l1 xz1).f0).length cz15, .slice Az7 ((rd_T33 l1 xz1).f1).length cz16, .slice Az8 ((rd_T33 l1 xz1).f2).length cz17]] (by rfl) rfl rfl ar_ ?_
        with_reducible refine (IH kz1 (by first | exact Nat.lt_of_succ_le HKz1.out | (have := HKz1.out; omega)) _ _ ((rd_T33 l0 xz1).f0) _ _ ((rd_T33 l0 xz1).f1) _ _ ((rd_T33 l0 xz1).f2) _ _ ((rd_T33 l1 xz1).f0) _ _ ((rd_T33 l1 xz1).f1) _ _ ((rd_T33 l1 xz1).f2) true _ ?side1 ?side2 ?side3 ?side4 ?side5 ?side6 ?side7 ?side8 ?side9 ?side10 ?side11 ?side12 Az2.out).mono ?_
        (case side1 => exact Kd.C_below HRz3.out be_)
        (case side2 => exact HCz3.out)
        (case side3 => exact Kd.C_below HRz4.out be_)
        (case side4 => exact HCz4.out)
        (case side5 => exact Kd.C_below HRz5.out be_)
        (case side6 => exact HCz5.out)
        (case side7 => exact Kd.C_below HRz6.out be_)
        (case side8 => exact HCz6.out)
        (case side9 => exact Kd.C_below HRz7.out be_)
        (case side10 => exact HCz7.out)
        (case side11 => exact Kd.C_below HRz8.out be_)
        (case side12 => exact HCz8.out)
        rintro e wz2 ⟨rfl, hb⟩
        refine ⟨_, rfl, ?_⟩
        replace HB := bw_ hb
        clear hb
        refine hK.out _ _ ⟨(cl_ HB hwz3), (cl_ HB hwz2), (cl_ HB hwz1), (cl_ HB hwz6), (cl_ HB hwz5), (cl_ HB hwz4)⟩ (fun hHeld => ?_)
        clear hK K
        refine nm_ 25 ?_
        refine pv_ HT_ 9 ?_
        refine done_ (done_of HT_.out (by kernel_rfl)) ?_
        try go_wp2
        go_roundg kz1
        case measure => have := HKz1.out; omega
        case rel => exact ⟨(wrap64 (xz1 + 1)), rs_, H', ⟨by have := HKz1.out; omega⟩, ⟨be_⟩⟩
       ·replace cz11 := Bool.eq_false_iff.mpr cz11
        subst cz11
        replace H := bf_ H
        obtain rfl := Option.some.inj H
        try go_wp2
        replace HB := Aside0.mk (below_drew1 HB.out)
        obtain ⟨pz1, qz1, adz1, Az3, cz12, Az4, cz13, Az5, cz14, ez1, hxz1, hxz2, hxz3, hlz1, hiz1, hlz2, hiz2, hlz3, hiz3⟩ := aa_ (at_T33 HRz1.out xz1)
        have hwz1 := hxz3
        have hwz2 := hxz2
        have hwz3 := hxz1
        cases ez1
        replace hxz1 := cl_ HB hxz1
        replace hxz2 := cl_ HB hxz2
        replace hxz3 := cl_ HB hxz3
        have HRz3 := Aside0.mk hiz1
        have HCz3 := Aside0.mk hlz1
        clear hiz1 hlz1
        have HRz4 := Aside0.mk hiz2
        have HCz4 := Aside0.mk hlz2
        clear hiz2 hlz2
        have HRz5 := Aside0.mk hiz3
        have HCz5 := Aside0.mk hlz3
        clear hiz3 hlz3
        obtain ⟨pz2, qz2, adz2, Az6, cz15, Az7, cz16, Az8, cz17, ez2, hxz4, hxz5, hxz6, hlz4, hiz4, hlz5, hiz5, hlz6, hiz6⟩ := aa_ (at_T33 HRz2.out xz1)
        have hwz4 := hxz6
        have hwz5 := hxz5
        have hwz6 := hxz4
        cases ez2
        replace hxz4 := cl_ HB hxz4
        replace hxz5 := cl_ HB hxz5
        replace hxz6 := cl_ HB hxz6
        have HRz6 := Aside0.mk hiz4
        have HCz6 := Aside0.mk hlz4
        clear hiz4 hlz4
        have HRz7 := Aside0.mk hiz5
        have HCz7 := Aside0.mk hlz5
        clear hiz5 hlz5
        have HRz8 := Aside0.mk hiz6
        have HCz8 := Aside0.mk hlz6
        clear hiz6 hlz6
        refine start_ (n := 10) (S := fun w' => w'.cell? (adz1.add ((xz1).toNat * 3)) = some (.slice Az3 ((rd_T33 l0 xz1).f0).length cz12) ∧ w'.cell? ⟨(adz1.add ((xz1).toNat * 3)).block, (adz1.add ((xz1).toNat * 3)).off + 1, none⟩ = some (.slice Az4 ((rd_T33 l0 xz1).f1).length cz13) ∧ w'.cell? ⟨(adz1.add ((xz1).toNat * 3)).block, (adz1.add ((xz1).toNat * 3)).off + 2, none⟩ = some (.slice Az5 ((rd_T33 l0 xz1).f2).length cz14) ∧ w'.cell? (adz2.add ((xz1).toNat * 3)) = some (.slice Az6 ((rd_T33 l1 xz1).f0).length cz15) ∧ w'.cell? ⟨(adz2.add ((xz1).toNat * 3)).block, (adz2.add ((xz1).toNat * 3)).off + 1, none⟩ = some (.slice Az7 ((rd_T33 l1 xz1).f1).length cz16) ∧ w'.cell? ⟨(adz2.add ((xz1).toNat * 3)).block, (adz2.add ((xz1).toNat * 3)).off + 2, none⟩ = some (.slice Az8 ((rd_T33 l1 xz1).f2).length cz17)) (ds := []) (bs_ 10 0) (by kernel_rfl) rfl rfl ⟨(cl_ HB hwz3), (cl_ HB hwz2), (cl_ HB hwz1), (cl_ HB hwz6), (cl_ HB hwz5), (cl_ HB hwz4)⟩ (fun hHeld => ?_); refine with_tabW laws_eqNodeS.tab6 laws_eqNodeS.bits6 (fun HT_ HW_ => ?_)
        generalize wr.drew = wz1 at HB HRz3 HRz4 HRz5 HRz6 HRz7 HRz8 hxz1 hxz2 hxz3 hxz4 hxz5 hxz6 hHeld ⊢
        refine pv_ HT_ 0 ?_
        refine pv_ HT_ 1 ?_
        refine pv_ HT_ 2 ?_
        refine pv_ HT_ 4 ?_
        refine pv_ HT_ 5 ?_
        refine pv_ HT_ 6 ?_
        refine tv_ HT_ HW_ hHeld 3 ?_
        refine tv_ HT_ HW_ hHeld 7 ?_
        refine ov_ HT_ 8 (fun K hK => ?_)
        refine goes_ Tryd.func11 (by kernel_rfl) rfl #[.agg #[.slice Az3 ((rd_T33 l0 xz1).f0).length cz12, .slice Az4 ((rd_T33 l0 xz1).f1).length cz13, .slice Az5 ((rd_T33 l0 xz1).f2).length cz14], .agg #[.slice Az6 ((rd_T33 l1 xz1).f0).length cz15, .slice Az7 ((rd_T33 l1 xz1).f1).length cz16, .slice Az8 ((rd_T33 l1 xz1).f2).length cz17]] (by rfl) rfl rfl ar_ ?_
        with_reducible refine (IH kz1 (by first | exact Nat.lt_of_succ_le HKz1.out | (have := HKz1.out; omega)) _ _ ((rd_T33 l0 xz1).f0) _ _ ((rd_T33 l0 xz1).f1) _ _ ((rd_T33 l0 xz1).f2) _ _ ((rd_T33 l1 xz1).f0) _ _ ((rd_T33 l1 xz1).f1) _ _ ((rd_T33 l1 xz1).f2) false _ ?side1 ?side2 ?side3 ?side4 ?side5 ?side6 ?side7 ?side8 ?side9 ?side10 ?side11 ?side12 Az2.out).mono ?_
        (case side1 => exact Kd.C_below HRz3.out be_)
        (case side2 => exact HCz3.out)
        (case side3 => exact Kd.C_below HRz4.out be_)
        (case side4 => exact HCz4.out)
        (case side5 => exact Kd.C_below HRz5.out be_)
        (case side6 => exact HCz5.out)
        (case side7 => exact Kd.C_below HRz6.out be_)
        (case side8 => exact HCz6.out)
        (case side9 => exact Kd.C_below HRz7.out be_)
        (case side10 => exact HCz7.out)
        (case side11 => exact Kd.C_below HRz8.out be_)
        (case side12 => exact HCz8.out)
        rintro e wz2 ⟨rfl, hb⟩
        refine ⟨_, rfl, ?_⟩
        replace HB := bw_ hb
        clear hb
        refine hK.out _ _ ⟨(cl_ HB hwz3), (cl_ HB hwz2), (cl_ HB hwz1), (cl_ HB hwz6), (cl_ HB hwz5), (cl_ HB hwz4)⟩ (fun hHeld => ?_)
        clear hK K
        refine nm_ 25 ?_
        refine pv_ HT_ 9 ?_
        refine done_ (done_of HT_.out (by kernel_rfl)) ?_
        try go_wp2
        go_ret
        exact ⟨er_, be_⟩
      ·rw [if_neg cz9] at H
       exact absurd H (by simp)
     ·rw [if_neg cz7] at H
      exact absurd H (by simp)
    ·rw [if_neg cz5] at H
     have cz6 : decide (xz1 < (l0.length : Int)) = false := decide_eq_false cz5
     clear cz5
     obtain rfl := Option.some.inj H
     go_wp2
     go_ret
     exact ⟨er_, be_⟩
 ·rw [if_neg cz1] at H
  have cz2 : ((l0.length : Int) == (l1.length : Int)) = false := beq_eq_false_iff_ne.mpr cz1
  have cz3 : ((l0.length : Int) != (l1.length : Int)) = true := bne_iff_ne.mpr cz1
  have cz4 : (l0.length == l1.length) = false := by first | simpa using cz1 | (simp at cz1 ⊢; omega)
  obtain rfl := Option.some.inj H
  go_enter Tryd.func34, Tryd.ntmps34
  go_wp2
  go_ret
  exact ⟨er_, be_⟩

theorem laws_eqNode.step (k : Nat) (IH : laws_eqNodeS.C k) (A0_0 : Option Addr) (c0_0 : Nat) (l0_0 : List ByteArray) (A0_1 : Option Addr) (c0_1 : Nat) (l0_1 : List (S33)) (A0_2 : Option Addr) (c0_2 : Nat) (l0_2 : List (S86)) (A1_0 : Option Addr) (c1_0 : Nat) (l1_0 : List ByteArray) (A1_1 : Option Addr) (c1_1 : Nat) (l1_1 : List (S33)) (A1_2 : Option Addr) (c1_2 : Nat) (l1_2 : List (S86)) (r : Bool) (w : World) (hr0_0 : Kd.C Kd.string w A0_0 l0_0.length l0_0) (hc0_0 : l0_0.length ≤ c0_0) (hr0_1 : Kd.C k33 w A0_1 l0_1.length l0_1) (hc0_1 : l0_1.length ≤ c0_1) (hr0_2 : Kd.C k86 w A0_2 l0_2.length l0_2) (hc0_2 : l0_2.length ≤ c0_2) (hr1_0 : Kd.C Kd.string w A1_0 l1_0.length l1_0) (hc1_0 : l1_0.length ≤ c1_0) (hr1_1 : Kd.C k33 w A1_1 l1_1.length l1_1) (hc1_1 : l1_1.length ≤ c1_1) (hr1_2 : Kd.C k86 w A1_2 l1_2.length l1_2) (hc1_2 : l1_2.length ≤ c1_2) (h : ((laws_eqStringS.f k l0_0 l1_0).bind fun t428 => (if t428 = true then ((laws_eqNodeS.f k l0_1 l1_1).bind fun t429 => (if t429 = true then ((laws_eqSubS.f k l0_2 l1_2).bind fun t430 => (if t430 = true then (some true) else (some false))) else (some false))) else (some false))) = some r) :
  Calls Tryd.prog 11 #[.agg #[.slice A0_0 l0_0.length c0_0, .slice A0_1 l0_1.length c0_1, .slice A0_2 l0_2.length c0_2], .agg #[.slice A1_0 l1_0.length c1_0, .slice A1_1 l1_1.length c1_1, .slice A1_2 l1_2.length c1_2]] w fun e w' => e = .returned (.bool r) ∧ Below w.heap.size w w' := by
 have huz1 := Tryd.underlying33
 have HRz1 := Aside0.mk hr0_0
 have HCz1 := Aside0.mk hc0_0
 clear hr0_0 hc0_0
 have HRz2 := Aside0.mk hr0_1
 have HCz2 := Aside0.mk hc0_1
 clear hr0_1 hc0_1
 have HRz3 := Aside0.mk hr0_2
 have HCz3 := Aside0.mk hc0_2
 clear hr0_2 hc0_2
 have HRz4 := Aside0.mk hr1_0
 have HCz4 := Aside0.mk hc1_0
 clear hr1_0 hc1_0
 have HRz5 := Aside0.mk hr1_1
 have HCz5 := Aside0.mk hc1_1
 clear hr1_1 hc1_1
 have HRz6 := Aside0.mk hr1_2
 have HCz6 := Aside0.mk hc1_2
 clear hr1_2 hc1_2
 have HB := Aside0.mk (Below.refl w.heap.size w)
 have H : ((laws_eqStringS.f k l0_0 l1_0).bind fun t428 => (if t428 = true then ((laws_eqNodeS.f k l0_1 l1_1).bind fun t429 => (if t429 = true then ((laws_eqSubS.f k l0_2 l1_2).bind fun t430 => (if t430 = true then (some true) else (some false))) else (some false))) else (some false))) = some r := h
 clear h
 replace H := bo_ H
 obtain ⟨tz1, Az2, H⟩ := H
 (try dsimp only at H)
 by_cases cz1 : tz1 = true
 ·subst cz1
  replace H := bt_ H
  replace H := bo_ H
  obtain ⟨tz2, Az4, H⟩ := H
  (try dsimp only at H)
  by_cases cz2 : tz2 = true
  ·subst cz2
   replace H := bt_ H
   replace H := bo_ H
   obtain ⟨tz3, Az6, H⟩ := H
   (try dsimp only at H)
   by_cases cz3 : tz3 = true
   ·subst cz3
    replace H := bt_ H
    obtain rfl := Option.some.inj H
    go_enter Tryd.func11, Tryd.ntmps11
    go_wp2_with (first | ((with_reducible refine gate_dst (N := 2) rfl ?_); refine box_event ?hg (N := 2) ?hd (cs := #[.slice A0_0 l0_0.length c0_0, .slice A0_1 l0_1.length c0_1, .slice A0_2 l0_2.length c0_2]) (t := 33) ?hr ?_; (case hd => rfl); (case hg => rfl); (case hr => first | (go_simp; done) | (go_simp; rfl)); intro gbz1 hg wz1 hbox hb; have BKz1 := Aside0.mk (hbox); have GWz1 := Aside0.mk ((sz_ : w.heap.size ≤ gbz1)); have GEz1 := Aside0.mk ((sz_ : w.heap.size ≤ gbz1)); replace HB := bw_ hb; clear hb hbox hg) | ((with_reducible refine gate_dst (N := 3) rfl ?_); refine box_event ?hg (N := 3) ?hd (cs := #[.slice A1_0 l1_0.length c1_0, .slice A1_1 l1_1.length c1_1, .slice A1_2 l1_2.length c1_2]) (t := 33) ?hr ?_; (case hd => rfl); (case hg => rfl); (case hr => first | (go_simp; done) | (go_simp; rfl)); intro gbz2 hg wz2 hbox hb; have BKz2 := Aside0.mk (hbox); have GWz2 := Aside0.mk ((sz_ : w.heap.size ≤ gbz2)); have GEz2 := Aside0.mk ((sz_ : w.heap.size ≤ gbz2)); replace HB := bw_ hb; have NBz1 := Aside0.mk ((by rw [hg]; exact Nat.ne_of_lt (blk_lt (g := gbz1) (o := .cells #[.slice A0_0 l0_0.length c0_0, .slice A0_1 l0_1.length c0_1, .slice A0_2 l0_2.length c0_2] 33 (0, 0)) bk_) : gbz1 ≠ gbz2)); have NBz2 := Aside0.mk ((by rw [hg]; exact Nat.ne_of_gt (blk_lt (g := gbz1) (o := .cells #[.slice A0_0 l0_0.length c0_0, .slice A0_1 l0_1.length c0_1, .slice A0_2 l0_2.length c0_2] 33 (0, 0)) bk_) : gbz2 ≠ gbz1)); replace BKz1 := kb_ BKz1 hb; clear hb hbox hg; have hnbz1 := NBz1.out; have hncz1 := NBz2.out; have hczz1 : wz2.cell? ⟨gbz1, 0, none⟩ = some (.slice A0_0 l0_0.length c0_0) := bc_ BKz1 0; have hczz2 : wz2.cell? ⟨gbz1, 1, none⟩ = some (.slice A0_1 l0_1.length c0_1) := bc_ BKz1 1; have hczz3 : wz2.cell? ⟨gbz1, 2, none⟩ = some (.slice A0_2 l0_2.length c0_2) := bc_ BKz1 2; have hfzz1 := blk_frozen BKz1.out 0; have hfzz2 := blk_frozen BKz1.out 1; have hfzz3 := blk_frozen BKz1.out 2; have hczz4 : wz2.cell? ⟨gbz2, 0, none⟩ = some (.slice A1_0 l1_0.length c1_0) := bc_ BKz2 0; have hczz5 : wz2.cell? ⟨gbz2, 1, none⟩ = some (.slice A1_1 l1_1.length c1_1) := bc_ BKz2 1; have hczz6 : wz2.cell? ⟨gbz2, 2, none⟩ = some (.slice A1_2 l1_2.length c1_2) := bc_ BKz2 2; have hfzz4 := blk_frozen BKz2.out 0; have hfzz5 := blk_frozen BKz2.out 1; have hfzz6 := blk_frozen BKz2.out 2) | ((with_reducible refine gate_callee (f := 33) rfl ?_); refine ca_ 9 Tryd.func33 #[.slice A0_0 l0_0.length c0_0, .slice A1_0 l1_0.length c1_0] ?_; (with_reducible refine (laws_eqStringS.calls k _ _ l0_0 _ _ l1_0 true _ ?side1 ?side2 ?side3 ?side4 Az2.out).mono ?_); (case side1 => exact Kd.C_below HRz1.out be_); (case side2 => exact HCz1.out); (case side3 => exact Kd.C_below HRz4.out be_); (case side4 => exact HCz4.out); rintro e w' ⟨rfl, ⟨nd, rfl⟩⟩; refine ⟨_, rfl, ?_⟩) | ((with_reducible refine gate_callee (f := 34) rfl ?_); refine ca_ 15 Tryd.func34 #[.slice A0_1 l0_1.length c0_1, .slice A1_1 l1_1.length c1_1] ?_; (with_reducible refine (IH _ _ l0_1 _ _ l1_1 true _ ?side1 ?side2 ?side3 ?side4 Az4.out).mono ?_); (case side1 => repeat (first | exact (Kd.C_below HRz2.out be_) | (with_reducible refine Kd.C_alloc ?_ _) | (with_reducible refine Kd.C_drewN ?_ _) | (with_reducible refine Kd.C_drew ?_))); (case side2 => exact HCz2.out); (case side3 => repeat (first | exact (Kd.C_below HRz5.out be_) | (with_reducible refine Kd.C_alloc ?_ _) | (with_reducible refine Kd.C_drewN ?_ _) | (with_reducible refine Kd.C_drew ?_))); (case side4 => exact HCz5.out); rintro e wz3 ⟨rfl, hb⟩; refine ⟨_, rfl, ?_⟩; have nz1 := Aside0.mk (blk_below (g := gbz1) (o := .cells #[.slice A0_0 l0_0.length c0_0, .slice A0_1 l0_1.length c0_1, .slice A0_2 l0_2.length c0_2] 33 (0, 0)) bk_ hb); have nz2 := Aside0.mk (blk_below (g := gbz2) (o := .cells #[.slice A1_0 l1_0.length c1_0, .slice A1_1 l1_1.length c1_1, .slice A1_2 l1_2.length c1_2] 33 (0, 0)) bk_ hb); have nz3 := bw_ hb; clear BKz1 BKz2 HB; have BKz1 := nz1; have BKz2 := nz2; have HB := nz3; clear nz1 nz2 nz3 hb; have hczz7 : wz3.cell? ⟨gbz1, 0, none⟩ = some (.slice A0_0 l0_0.length c0_0) := bc_ BKz1 0; have hczz8 : wz3.cell? ⟨gbz1, 1, none⟩ = some (.slice A0_1 l0_1.length c0_1) := bc_ BKz1 1; have hczz9 : wz3.cell? ⟨gbz1, 2, none⟩ = some (.slice A0_2 l0_2.length c0_2) := bc_ BKz1 2; have hfzz7 := blk_frozen BKz1.out 0; have hfzz8 := blk_frozen BKz1.out 1; have hfzz9 := blk_frozen BKz1.out 2; have hczz10 : wz3.cell? ⟨gbz2, 0, none⟩ = some (.slice A1_0 l1_0.length c1_0) := bc_ BKz2 0; have hczz11 : wz3.cell? ⟨gbz2, 1, none⟩ = some (.slice A1_1 l1_1.length c1_1) := bc_ BKz2 1; have hczz12 : wz3.cell? ⟨gbz2, 2, none⟩ = some (.slice A1_2 l1_2.length c1_2) := bc_ BKz2 2; have hfzz10 := blk_frozen BKz2.out 0; have hfzz11 := blk_frozen BKz2.out 1; have hfzz12 := blk_frozen BKz2.out 2) | ((with_reducible refine gate_callee (f := 35) rfl ?_); refine ca_ 21 Tryd.func35 #[.slice A0_2 l0_2.length c0_2, .slice A1_2 l1_2.length c1_2] ?_; (with_reducible refine (laws_eqSubS.calls k _ _ l0_2 _ _ l1_2 true _ ?side1 ?side2 ?side3 ?side4 Az6.out).mono ?_); (case side1 => exact Kd.C_below HRz3.out be_); (case side2 => exact HCz3.out); (case side3 => exact Kd.C_below HRz6.out be_); (case side4 => exact HCz6.out); rintro e wz4 ⟨rfl, hb⟩; refine ⟨_, rfl, ?_⟩; have nz1 := Aside0.mk (blk_below (g := gbz1) (o := .cells #[.slice A0_0 l0_0.length c0_0, .slice A0_1 l0_1.length c0_1, .slice A0_2 l0_2.length c0_2] 33 (0, 0)) bk_ hb); have nz2 := Aside0.mk (blk_below (g := gbz2) (o := .cells #[.slice A1_0 l1_0.length c1_0, .slice A1_1 l1_1.length c1_1, .slice A1_2 l1_2.length c1_2] 33 (0, 0)) bk_ hb); have nz3 := bw_ hb; clear BKz1 BKz2 HB; have BKz1 := nz1; have BKz2 := nz2; have HB := nz3; clear nz1 nz2 nz3 hb))
    go_ret
    exact ⟨er_, be_⟩
   ·replace cz3 := Bool.eq_false_iff.mpr cz3
    subst cz3
    replace H := bf_ H
    obtain rfl := Option.some.inj H
    go_enter Tryd.func11, Tryd.ntmps11
    go_wp2_with (first | ((with_reducible refine gate_dst (N := 2) rfl ?_); refine box_event ?hg (N := 2) ?hd (cs := #[.slice A0_0 l0_0.length c0_0, .slice A0_1 l0_1.length c0_1, .slice A0_2 l0_2.length c0_2]) (t := 33) ?hr ?_; (case hd => rfl); (case hg => rfl); (case hr => first | (go_simp; done) | (go_simp; rfl)); intro gbz1 hg wz1 hbox hb; have BKz1 := Aside0.mk (hbox); have GWz1 := Aside0.mk ((sz_ : w.heap.size ≤ gbz1)); have GEz1 := Aside0.mk ((sz_ : w.heap.size ≤ gbz1)); replace HB := bw_ hb; clear hb hbox hg) | ((with_reducible refine gate_dst (N := 3) rfl ?_); refine box_event ?hg (N := 3) ?hd (cs := #[.slice A1_0 l1_0.length c1_0, .slice A1_1 l1_1.length c1_1, .slice A1_2 l1_2.length c1_2]) (t := 33) ?hr ?_; (case hd => rfl); (case hg => rfl); (case hr => first | (go_simp; done) | (go_simp; rfl)); intro gbz2 hg wz2 hbox hb; have BKz2 := Aside0.mk (hbox); have GWz2 := Aside0.mk ((sz_ : w.heap.size ≤ gbz2)); have GEz2 := Aside0.mk ((sz_ : w.heap.size ≤ gbz2)); replace HB := bw_ hb; have NBz1 := Aside0.mk ((by rw [hg]; exact Nat.ne_of_lt (blk_lt (g := gbz1) (o := .cells #[.slice A0_0 l0_0.length c0_0, .slice A0_1 l0_1.length c0_1, .slice A0_2 l0_2.length c0_2] 33 (0, 0)) bk_) : gbz1 ≠ gbz2)); have NBz2 := Aside0.mk ((by rw [hg]; exact Nat.ne_of_gt (blk_lt (g := gbz1) (o := .cells #[.slice A0_0 l0_0.length c0_0, .slice A0_1 l0_1.length c0_1, .slice A0_2 l0_2.length c0_2] 33 (0, 0)) bk_) : gbz2 ≠ gbz1)); replace BKz1 := kb_ BKz1 hb; clear hb hbox hg; have hnbz1 := NBz1.out; have hncz1 := NBz2.out; have hczz1 : wz2.cell? ⟨gbz1, 0, none⟩ = some (.slice A0_0 l0_0.length c0_0) := bc_ BKz1 0; have hczz2 : wz2.cell? ⟨gbz1, 1, none⟩ = some (.slice A0_1 l0_1.length c0_1) := bc_ BKz1 1; have hczz3 : wz2.cell? ⟨gbz1, 2, none⟩ = some (.slice A0_2 l0_2.length c0_2) := bc_ BKz1 2; have hfzz1 := blk_frozen BKz1.out 0; have hfzz2 := blk_frozen BKz1.out 1; have hfzz3 := blk_frozen BKz1.out 2; have hczz4 : wz2.cell? ⟨gbz2, 0, none⟩ = some (.slice A1_0 l1_0.length c1_0) := bc_ BKz2 0; have hczz5 : wz2.cell? ⟨gbz2, 1, none⟩ = some (.slice A1_1 l1_1.length c1_1) := bc_ BKz2 1; have hczz6 : wz2.cell? ⟨gbz2, 2, none⟩ = some (.slice A1_2 l1_2.length c1_2) := bc_ BKz2 2; have hfzz4 := blk_frozen BKz2.out 0; have hfzz5 := blk_frozen BKz2.out 1; have hfzz6 := blk_frozen BKz2.out 2) | ((with_reducible refine gate_callee (f := 33) rfl ?_); refine ca_ 9 Tryd.func33 #[.slice A0_0 l0_0.length c0_0, .slice A1_0 l1_0.length c1_0] ?_; (with_reducible refine (laws_eqStringS.calls k _ _ l0_0 _ _ l1_0 true _ ?side1 ?side2 ?side3 ?side4 Az2.out).mono ?_); (case side1 => exact Kd.C_below HRz1.out be_); (case side2 => exact HCz1.out); (case side3 => exact Kd.C_below HRz4.out be_); (case side4 => exact HCz4.out); rintro e w' ⟨rfl, ⟨nd, rfl⟩⟩; refine ⟨_, rfl, ?_⟩) | ((with_reducible refine gate_callee (f := 34) rfl ?_); refine ca_ 15 Tryd.func34 #[.slice A0_1 l0_1.length c0_1, .slice A1_1 l1_1.length c1_1] ?_; (with_reducible refine (IH _ _ l0_1 _ _ l1_1 true _ ?side1 ?side2 ?side3 ?side4 Az4.out).mono ?_); (case side1 => repeat (first | exact (Kd.C_below HRz2.out be_) | (with_reducible refine Kd.C_alloc ?_ _) | (with_reducible refine Kd.C_drewN ?_ _) | (with_reducible refine Kd.C_drew ?_))); (case side2 => exact HCz2.out); (case side3 => repeat (first | exact (Kd.C_below HRz5.out be_) | (with_reducible refine Kd.C_alloc ?_ _) | (with_reducible refine Kd.C_drewN ?_ _) | (with_reducible refine Kd.C_drew ?_))); (case side4 => exact HCz5.out); rintro e wz3 ⟨rfl, hb⟩; refine ⟨_, rfl, ?_⟩; have nz1 := Aside0.mk (blk_below (g := gbz1) (o := .cells #[.slice A0_0 l0_0.length c0_0, .slice A0_1 l0_1.length c0_1, .slice A0_2 l0_2.length c0_2] 33 (0, 0)) bk_ hb); have nz2 := Aside0.mk (blk_below (g := gbz2) (o := .cells #[.slice A1_0 l1_0.length c1_0, .slice A1_1 l1_1.length c1_1, .slice A1_2 l1_2.length c1_2] 33 (0, 0)) bk_ hb); have nz3 := bw_ hb; clear BKz1 BKz2 HB; have BKz1 := nz1; have BKz2 := nz2; have HB := nz3; clear nz1 nz2 nz3 hb; have hczz7 : wz3.cell? ⟨gbz1, 0, none⟩ = some (.slice A0_0 l0_0.length c0_0) := bc_ BKz1 0; have hczz8 : wz3.cell? ⟨gbz1, 1, none⟩ = some (.slice A0_1 l0_1.length c0_1) := bc_ BKz1 1; have hczz9 : wz3.cell? ⟨gbz1, 2, none⟩ = some (.slice A0_2 l0_2.length c0_2) := bc_ BKz1 2; have hfzz7 := blk_frozen BKz1.out 0; have hfzz8 := blk_frozen BKz1.out 1; have hfzz9 := blk_frozen BKz1.out 2; have hczz10 : wz3.cell? ⟨gbz2, 0, none⟩ = some (.slice A1_0 l1_0.length c1_0) := bc_ BKz2 0; have hczz11 : wz3.cell? ⟨gbz2, 1, none⟩ = some (.slice A1_1 l1_1.length c1_1) := bc_ BKz2 1; have hczz12 : wz3.cell? ⟨gbz2, 2, none⟩ = some (.slice A1_2 l1_2.length c1_2) := bc_ BKz2 2; have hfzz10 := blk_frozen BKz2.out 0; have hfzz11 := blk_frozen BKz2.out 1; have hfzz12 := blk_frozen BKz2.out 2) | ((with_reducible refine gate_callee (f := 35) rfl ?_); refine ca_ 21 Tryd.func35 #[.slice A0_2 l0_2.length c0_2, .slice A1_2 l1_2.length c1_2] ?_; (with_reducible refine (laws_eqSubS.calls k _ _ l0_2 _ _ l1_2 false _ ?side1 ?side2 ?side3 ?side4 Az6.out).mono ?_); (case side1 => exact Kd.C_below HRz3.out be_); (case side2 => exact HCz3.out); (case side3 => exact Kd.C_below HRz6.out be_); (case side4 => exact HCz6.out); rintro e wz4 ⟨rfl, hb⟩; refine ⟨_, rfl, ?_⟩; have nz1 := Aside0.mk (blk_below (g := gbz1) (o := .cells #[.slice A0_0 l0_0.length c0_0, .slice A0_1 l0_1.length c0_1, .slice A0_2 l0_2.length c0_2] 33 (0, 0)) bk_ hb); have nz2 := Aside0.mk (blk_below (g := gbz2) (o := .cells #[.slice A1_0 l1_0.length c1_0, .slice A1_1 l1_1.length c1_1, .slice A1_2 l1_2.length c1_2] 33 (0, 0)) bk_ hb); have nz3 := bw_ hb; clear BKz1 BKz2 HB; have BKz1 := nz1; have BKz2 := nz2; have HB := nz3; clear nz1 nz2 nz3 hb))
    go_ret
    exact ⟨er_, be_⟩
  ·replace cz2 := Bool.eq_false_iff.mpr cz2
   subst cz2
   replace H := bf_ H
   obtain rfl := Option.some.inj H
   go_enter Tryd.func11, Tryd.ntmps11
   go_wp2_with (first | ((with_reducible refine gate_dst (N := 2) rfl ?_); refine box_event ?hg (N := 2) ?hd (cs := #[.slice A0_0 l0_0.length c0_0, .slice A0_1 l0_1.length c0_1, .slice A0_2 l0_2.length c0_2]) (t := 33) ?hr ?_; (case hd => rfl); (case hg => rfl); (case hr => first | (go_simp; done) | (go_simp; rfl)); intro gbz1 hg wz1 hbox hb; have BKz1 := Aside0.mk (hbox); have GWz1 := Aside0.mk ((sz_ : w.heap.size ≤ gbz1)); have GEz1 := Aside0.mk ((sz_ : w.heap.size ≤ gbz1)); replace HB := bw_ hb; clear hb hbox hg) | ((with_reducible refine gate_dst (N := 3) rfl ?_); refine box_event ?hg (N := 3) ?hd (cs := #[.slice A1_0 l1_0.length c1_0, .slice A1_1 l1_1.length c1_1, .slice A1_2 l1_2.length c1_2]) (t := 33) ?hr ?_; (case hd => rfl); (case hg => rfl); (case hr => first | (go_simp; done) | (go_simp; rfl)); intro gbz2 hg wz2 hbox hb; have BKz2 := Aside0.mk (hbox); have GWz2 := Aside0.mk ((sz_ : w.heap.size ≤ gbz2)); have GEz2 := Aside0.mk ((sz_ : w.heap.size ≤ gbz2)); replace HB := bw_ hb; have NBz1 := Aside0.mk ((by rw [hg]; exact Nat.ne_of_lt (blk_lt (g := gbz1) (o := .cells #[.slice A0_0 l0_0.length c0_0, .slice A0_1 l0_1.length c0_1, .slice A0_2 l0_2.length c0_2] 33 (0, 0)) bk_) : gbz1 ≠ gbz2)); have NBz2 := Aside0.mk ((by rw [hg]; exact Nat.ne_of_gt (blk_lt (g := gbz1) (o := .cells #[.slice A0_0 l0_0.length c0_0, .slice A0_1 l0_1.length c0_1, .slice A0_2 l0_2.length c0_2] 33 (0, 0)) bk_) : gbz2 ≠ gbz1)); replace BKz1 := kb_ BKz1 hb; clear hb hbox hg; have hnbz1 := NBz1.out; have hncz1 := NBz2.out; have hczz1 : wz2.cell? ⟨gbz1, 0, none⟩ = some (.slice A0_0 l0_0.length c0_0) := bc_ BKz1 0; have hczz2 : wz2.cell? ⟨gbz1, 1, none⟩ = some (.slice A0_1 l0_1.length c0_1) := bc_ BKz1 1; have hczz3 : wz2.cell? ⟨gbz1, 2, none⟩ = some (.slice A0_2 l0_2.length c0_2) := bc_ BKz1 2; have hfzz1 := blk_frozen BKz1.out 0; have hfzz2 := blk_frozen BKz1.out 1; have hfzz3 := blk_frozen BKz1.out 2; have hczz4 : wz2.cell? ⟨gbz2, 0, none⟩ = some (.slice A1_0 l1_0.length c1_0) := bc_ BKz2 0; have hczz5 : wz2.cell? ⟨gbz2, 1, none⟩ = some (.slice A1_1 l1_1.length c1_1) := bc_ BKz2 1; have hczz6 : wz2.cell? ⟨gbz2, 2, none⟩ = some (.slice A1_2 l1_2.length c1_2) := bc_ BKz2 2; have hfzz4 := blk_frozen BKz2.out 0; have hfzz5 := blk_frozen BKz2.out 1; have hfzz6 := blk_frozen BKz2.out 2) | ((with_reducible refine gate_callee (f := 33) rfl ?_); refine ca_ 9 Tryd.func33 #[.slice A0_0 l0_0.length c0_0, .slice A1_0 l1_0.length c1_0] ?_; (with_reducible refine (laws_eqStringS.calls k _ _ l0_0 _ _ l1_0 true _ ?side1 ?side2 ?side3 ?side4 Az2.out).mono ?_); (case side1 => exact Kd.C_below HRz1.out be_); (case side2 => exact HCz1.out); (case side3 => exact Kd.C_below HRz4.out be_); (case side4 => exact HCz4.out); rintro e w' ⟨rfl, ⟨nd, rfl⟩⟩; refine ⟨_, rfl, ?_⟩) | ((with_reducible refine gate_callee (f := 34) rfl ?_); refine ca_ 15 Tryd.func34 #[.slice A0_1 l0_1.length c0_1, .slice A1_1 l1_1.length c1_1] ?_; (with_reducible refine (IH _ _ l0_1 _ _ l1_1 false _ ?side1 ?side2 ?side3 ?side4 Az4.out).mono ?_); (case side1 => repeat (first | exact (Kd.C_below HRz2.out be_) | (with_reducible refine Kd.C_alloc ?_ _) | (with_reducible refine Kd.C_drewN ?_ _) | (with_reducible refine Kd.C_drew ?_))); (case side2 => exact HCz2.out); (case side3 => repeat (first | exact (Kd.C_below HRz5.out be_) | (with_reducible refine Kd.C_alloc ?_ _) | (with_reducible refine Kd.C_drewN ?_ _) | (with_reducible refine Kd.C_drew ?_))); (case side4 => exact HCz5.out); rintro e wz3 ⟨rfl, hb⟩; refine ⟨_, rfl, ?_⟩; have nz1 := Aside0.mk (blk_below (g := gbz1) (o := .cells #[.slice A0_0 l0_0.length c0_0, .slice A0_1 l0_1.length c0_1, .slice A0_2 l0_2.length c0_2] 33 (0, 0)) bk_ hb); have nz2 := Aside0.mk (blk_below (g := gbz2) (o := .cells #[.slice A1_0 l1_0.length c1_0, .slice A1_1 l1_1.length c1_1, .slice A1_2 l1_2.length c1_2] 33 (0, 0)) bk_ hb); have nz3 := bw_ hb; clear BKz1 BKz2 HB; have BKz1 := nz1; have BKz2 := nz2; have HB := nz3; clear nz1 nz2 nz3 hb))
   go_ret
   exact ⟨er_, be_⟩
 ·replace cz1 := Bool.eq_false_iff.mpr cz1
  subst cz1
  replace H := bf_ H
  obtain rfl := Option.some.inj H
  go_enter Tryd.func11, Tryd.ntmps11
  go_wp2_with (first | ((with_reducible refine gate_dst (N := 2) rfl ?_); refine box_event ?hg (N := 2) ?hd (cs := #[.slice A0_0 l0_0.length c0_0, .slice A0_1 l0_1.length c0_1, .slice A0_2 l0_2.length c0_2]) (t := 33) ?hr ?_; (case hd => rfl); (case hg => rfl); (case hr => first | (go_simp; done) | (go_simp; rfl)); intro gbz1 hg wz1 hbox hb; have BKz1 := Aside0.mk (hbox); have GWz1 := Aside0.mk ((sz_ : w.heap.size ≤ gbz1)); have GEz1 := Aside0.mk ((sz_ : w.heap.size ≤ gbz1)); replace HB := bw_ hb; clear hb hbox hg) | ((with_reducible refine gate_dst (N := 3) rfl ?_); refine box_event ?hg (N := 3) ?hd (cs := #[.slice A1_0 l1_0.length c1_0, .slice A1_1 l1_1.length c1_1, .slice A1_2 l1_2.length c1_2]) (t := 33) ?hr ?_; (case hd => rfl); (case hg => rfl); (case hr => first | (go_simp; done) | (go_simp; rfl)); intro gbz2 hg wz2 hbox hb; have BKz2 := Aside0.mk (hbox); have GWz2 := Aside0.mk ((sz_ : w.heap.size ≤ gbz2)); have GEz2 := Aside0.mk ((sz_ : w.heap.size ≤ gbz2)); replace HB := bw_ hb; have NBz1 := Aside0.mk ((by rw [hg]; exact Nat.ne_of_lt (blk_lt (g := gbz1) (o := .cells #[.slice A0_0 l0_0.length c0_0, .slice A0_1 l0_1.length c0_1, .slice A0_2 l0_2.length c0_2] 33 (0, 0)) bk_) : gbz1 ≠ gbz2)); have NBz2 := Aside0.mk ((by rw [hg]; exact Nat.ne_of_gt (blk_lt (g := gbz1) (o := .cells #[.slice A0_0 l0_0.length c0_0, .slice A0_1 l0_1.length c0_1, .slice A0_2 l0_2.length c0_2] 33 (0, 0)) bk_) : gbz2 ≠ gbz1)); replace BKz1 := kb_ BKz1 hb; clear hb hbox hg; have hnbz1 := NBz1.out; have hncz1 := NBz2.out; have hczz1 : wz2.cell? ⟨gbz1, 0, none⟩ = some (.slice A0_0 l0_0.length c0_0) := bc_ BKz1 0; have hczz2 : wz2.cell? ⟨gbz1, 1, none⟩ = some (.slice A0_1 l0_1.length c0_1) := bc_ BKz1 1; have hczz3 : wz2.cell? ⟨gbz1, 2, none⟩ = some (.slice A0_2 l0_2.length c0_2) := bc_ BKz1 2; have hfzz1 := blk_frozen BKz1.out 0; have hfzz2 := blk_frozen BKz1.out 1; have hfzz3 := blk_frozen BKz1.out 2; have hczz4 : wz2.cell? ⟨gbz2, 0, none⟩ = some (.slice A1_0 l1_0.length c1_0) := bc_ BKz2 0; have hczz5 : wz2.cell? ⟨gbz2, 1, none⟩ = some (.slice A1_1 l1_1.length c1_1) := bc_ BKz2 1; have hczz6 : wz2.cell? ⟨gbz2, 2, none⟩ = some (.slice A1_2 l1_2.length c1_2) := bc_ BKz2 2; have hfzz4 := blk_frozen BKz2.out 0; have hfzz5 := blk_frozen BKz2.out 1; have hfzz6 := blk_frozen BKz2.out 2) | ((with_reducible refine gate_callee (f := 33) rfl ?_); refine ca_ 9 Tryd.func33 #[.slice A0_0 l0_0.length c0_0, .slice A1_0 l1_0.length c1_0] ?_; (with_reducible refine (laws_eqStringS.calls k _ _ l0_0 _ _ l1_0 false _ ?side1 ?side2 ?side3 ?side4 Az2.out).mono ?_); (case side1 => exact Kd.C_below HRz1.out be_); (case side2 => exact HCz1.out); (case side3 => exact Kd.C_below HRz4.out be_); (case side4 => exact HCz4.out); rintro e w' ⟨rfl, ⟨nd, rfl⟩⟩; refine ⟨_, rfl, ?_⟩))
  go_ret
  exact ⟨er_, be_⟩

theorem laws_eqNode.both : ∀ n k, k ≤ n → laws_eqNode.C k ∧ laws_eqNodeS.C k := by
 intro n
 induction n with
 | zero =>
  intro k hk
  obtain rfl : k = 0 := by omega
  exact ⟨(by intro A0_0 c0_0 l0_0 A0_1 c0_1 l0_1 A0_2 c0_2 l0_2 A1_0 c1_0 l1_0 A1_1 c1_1 l1_1 A1_2 c1_2 l1_2 r w hr0_0 hc0_0 hr0_1 hc0_1 hr0_2 hc0_2 hr1_0 hc1_0 hr1_1 hc1_1 hr1_2 hc1_2 h; simp [laws_eqNode.f] at h), (by intro A0 c0 l0 A1 c1 l1 r w hr0 hc0 hr1 hc1 h; simp [laws_eqNodeS.f] at h)⟩
 | succ n ih =>
  intro k hk
  cases k with
  | zero => exact ⟨(by intro A0_0 c0_0 l0_0 A0_1 c0_1 l0_1 A0_2 c0_2 l0_2 A1_0 c1_0 l1_0 A1_1 c1_1 l1_1 A1_2 c1_2 l1_2 r w hr0_0 hc0_0 hr0_1 hc0_1 hr0_2 hc0_2 hr1_0 hc1_0 hr1_1 hc1_1 hr1_2 hc1_2 h; simp [laws_eqNode.f] at h), (by intro A0 c0 l0 A1 c1 l1 r w hr0 hc0 hr1 hc1 h; simp [laws_eqNodeS.f] at h)⟩
  | succ j =>
   refine ⟨?_, ?_⟩
   ·intro A0_0 c0_0 l0_0 A0_1 c0_1 l0_1 A0_2 c0_2 l0_2 A1_0 c1_0 l1_0 A1_1 c1_1 l1_1 A1_2 c1_2 l1_2 r w hr0_0 hc0_0 hr0_1 hc0_1 hr0_2 hc0_2 hr1_0 hc1_0 hr1_1 hc1_1 hr1_2 hc1_2 h
    rw [laws_eqNode.f_succ] at h
    exact laws_eqNode.step j (ih j (by omega)).2 A0_0 c0_0 l0_0 A0_1 c0_1 l0_1 A0_2 c0_2 l0_2 A1_0 c1_0 l1_0 A1_1 c1_1 l1_1 A1_2 c1_2 l1_2 r w hr0_0 hc0_0 hr0_1 hc0_1 hr0_2 hc0_2 hr1_0 hc1_0 hr1_1 hc1_1 hr1_2 hc1_2 h
   ·intro A0 c0 l0 A1 c1 l1 r w hr0 hc0 hr1 hc1 h
    rw [laws_eqNodeS.f_succ] at h
    exact laws_eqNodeS.step j (fun i hi => (ih i (by omega)).1) A0 c0 l0 A1 c1 l1 r w hr0 hc0 hr1 hc1 h
theorem laws_eqNode.calls (k : Nat) (A0_0 : Option Addr) (c0_0 : Nat) (l0_0 : List ByteArray) (A0_1 : Option Addr) (c0_1 : Nat) (l0_1 : List (S33)) (A0_2 : Option Addr) (c0_2 : Nat) (l0_2 : List (S86)) (A1_0 : Option Addr) (c1_0 : Nat) (l1_0 : List ByteArray) (A1_1 : Option Addr) (c1_1 : Nat) (l1_1 : List (S33)) (A1_2 : Option Addr) (c1_2 : Nat) (l1_2 : List (S86)) (r : Bool) (w : World) (hr0_0 : Kd.C Kd.string w A0_0 l0_0.length l0_0) (hc0_0 : l0_0.length ≤ c0_0) (hr0_1 : Kd.C k33 w A0_1 l0_1.length l0_1) (hc0_1 : l0_1.length ≤ c0_1) (hr0_2 : Kd.C k86 w A0_2 l0_2.length l0_2) (hc0_2 : l0_2.length ≤ c0_2) (hr1_0 : Kd.C Kd.string w A1_0 l1_0.length l1_0) (hc1_0 : l1_0.length ≤ c1_0) (hr1_1 : Kd.C k33 w A1_1 l1_1.length l1_1) (hc1_1 : l1_1.length ≤ c1_1) (hr1_2 : Kd.C k86 w A1_2 l1_2.length l1_2) (hc1_2 : l1_2.length ≤ c1_2) (h : laws_eqNode.f k l0_0 l0_1 l0_2 l1_0 l1_1 l1_2 = some r) :
  Calls Tryd.prog 11 #[.agg #[.slice A0_0 l0_0.length c0_0, .slice A0_1 l0_1.length c0_1, .slice A0_2 l0_2.length c0_2], .agg #[.slice A1_0 l1_0.length c1_0, .slice A1_1 l1_1.length c1_1, .slice A1_2 l1_2.length c1_2]] w fun e w' => e = .returned (.bool r) ∧ Below w.heap.size w w' := (laws_eqNode.both k k (Nat.le_refl _)).1 A0_0 c0_0 l0_0 A0_1 c0_1 l0_1 A0_2 c0_2 l0_2 A1_0 c1_0 l1_0 A1_1 c1_1 l1_1 A1_2 c1_2 l1_2 r w hr0_0 hc0_0 hr0_1 hc0_1 hr0_2 hc0_2 hr1_0 hc1_0 hr1_1 hc1_1 hr1_2 hc1_2 h
end Go.Proofs.YtggokdobijhdhaaDoor.X
