-- Printed by a program over the kit's print.py (mp.sh), several laws in one namespace.
import Derived.Test.YtggokdobijhdhaaDoorPx0
import Derived.Test.YtggokdobijhdhaaDoorS
import Derived.Test.YtggokdobijhdhaaDoorPx26
import Derived.Test.YtggokdobijhdhaaDoorM3
namespace Go.Proofs.YtggokdobijhdhaaDoor.P
open Go.RowKit Go.Proofs.YtggokdobijhdhaaDoor.X Go.Proofs.YtggokdobijhdhaaDoorW.PrintWords Go.Proofs.YtggokdobijhdhaaDoorW.PrintLast Go.Proofs.YtggokdobijhdhaaDoorW.PrintMore
attribute [local go_sem] max2_int min2_int max_two min_two max_three min_three max_four min_four   -- for this text's walks alone
set_option maxHeartbeats 8000000
set_option maxRecDepth 100000
set_option linter.unusedVariables false
set_option linter.unusedSimpArgs false

def laws_eqKeptS.l0 : Nat → List (S77) → List (S77) → Int → Option (Bool)
 | 0, _, _, _ => none
 | k + 1, x0, x1, x5 => if x5 < (x0.length : Int) then (if 0 ≤ x5 then (if x5 < (x1.length : Int) then ((laws_eqKept.f k ((rd_T77 x0 x5).f0) ((rd_T77 x0 x5).f1) ((rd_T77 x0 x5).f2) ((rd_T77 x1 x5).f0) ((rd_T77 x1 x5).f1) ((rd_T77 x1 x5).f2)).bind fun t417 => (if t417 = true then (laws_eqKeptS.l0 k x0 x1 (wrap64 (x5 + 1))) else (some false))) else (none)) else (none)) else (some true)
def laws_eqKeptS.f (k : Nat) (l0 : List (S77)) (l1 : List (S77)) : Option (Bool) := if (l0.length : Int) = (l1.length : Int) then (laws_eqKeptS.l0 k l0 l1 0) else (some false)
def laws_eqKeptS.T6 : Bool × List (List Nat × List Nat) := (true, [([], []), ([], []), ([0, 1], [0, 1]), ([2], [2]), ([], []), ([], []), ([4, 5], [4, 5]), ([6], [6]), ([3, 7], [3, 7]), ([8], [8])])
def laws_eqKeptS.B6 : List Nat := [0, 0, 3, 7, 0, 0, 48, 112, 255, 511]
theorem laws_eqKeptS.tab6 : rtab .any (opsOf Tryd.f46 6) = laws_eqKeptS.T6 := by kernel_rfl
theorem laws_eqKeptS.bits6 : waitsOk laws_eqKeptS.T6.2 laws_eqKeptS.B6 = true := by kernel_rfl
theorem laws_eqKeptS.calls (k : Nat) (A0 : Option Addr) (c0 : Nat) (l0 : List (S77)) (A1 : Option Addr) (c1 : Nat) (l1 : List (S77)) (r : Bool) (w : World) (hr0 : Kd.C k77 w A0 l0.length l0) (hc0 : l0.length ≤ c0) (hr1 : Kd.C k77 w A1 l1.length l1) (hc1 : l1.length ≤ c1) (h : laws_eqKeptS.f k l0 l1 = some r) :
  Calls Tryd.prog 46 #[.slice A0 l0.length c0, .slice A1 l1.length c1] w fun e w' => e = .returned (.bool r) ∧ Below w.heap.size w w' := by
 have huz1 := Tryd.underlying77
 have HRz1 := Aside0.mk hr0
 have HCz1 := Aside0.mk hc0
 clear hr0 hc0
 have HRz2 := Aside0.mk hr1
 have HCz2 := Aside0.mk hc1
 clear hr1 hc1
 have HB := Aside0.mk (Below.refl w.heap.size w)
 have H : (if (l0.length : Int) = (l1.length : Int) then (laws_eqKeptS.l0 k l0 l1 0) else (some false)) = some r := h
 clear h
 by_cases cz1 : (l0.length : Int) = (l1.length : Int)
 rotate_left
 ·rw [if_neg cz1] at H
  have cz2 : ((l0.length : Int) == (l1.length : Int)) = false := beq_eq_false_iff_ne.mpr cz1
  have cz3 : ((l0.length : Int) != (l1.length : Int)) = true := bne_iff_ne.mpr cz1
  have cz4 : (l0.length == l1.length) = false := by first | simpa using cz1 | (simp at cz1 ⊢; omega)
  obtain rfl := Option.some.inj H
  go_enter Tryd.func46, Tryd.ntmps46
  go_wp2
  go_ret
  exact ⟨er_, be_⟩
 rw [if_pos cz1] at H
 have cz2 : ((l0.length : Int) == (l1.length : Int)) = true := beq_iff_eq.mpr cz1
 have cz3 : ((l0.length : Int) != (l1.length : Int)) = false := bne_eq_false_iff_eq.mpr cz1
 have cz4 : (l0.length == l1.length) = true := by first | simpa using cz1 | (simp at cz1 ⊢; omega)
 clear cz1
 have H' := Aside0.mk H
 clear H
 go_enter Tryd.func46, Tryd.ntmps46
 go_wp2
 go_loopg [5] k (fun kq v5 w' => ∃ (x5_1 : Int), v5 = .int .i64 x5_1 ∧ Aside0 (laws_eqKeptS.l0 kq l0 l1 x5_1 = some r) ∧ Aside0 (kq ≤ k) ∧ Aside0 (Below w.heap.size w w'))
 case atStart => exact ⟨(0), rs_, H', ⟨Nat.le_refl _⟩, ⟨be_⟩⟩
 case round =>
  clear H'
  obtain ⟨xz1, rfl, HA, HKz1, HB⟩ := hrel
  cases gk with
  | zero => exact absurd HA.out (by simp [laws_eqKeptS.l0])
  | succ kz1 =>
   have H := HA.out
   clear HA
   simp only [laws_eqKeptS.l0] at H
   by_cases cz5 : xz1 < (l0.length : Int)
   rotate_left
   ·rw [if_neg cz5] at H
    have cz6 : decide (xz1 < (l0.length : Int)) = false := decide_eq_false cz5
    clear cz5
    obtain rfl := Option.some.inj H
    go_wp2
    go_ret
    exact ⟨er_, be_⟩
   rw [if_pos cz5] at H
   have cz6 : decide (xz1 < (l0.length : Int)) = true := decide_eq_true cz5
   clear cz5
   by_cases cz7 : 0 ≤ xz1
   rotate_left
   ·rw [if_neg cz7] at H
    exact absurd H (by simp)
   rw [if_pos cz7] at H
   have cz8 : decide (0 ≤ xz1) = true := decide_eq_true cz7
   clear cz7
   by_cases cz9 : xz1 < (l1.length : Int)
   rotate_left
   ·rw [if_neg cz9] at H
    exact absurd H (by simp)
   rw [if_pos cz9] at H
   have cz10 : decide (xz1 < (l1.length : Int)) = true := decide_eq_true cz9
   clear cz9
   replace H := bo_ H
   obtain ⟨tz1, Az2, H⟩ := H
   (try dsimp only at H)
   by_cases cz11 : tz1 = true
   rotate_left
   ·replace cz11 := Bool.eq_false_iff.mpr cz11
    subst cz11
    replace H := bf_ H
    obtain rfl := Option.some.inj H
    try go_wp2
    replace HB := Aside0.mk (below_drew1 HB.out)
    obtain ⟨pz1, qz1, adz1, Az3, cz12, ez1, hxz1, hxz2, hxz3, hlz1, hiz1⟩ := aa_ (at_T77 HRz1.out xz1)
    have hwz1 := hxz3
    have hwz2 := hxz2
    have hwz3 := hxz1
    cases ez1
    replace hxz1 := cl_ HB hxz1
    replace hxz2 := cl_ HB hxz2
    replace hxz3 := cl_ HB hxz3
    have HRz3 := Aside0.mk hiz1
    have HCz3 := Aside0.mk hlz1
    clear hiz1 hlz1
    obtain ⟨pz2, qz2, adz2, Az4, cz13, ez2, hxz4, hxz5, hxz6, hlz2, hiz2⟩ := aa_ (at_T77 HRz2.out xz1)
    have hwz4 := hxz6
    have hwz5 := hxz5
    have hwz6 := hxz4
    cases ez2
    replace hxz4 := cl_ HB hxz4
    replace hxz5 := cl_ HB hxz5
    replace hxz6 := cl_ HB hxz6
    have HRz4 := Aside0.mk hiz2
    have HCz4 := Aside0.mk hlz2
    clear hiz2 hlz2
    refine start_ (n := 10) (S := fun w' => w'.cell? (adz1.add ((xz1).toNat * 3)) = some (.string ((rd_T77 l0 xz1).f0)) ∧ w'.cell? ⟨(adz1.add ((xz1).toNat * 3)).block, (adz1.add ((xz1).toNat * 3)).off + 1, none⟩ = some (.slice Az3 ((rd_T77 l0 xz1).f1).length cz12) ∧ w'.cell? ⟨(adz1.add ((xz1).toNat * 3)).block, (adz1.add ((xz1).toNat * 3)).off + 2, none⟩ = some (.int .i64 ((rd_T77 l0 xz1).f2)) ∧ w'.cell? (adz2.add ((xz1).toNat * 3)) = some (.string ((rd_T77 l1 xz1).f0)) ∧ w'.cell? ⟨(adz2.add ((xz1).toNat * 3)).block, (adz2.add ((xz1).toNat * 3)).off + 1, none⟩ = some (.slice Az4 ((rd_T77 l1 xz1).f1).length cz13) ∧ w'.cell? ⟨(adz2.add ((xz1).toNat * 3)).block, (adz2.add ((xz1).toNat * 3)).off + 2, none⟩ = some (.int .i64 ((rd_T77 l1 xz1).f2))) (ds := []) (bs_ 10 0) (by kernel_rfl) rfl (by kernel_rfl) ⟨(cl_ HB hwz3), (cl_ HB hwz2), (cl_ HB hwz1), (cl_ HB hwz6), (cl_ HB hwz5), (cl_ HB hwz4)⟩ (fun hHeld => ?_); refine with_tabW laws_eqKeptS.tab6 laws_eqKeptS.bits6 (fun HT_ HW_ => ?_)
    generalize wr.drew = wz1 at HB HRz3 HRz4 hxz1 hxz2 hxz3 hxz4 hxz5 hxz6 hHeld ⊢
    refine pv_ HT_ 0 ?_
    refine pv_ HT_ 1 ?_
    refine pv_ HT_ 2 ?_
    refine pv_ HT_ 4 ?_
    refine pv_ HT_ 5 ?_
    refine pv_ HT_ 6 ?_
    refine tv_ HT_ HW_ hHeld 3 ?_
    refine tv_ HT_ HW_ hHeld 7 ?_
    refine ov_ HT_ 8 (fun K hK => ?_)
    refine goes_ Tryd.func63 (by kernel_rfl) rfl #[.agg #[.string ((rd_T77 l0 xz1).f0), .slice Az3 ((rd_T77 l0 xz1).f1).length cz12, .int .i64 ((rd_T77 l0 xz1).f2)], .agg #[.string ((rd_T77 l1 xz1).f0), .slice Az4 ((rd_T77 l1 xz1).f1).length cz13, .int .i64 ((rd_T77 l1 xz1).f2)]] (by rfl) rfl rfl ar_ ?_
    with_reducible refine (laws_eqKept.calls kz1 ((rd_T77 l0 xz1).f0) _ _ ((rd_T77 l0 xz1).f1) ((rd_T77 l0 xz1).f2) ((rd_T77 l1 xz1).f0) _ _ ((rd_T77 l1 xz1).f1) ((rd_T77 l1 xz1).f2) false _ ?side1 ?side2 ?side3 ?side4 Az2.out).mono ?_
    (case side1 => exact Kd.C_below HRz3.out be_)
    (case side2 => exact HCz3.out)
    (case side3 => exact Kd.C_below HRz4.out be_)
    (case side4 => exact HCz4.out)
    rintro e wz2 ⟨rfl, hb⟩
    refine ⟨_, rfl, ?_⟩
    replace HB := bw_ hb
    clear hb
    refine hK.out _ _ ⟨(cl_ HB hwz3), (cl_ HB hwz2), (cl_ HB hwz1), (cl_ HB hwz6), (cl_ HB hwz5), (cl_ HB hwz4)⟩ (fun hHeld => ?_)
    clear hK K
    refine nm_ 25 ?_
    refine pv_ HT_ 9 ?_
    refine done_ (done_of HT_.out (by kernel_rfl)) ?_
    try go_wp2
    go_ret
    exact ⟨er_, be_⟩
   subst cz11
   replace H := bt_ H
   have H' := Aside0.mk H
   clear H
   try go_wp2
   replace HB := Aside0.mk (below_drew1 HB.out)
   obtain ⟨pz1, qz1, adz1, Az3, cz12, ez1, hxz1, hxz2, hxz3, hlz1, hiz1⟩ := aa_ (at_T77 HRz1.out xz1)
   have hwz1 := hxz3
   have hwz2 := hxz2
   have hwz3 := hxz1
   cases ez1
   replace hxz1 := cl_ HB hxz1
   replace hxz2 := cl_ HB hxz2
   replace hxz3 := cl_ HB hxz3
   have HRz3 := Aside0.mk hiz1
   have HCz3 := Aside0.mk hlz1
   clear hiz1 hlz1
   obtain ⟨pz2, qz2, adz2, Az4, cz13, ez2, hxz4, hxz5, hxz6, hlz2, hiz2⟩ := aa_ (at_T77 HRz2.out xz1)
   have hwz4 := hxz6
   have hwz5 := hxz5
   have hwz6 := hxz4
   cases ez2
   replace hxz4 := cl_ HB hxz4
   replace hxz5 := cl_ HB hxz5
   replace hxz6 := cl_ HB hxz6
   have HRz4 := Aside0.mk hiz2
   have HCz4 := Aside0.mk hlz2
   clear hiz2 hlz2
   refine start_ (n := 10) (S := fun w' => w'.cell? (adz1.add ((xz1).toNat * 3)) = some (.string ((rd_T77 l0 xz1).f0)) ∧ w'.cell? ⟨(adz1.add ((xz1).toNat * 3)).block, (adz1.add ((xz1).toNat * 3)).off + 1, none⟩ = some (.slice Az3 ((rd_T77 l0 xz1).f1).length cz12) ∧ w'.cell? ⟨(adz1.add ((xz1).toNat * 3)).block, (adz1.add ((xz1).toNat * 3)).off + 2, none⟩ = some (.int .i64 ((rd_T77 l0 xz1).f2)) ∧ w'.cell? (adz2.add ((xz1).toNat * 3)) = some (.string ((rd_T77 l1 xz1).f0)) ∧ w'.cell? ⟨(adz2.add ((xz1).toNat * 3)).block, (adz2.add ((xz1).toNat * 3)).off + 1, none⟩ = some (.slice Az4 ((rd_T77 l1 xz1).f1).length cz13) ∧ w'.cell? ⟨(adz2.add ((xz1).toNat * 3)).block, (adz2.add ((xz1).toNat * 3)).off + 2, none⟩ = some (.int .i64 ((rd_T77 l1 xz1).f2))) (ds := []) (bs_ 10 0) (by kernel_rfl) rfl (by kernel_rfl) ⟨(cl_ HB hwz3), (cl_ HB hwz2), (cl_ HB hwz1), (cl_ HB hwz6), (cl_ HB hwz5), (cl_ HB hwz4)⟩ (fun hHeld => ?_); refine with_tabW laws_eqKeptS.tab6 laws_eqKeptS.bits6 (fun HT_ HW_ => ?_)
   generalize wr.drew = wz1 at HB HRz3 HRz4 hxz1 hxz2 hxz3 hxz4 hxz5 hxz6 hHeld ⊢
   refine pv_ HT_ 0 ?_
   refine pv_ HT_ 1 ?_
   refine pv_ HT_ 2 ?_
   refine pv_ HT_ 4 ?_
   refine pv_ HT_ 5 ?_
   refine pv_ HT_ 6 ?_
   refine tv_ HT_ HW_ hHeld 3 ?_
   refine tv_ HT_ HW_ hHeld 7 ?_
   refine ov_ HT_ 8 (fun K hK => ?_)
   refine goes_ Tryd.func63 (by kernel_rfl) rfl #[.agg #[.string ((rd_T77 l0 xz1).f0), .slice Az3 ((rd_T77 l0 xz1).f1).length cz12, .int .i64 ((rd_T77 l0 xz1).f2)], .agg #[.string ((rd_T77 l1 xz1).f0), .slice Az4 ((rd_T77 l1 xz1).f1).length cz13, .int .i64 ((rd_T77 l1 xz1).f2)]] (by rfl) rfl rfl ar_ ?_
   with_reducible refine (laws_eqKept.calls kz1 ((rd_T77 l0 xz1).f0) _ _ ((rd_T77 l0 xz1).f1) ((rd_T77 l0 xz1).f2) ((rd_T77 l1 xz1).f0) _ _ ((rd_T77 l1 xz1).f1) ((rd_T77 l1 xz1).f2) true _ ?side1 ?side2 ?side3 ?side4 Az2.out).mono ?_
   (case side1 => exact Kd.C_below HRz3.out be_)
   (case side2 => exact HCz3.out)
   (case side3 => exact Kd.C_below HRz4.out be_)
   (case side4 => exact HCz4.out)
   rintro e wz2 ⟨rfl, hb⟩
   refine ⟨_, rfl, ?_⟩
   replace HB := bw_ hb
   clear hb
   refine hK.out _ _ ⟨(cl_ HB hwz3), (cl_ HB hwz2), (cl_ HB hwz1), (cl_ HB hwz6), (cl_ HB hwz5), (cl_ HB hwz4)⟩ (fun hHeld => ?_)
   clear hK K
   refine nm_ 25 ?_
   refine pv_ HT_ 9 ?_
   refine done_ (done_of HT_.out (by kernel_rfl)) ?_
   try go_wp2
   go_roundg kz1
   case measure => have := HKz1.out; omega
   case rel => exact ⟨(wrap64 (xz1 + 1)), rs_, H', ⟨by have := HKz1.out; omega⟩, ⟨be_⟩⟩

def laws_eqRoot.f (k : Nat) (a0_0 : Int) (l0_1 : List ByteArray) (l0_2 : List (S33)) (l0_3 : List (S86)) (l0_4 : List (S77)) (a1_0 : Int) (l1_1 : List ByteArray) (l1_2 : List (S33)) (l1_3 : List (S86)) (l1_4 : List (S77)) : Option (Bool) := if a0_0 = a1_0 then ((laws_eqNode.f k l0_1 l0_2 l0_3 l1_1 l1_2 l1_3).bind fun t420 => (if t420 = true then ((laws_eqKeptS.f k l0_4 l1_4).bind fun t421 => (if t421 = true then (some true) else (some false))) else (some false))) else (some false)
theorem laws_eqRoot.calls (k : Nat) (a0_0 : Int) (A0_1 : Option Addr) (c0_1 : Nat) (l0_1 : List ByteArray) (A0_2 : Option Addr) (c0_2 : Nat) (l0_2 : List (S33)) (A0_3 : Option Addr) (c0_3 : Nat) (l0_3 : List (S86)) (A0_4 : Option Addr) (c0_4 : Nat) (l0_4 : List (S77)) (a1_0 : Int) (A1_1 : Option Addr) (c1_1 : Nat) (l1_1 : List ByteArray) (A1_2 : Option Addr) (c1_2 : Nat) (l1_2 : List (S33)) (A1_3 : Option Addr) (c1_3 : Nat) (l1_3 : List (S86)) (A1_4 : Option Addr) (c1_4 : Nat) (l1_4 : List (S77)) (r : Bool) (w : World) (hr0_1 : Kd.C Kd.string w A0_1 l0_1.length l0_1) (hc0_1 : l0_1.length ≤ c0_1) (hr0_2 : Kd.C k33 w A0_2 l0_2.length l0_2) (hc0_2 : l0_2.length ≤ c0_2) (hr0_3 : Kd.C k86 w A0_3 l0_3.length l0_3) (hc0_3 : l0_3.length ≤ c0_3) (hr0_4 : Kd.C k77 w A0_4 l0_4.length l0_4) (hc0_4 : l0_4.length ≤ c0_4) (hr1_1 : Kd.C Kd.string w A1_1 l1_1.length l1_1) (hc1_1 : l1_1.length ≤ c1_1) (hr1_2 : Kd.C k33 w A1_2 l1_2.length l1_2) (hc1_2 : l1_2.length ≤ c1_2) (hr1_3 : Kd.C k86 w A1_3 l1_3.length l1_3) (hc1_3 : l1_3.length ≤ c1_3) (hr1_4 : Kd.C k77 w A1_4 l1_4.length l1_4) (hc1_4 : l1_4.length ≤ c1_4) (h : laws_eqRoot.f k a0_0 l0_1 l0_2 l0_3 l0_4 a1_0 l1_1 l1_2 l1_3 l1_4 = some r) :
  Calls Tryd.prog 19 #[.agg #[.int .i64 a0_0, .slice A0_1 l0_1.length c0_1, .slice A0_2 l0_2.length c0_2, .slice A0_3 l0_3.length c0_3, .slice A0_4 l0_4.length c0_4], .agg #[.int .i64 a1_0, .slice A1_1 l1_1.length c1_1, .slice A1_2 l1_2.length c1_2, .slice A1_3 l1_3.length c1_3, .slice A1_4 l1_4.length c1_4]] w fun e w' => e = .returned (.bool r) ∧ Below w.heap.size w w' := by
 have huz1 := Tryd.underlying47
 have huz2 := Tryd.underlying33
 have HRz1 := Aside0.mk hr0_1
 have HCz1 := Aside0.mk hc0_1
 clear hr0_1 hc0_1
 have HRz2 := Aside0.mk hr0_2
 have HCz2 := Aside0.mk hc0_2
 clear hr0_2 hc0_2
 have HRz3 := Aside0.mk hr0_3
 have HCz3 := Aside0.mk hc0_3
 clear hr0_3 hc0_3
 have HRz4 := Aside0.mk hr0_4
 have HCz4 := Aside0.mk hc0_4
 clear hr0_4 hc0_4
 have HRz5 := Aside0.mk hr1_1
 have HCz5 := Aside0.mk hc1_1
 clear hr1_1 hc1_1
 have HRz6 := Aside0.mk hr1_2
 have HCz6 := Aside0.mk hc1_2
 clear hr1_2 hc1_2
 have HRz7 := Aside0.mk hr1_3
 have HCz7 := Aside0.mk hc1_3
 clear hr1_3 hc1_3
 have HRz8 := Aside0.mk hr1_4
 have HCz8 := Aside0.mk hc1_4
 clear hr1_4 hc1_4
 have HB := Aside0.mk (Below.refl w.heap.size w)
 have H : (if a0_0 = a1_0 then ((laws_eqNode.f k l0_1 l0_2 l0_3 l1_1 l1_2 l1_3).bind fun t420 => (if t420 = true then ((laws_eqKeptS.f k l0_4 l1_4).bind fun t421 => (if t421 = true then (some true) else (some false))) else (some false))) else (some false)) = some r := h
 clear h
 by_cases cz1 : a0_0 = a1_0
 rotate_left
 ·rw [if_neg cz1] at H
  have cz2 : (a0_0 == a1_0) = false := beq_eq_false_iff_ne.mpr cz1
  have cz3 : (a0_0 != a1_0) = true := bne_iff_ne.mpr cz1
  obtain rfl := Option.some.inj H
  go_enter Tryd.func19, Tryd.ntmps19
  go_wp2_with (first | ((with_reducible refine gate_dst (N := 2) rfl ?_); refine box_event ?hg (N := 2) ?hd (cs := #[.int .i64 a0_0, .slice A0_1 l0_1.length c0_1, .slice A0_2 l0_2.length c0_2, .slice A0_3 l0_3.length c0_3, .slice A0_4 l0_4.length c0_4]) (t := 47) ?hr ?_; (case hd => rfl); (case hg => rfl); (case hr => first | (go_simp; done) | (go_simp; rfl)); intro gbz1 hg wz1 hbox hb; have BKz1 := Aside0.mk (hbox); have GWz1 := Aside0.mk ((sz_ : w.heap.size ≤ gbz1)); have GEz1 := Aside0.mk ((sz_ : w.heap.size ≤ gbz1)); replace HB := bw_ hb; clear hb hbox hg) | ((with_reducible refine gate_dst (N := 3) rfl ?_); refine box_event ?hg (N := 3) ?hd (cs := #[.int .i64 a1_0, .slice A1_1 l1_1.length c1_1, .slice A1_2 l1_2.length c1_2, .slice A1_3 l1_3.length c1_3, .slice A1_4 l1_4.length c1_4]) (t := 47) ?hr ?_; (case hd => rfl); (case hg => rfl); (case hr => first | (go_simp; done) | (go_simp; rfl)); intro gbz2 hg wz2 hbox hb; have BKz2 := Aside0.mk (hbox); have GWz2 := Aside0.mk ((sz_ : w.heap.size ≤ gbz2)); have GEz2 := Aside0.mk ((sz_ : w.heap.size ≤ gbz2)); replace HB := bw_ hb; have NBz1 := Aside0.mk ((by rw [hg]; exact Nat.ne_of_lt (blk_lt (g := gbz1) (o := .cells #[.int .i64 a0_0, .slice A0_1 l0_1.length c0_1, .slice A0_2 l0_2.length c0_2, .slice A0_3 l0_3.length c0_3, .slice A0_4 l0_4.length c0_4] 47 (0, 0)) bk_) : gbz1 ≠ gbz2)); have NBz2 := Aside0.mk ((by rw [hg]; exact Nat.ne_of_gt (blk_lt (g := gbz1) (o := .cells #[.int .i64 a0_0, .slice A0_1 l0_1.length c0_1, .slice A0_2 l0_2.length c0_2, .slice A0_3 l0_3.length c0_3, .slice A0_4 l0_4.length c0_4] 47 (0, 0)) bk_) : gbz2 ≠ gbz1)); replace BKz1 := kb_ BKz1 hb; clear hb hbox hg; have hnbz1 := NBz1.out; have hncz1 := NBz2.out; have hczz1 : wz2.cell? ⟨gbz1, 0, none⟩ = some (.int .i64 a0_0) := bc_ BKz1 0; have hczz2 : wz2.cell? ⟨gbz1, 1, none⟩ = some (.slice A0_1 l0_1.length c0_1) := bc_ BKz1 1; have hczz3 : wz2.cell? ⟨gbz1, 2, none⟩ = some (.slice A0_2 l0_2.length c0_2) := bc_ BKz1 2; have hczz4 : wz2.cell? ⟨gbz1, 3, none⟩ = some (.slice A0_3 l0_3.length c0_3) := bc_ BKz1 3; have hczz5 : wz2.cell? ⟨gbz1, 4, none⟩ = some (.slice A0_4 l0_4.length c0_4) := bc_ BKz1 4; have hfzz1 := blk_frozen BKz1.out 0; have hfzz2 := blk_frozen BKz1.out 1; have hfzz3 := blk_frozen BKz1.out 2; have hfzz4 := blk_frozen BKz1.out 3; have hfzz5 := blk_frozen BKz1.out 4; have hczz6 : wz2.cell? ⟨gbz2, 0, none⟩ = some (.int .i64 a1_0) := bc_ BKz2 0; have hczz7 : wz2.cell? ⟨gbz2, 1, none⟩ = some (.slice A1_1 l1_1.length c1_1) := bc_ BKz2 1; have hczz8 : wz2.cell? ⟨gbz2, 2, none⟩ = some (.slice A1_2 l1_2.length c1_2) := bc_ BKz2 2; have hczz9 : wz2.cell? ⟨gbz2, 3, none⟩ = some (.slice A1_3 l1_3.length c1_3) := bc_ BKz2 3; have hczz10 : wz2.cell? ⟨gbz2, 4, none⟩ = some (.slice A1_4 l1_4.length c1_4) := bc_ BKz2 4; have hfzz6 := blk_frozen BKz2.out 0; have hfzz7 := blk_frozen BKz2.out 1; have hfzz8 := blk_frozen BKz2.out 2; have hfzz9 := blk_frozen BKz2.out 3; have hfzz10 := blk_frozen BKz2.out 4))
  go_ret
  exact ⟨er_, be_⟩
 rw [if_pos cz1] at H
 have cz2 : (a0_0 == a1_0) = true := beq_iff_eq.mpr cz1
 have cz3 : (a0_0 != a1_0) = false := bne_eq_false_iff_eq.mpr cz1
 clear cz1
 replace H := bo_ H
 obtain ⟨tz1, Az2, H⟩ := H
 (try dsimp only at H)
 by_cases cz4 : tz1 = true
 rotate_left
 ·replace cz4 := Bool.eq_false_iff.mpr cz4
  subst cz4
  replace H := bf_ H
  obtain rfl := Option.some.inj H
  go_enter Tryd.func19, Tryd.ntmps19
  go_wp2_with (first | ((with_reducible refine gate_dst (N := 2) rfl ?_); refine box_event ?hg (N := 2) ?hd (cs := #[.int .i64 a0_0, .slice A0_1 l0_1.length c0_1, .slice A0_2 l0_2.length c0_2, .slice A0_3 l0_3.length c0_3, .slice A0_4 l0_4.length c0_4]) (t := 47) ?hr ?_; (case hd => rfl); (case hg => rfl); (case hr => first | (go_simp; done) | (go_simp; rfl)); intro gbz1 hg wz1 hbox hb; have BKz1 := Aside0.mk (hbox); have GWz1 := Aside0.mk ((sz_ : w.heap.size ≤ gbz1)); have GEz1 := Aside0.mk ((sz_ : w.heap.size ≤ gbz1)); replace HB := bw_ hb; clear hb hbox hg) | ((with_reducible refine gate_dst (N := 3) rfl ?_); refine box_event ?hg (N := 3) ?hd (cs := #[.int .i64 a1_0, .slice A1_1 l1_1.length c1_1, .slice A1_2 l1_2.length c1_2, .slice A1_3 l1_3.length c1_3, .slice A1_4 l1_4.length c1_4]) (t := 47) ?hr ?_; (case hd => rfl); (case hg => rfl); (case hr => first | (go_simp; done) | (go_simp; rfl)); intro gbz2 hg wz2 hbox hb; have BKz2 := Aside0.mk (hbox); have GWz2 := Aside0.mk ((sz_ : w.heap.size ≤ gbz2)); have GEz2 := Aside0.mk ((sz_ : w.heap.size ≤ gbz2)); replace HB := bw_ hb; have NBz1 := Aside0.mk ((by rw [hg]; exact Nat.ne_of_lt (blk_lt (g := gbz1) (o := .cells #[.int .i64 a0_0, .slice A0_1 l0_1.length c0_1, .slice A0_2 l0_2.length c0_2, .slice A0_3 l0_3.length c0_3, .slice A0_4 l0_4.length c0_4] 47 (0, 0)) bk_) : gbz1 ≠ gbz2)); have NBz2 := Aside0.mk ((by rw [hg]; exact Nat.ne_of_gt (blk_lt (g := gbz1) (o := .cells #[.int .i64 a0_0, .slice A0_1 l0_1.length c0_1, .slice A0_2 l0_2.length c0_2, .slice A0_3 l0_3.length c0_3, .slice A0_4 l0_4.length c0_4] 47 (0, 0)) bk_) : gbz2 ≠ gbz1)); replace BKz1 := kb_ BKz1 hb; clear hb hbox hg; have hnbz1 := NBz1.out; have hncz1 := NBz2.out; have hczz1 : wz2.cell? ⟨gbz1, 0, none⟩ = some (.int .i64 a0_0) := bc_ BKz1 0; have hczz2 : wz2.cell? ⟨gbz1, 1, none⟩ = some (.slice A0_1 l0_1.length c0_1) := bc_ BKz1 1; have hczz3 : wz2.cell? ⟨gbz1, 2, none⟩ = some (.slice A0_2 l0_2.length c0_2) := bc_ BKz1 2; have hczz4 : wz2.cell? ⟨gbz1, 3, none⟩ = some (.slice A0_3 l0_3.length c0_3) := bc_ BKz1 3; have hczz5 : wz2.cell? ⟨gbz1, 4, none⟩ = some (.slice A0_4 l0_4.length c0_4) := bc_ BKz1 4; have hfzz1 := blk_frozen BKz1.out 0; have hfzz2 := blk_frozen BKz1.out 1; have hfzz3 := blk_frozen BKz1.out 2; have hfzz4 := blk_frozen BKz1.out 3; have hfzz5 := blk_frozen BKz1.out 4; have hczz6 : wz2.cell? ⟨gbz2, 0, none⟩ = some (.int .i64 a1_0) := bc_ BKz2 0; have hczz7 : wz2.cell? ⟨gbz2, 1, none⟩ = some (.slice A1_1 l1_1.length c1_1) := bc_ BKz2 1; have hczz8 : wz2.cell? ⟨gbz2, 2, none⟩ = some (.slice A1_2 l1_2.length c1_2) := bc_ BKz2 2; have hczz9 : wz2.cell? ⟨gbz2, 3, none⟩ = some (.slice A1_3 l1_3.length c1_3) := bc_ BKz2 3; have hczz10 : wz2.cell? ⟨gbz2, 4, none⟩ = some (.slice A1_4 l1_4.length c1_4) := bc_ BKz2 4; have hfzz6 := blk_frozen BKz2.out 0; have hfzz7 := blk_frozen BKz2.out 1; have hfzz8 := blk_frozen BKz2.out 2; have hfzz9 := blk_frozen BKz2.out 3; have hfzz10 := blk_frozen BKz2.out 4) | ((with_reducible refine gate_callee (f := 11) rfl ?_); refine ca_ 14 Tryd.func11 #[.agg #[.slice A0_1 l0_1.length c0_1, .slice A0_2 l0_2.length c0_2, .slice A0_3 l0_3.length c0_3], .agg #[.slice A1_1 l1_1.length c1_1, .slice A1_2 l1_2.length c1_2, .slice A1_3 l1_3.length c1_3]] ?_; (with_reducible refine (laws_eqNode.calls k _ _ l0_1 _ _ l0_2 _ _ l0_3 _ _ l1_1 _ _ l1_2 _ _ l1_3 false _ ?side1 ?side2 ?side3 ?side4 ?side5 ?side6 ?side7 ?side8 ?side9 ?side10 ?side11 ?side12 Az2.out).mono ?_); (case side1 => exact Kd.C_below HRz1.out be_); (case side2 => exact HCz1.out); (case side3 => exact Kd.C_below HRz2.out be_); (case side4 => exact HCz2.out); (case side5 => exact Kd.C_below HRz3.out be_); (case side6 => exact HCz3.out); (case side7 => exact Kd.C_below HRz5.out be_); (case side8 => exact HCz5.out); (case side9 => exact Kd.C_below HRz6.out be_); (case side10 => exact HCz6.out); (case side11 => exact Kd.C_below HRz7.out be_); (case side12 => exact HCz7.out); rintro e wz3 ⟨rfl, hb⟩; refine ⟨_, rfl, ?_⟩; have nz1 := Aside0.mk (blk_below (g := gbz1) (o := .cells #[.int .i64 a0_0, .slice A0_1 l0_1.length c0_1, .slice A0_2 l0_2.length c0_2, .slice A0_3 l0_3.length c0_3, .slice A0_4 l0_4.length c0_4] 47 (0, 0)) bk_ hb); have nz2 := Aside0.mk (blk_below (g := gbz2) (o := .cells #[.int .i64 a1_0, .slice A1_1 l1_1.length c1_1, .slice A1_2 l1_2.length c1_2, .slice A1_3 l1_3.length c1_3, .slice A1_4 l1_4.length c1_4] 47 (0, 0)) bk_ hb); have nz3 := bw_ hb; clear BKz1 BKz2 HB; have BKz1 := nz1; have BKz2 := nz2; have HB := nz3; clear nz1 nz2 nz3 hb))
  go_ret
  exact ⟨er_, be_⟩
 subst cz4
 replace H := bt_ H
 replace H := bo_ H
 obtain ⟨tz2, Az4, H⟩ := H
 (try dsimp only at H)
 by_cases cz5 : tz2 = true
 ·subst cz5
  replace H := bt_ H
  obtain rfl := Option.some.inj H
  go_enter Tryd.func19, Tryd.ntmps19
  go_wp2_with (first | ((with_reducible refine gate_dst (N := 2) rfl ?_); refine box_event ?hg (N := 2) ?hd (cs := #[.int .i64 a0_0, .slice A0_1 l0_1.length c0_1, .slice A0_2 l0_2.length c0_2, .slice A0_3 l0_3.length c0_3, .slice A0_4 l0_4.length c0_4]) (t := 47) ?hr ?_; (case hd => rfl); (case hg => rfl); (case hr => first | (go_simp; done) | (go_simp; rfl)); intro gbz1 hg wz1 hbox hb; have BKz1 := Aside0.mk (hbox); have GWz1 := Aside0.mk ((sz_ : w.heap.size ≤ gbz1)); have GEz1 := Aside0.mk ((sz_ : w.heap.size ≤ gbz1)); replace HB := bw_ hb; clear hb hbox hg) | ((with_reducible refine gate_dst (N := 3) rfl ?_); refine box_event ?hg (N := 3) ?hd (cs := #[.int .i64 a1_0, .slice A1_1 l1_1.length c1_1, .slice A1_2 l1_2.length c1_2, .slice A1_3 l1_3.length c1_3, .slice A1_4 l1_4.length c1_4]) (t := 47) ?hr ?_; (case hd => rfl); (case hg => rfl); (case hr => first | (go_simp; done) | (go_simp; rfl)); intro gbz2 hg wz2 hbox hb; have BKz2 := Aside0.mk (hbox); have GWz2 := Aside0.mk ((sz_ : w.heap.size ≤ gbz2)); have GEz2 := Aside0.mk ((sz_ : w.heap.size ≤ gbz2)); replace HB := bw_ hb; have NBz1 := Aside0.mk ((by rw [hg]; exact Nat.ne_of_lt (blk_lt (g := gbz1) (o := .cells #[.int .i64 a0_0, .slice A0_1 l0_1.length c0_1, .slice A0_2 l0_2.length c0_2, .slice A0_3 l0_3.length c0_3, .slice A0_4 l0_4.length c0_4] 47 (0, 0)) bk_) : gbz1 ≠ gbz2)); have NBz2 := Aside0.mk ((by rw [hg]; exact Nat.ne_of_gt (blk_lt (g := gbz1) (o := .cells #[.int .i64 a0_0, .slice A0_1 l0_1.length c0_1, .slice A0_2 l0_2.length c0_2, .slice A0_3 l0_3.length c0_3, .slice A0_4 l0_4.length c0_4] 47 (0, 0)) bk_) : gbz2 ≠ gbz1)); replace BKz1 := kb_ BKz1 hb; clear hb hbox hg; have hnbz1 := NBz1.out; have hncz1 := NBz2.out; have hczz1 : wz2.cell? ⟨gbz1, 0, none⟩ = some (.int .i64 a0_0) := bc_ BKz1 0; have hczz2 : wz2.cell? ⟨gbz1, 1, none⟩ = some (.slice A0_1 l0_1.length c0_1) := bc_ BKz1 1; have hczz3 : wz2.cell? ⟨gbz1, 2, none⟩ = some (.slice A0_2 l0_2.length c0_2) := bc_ BKz1 2; have hczz4 : wz2.cell? ⟨gbz1, 3, none⟩ = some (.slice A0_3 l0_3.length c0_3) := bc_ BKz1 3; have hczz5 : wz2.cell? ⟨gbz1, 4, none⟩ = some (.slice A0_4 l0_4.length c0_4) := bc_ BKz1 4; have hfzz1 := blk_frozen BKz1.out 0; have hfzz2 := blk_frozen BKz1.out 1; have hfzz3 := blk_frozen BKz1.out 2; have hfzz4 := blk_frozen BKz1.out 3; have hfzz5 := blk_frozen BKz1.out 4; have hczz6 : wz2.cell? ⟨gbz2, 0, none⟩ = some (.int .i64 a1_0) := bc_ BKz2 0; have hczz7 : wz2.cell? ⟨gbz2, 1, none⟩ = some (.slice A1_1 l1_1.length c1_1) := bc_ BKz2 1; have hczz8 : wz2.cell? ⟨gbz2, 2, none⟩ = some (.slice A1_2 l1_2.length c1_2) := bc_ BKz2 2; have hczz9 : wz2.cell? ⟨gbz2, 3, none⟩ = some (.slice A1_3 l1_3.length c1_3) := bc_ BKz2 3; have hczz10 : wz2.cell? ⟨gbz2, 4, none⟩ = some (.slice A1_4 l1_4.length c1_4) := bc_ BKz2 4; have hfzz6 := blk_frozen BKz2.out 0; have hfzz7 := blk_frozen BKz2.out 1; have hfzz8 := blk_frozen BKz2.out 2; have hfzz9 := blk_frozen BKz2.out 3; have hfzz10 := blk_frozen BKz2.out 4) | ((with_reducible refine gate_callee (f := 11) rfl ?_); refine ca_ 14 Tryd.func11 #[.agg #[.slice A0_1 l0_1.length c0_1, .slice A0_2 l0_2.length c0_2, .slice A0_3 l0_3.length c0_3], .agg #[.slice A1_1 l1_1.length c1_1, .slice A1_2 l1_2.length c1_2, .slice A1_3 l1_3.length c1_3]] ?_; (with_reducible refine (laws_eqNode.calls k _ _ l0_1 _ _ l0_2 _ _ l0_3 _ _ l1_1 _ _ l1_2 _ _ l1_3 true _ ?side1 ?side2 ?side3 ?side4 ?side5 ?side6 ?side7 ?side8 ?side9 ?side10 ?side11 ?side12 Az2.out).mono ?_); (case side1 => exact Kd.C_below HRz1.out be_); (case side2 => exact HCz1.out); (case side3 => exact Kd.C_below HRz2.out be_); (case side4 => exact HCz2.out); (case side5 => exact Kd.C_below HRz3.out be_); (case side6 => exact HCz3.out); (case side7 => exact Kd.C_below HRz5.out be_); (case side8 => exact HCz5.out); (case side9 => exact Kd.C_below HRz6.out be_); (case side10 => exact HCz6.out); (case side11 => exact Kd.C_below HRz7.out be_); (case side12 => exact HCz7.out); rintro e wz3 ⟨rfl, hb⟩; refine ⟨_, rfl, ?_⟩; have nz1 := Aside0.mk (blk_below (g := gbz1) (o := .cells #[.int .i64 a0_0, .slice A0_1 l0_1.length c0_1, .slice A0_2 l0_2.length c0_2, .slice A0_3 l0_3.length c0_3, .slice A0_4 l0_4.length c0_4] 47 (0, 0)) bk_ hb); have nz2 := Aside0.mk (blk_below (g := gbz2) (o := .cells #[.int .i64 a1_0, .slice A1_1 l1_1.length c1_1, .slice A1_2 l1_2.length c1_2, .slice A1_3 l1_3.length c1_3, .slice A1_4 l1_4.length c1_4] 47 (0, 0)) bk_ hb); have nz3 := bw_ hb; clear BKz1 BKz2 HB; have BKz1 := nz1; have BKz2 := nz2; have HB := nz3; clear nz1 nz2 nz3 hb; have hczz11 : wz3.cell? ⟨gbz1, 0, none⟩ = some (.int .i64 a0_0) := bc_ BKz1 0; have hczz12 : wz3.cell? ⟨gbz1, 1, none⟩ = some (.slice A0_1 l0_1.length c0_1) := bc_ BKz1 1; have hczz13 : wz3.cell? ⟨gbz1, 2, none⟩ = some (.slice A0_2 l0_2.length c0_2) := bc_ BKz1 2; have hczz14 : wz3.cell? ⟨gbz1, 3, none⟩ = some (.slice A0_3 l0_3.length c0_3) := bc_ BKz1 3; have hczz15 : wz3.cell? ⟨gbz1, 4, none⟩ = some (.slice A0_4 l0_4.length c0_4) := bc_ BKz1 4; have hfzz11 := blk_frozen BKz1.out 0; have hfzz12 := blk_frozen BKz1.out 1; have hfzz13 := blk_frozen BKz1.out 2; have hfzz14 := blk_frozen BKz1.out 3; have hfzz15 := blk_frozen BKz1.out 4; have hczz16 : wz3.cell? ⟨gbz2, 0, none⟩ = some (.int .i64 a1_0) := bc_ BKz2 0; have hczz17 : wz3.cell? ⟨gbz2, 1, none⟩ = some (.slice A1_1 l1_1.length c1_1) := bc_ BKz2 1; have hczz18 : wz3.cell? ⟨gbz2, 2, none⟩ = some (.slice A1_2 l1_2.length c1_2) := bc_ BKz2 2; have hczz19 : wz3.cell? ⟨gbz2, 3, none⟩ = some (.slice A1_3 l1_3.length c1_3) := bc_ BKz2 3; have hczz20 : wz3.cell? ⟨gbz2, 4, none⟩ = some (.slice A1_4 l1_4.length c1_4) := bc_ BKz2 4; have hfzz16 := blk_frozen BKz2.out 0; have hfzz17 := blk_frozen BKz2.out 1; have hfzz18 := blk_frozen BKz2.out 2; have hfzz19 := blk_frozen BKz2.out 3; have hfzz20 := blk_frozen BKz2.out 4) | ((with_reducible refine gate_callee (f := 46) rfl ?_); refine ca_ 20 Tryd.func46 #[.slice A0_4 l0_4.length c0_4, .slice A1_4 l1_4.length c1_4] ?_; (with_reducible refine (laws_eqKeptS.calls k _ _ l0_4 _ _ l1_4 true _ ?side1 ?side2 ?side3 ?side4 Az4.out).mono ?_); (case side1 => exact Kd.C_below HRz4.out be_); (case side2 => exact HCz4.out); (case side3 => exact Kd.C_below HRz8.out be_); (case side4 => exact HCz8.out); rintro e wz4 ⟨rfl, hb⟩; refine ⟨_, rfl, ?_⟩; have nz1 := Aside0.mk (blk_below (g := gbz1) (o := .cells #[.int .i64 a0_0, .slice A0_1 l0_1.length c0_1, .slice A0_2 l0_2.length c0_2, .slice A0_3 l0_3.length c0_3, .slice A0_4 l0_4.length c0_4] 47 (0, 0)) bk_ hb); have nz2 := Aside0.mk (blk_below (g := gbz2) (o := .cells #[.int .i64 a1_0, .slice A1_1 l1_1.length c1_1, .slice A1_2 l1_2.length c1_2, .slice A1_3 l1_3.length c1_3, .slice A1_4 l1_4.length c1_4] 47 (0, 0)) bk_ hb); have nz3 := bw_ hb; clear BKz1 BKz2 HB; have BKz1 := nz1; have BKz2 := nz2; have HB := nz3; clear nz1 nz2 nz3 hb))
  go_ret
  exact ⟨er_, be_⟩
 replace cz5 := Bool.eq_false_iff.mpr cz5
 subst cz5
 replace H := bf_ H
 obtain rfl := Option.some.inj H
 go_enter Tryd.func19, Tryd.ntmps19
 go_wp2_with (first | ((with_reducible refine gate_dst (N := 2) rfl ?_); refine box_event ?hg (N := 2) ?hd (cs := #[.int .i64 a0_0, .slice A0_1 l0_1.length c0_1, .slice A0_2 l0_2.length c0_2, .slice A0_3 l0_3.length c0_3, .slice A0_4 l0_4.length c0_4]) (t := 47) ?hr ?_; (case hd => rfl); (case hg => rfl); (case hr => first | (go_simp; done) | (go_simp; rfl)); intro gbz1 hg wz1 hbox hb; have BKz1 := Aside0.mk (hbox); have GWz1 := Aside0.mk ((sz_ : w.heap.size ≤ gbz1)); have GEz1 := Aside0.mk ((sz_ : w.heap.size ≤ gbz1)); replace HB := bw_ hb; clear hb hbox hg) | ((with_reducible refine gate_dst (N := 3) rfl ?_); refine box_event ?hg (N := 3) ?hd (cs := #[.int .i64 a1_0, .slice A1_1 l1_1.length c1_1, .slice A1_2 l1_2.length c1_2, .slice A1_3 l1_3.length c1_3, .slice A1_4 l1_4.length c1_4]) (t := 47) ?hr ?_; (case hd => rfl); (case hg => rfl); (case hr => first | (go_simp; done) | (go_simp; rfl)); intro gbz2 hg wz2 hbox hb; have BKz2 := Aside0.mk (hbox); have GWz2 := Aside0.mk ((sz_ : w.heap.size ≤ gbz2)); have GEz2 := Aside0.mk ((sz_ : w.heap.size ≤ gbz2)); replace HB := bw_ hb; have NBz1 := Aside0.mk ((by rw [hg]; exact Nat.ne_of_lt (blk_lt (g := gbz1) (o := .cells #[.int .i64 a0_0, .slice A0_1 l0_1.length c0_1, .slice A0_2 l0_2.length c0_2, .slice A0_3 l0_3.length c0_3, .slice A0_4 l0_4.length c0_4] 47 (0, 0)) bk_) : gbz1 ≠ gbz2)); have NBz2 := Aside0.mk ((by rw [hg]; exact Nat.ne_of_gt (blk_lt (g := gbz1) (o := .cells #[.int .i64 a0_0, .slice A0_1 l0_1.length c0_1, .slice A0_2 l0_2.length c0_2, .slice A0_3 l0_3.length c0_3, .slice A0_4 l0_4.length c0_4] 47 (0, 0)) bk_) : gbz2 ≠ gbz1)); replace BKz1 := kb_ BKz1 hb; clear hb hbox hg; have hnbz1 := NBz1.out; have hncz1 := NBz2.out; have hczz1 : wz2.cell? ⟨gbz1, 0, none⟩ = some (.int .i64 a0_0) := bc_ BKz1 0; have hczz2 : wz2.cell? ⟨gbz1, 1, none⟩ = some (.slice A0_1 l0_1.length c0_1) := bc_ BKz1 1; have hczz3 : wz2.cell? ⟨gbz1, 2, none⟩ = some (.slice A0_2 l0_2.length c0_2) := bc_ BKz1 2; have hczz4 : wz2.cell? ⟨gbz1, 3, none⟩ = some (.slice A0_3 l0_3.length c0_3) := bc_ BKz1 3; have hczz5 : wz2.cell? ⟨gbz1, 4, none⟩ = some (.slice A0_4 l0_4.length c0_4) := bc_ BKz1 4; have hfzz1 := blk_frozen BKz1.out 0; have hfzz2 := blk_frozen BKz1.out 1; have hfzz3 := blk_frozen BKz1.out 2; have hfzz4 := blk_frozen BKz1.out 3; have hfzz5 := blk_frozen BKz1.out 4; have hczz6 : wz2.cell? ⟨gbz2, 0, none⟩ = some (.int .i64 a1_0) := bc_ BKz2 0; have hczz7 : wz2.cell? ⟨gbz2, 1, none⟩ = some (.slice A1_1 l1_1.length c1_1) := bc_ BKz2 1; have hczz8 : wz2.cell? ⟨gbz2, 2, none⟩ = some (.slice A1_2 l1_2.length c1_2) := bc_ BKz2 2; have hczz9 : wz2.cell? ⟨gbz2, 3, none⟩ = some (.slice A1_3 l1_3.length c1_3) := bc_ BKz2 3; have hczz10 : wz2.cell? ⟨gbz2, 4, none⟩ = some (.slice A1_4 l1_4.length c1_4) := bc_ BKz2 4; have hfzz6 := blk_frozen BKz2.out 0; have hfzz7 := blk_frozen BKz2.out 1; have hfzz8 := blk_frozen BKz2.out 2; have hfzz9 := blk_frozen BKz2.out 3; have hfzz10 := blk_frozen BKz2.out 4) | ((with_reducible refine gate_callee (f := 11) rfl ?_); refine ca_ 14 Tryd.func11 #[.agg #[.slice A0_1 l0_1.length c0_1, .slice A0_2 l0_2.length c0_2, .slice A0_3 l0_3.length c0_3], .agg #[.slice A1_1 l1_1.length c1_1, .slice A1_2 l1_2.length c1_2, .slice A1_3 l1_3.length c1_3]] ?_; (with_reducible refine (laws_eqNode.calls k _ _ l0_1 _ _ l0_2 _ _ l0_3 _ _ l1_1 _ _ l1_2 _ _ l1_3 true _ ?side1 ?side2 ?side3 ?side4 ?side5 ?side6 ?side7 ?side8 ?side9 ?side10 ?side11 ?side12 Az2.out).mono ?_); (case side1 => exact Kd.C_below HRz1.out be_); (case side2 => exact HCz1.out); (case side3 => exact Kd.C_below HRz2.out be_); (case side4 => exact HCz2.out); (case side5 => exact Kd.C_below HRz3.out be_); (case side6 => exact HCz3.out); (case side7 => exact Kd.C_below HRz5.out be_); (case side8 => exact HCz5.out); (case side9 => exact Kd.C_below HRz6.out be_); (case side10 => exact HCz6.out); (case side11 => exact Kd.C_below HRz7.out be_); (case side12 => exact HCz7.out); rintro e wz3 ⟨rfl, hb⟩; refine ⟨_, rfl, ?_⟩; have nz1 := Aside0.mk (blk_below (g := gbz1) (o := .cells #[.int .i64 a0_0, .slice A0_1 l0_1.length c0_1, .slice A0_2 l0_2.length c0_2, .slice A0_3 l0_3.length c0_3, .slice A0_4 l0_4.length c0_4] 47 (0, 0)) bk_ hb); have nz2 := Aside0.mk (blk_below (g := gbz2) (o := .cells #[.int .i64 a1_0, .slice A1_1 l1_1.length c1_1, .slice A1_2 l1_2.length c1_2, .slice A1_3 l1_3.length c1_3, .slice A1_4 l1_4.length c1_4] 47 (0, 0)) bk_ hb); have nz3 := bw_ hb; clear BKz1 BKz2 HB; have BKz1 := nz1; have BKz2 := nz2; have HB := nz3; clear nz1 nz2 nz3 hb; have hczz11 : wz3.cell? ⟨gbz1, 0, none⟩ = some (.int .i64 a0_0) := bc_ BKz1 0; have hczz12 : wz3.cell? ⟨gbz1, 1, none⟩ = some (.slice A0_1 l0_1.length c0_1) := bc_ BKz1 1; have hczz13 : wz3.cell? ⟨gbz1, 2, none⟩ = some (.slice A0_2 l0_2.length c0_2) := bc_ BKz1 2; have hczz14 : wz3.cell? ⟨gbz1, 3, none⟩ = some (.slice A0_3 l0_3.length c0_3) := bc_ BKz1 3; have hczz15 : wz3.cell? ⟨gbz1, 4, none⟩ = some (.slice A0_4 l0_4.length c0_4) := bc_ BKz1 4; have hfzz11 := blk_frozen BKz1.out 0; have hfzz12 := blk_frozen BKz1.out 1; have hfzz13 := blk_frozen BKz1.out 2; have hfzz14 := blk_frozen BKz1.out 3; have hfzz15 := blk_frozen BKz1.out 4; have hczz16 : wz3.cell? ⟨gbz2, 0, none⟩ = some (.int .i64 a1_0) := bc_ BKz2 0; have hczz17 : wz3.cell? ⟨gbz2, 1, none⟩ = some (.slice A1_1 l1_1.length c1_1) := bc_ BKz2 1; have hczz18 : wz3.cell? ⟨gbz2, 2, none⟩ = some (.slice A1_2 l1_2.length c1_2) := bc_ BKz2 2; have hczz19 : wz3.cell? ⟨gbz2, 3, none⟩ = some (.slice A1_3 l1_3.length c1_3) := bc_ BKz2 3; have hczz20 : wz3.cell? ⟨gbz2, 4, none⟩ = some (.slice A1_4 l1_4.length c1_4) := bc_ BKz2 4; have hfzz16 := blk_frozen BKz2.out 0; have hfzz17 := blk_frozen BKz2.out 1; have hfzz18 := blk_frozen BKz2.out 2; have hfzz19 := blk_frozen BKz2.out 3; have hfzz20 := blk_frozen BKz2.out 4) | ((with_reducible refine gate_callee (f := 46) rfl ?_); refine ca_ 20 Tryd.func46 #[.slice A0_4 l0_4.length c0_4, .slice A1_4 l1_4.length c1_4] ?_; (with_reducible refine (laws_eqKeptS.calls k _ _ l0_4 _ _ l1_4 false _ ?side1 ?side2 ?side3 ?side4 Az4.out).mono ?_); (case side1 => exact Kd.C_below HRz4.out be_); (case side2 => exact HCz4.out); (case side3 => exact Kd.C_below HRz8.out be_); (case side4 => exact HCz8.out); rintro e wz4 ⟨rfl, hb⟩; refine ⟨_, rfl, ?_⟩; have nz1 := Aside0.mk (blk_below (g := gbz1) (o := .cells #[.int .i64 a0_0, .slice A0_1 l0_1.length c0_1, .slice A0_2 l0_2.length c0_2, .slice A0_3 l0_3.length c0_3, .slice A0_4 l0_4.length c0_4] 47 (0, 0)) bk_ hb); have nz2 := Aside0.mk (blk_below (g := gbz2) (o := .cells #[.int .i64 a1_0, .slice A1_1 l1_1.length c1_1, .slice A1_2 l1_2.length c1_2, .slice A1_3 l1_3.length c1_3, .slice A1_4 l1_4.length c1_4] 47 (0, 0)) bk_ hb); have nz3 := bw_ hb; clear BKz1 BKz2 HB; have BKz1 := nz1; have BKz2 := nz2; have HB := nz3; clear nz1 nz2 nz3 hb))
 go_ret
 exact ⟨er_, be_⟩

end Go.Proofs.YtggokdobijhdhaaDoor.P
