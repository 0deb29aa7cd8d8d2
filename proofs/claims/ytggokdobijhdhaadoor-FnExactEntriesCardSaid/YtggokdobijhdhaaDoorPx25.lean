-- Printed by a program over the kit's print.py (mp.sh), several laws in one namespace.
import Derived.Test.YtggokdobijhdhaaDoorPx0
import Derived.Test.YtggokdobijhdhaaDoorS
import Derived.Test.YtggokdobijhdhaaDoorPx24
namespace Go.Proofs.YtggokdobijhdhaaDoor.P
open Go.RowKit Go.Proofs.YtggokdobijhdhaaDoor.X Go.Proofs.YtggokdobijhdhaaDoorW.PrintWords Go.Proofs.YtggokdobijhdhaaDoorW.PrintLast Go.Proofs.YtggokdobijhdhaaDoorW.PrintMore
attribute [local go_sem] max2_int min2_int max_two min_two max_three min_three max_four min_four   -- for this text's walks alone
set_option maxHeartbeats 8000000
set_option maxRecDepth 100000
set_option linter.unusedVariables false
set_option linter.unusedSimpArgs false

def laws_eqSubS.l0 : Nat → List (S86) → List (S86) → Int → Option (Bool)
 | 0, _, _, _ => none
 | k + 1, x0, x1, x5 => if x5 < (x0.length : Int) then (if 0 ≤ x5 then (if x5 < (x1.length : Int) then ((laws_eqSub.f ((rd_T86 x0 x5).f0) ((rd_T86 x0 x5).f1) ((rd_T86 x0 x5).f2) ((rd_T86 x1 x5).f0) ((rd_T86 x1 x5).f1) ((rd_T86 x1 x5).f2)).bind fun t409 => (if t409 = true then (laws_eqSubS.l0 k x0 x1 (wrap64 (x5 + 1))) else (some false))) else (none)) else (none)) else (some true)
def laws_eqSubS.f (k : Nat) (l0 : List (S86)) (l1 : List (S86)) : Option (Bool) := if (l0.length : Int) = (l1.length : Int) then (laws_eqSubS.l0 k l0 l1 0) else (some false)
def laws_eqSubS.T6 : Bool × List (List Nat × List Nat) := (true, [([], []), ([], []), ([0, 1], [0, 1]), ([2], [2]), ([], []), ([], []), ([4, 5], [4, 5]), ([6], [6]), ([3, 7], [3, 7]), ([8], [8])])
def laws_eqSubS.B6 : List Nat := [0, 0, 3, 7, 0, 0, 48, 112, 255, 511]
theorem laws_eqSubS.tab6 : rtab .any (opsOf Tryd.f35 6) = laws_eqSubS.T6 := by kernel_rfl
theorem laws_eqSubS.bits6 : waitsOk laws_eqSubS.T6.2 laws_eqSubS.B6 = true := by kernel_rfl
theorem laws_eqSubS.calls (k : Nat) (A0 : Option Addr) (c0 : Nat) (l0 : List (S86)) (A1 : Option Addr) (c1 : Nat) (l1 : List (S86)) (r : Bool) (w : World) (hr0 : Kd.C k86 w A0 l0.length l0) (hc0 : l0.length ≤ c0) (hr1 : Kd.C k86 w A1 l1.length l1) (hc1 : l1.length ≤ c1) (h : laws_eqSubS.f k l0 l1 = some r) :
  Calls Tryd.prog 35 #[.slice A0 l0.length c0, .slice A1 l1.length c1] w fun e w' => e = .returned (.bool r) ∧ Below w.heap.size w w' := by
 have huz1 := Tryd.underlying86
 have HRz1 := Aside0.mk hr0
 have HCz1 := Aside0.mk hc0
 clear hr0 hc0
 have HRz2 := Aside0.mk hr1
 have HCz2 := Aside0.mk hc1
 clear hr1 hc1
 have HB := Aside0.mk (Below.refl w.heap.size w)
 have H : (if (l0.length : Int) = (l1.length : Int) then (laws_eqSubS.l0 k l0 l1 0) else (some false)) = some r := h
 clear h
 by_cases cz1 : (l0.length : Int) = (l1.length : Int)
 rotate_left
 ·rw [if_neg cz1] at H
  have cz2 : ((l0.length : Int) == (l1.length : Int)) = false := beq_eq_false_iff_ne.mpr cz1
  have cz3 : ((l0.length : Int) != (l1.length : Int)) = true := bne_iff_ne.mpr cz1
  have cz4 : (l0.length == l1.length) = false := by first | simpa using cz1 | (simp at cz1 ⊢; omega)
  obtain rfl := Option.some.inj H
  go_enter Tryd.func35, Tryd.ntmps35
  go_wp2
  go_ret
  exact ⟨er_, be_⟩
 rw [if_pos cz1] at H
 have cz2 : ((l0.length : Int) == (l1.length : Int)) = true := beq_iff_eq.mpr cz1
 have cz3 : ((l0.length : Int) != (l1.length : Int)) = false := bne_eq_false_iff_eq.mpr cz1
 have cz4 : (l0.length == l1.length) = true := by first | simpa using cz1 | (simp at cz1 ⊢; omega)
 clear cz1
 have H' := Aside0.mk H
 clear H
 go_enter Tryd.func35, Tryd.ntmps35
 go_wp2
 go_loopg [5] k (fun kq v5 w' => ∃ (x5_1 : Int), v5 = .int .i64 x5_1 ∧ Aside0 (laws_eqSubS.l0 kq l0 l1 x5_1 = some r) ∧ Aside0 (kq ≤ k) ∧ Aside0 (Below w.heap.size w w'))
 case atStart => exact ⟨(0), rs_, H', ⟨Nat.le_refl _⟩, ⟨be_⟩⟩
 case round =>
  clear H'
  obtain ⟨xz1, rfl, HA, HKz1, HB⟩ := hrel
  cases gk with
  | zero => exact absurd HA.out (by simp [laws_eqSubS.l0])
  | succ kz1 =>
   have H := HA.out
   clear HA
   simp only [laws_eqSubS.l0] at H
   by_cases cz5 : xz1 < (l0.length : Int)
   rotate_left
   ·rw [if_neg cz5] at H
    have cz6 : decide (xz1 < (l0.length : Int)) = false := decide_eq_false cz5
    clear cz5
    obtain rfl := Option.some.inj H
    go_wp2
    go_ret
    exact ⟨er_, be_⟩
   rw [if_pos cz5] at H
   have cz6 : decide (xz1 < (l0.length : Int)) = true := decide_eq_true cz5
   clear cz5
   by_cases cz7 : 0 ≤ xz1
   rotate_left
   ·rw [if_neg cz7] at H
    exact absurd H (by simp)
   rw [if_pos cz7] at H
   have cz8 : decide (0 ≤ xz1) = true := decide_eq_true cz7
   clear cz7
   by_cases cz9 : xz1 < (l1.length : Int)
   rotate_left
   ·rw [if_neg cz9] at H
    exact absurd H (by simp)
   rw [if_pos cz9] at H
   have cz10 : decide (xz1 < (l1.length : Int)) = true := decide_eq_true cz9
   clear cz9
   replace H := bo_ H
   obtain ⟨tz1, Az2, H⟩ := H
   (try dsimp only at H)
   by_cases cz11 : tz1 = true
   rotate_left
   ·replace cz11 := Bool.eq_false_iff.mpr cz11
    subst cz11
    replace H := bf_ H
    obtain rfl := Option.some.inj H
    try go_wp2
    replace HB := Aside0.mk (below_drew1 HB.out)
    obtain ⟨pz1, qz1, adz1, ez1, hxz1, hxz2, hxz3⟩ := aa_ (at_T86 HRz1.out xz1)
    have hwz1 := hxz3
    have hwz2 := hxz2
    have hwz3 := hxz1
    cases ez1
    replace hxz1 := cl_ HB hxz1
    replace hxz2 := cl_ HB hxz2
    replace hxz3 := cl_ HB hxz3
    obtain ⟨pz2, qz2, adz2, ez2, hxz4, hxz5, hxz6⟩ := aa_ (at_T86 HRz2.out xz1)
    have hwz4 := hxz6
    have hwz5 := hxz5
    have hwz6 := hxz4
    cases ez2
    replace hxz4 := cl_ HB hxz4
    replace hxz5 := cl_ HB hxz5
    replace hxz6 := cl_ HB hxz6
    refine start_ (n := 10) (S := fun w' => w'.cell? (adz1.add ((xz1).toNat * 3)) = some (.string ((rd_T86 l0 xz1).f0)) ∧ w'.cell? ⟨(adz1.add ((xz1).toNat * 3)).block, (adz1.add ((xz1).toNat * 3)).off + 1, none⟩ = some (.int .i64 ((rd_T86 l0 xz1).f1)) ∧ w'.cell? ⟨(adz1.add ((xz1).toNat * 3)).block, (adz1.add ((xz1).toNat * 3)).off + 2, none⟩ = some (.int .i64 ((rd_T86 l0 xz1).f2)) ∧ w'.cell? (adz2.add ((xz1).toNat * 3)) = some (.string ((rd_T86 l1 xz1).f0)) ∧ w'.cell? ⟨(adz2.add ((xz1).toNat * 3)).block, (adz2.add ((xz1).toNat * 3)).off + 1, none⟩ = some (.int .i64 ((rd_T86 l1 xz1).f1)) ∧ w'.cell? ⟨(adz2.add ((xz1).toNat * 3)).block, (adz2.add ((xz1).toNat * 3)).off + 2, none⟩ = some (.int .i64 ((rd_T86 l1 xz1).f2))) (ds := []) (bs_ 10 0) (by kernel_rfl) rfl (by kernel_rfl) ⟨(cl_ HB hwz3), (cl_ HB hwz2), (cl_ HB hwz1), (cl_ HB hwz6), (cl_ HB hwz5), (cl_ HB hwz4)⟩ (fun hHeld => ?_); refine with_tabW laws_eqSubS.tab6 laws_eqSubS.bits6 (fun HT_ HW_ => ?_)
    generalize wr.drew = wz1 at HB hxz1 hxz2 hxz3 hxz4 hxz5 hxz6 hHeld ⊢
    refine pv_ HT_ 0 ?_
    refine pv_ HT_ 1 ?_
    refine pv_ HT_ 2 ?_
    refine pv_ HT_ 4 ?_
    refine pv_ HT_ 5 ?_
    refine pv_ HT_ 6 ?_
    refine tv_ HT_ HW_ hHeld 3 ?_
    refine tv_ HT_ HW_ hHeld 7 ?_
    refine ov_ HT_ 8 (fun K hK => ?_)
    refine goes_ Tryd.func57 (by kernel_rfl) rfl #[.agg #[.string ((rd_T86 l0 xz1).f0), .int .i64 ((rd_T86 l0 xz1).f1), .int .i64 ((rd_T86 l0 xz1).f2)], .agg #[.string ((rd_T86 l1 xz1).f0), .int .i64 ((rd_T86 l1 xz1).f1), .int .i64 ((rd_T86 l1 xz1).f2)]] (by rfl) rfl rfl ar_ ?_
    with_reducible refine (laws_eqSub.calls ((rd_T86 l0 xz1).f0) ((rd_T86 l0 xz1).f1) ((rd_T86 l0 xz1).f2) ((rd_T86 l1 xz1).f0) ((rd_T86 l1 xz1).f1) ((rd_T86 l1 xz1).f2) false _ Az2.out).mono ?_
    rintro e wz2 ⟨rfl, hb⟩
    refine ⟨_, rfl, ?_⟩
    replace HB := bw_ hb
    clear hb
    refine hK.out _ _ ⟨(cl_ HB hwz3), (cl_ HB hwz2), (cl_ HB hwz1), (cl_ HB hwz6), (cl_ HB hwz5), (cl_ HB hwz4)⟩ (fun hHeld => ?_)
    clear hK K
    refine nm_ 25 ?_
    refine pv_ HT_ 9 ?_
    refine done_ (done_of HT_.out (by kernel_rfl)) ?_
    try go_wp2
    go_ret
    exact ⟨er_, be_⟩
   subst cz11
   replace H := bt_ H
   have H' := Aside0.mk H
   clear H
   try go_wp2
   replace HB := Aside0.mk (below_drew1 HB.out)
   obtain ⟨pz1, qz1, adz1, ez1, hxz1, hxz2, hxz3⟩ := aa_ (at_T86 HRz1.out xz1)
   have hwz1 := hxz3
   have hwz2 := hxz2
   have hwz3 := hxz1
   cases ez1
   replace hxz1 := cl_ HB hxz1
   replace hxz2 := cl_ HB hxz2
   replace hxz3 := cl_ HB hxz3
   obtain ⟨pz2, qz2, adz2, ez2, hxz4, hxz5, hxz6⟩ := aa_ (at_T86 HRz2.out xz1)
   have hwz4 := hxz6
   have hwz5 := hxz5
   have hwz6 := hxz4
   cases ez2
   replace hxz4 := cl_ HB hxz4
   replace hxz5 := cl_ HB hxz5
   replace hxz6 := cl_ HB hxz6
   refine start_ (n := 10) (S := fun w' => w'.cell? (adz1.add ((xz1).toNat * 3)) = some (.string ((rd_T86 l0 xz1).f0)) ∧ w'.cell? ⟨(adz1.add ((xz1).toNat * 3)).block, (adz1.add ((xz1).toNat * 3)).off + 1, none⟩ = some (.int .i64 ((rd_T86 l0 xz1).f1)) ∧ w'.cell? ⟨(adz1.add ((xz1).toNat * 3)).block, (adz1.add ((xz1).toNat * 3)).off + 2, none⟩ = some (.int .i64 ((rd_T86 l0 xz1).f2)) ∧ w'.cell? (adz2.add ((xz1).toNat * 3)) = some (.string ((rd_T86 l1 xz1).f0)) ∧ w'.cell? ⟨(adz2.add ((xz1).toNat * 3)).block, (adz2.add ((xz1).toNat * 3)).off + 1, none⟩ = some (.int .i64 ((rd_T86 l1 xz1).f1)) ∧ w'.cell? ⟨(adz2.add ((xz1).toNat * 3)).block, (adz2.add ((xz1).toNat * 3)).off + 2, none⟩ = some (.int .i64 ((rd_T86 l1 xz1).f2))) (ds := []) (bs_ 10 0) (by kernel_rfl) rfl (by kernel_rfl) ⟨(cl_ HB hwz3), (cl_ HB hwz2), (cl_ HB hwz1), (cl_ HB hwz6), (cl_ HB hwz5), (cl_ HB hwz4)⟩ (fun hHeld => ?_); refine with_tabW laws_eqSubS.tab6 laws_eqSubS.bits6 (fun HT_ HW_ => ?_)
   generalize wr.drew = wz1 at HB hxz1 hxz2 hxz3 hxz4 hxz5 hxz6 hHeld ⊢
   refine pv_ HT_ 0 ?_
   refine pv_ HT_ 1 ?_
   refine pv_ HT_ 2 ?_
   refine pv_ HT_ 4 ?_
   refine pv_ HT_ 5 ?_
   refine pv_ HT_ 6 ?_
   refine tv_ HT_ HW_ hHeld 3 ?_
   refine tv_ HT_ HW_ hHeld 7 ?_
   refine ov_ HT_ 8 (fun K hK => ?_)
   refine goes_ Tryd.func57 (by kernel_rfl) rfl #[.agg #[.string ((rd_T86 l0 xz1).f0), .int .i64 ((rd_T86 l0 xz1).f1), .int .i64 ((rd_T86 l0 xz1).f2)], .agg #[.string ((rd_T86 l1 xz1).f0), .int .i64 ((rd_T86 l1 xz1).f1), .int .i64 ((rd_T86 l1 xz1).f2)]] (by rfl) rfl rfl ar_ ?_
   with_reducible refine (laws_eqSub.calls ((rd_T86 l0 xz1).f0) ((rd_T86 l0 xz1).f1) ((rd_T86 l0 xz1).f2) ((rd_T86 l1 xz1).f0) ((rd_T86 l1 xz1).f1) ((rd_T86 l1 xz1).f2) true _ Az2.out).mono ?_
   rintro e wz2 ⟨rfl, hb⟩
   refine ⟨_, rfl, ?_⟩
   replace HB := bw_ hb
   clear hb
   refine hK.out _ _ ⟨(cl_ HB hwz3), (cl_ HB hwz2), (cl_ HB hwz1), (cl_ HB hwz6), (cl_ HB hwz5), (cl_ HB hwz4)⟩ (fun hHeld => ?_)
   clear hK K
   refine nm_ 25 ?_
   refine pv_ HT_ 9 ?_
   refine done_ (done_of HT_.out (by kernel_rfl)) ?_
   try go_wp2
   go_roundg kz1
   case measure => have := HKz1.out; omega
   case rel => exact ⟨(wrap64 (xz1 + 1)), rs_, H', ⟨by have := HKz1.out; omega⟩, ⟨be_⟩⟩

end Go.Proofs.YtggokdobijhdhaaDoor.P
