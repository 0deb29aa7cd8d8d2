-- Printed by a program over the kit's print.py (mp.sh), several laws in one namespace.
import Derived.Test.YtggokdobijhdhaaDoorPx0
import Derived.Test.YtggokdobijhdhaaDoorS
namespace Go.Proofs.YtggokdobijhdhaaDoor.P
open Go.RowKit Go.Proofs.YtggokdobijhdhaaDoor.X Go.Proofs.YtggokdobijhdhaaDoorW.PrintWords Go.Proofs.YtggokdobijhdhaaDoorW.PrintLast Go.Proofs.YtggokdobijhdhaaDoorW.PrintMore
attribute [local go_sem] max2_int min2_int max_two min_two max_three min_three max_four min_four   -- for this text's walks alone
set_option maxHeartbeats 8000000
set_option maxRecDepth 100000
set_option linter.unusedVariables false
set_option linter.unusedSimpArgs false

def laws_szStringS.l0 : Nat → List ByteArray → Int → Int → Option (Int)
 | 0, _, _, _ => none
 | k + 1, x0, x1, x5 => if x5 < (x0.length : Int) then (if 0 ≤ x5 then (if (wrap64 (x1 - ((rdOf ByteArray.empty x0 x5).size : Int))) < 0 then (some (-1)) else (laws_szStringS.l0 k x0 (wrap64 (x1 - ((rdOf ByteArray.empty x0 x5).size : Int))) (wrap64 (x5 + 1)))) else (none)) else (some x1)
def laws_szStringS.f (k : Nat) (l0 : List ByteArray) (a1 : Int) : Option (Int) := if (wrap64 (a1 - (l0.length : Int))) < 0 then (some (-1)) else (laws_szStringS.l0 k l0 (wrap64 (a1 - (l0.length : Int))) 0)
theorem laws_szStringS.calls (k : Nat) (A0 : Option Addr) (c0 : Nat) (l0 : List ByteArray) (a1 : Int) (r : Int) (w : World) (hr0 : Kd.C Kd.string w A0 l0.length l0) (hc0 : l0.length ≤ c0) (h : laws_szStringS.f k l0 a1 = some r) :
  Calls Tryd.prog 22 #[.slice A0 l0.length c0, .int .i64 a1] w fun e w' => e = .returned (.int .i64 r) ∧ Drawn0 w w' := by
 have HRz1 := Aside0.mk hr0
 have HCz1 := Aside0.mk hc0
 clear hr0 hc0
 have H : (if (wrap64 (a1 - (l0.length : Int))) < 0 then (some (-1)) else (laws_szStringS.l0 k l0 (wrap64 (a1 - (l0.length : Int))) 0)) = some r := h
 clear h
 by_cases cz1 : (wrap64 (a1 - (l0.length : Int))) < 0
 ·rw [if_pos cz1] at H
  have cz2 : decide ((wrap64 (a1 - (l0.length : Int))) < 0) = true := decide_eq_true cz1
  clear cz1
  obtain rfl := Option.some.inj H
  go_enter Tryd.func22, Tryd.ntmps22
  go_wp2
  go_ret
  exact ⟨rs_, dr_⟩
 rw [if_neg cz1] at H
 have cz2 : decide ((wrap64 (a1 - (l0.length : Int))) < 0) = false := decide_eq_false cz1
 clear cz1
 have H' := Aside0.mk H
 clear H
 go_enter Tryd.func22, Tryd.ntmps22
 go_wp2
 go_loopg [1, 5] k (fun kq v1 v5 w' => ∃ (x1_1 : Int) (x5_1 : Int), v1 = .int .i64 x1_1 ∧ v5 = .int .i64 x5_1 ∧ Aside0 (laws_szStringS.l0 kq l0 x1_1 x5_1 = some r) ∧ Aside0 (kq ≤ k) ∧ Drawn0 w w')
 case atStart => exact ⟨(wrap64 (a1 - (l0.length : Int))), (0), rs_, rs_, H', ⟨Nat.le_refl _⟩, dr_⟩
 case round =>
  clear H'
  obtain ⟨xz1, xz2, rfl, rfl, HA, HKz1, ⟨mz1, rfl⟩⟩ := hrel
  cases gk with
  | zero => exact absurd HA.out (by simp [laws_szStringS.l0])
  | succ kz1 =>
   have H := HA.out
   clear HA
   simp only [laws_szStringS.l0] at H
   by_cases cz3 : xz2 < (l0.length : Int)
   rotate_left
   ·rw [if_neg cz3] at H
    have cz4 : decide (xz2 < (l0.length : Int)) = false := decide_eq_false cz3
    clear cz3
    obtain rfl := Option.some.inj H
    go_wp2
    go_ret
    exact ⟨rs_, dr_⟩
   rw [if_pos cz3] at H
   have cz4 : decide (xz2 < (l0.length : Int)) = true := decide_eq_true cz3
   clear cz3
   by_cases cz5 : 0 ≤ xz2
   rotate_left
   ·rw [if_neg cz5] at H
    exact absurd H (by simp)
   rw [if_pos cz5] at H
   have cz6 : decide (0 ≤ xz2) = true := decide_eq_true cz5
   clear cz5
   by_cases cz7 : (wrap64 (xz1 - ((rdOf ByteArray.empty l0 xz2).size : Int))) < 0
   ·rw [if_pos cz7] at H
    have cz8 : decide ((wrap64 (xz1 - ((rdOf ByteArray.empty l0 xz2).size : Int))) < 0) = true := decide_eq_true cz7
    clear cz7
    obtain rfl := Option.some.inj H
    have pz1 : 0 ≤ (xz2 : Int) := dt_
    have qz1 : xz2 < (l0.length : Int) := dt_
    obtain ⟨adz1, ez1, hxz1⟩ := Kd.at_string HRz1.out xz2 pz1 qz1
    cases ez1
    replace pz1 := eq_true pz1
    replace qz1 := eq_true qz1
    go_wp2
    go_ret
    exact ⟨rs_, dr_⟩
   rw [if_neg cz7] at H
   have cz8 : decide ((wrap64 (xz1 - ((rdOf ByteArray.empty l0 xz2).size : Int))) < 0) = false := decide_eq_false cz7
   clear cz7
   have H' := Aside0.mk H
   clear H
   have pz1 : 0 ≤ (xz2 : Int) := dt_
   have qz1 : xz2 < (l0.length : Int) := dt_
   obtain ⟨adz1, ez1, hxz1⟩ := Kd.at_string HRz1.out xz2 pz1 qz1
   cases ez1
   replace pz1 := eq_true pz1
   replace qz1 := eq_true qz1
   go_wp2
   go_roundg kz1
   case measure => have := HKz1.out; omega
   case rel => exact ⟨(wrap64 (xz1 - ((rdOf ByteArray.empty l0 xz2).size : Int))), (wrap64 (xz2 + 1)), rs_, rs_, H', ⟨by have := HKz1.out; omega⟩, dr_⟩

def laws_szSub.f (a0_0 : ByteArray) (a0_1 : Int) (a0_2 : Int) (a1 : Int) : Option (Int) := if (wrap64 (a1 - (a0_0.size : Int))) < 0 then (some (-1)) else (some (wrap64 (a1 - (a0_0.size : Int))))
theorem laws_szSub_z2 {p : Prop} (h : p := by
 go_enter Tryd.func51, Tryd.ntmps51
 go_wp2_with (first | ((with_reducible refine gate_dst (N := 2) rfl ?_); refine box_event ?hg (N := 2) ?hd (cs := #[.string a0_0, .int .i64 a0_1, .int .i64 a0_2]) (t := 83) ?hr ?_; (case hd => rfl); (case hg => rfl); (case hr => first | (go_simp; done) | (go_simp; rfl)); intro gbz1 hg wz1 hbox hb; have BKz1 := Aside0.mk (hbox); have GWz1 := Aside0.mk ((sz_ : w.heap.size ≤ gbz1)); have GEz1 := Aside0.mk ((sz_ : w.heap.size ≤ gbz1)); replace HB := bw_ hb; clear hb hbox hg; have hczz1 : wz1.cell? ⟨gbz1, 0, none⟩ = some (.string a0_0) := bc_ BKz1 0; have hczz2 : wz1.cell? ⟨gbz1, 1, none⟩ = some (.int .i64 a0_1) := bc_ BKz1 1; have hczz3 : wz1.cell? ⟨gbz1, 2, none⟩ = some (.int .i64 a0_2) := bc_ BKz1 2; have hfzz1 := blk_frozen BKz1.out 0; have hfzz2 := blk_frozen BKz1.out 1; have hfzz3 := blk_frozen BKz1.out 2))
 go_ret
 exact ⟨er_, be_⟩) : p := h
theorem laws_szSub_z1 {p : Prop} (h : p := by
 obtain rfl := Option.some.inj H
 exact laws_szSub_z2) : p := h
theorem laws_szSub_z0 {p : Prop} (h : p := by
 clear cz1
 exact laws_szSub_z1) : p := h
theorem laws_szSub.calls (a0_0 : ByteArray) (a0_1 : Int) (a0_2 : Int) (a1 : Int) (r : Int) (w : World) (h : laws_szSub.f a0_0 a0_1 a0_2 a1 = some r) :
  Calls Tryd.prog 51 #[.agg #[.string a0_0, .int .i64 a0_1, .int .i64 a0_2], .int .i64 a1] w fun e w' => e = .returned (.int .i64 r) ∧ Below w.heap.size w w' := by
 have huz1 := Tryd.underlying83
 have HB := Aside0.mk (Below.refl w.heap.size w)
 have H : (if (wrap64 (a1 - (a0_0.size : Int))) < 0 then (some (-1)) else (some (wrap64 (a1 - (a0_0.size : Int))))) = some r := h
 clear h
 by_cases cz1 : (wrap64 (a1 - (a0_0.size : Int))) < 0
 ·rw [if_pos cz1] at H
  have cz2 : decide ((wrap64 (a1 - (a0_0.size : Int))) < 0) = true := decide_eq_true cz1
  exact laws_szSub_z0
 rw [if_neg cz1] at H
 have cz2 : decide ((wrap64 (a1 - (a0_0.size : Int))) < 0) = false := decide_eq_false cz1
 exact laws_szSub_z0

def laws_szSubS.l0 : Nat → List (S83) → Int → Int → Option (Int)
 | 0, _, _, _ => none
 | k + 1, x0, x1, x5 => if x5 < (x0.length : Int) then (if 0 ≤ x5 then ((laws_szSub.f ((rd_T83 x0 x5).f0) ((rd_T83 x0 x5).f1) ((rd_T83 x0 x5).f2) x1).bind fun t104 => (if t104 < 0 then (some (-1)) else (laws_szSubS.l0 k x0 t104 (wrap64 (x5 + 1))))) else (none)) else (some x1)
def laws_szSubS.f (k : Nat) (l0 : List (S83)) (a1 : Int) : Option (Int) := if (wrap64 (a1 - (l0.length : Int))) < 0 then (some (-1)) else (laws_szSubS.l0 k l0 (wrap64 (a1 - (l0.length : Int))) 0)
theorem laws_szSubS.calls (k : Nat) (A0 : Option Addr) (c0 : Nat) (l0 : List (S83)) (a1 : Int) (r : Int) (w : World) (hr0 : Kd.C k83 w A0 l0.length l0) (hc0 : l0.length ≤ c0) (h : laws_szSubS.f k l0 a1 = some r) :
  Calls Tryd.prog 24 #[.slice A0 l0.length c0, .int .i64 a1] w fun e w' => e = .returned (.int .i64 r) ∧ Below w.heap.size w w' := by
 have huz1 := Tryd.underlying83
 have HRz1 := Aside0.mk hr0
 have HCz1 := Aside0.mk hc0
 clear hr0 hc0
 have HB := Aside0.mk (Below.refl w.heap.size w)
 have H : (if (wrap64 (a1 - (l0.length : Int))) < 0 then (some (-1)) else (laws_szSubS.l0 k l0 (wrap64 (a1 - (l0.length : Int))) 0)) = some r := h
 clear h
 by_cases cz1 : (wrap64 (a1 - (l0.length : Int))) < 0
 ·rw [if_pos cz1] at H
  have cz2 : decide ((wrap64 (a1 - (l0.length : Int))) < 0) = true := decide_eq_true cz1
  clear cz1
  obtain rfl := Option.some.inj H
  go_enter Tryd.func24, Tryd.ntmps24
  go_wp2
  go_ret
  exact ⟨er_, be_⟩
 rw [if_neg cz1] at H
 have cz2 : decide ((wrap64 (a1 - (l0.length : Int))) < 0) = false := decide_eq_false cz1
 clear cz1
 have H' := Aside0.mk H
 clear H
 go_enter Tryd.func24, Tryd.ntmps24
 go_wp2
 go_loopg [1, 5] k (fun kq v1 v5 w' => ∃ (x1_1 : Int) (x5_1 : Int), v1 = .int .i64 x1_1 ∧ v5 = .int .i64 x5_1 ∧ Aside0 (laws_szSubS.l0 kq l0 x1_1 x5_1 = some r) ∧ Aside0 (kq ≤ k) ∧ Aside0 (Below w.heap.size w w'))
 case atStart => exact ⟨(wrap64 (a1 - (l0.length : Int))), (0), rs_, rs_, H', ⟨Nat.le_refl _⟩, ⟨be_⟩⟩
 case round =>
  clear H'
  obtain ⟨xz1, xz2, rfl, rfl, HA, HKz1, HB⟩ := hrel
  cases gk with
  | zero => exact absurd HA.out (by simp [laws_szSubS.l0])
  | succ kz1 =>
   have H := HA.out
   clear HA
   simp only [laws_szSubS.l0] at H
   by_cases cz3 : xz2 < (l0.length : Int)
   rotate_left
   ·rw [if_neg cz3] at H
    have cz4 : decide (xz2 < (l0.length : Int)) = false := decide_eq_false cz3
    clear cz3
    obtain rfl := Option.some.inj H
    go_wp2
    go_ret
    exact ⟨er_, be_⟩
   rw [if_pos cz3] at H
   have cz4 : decide (xz2 < (l0.length : Int)) = true := decide_eq_true cz3
   clear cz3
   by_cases cz5 : 0 ≤ xz2
   rotate_left
   ·rw [if_neg cz5] at H
    exact absurd H (by simp)
   rw [if_pos cz5] at H
   have cz6 : decide (0 ≤ xz2) = true := decide_eq_true cz5
   clear cz5
   replace H := bo_ H
   obtain ⟨tz1, Az2, H⟩ := H
   (try dsimp only at H)
   by_cases cz7 : tz1 < 0
   ·rw [if_pos cz7] at H
    have cz8 : decide (tz1 < 0) = true := decide_eq_true cz7
    clear cz7
    obtain rfl := Option.some.inj H
    obtain ⟨pz1, qz1, adz1, ez1, hxz1, hxz2, hxz3⟩ := aa_ (at_T83 HRz1.out xz2)
    cases ez1
    replace hxz1 := cl_ HB hxz1
    replace hxz2 := cl_ HB hxz2
    replace hxz3 := cl_ HB hxz3
    go_wp2_with (first | ((with_reducible refine gate_callee (f := 51) rfl ?_); refine ca_ 23 Tryd.func51 #[.agg #[.string ((rd_T83 l0 xz2).f0), .int .i64 ((rd_T83 l0 xz2).f1), .int .i64 ((rd_T83 l0 xz2).f2)], .int .i64 xz1] ?_; (with_reducible refine (laws_szSub.calls ((rd_T83 l0 xz2).f0) ((rd_T83 l0 xz2).f1) ((rd_T83 l0 xz2).f2) xz1 tz1 _ Az2.out).mono ?_); rintro e wz1 ⟨rfl, hb⟩; refine ⟨_, rfl, ?_⟩; replace HB := bw_ hb; clear hb))
    go_ret
    exact ⟨er_, be_⟩
   rw [if_neg cz7] at H
   have cz8 : decide (tz1 < 0) = false := decide_eq_false cz7
   clear cz7
   have H' := Aside0.mk H
   clear H
   obtain ⟨pz1, qz1, adz1, ez1, hxz1, hxz2, hxz3⟩ := aa_ (at_T83 HRz1.out xz2)
   cases ez1
   replace hxz1 := cl_ HB hxz1
   replace hxz2 := cl_ HB hxz2
   replace hxz3 := cl_ HB hxz3
   go_wp2_with (first | ((with_reducible refine gate_callee (f := 51) rfl ?_); refine ca_ 23 Tryd.func51 #[.agg #[.string ((rd_T83 l0 xz2).f0), .int .i64 ((rd_T83 l0 xz2).f1), .int .i64 ((rd_T83 l0 xz2).f2)], .int .i64 xz1] ?_; (with_reducible refine (laws_szSub.calls ((rd_T83 l0 xz2).f0) ((rd_T83 l0 xz2).f1) ((rd_T83 l0 xz2).f2) xz1 tz1 _ Az2.out).mono ?_); rintro e wz1 ⟨rfl, hb⟩; refine ⟨_, rfl, ?_⟩; replace HB := bw_ hb; clear hb))
   go_roundg kz1
   case measure => have := HKz1.out; omega
   case rel => exact ⟨(tz1), (wrap64 (xz2 + 1)), rs_, rs_, H', ⟨by have := HKz1.out; omega⟩, ⟨be_⟩⟩

end Go.Proofs.YtggokdobijhdhaaDoor.P
