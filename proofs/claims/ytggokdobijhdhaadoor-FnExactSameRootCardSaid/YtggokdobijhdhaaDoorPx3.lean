-- Printed by a program over the kit's print.py (mp.sh), several laws in one namespace.
import Derived.Test.YtggokdobijhdhaaDoorPx0
import Derived.Test.YtggokdobijhdhaaDoorS
import Derived.Test.YtggokdobijhdhaaDoorM1
namespace Go.Proofs.YtggokdobijhdhaaDoor.P
open Go.RowKit Go.Proofs.YtggokdobijhdhaaDoor.X Go.Proofs.YtggokdobijhdhaaDoorW.PrintWords Go.Proofs.YtggokdobijhdhaaDoorW.PrintLast Go.Proofs.YtggokdobijhdhaaDoorW.PrintMore
attribute [local go_sem] max2_int min2_int max_two min_two max_three min_three max_four min_four   -- for this text's walks alone
set_option maxHeartbeats 8000000
set_option maxRecDepth 100000
set_option linter.unusedVariables false
set_option linter.unusedSimpArgs false

def laws_szByteS.f (l0 : List Int) (a1 : Int) : Option (Int) := if (wrap64 (a1 - (l0.length : Int))) < 0 then (some (-1)) else (some (wrap64 (a1 - (l0.length : Int))))
theorem laws_szByteS.calls (A0 : Option Addr) (c0 : Nat) (l0 : List Int) (a1 : Int) (r : Int) (w : World) (hr0 : Kd.C (Kd.int .u8) w A0 l0.length l0) (hc0 : l0.length ≤ c0) (h : laws_szByteS.f l0 a1 = some r) :
  Calls Tryd.prog 73 #[.slice A0 l0.length c0, .int .i64 a1] w fun e w' => e = .returned (.int .i64 r) ∧ Drawn0 w w' := by
 have HRz1 := Aside0.mk hr0
 have HCz1 := Aside0.mk hc0
 clear hr0 hc0
 have H : (if (wrap64 (a1 - (l0.length : Int))) < 0 then (some (-1)) else (some (wrap64 (a1 - (l0.length : Int))))) = some r := h
 clear h
 by_cases cz1 : (wrap64 (a1 - (l0.length : Int))) < 0
 ·rw [if_pos cz1] at H
  have cz2 : decide ((wrap64 (a1 - (l0.length : Int))) < 0) = true := decide_eq_true cz1
  clear cz1
  obtain rfl := Option.some.inj H
  go_enter Tryd.func73, Tryd.ntmps73
  go_wp2
  go_ret
  exact ⟨rs_, dr_⟩
 rw [if_neg cz1] at H
 have cz2 : decide ((wrap64 (a1 - (l0.length : Int))) < 0) = false := decide_eq_false cz1
 clear cz1
 obtain rfl := Option.some.inj H
 go_enter Tryd.func73, Tryd.ntmps73
 go_wp2
 go_ret
 exact ⟨rs_, dr_⟩

def laws_szKept.f (a0_0 : ByteArray) (l0_1 : List Int) (a0_2 : Int) (a1 : Int) : Option (Int) := if (wrap64 (a1 - (a0_0.size : Int))) < 0 then (some (-1)) else ((laws_szByteS.f l0_1 (wrap64 (a1 - (a0_0.size : Int)))).bind fun t106 => (if t106 < 0 then (some (-1)) else (some t106)))
theorem laws_szKept_z2 {p : Prop} (h : p := by
 go_enter Tryd.func58, Tryd.ntmps58
 go_wp2_with (first | ((with_reducible refine gate_dst (N := 2) rfl ?_); refine box_event ?hg (N := 2) ?hd (cs := #[.string a0_0, .slice A0_1 l0_1.length c0_1, .int .i64 a0_2]) (t := 92) ?hr ?_; (case hd => rfl); (case hg => rfl); (case hr => first | (go_simp; done) | (go_simp; rfl)); intro gbz1 hg wz1 hbox hb; have BKz1 := Aside0.mk (hbox); have GWz1 := Aside0.mk ((sz_ : w.heap.size ≤ gbz1)); have GEz1 := Aside0.mk ((sz_ : w.heap.size ≤ gbz1)); replace HB := bw_ hb; clear hb hbox hg; have hczz1 : wz1.cell? ⟨gbz1, 0, none⟩ = some (.string a0_0) := bc_ BKz1 0; have hczz2 : wz1.cell? ⟨gbz1, 1, none⟩ = some (.slice A0_1 l0_1.length c0_1) := bc_ BKz1 1; have hczz3 : wz1.cell? ⟨gbz1, 2, none⟩ = some (.int .i64 a0_2) := bc_ BKz1 2; have hfzz1 := blk_frozen BKz1.out 0; have hfzz2 := blk_frozen BKz1.out 1; have hfzz3 := blk_frozen BKz1.out 2) | ((with_reducible refine gate_callee (f := 73) rfl ?_); refine ca_ 15 Tryd.func73 #[.slice A0_1 l0_1.length c0_1, .int .i64 (wrap64 (a1 - (a0_0.size : Int)))] ?_; (with_reducible refine (laws_szByteS.calls _ _ l0_1 (wrap64 (a1 - (a0_0.size : Int))) tz1 _ ?side1 ?side2 Az2.out).mono ?_); (case side1 => exact Kd.C_below HRz1.out be_); (case side2 => exact HCz1.out); rintro e w' ⟨rfl, ⟨nd, rfl⟩⟩; refine ⟨_, rfl, ?_⟩))
 go_ret
 exact ⟨er_, be_⟩) : p := h
theorem laws_szKept_z1 {p : Prop} (h : p := by
 obtain rfl := Option.some.inj H
 exact laws_szKept_z2) : p := h
theorem laws_szKept_z0 {p : Prop} (h : p := by
 clear cz3
 exact laws_szKept_z1) : p := h
theorem laws_szKept.calls (a0_0 : ByteArray) (A0_1 : Option Addr) (c0_1 : Nat) (l0_1 : List Int) (a0_2 : Int) (a1 : Int) (r : Int) (w : World) (hr0_1 : Kd.C (Kd.int .u8) w A0_1 l0_1.length l0_1) (hc0_1 : l0_1.length ≤ c0_1) (h : laws_szKept.f a0_0 l0_1 a0_2 a1 = some r) :
  Calls Tryd.prog 58 #[.agg #[.string a0_0, .slice A0_1 l0_1.length c0_1, .int .i64 a0_2], .int .i64 a1] w fun e w' => e = .returned (.int .i64 r) ∧ Below w.heap.size w w' := by
 have huz1 := Tryd.underlying92
 have HRz1 := Aside0.mk hr0_1
 have HCz1 := Aside0.mk hc0_1
 clear hr0_1 hc0_1
 have HB := Aside0.mk (Below.refl w.heap.size w)
 have H : (if (wrap64 (a1 - (a0_0.size : Int))) < 0 then (some (-1)) else ((laws_szByteS.f l0_1 (wrap64 (a1 - (a0_0.size : Int)))).bind fun t106 => (if t106 < 0 then (some (-1)) else (some t106)))) = some r := h
 clear h
 by_cases cz1 : (wrap64 (a1 - (a0_0.size : Int))) < 0
 ·rw [if_pos cz1] at H
  have cz2 : decide ((wrap64 (a1 - (a0_0.size : Int))) < 0) = true := decide_eq_true cz1
  clear cz1
  obtain rfl := Option.some.inj H
  go_enter Tryd.func58, Tryd.ntmps58
  go_wp2_with (first | ((with_reducible refine gate_dst (N := 2) rfl ?_); refine box_event ?hg (N := 2) ?hd (cs := #[.string a0_0, .slice A0_1 l0_1.length c0_1, .int .i64 a0_2]) (t := 92) ?hr ?_; (case hd => rfl); (case hg => rfl); (case hr => first | (go_simp; done) | (go_simp; rfl)); intro gbz1 hg wz1 hbox hb; have BKz1 := Aside0.mk (hbox); have GWz1 := Aside0.mk ((sz_ : w.heap.size ≤ gbz1)); have GEz1 := Aside0.mk ((sz_ : w.heap.size ≤ gbz1)); replace HB := bw_ hb; clear hb hbox hg; have hczz1 : wz1.cell? ⟨gbz1, 0, none⟩ = some (.string a0_0) := bc_ BKz1 0; have hczz2 : wz1.cell? ⟨gbz1, 1, none⟩ = some (.slice A0_1 l0_1.length c0_1) := bc_ BKz1 1; have hczz3 : wz1.cell? ⟨gbz1, 2, none⟩ = some (.int .i64 a0_2) := bc_ BKz1 2; have hfzz1 := blk_frozen BKz1.out 0; have hfzz2 := blk_frozen BKz1.out 1; have hfzz3 := blk_frozen BKz1.out 2))
  go_ret
  exact ⟨er_, be_⟩
 rw [if_neg cz1] at H
 have cz2 : decide ((wrap64 (a1 - (a0_0.size : Int))) < 0) = false := decide_eq_false cz1
 clear cz1
 replace H := bo_ H
 obtain ⟨tz1, Az2, H⟩ := H
 (try dsimp only at H)
 by_cases cz3 : tz1 < 0
 ·rw [if_pos cz3] at H
  have cz4 : decide (tz1 < 0) = true := decide_eq_true cz3
  exact laws_szKept_z0
 rw [if_neg cz3] at H
 have cz4 : decide (tz1 < 0) = false := decide_eq_false cz3
 exact laws_szKept_z0

def laws_szKeptS.l0 : Nat → List (S92) → Int → Int → Option (Int)
 | 0, _, _, _ => none
 | k + 1, x0, x1, x5 => if x5 < (x0.length : Int) then (if 0 ≤ x5 then ((laws_szKept.f ((rd_T92 x0 x5).f0) ((rd_T92 x0 x5).f1) ((rd_T92 x0 x5).f2) x1).bind fun t108 => (if t108 < 0 then (some (-1)) else (laws_szKeptS.l0 k x0 t108 (wrap64 (x5 + 1))))) else (none)) else (some x1)
def laws_szKeptS.f (k : Nat) (l0 : List (S92)) (a1 : Int) : Option (Int) := if (wrap64 (a1 - (l0.length : Int))) < 0 then (some (-1)) else (laws_szKeptS.l0 k l0 (wrap64 (a1 - (l0.length : Int))) 0)
theorem laws_szKeptS.calls (k : Nat) (A0 : Option Addr) (c0 : Nat) (l0 : List (S92)) (a1 : Int) (r : Int) (w : World) (hr0 : Kd.C k92 w A0 l0.length l0) (hc0 : l0.length ≤ c0) (h : laws_szKeptS.f k l0 a1 = some r) :
  Calls Tryd.prog 40 #[.slice A0 l0.length c0, .int .i64 a1] w fun e w' => e = .returned (.int .i64 r) ∧ Below w.heap.size w w' := by
 have huz1 := Tryd.underlying92
 have HRz1 := Aside0.mk hr0
 have HCz1 := Aside0.mk hc0
 clear hr0 hc0
 have HB := Aside0.mk (Below.refl w.heap.size w)
 have H : (if (wrap64 (a1 - (l0.length : Int))) < 0 then (some (-1)) else (laws_szKeptS.l0 k l0 (wrap64 (a1 - (l0.length : Int))) 0)) = some r := h
 clear h
 by_cases cz1 : (wrap64 (a1 - (l0.length : Int))) < 0
 ·rw [if_pos cz1] at H
  have cz2 : decide ((wrap64 (a1 - (l0.length : Int))) < 0) = true := decide_eq_true cz1
  clear cz1
  obtain rfl := Option.some.inj H
  go_enter Tryd.func40, Tryd.ntmps40
  go_wp2
  go_ret
  exact ⟨er_, be_⟩
 rw [if_neg cz1] at H
 have cz2 : decide ((wrap64 (a1 - (l0.length : Int))) < 0) = false := decide_eq_false cz1
 clear cz1
 have H' := Aside0.mk H
 clear H
 go_enter Tryd.func40, Tryd.ntmps40
 go_wp2
 go_loopg [1, 5] k (fun kq v1 v5 w' => ∃ (x1_1 : Int) (x5_1 : Int), v1 = .int .i64 x1_1 ∧ v5 = .int .i64 x5_1 ∧ Aside0 (laws_szKeptS.l0 kq l0 x1_1 x5_1 = some r) ∧ Aside0 (kq ≤ k) ∧ Aside0 (Below w.heap.size w w'))
 case atStart => exact ⟨(wrap64 (a1 - (l0.length : Int))), (0), rs_, rs_, H', ⟨Nat.le_refl _⟩, ⟨be_⟩⟩
 case round =>
  clear H'
  obtain ⟨xz1, xz2, rfl, rfl, HA, HKz1, HB⟩ := hrel
  cases gk with
  | zero => exact absurd HA.out (by simp [laws_szKeptS.l0])
  | succ kz1 =>
   have H := HA.out
   clear HA
   simp only [laws_szKeptS.l0] at H
   by_cases cz3 : xz2 < (l0.length : Int)
   rotate_left
   ·rw [if_neg cz3] at H
    have cz4 : decide (xz2 < (l0.length : Int)) = false := decide_eq_false cz3
    clear cz3
    obtain rfl := Option.some.inj H
    go_wp2
    go_ret
    exact ⟨er_, be_⟩
   rw [if_pos cz3] at H
   have cz4 : decide (xz2 < (l0.length : Int)) = true := decide_eq_true cz3
   clear cz3
   by_cases cz5 : 0 ≤ xz2
   rotate_left
   ·rw [if_neg cz5] at H
    exact absurd H (by simp)
   rw [if_pos cz5] at H
   have cz6 : decide (0 ≤ xz2) = true := decide_eq_true cz5
   clear cz5
   replace H := bo_ H
   obtain ⟨tz1, Az2, H⟩ := H
   (try dsimp only at H)
   by_cases cz7 : tz1 < 0
   ·rw [if_pos cz7] at H
    have cz8 : decide (tz1 < 0) = true := decide_eq_true cz7
    clear cz7
    obtain rfl := Option.some.inj H
    obtain ⟨pz1, qz1, adz1, Az3, cz9, ez1, hxz1, hxz2, hxz3, hlz1, hiz1⟩ := aa_ (at_T92 HRz1.out xz2)
    cases ez1
    replace hxz1 := cl_ HB hxz1
    replace hxz2 := cl_ HB hxz2
    replace hxz3 := cl_ HB hxz3
    have HRz2 := Aside0.mk hiz1
    have HCz2 := Aside0.mk hlz1
    clear hiz1 hlz1
    go_wp2_with (first | ((with_reducible refine gate_callee (f := 58) rfl ?_); refine ca_ 23 Tryd.func58 #[.agg #[.string ((rd_T92 l0 xz2).f0), .slice Az3 ((rd_T92 l0 xz2).f1).length cz9, .int .i64 ((rd_T92 l0 xz2).f2)], .int .i64 xz1] ?_; (with_reducible refine (laws_szKept.calls ((rd_T92 l0 xz2).f0) _ _ ((rd_T92 l0 xz2).f1) ((rd_T92 l0 xz2).f2) xz1 tz1 _ ?side1 ?side2 Az2.out).mono ?_); (case side1 => exact Kd.C_below HRz2.out be_); (case side2 => exact HCz2.out); rintro e wz1 ⟨rfl, hb⟩; refine ⟨_, rfl, ?_⟩; replace HB := bw_ hb; clear hb))
    go_ret
    exact ⟨er_, be_⟩
   rw [if_neg cz7] at H
   have cz8 : decide (tz1 < 0) = false := decide_eq_false cz7
   clear cz7
   have H' := Aside0.mk H
   clear H
   obtain ⟨pz1, qz1, adz1, Az3, cz9, ez1, hxz1, hxz2, hxz3, hlz1, hiz1⟩ := aa_ (at_T92 HRz1.out xz2)
   cases ez1
   replace hxz1 := cl_ HB hxz1
   replace hxz2 := cl_ HB hxz2
   replace hxz3 := cl_ HB hxz3
   have HRz2 := Aside0.mk hiz1
   have HCz2 := Aside0.mk hlz1
   clear hiz1 hlz1
   go_wp2_with (first | ((with_reducible refine gate_callee (f := 58) rfl ?_); refine ca_ 23 Tryd.func58 #[.agg #[.string ((rd_T92 l0 xz2).f0), .slice Az3 ((rd_T92 l0 xz2).f1).length cz9, .int .i64 ((rd_T92 l0 xz2).f2)], .int .i64 xz1] ?_; (with_reducible refine (laws_szKept.calls ((rd_T92 l0 xz2).f0) _ _ ((rd_T92 l0 xz2).f1) ((rd_T92 l0 xz2).f2) xz1 tz1 _ ?side1 ?side2 Az2.out).mono ?_); (case side1 => exact Kd.C_below HRz2.out be_); (case side2 => exact HCz2.out); rintro e wz1 ⟨rfl, hb⟩; refine ⟨_, rfl, ?_⟩; replace HB := bw_ hb; clear hb))
   go_roundg kz1
   case measure => have := HKz1.out; omega
   case rel => exact ⟨(tz1), (wrap64 (xz2 + 1)), rs_, rs_, H', ⟨by have := HKz1.out; omega⟩, ⟨be_⟩⟩

def laws_szRoot.f (k : Nat) (a0_0 : Int) (l0_1 : List ByteArray) (l0_2 : List (S26)) (l0_3 : List (S83)) (l0_4 : List (S92)) (a1 : Int) : Option (Int) := (laws_szNode.f k l0_1 l0_2 l0_3 a1).bind fun t110 => (if t110 < 0 then (some (-1)) else ((laws_szKeptS.f k l0_4 t110).bind fun t111 => (if t111 < 0 then (some (-1)) else (some t111))))
theorem laws_szRoot_z2 {p : Prop} (h : p := by
 go_enter Tryd.func15, Tryd.ntmps15
 go_wp2_with (first | ((with_reducible refine gate_dst (N := 2) rfl ?_); refine box_event ?hg (N := 2) ?hd (cs := #[.int .i64 a0_0, .slice A0_1 l0_1.length c0_1, .slice A0_2 l0_2.length c0_2, .slice A0_3 l0_3.length c0_3, .slice A0_4 l0_4.length c0_4]) (t := 42) ?hr ?_; (case hd => rfl); (case hg => rfl); (case hr => first | (go_simp; done) | (go_simp; rfl)); intro gbz1 hg wz1 hbox hb; have BKz1 := Aside0.mk (hbox); have GWz1 := Aside0.mk ((sz_ : w.heap.size ≤ gbz1)); have GEz1 := Aside0.mk ((sz_ : w.heap.size ≤ gbz1)); replace HB := bw_ hb; clear hb hbox hg; have hczz1 : wz1.cell? ⟨gbz1, 0, none⟩ = some (.int .i64 a0_0) := bc_ BKz1 0; have hczz2 : wz1.cell? ⟨gbz1, 1, none⟩ = some (.slice A0_1 l0_1.length c0_1) := bc_ BKz1 1; have hczz3 : wz1.cell? ⟨gbz1, 2, none⟩ = some (.slice A0_2 l0_2.length c0_2) := bc_ BKz1 2; have hczz4 : wz1.cell? ⟨gbz1, 3, none⟩ = some (.slice A0_3 l0_3.length c0_3) := bc_ BKz1 3; have hczz5 : wz1.cell? ⟨gbz1, 4, none⟩ = some (.slice A0_4 l0_4.length c0_4) := bc_ BKz1 4; have hfzz1 := blk_frozen BKz1.out 0; have hfzz2 := blk_frozen BKz1.out 1; have hfzz3 := blk_frozen BKz1.out 2; have hfzz4 := blk_frozen BKz1.out 3; have hfzz5 := blk_frozen BKz1.out 4) | ((with_reducible refine gate_callee (f := 6) rfl ?_); refine ca_ 8 Tryd.func6 #[.agg #[.slice A0_1 l0_1.length c0_1, .slice A0_2 l0_2.length c0_2, .slice A0_3 l0_3.length c0_3], .int .i64 a1] ?_; (with_reducible refine (laws_szNode.calls k _ _ l0_1 _ _ l0_2 _ _ l0_3 a1 tz1 _ ?side1 ?side2 ?side3 ?side4 ?side5 ?side6 Az2.out).mono ?_); (case side1 => exact Kd.C_below HRz1.out be_); (case side2 => exact HCz1.out); (case side3 => exact Kd.C_below HRz2.out be_); (case side4 => exact HCz2.out); (case side5 => exact Kd.C_below HRz3.out be_); (case side6 => exact HCz3.out); rintro e wz2 ⟨rfl, hb⟩; refine ⟨_, rfl, ?_⟩; replace HB := bw_ hb; replace BKz1 := kb_ BKz1 hb; clear hb; have hczz6 : wz2.cell? ⟨gbz1, 0, none⟩ = some (.int .i64 a0_0) := bc_ BKz1 0; have hczz7 : wz2.cell? ⟨gbz1, 1, none⟩ = some (.slice A0_1 l0_1.length c0_1) := bc_ BKz1 1; have hczz8 : wz2.cell? ⟨gbz1, 2, none⟩ = some (.slice A0_2 l0_2.length c0_2) := bc_ BKz1 2; have hczz9 : wz2.cell? ⟨gbz1, 3, none⟩ = some (.slice A0_3 l0_3.length c0_3) := bc_ BKz1 3; have hczz10 : wz2.cell? ⟨gbz1, 4, none⟩ = some (.slice A0_4 l0_4.length c0_4) := bc_ BKz1 4; have hfzz6 := blk_frozen BKz1.out 0; have hfzz7 := blk_frozen BKz1.out 1; have hfzz8 := blk_frozen BKz1.out 2; have hfzz9 := blk_frozen BKz1.out 3; have hfzz10 := blk_frozen BKz1.out 4) | ((with_reducible refine gate_callee (f := 40) rfl ?_); refine ca_ 14 Tryd.func40 #[.slice A0_4 l0_4.length c0_4, .int .i64 tz1] ?_; (with_reducible refine (laws_szKeptS.calls k _ _ l0_4 tz1 tz2 _ ?side1 ?side2 Az4.out).mono ?_); (case side1 => exact Kd.C_below HRz4.out be_); (case side2 => exact HCz4.out); rintro e wz3 ⟨rfl, hb⟩; refine ⟨_, rfl, ?_⟩; replace HB := bw_ hb; replace BKz1 := kb_ BKz1 hb; clear hb))
 go_ret
 exact ⟨er_, be_⟩) : p := h
theorem laws_szRoot_z1 {p : Prop} (h : p := by
 obtain rfl := Option.some.inj H
 exact laws_szRoot_z2) : p := h
theorem laws_szRoot_z0 {p : Prop} (h : p := by
 clear cz3
 exact laws_szRoot_z1) : p := h
theorem laws_szRoot.calls (k : Nat) (a0_0 : Int) (A0_1 : Option Addr) (c0_1 : Nat) (l0_1 : List ByteArray) (A0_2 : Option Addr) (c0_2 : Nat) (l0_2 : List (S26)) (A0_3 : Option Addr) (c0_3 : Nat) (l0_3 : List (S83)) (A0_4 : Option Addr) (c0_4 : Nat) (l0_4 : List (S92)) (a1 : Int) (r : Int) (w : World) (hr0_1 : Kd.C Kd.string w A0_1 l0_1.length l0_1) (hc0_1 : l0_1.length ≤ c0_1) (hr0_2 : Kd.C k26 w A0_2 l0_2.length l0_2) (hc0_2 : l0_2.length ≤ c0_2) (hr0_3 : Kd.C k83 w A0_3 l0_3.length l0_3) (hc0_3 : l0_3.length ≤ c0_3) (hr0_4 : Kd.C k92 w A0_4 l0_4.length l0_4) (hc0_4 : l0_4.length ≤ c0_4) (h : laws_szRoot.f k a0_0 l0_1 l0_2 l0_3 l0_4 a1 = some r) :
  Calls Tryd.prog 15 #[.agg #[.int .i64 a0_0, .slice A0_1 l0_1.length c0_1, .slice A0_2 l0_2.length c0_2, .slice A0_3 l0_3.length c0_3, .slice A0_4 l0_4.length c0_4], .int .i64 a1] w fun e w' => e = .returned (.int .i64 r) ∧ Below w.heap.size w w' := by
 have huz1 := Tryd.underlying42
 have huz2 := Tryd.underlying26
 have HRz1 := Aside0.mk hr0_1
 have HCz1 := Aside0.mk hc0_1
 clear hr0_1 hc0_1
 have HRz2 := Aside0.mk hr0_2
 have HCz2 := Aside0.mk hc0_2
 clear hr0_2 hc0_2
 have HRz3 := Aside0.mk hr0_3
 have HCz3 := Aside0.mk hc0_3
 clear hr0_3 hc0_3
 have HRz4 := Aside0.mk hr0_4
 have HCz4 := Aside0.mk hc0_4
 clear hr0_4 hc0_4
 have HB := Aside0.mk (Below.refl w.heap.size w)
 have H : ((laws_szNode.f k l0_1 l0_2 l0_3 a1).bind fun t110 => (if t110 < 0 then (some (-1)) else ((laws_szKeptS.f k l0_4 t110).bind fun t111 => (if t111 < 0 then (some (-1)) else (some t111))))) = some r := h
 clear h
 replace H := bo_ H
 obtain ⟨tz1, Az2, H⟩ := H
 (try dsimp only at H)
 by_cases cz1 : tz1 < 0
 ·rw [if_pos cz1] at H
  have cz2 : decide (tz1 < 0) = true := decide_eq_true cz1
  clear cz1
  obtain rfl := Option.some.inj H
  go_enter Tryd.func15, Tryd.ntmps15
  go_wp2_with (first | ((with_reducible refine gate_dst (N := 2) rfl ?_); refine box_event ?hg (N := 2) ?hd (cs := #[.int .i64 a0_0, .slice A0_1 l0_1.length c0_1, .slice A0_2 l0_2.length c0_2, .slice A0_3 l0_3.length c0_3, .slice A0_4 l0_4.length c0_4]) (t := 42) ?hr ?_; (case hd => rfl); (case hg => rfl); (case hr => first | (go_simp; done) | (go_simp; rfl)); intro gbz1 hg wz1 hbox hb; have BKz1 := Aside0.mk (hbox); have GWz1 := Aside0.mk ((sz_ : w.heap.size ≤ gbz1)); have GEz1 := Aside0.mk ((sz_ : w.heap.size ≤ gbz1)); replace HB := bw_ hb; clear hb hbox hg; have hczz1 : wz1.cell? ⟨gbz1, 0, none⟩ = some (.int .i64 a0_0) := bc_ BKz1 0; have hczz2 : wz1.cell? ⟨gbz1, 1, none⟩ = some (.slice A0_1 l0_1.length c0_1) := bc_ BKz1 1; have hczz3 : wz1.cell? ⟨gbz1, 2, none⟩ = some (.slice A0_2 l0_2.length c0_2) := bc_ BKz1 2; have hczz4 : wz1.cell? ⟨gbz1, 3, none⟩ = some (.slice A0_3 l0_3.length c0_3) := bc_ BKz1 3; have hczz5 : wz1.cell? ⟨gbz1, 4, none⟩ = some (.slice A0_4 l0_4.length c0_4) := bc_ BKz1 4; have hfzz1 := blk_frozen BKz1.out 0; have hfzz2 := blk_frozen BKz1.out 1; have hfzz3 := blk_frozen BKz1.out 2; have hfzz4 := blk_frozen BKz1.out 3; have hfzz5 := blk_frozen BKz1.out 4) | ((with_reducible refine gate_callee (f := 6) rfl ?_); refine ca_ 8 Tryd.func6 #[.agg #[.slice A0_1 l0_1.length c0_1, .slice A0_2 l0_2.length c0_2, .slice A0_3 l0_3.length c0_3], .int .i64 a1] ?_; (with_reducible refine (laws_szNode.calls k _ _ l0_1 _ _ l0_2 _ _ l0_3 a1 tz1 _ ?side1 ?side2 ?side3 ?side4 ?side5 ?side6 Az2.out).mono ?_); (case side1 => exact Kd.C_below HRz1.out be_); (case side2 => exact HCz1.out); (case side3 => exact Kd.C_below HRz2.out be_); (case side4 => exact HCz2.out); (case side5 => exact Kd.C_below HRz3.out be_); (case side6 => exact HCz3.out); rintro e wz2 ⟨rfl, hb⟩; refine ⟨_, rfl, ?_⟩; replace HB := bw_ hb; replace BKz1 := kb_ BKz1 hb; clear hb))
  go_ret
  exact ⟨er_, be_⟩
 rw [if_neg cz1] at H
 have cz2 : decide (tz1 < 0) = false := decide_eq_false cz1
 clear cz1
 replace H := bo_ H
 obtain ⟨tz2, Az4, H⟩ := H
 (try dsimp only at H)
 by_cases cz3 : tz2 < 0
 ·rw [if_pos cz3] at H
  have cz4 : decide (tz2 < 0) = true := decide_eq_true cz3
  exact laws_szRoot_z0
 rw [if_neg cz3] at H
 have cz4 : decide (tz2 < 0) = false := decide_eq_false cz3
 exact laws_szRoot_z0

def spec_l1In.f (a0 : Int) (a1 : Int) (a2 : Int) : Option (Bool) := if a0 ≥ a1 then (some (decide (a0 ≤ a2))) else (some false)
theorem spec_l1In.calls (a0 : Int) (a1 : Int) (a2 : Int) (r : Bool) (w : World) (h : spec_l1In.f a0 a1 a2 = some r) :
  Calls Tryd.prog 41 #[.int .i64 a0, .int .i64 a1, .int .i64 a2] w fun e w' => e = .returned (.bool r) ∧ Drawn0 w w' := by
 have H : (if a0 ≥ a1 then (some (decide (a0 ≤ a2))) else (some false)) = some r := h
 clear h
 by_cases cz1 : a0 ≥ a1
 ·rw [if_pos cz1] at H
  have cz2 : decide (a1 ≤ a0) = true := decide_eq_true cz1
  clear cz1
  obtain rfl := Option.some.inj H
  go_enter Tryd.func41, Tryd.ntmps41
  go_wp2
  go_ret
  exact ⟨rs_, dr_⟩
 rw [if_neg cz1] at H
 have cz2 : decide (a1 ≤ a0) = false := decide_eq_false cz1
 clear cz1
 obtain rfl := Option.some.inj H
 go_enter Tryd.func41, Tryd.ntmps41
 go_wp2
 go_ret
 exact ⟨rs_, dr_⟩

end Go.Proofs.YtggokdobijhdhaaDoor.P
