/- laws_szNode and laws_szNodeS call each other: told by mutual recursion on the rounds, and walked by induction on them, out of two printed halves (a program of this work, mutual.py). -/
import Derived.Test.YtggokdobijhdhaaDoorPx0
import Derived.Test.YtggokdobijhdhaaDoorS
import Derived.Test.YtggokdobijhdhaaDoorPx2
namespace Go.Proofs.YtggokdobijhdhaaDoor.X
open Go.RowKit Go.Proofs.YtggokdobijhdhaaDoor.X Go.Proofs.YtggokdobijhdhaaDoor.P Go.Proofs.YtggokdobijhdhaaDoorW.PrintWords Go.Proofs.YtggokdobijhdhaaDoorW.PrintLast Go.Proofs.YtggokdobijhdhaaDoorW.PrintMore
set_option maxHeartbeats 8000000
set_option maxRecDepth 100000
set_option linter.unusedVariables false
set_option linter.unusedSimpArgs false
mutual
def laws_szNodeS.l0 : Nat → List (S26) → Int → Int → Option (Int)
 | 0, _, _, _ => none
 | k + 1, x0, x1, x5 => if x5 < (x0.length : Int) then (if 0 ≤ x5 then ((laws_szNode.f k ((rd_T26 x0 x5).f0) ((rd_T26 x0 x5).f1) ((rd_T26 x0 x5).f2) x1).bind fun t102 => (if t102 < 0 then (some (-1)) else (laws_szNodeS.l0 k x0 t102 (wrap64 (x5 + 1))))) else (none)) else (some x1)
def laws_szNodeS.f : Nat → List (S26) → Int → Option (Int)
 | 0, _, _ => none
 | k + 1, l0, a1 => if (wrap64 (a1 - (l0.length : Int))) < 0 then (some (-1)) else (laws_szNodeS.l0 k l0 (wrap64 (a1 - (l0.length : Int))) 0)
def laws_szNode.f : Nat → List ByteArray → List (S26) → List (S83) → Int → Option (Int)
 | 0, _, _, _, _ => none
 | k + 1, l0_0, l0_1, l0_2, a1 => (laws_szStringS.f k l0_0 a1).bind fun t106 => (if t106 < 0 then (some (-1)) else ((laws_szNodeS.f k l0_1 t106).bind fun t107 => (if t107 < 0 then (some (-1)) else ((laws_szSubS.f k l0_2 t107).bind fun t108 => (if t108 < 0 then (some (-1)) else (some t108))))))
end
theorem laws_szNodeS.f_succ (k : Nat) (l0 : List (S26)) (a1 : Int) : laws_szNodeS.f (k + 1) l0 a1 = (if (wrap64 (a1 - (l0.length : Int))) < 0 then (some (-1)) else (laws_szNodeS.l0 k l0 (wrap64 (a1 - (l0.length : Int))) 0)) := by rw [laws_szNodeS.f]
theorem laws_szNode.f_succ (k : Nat) (l0_0 : List ByteArray) (l0_1 : List (S26)) (l0_2 : List (S83)) (a1 : Int) : laws_szNode.f (k + 1) l0_0 l0_1 l0_2 a1 = ((laws_szStringS.f k l0_0 a1).bind fun t106 => (if t106 < 0 then (some (-1)) else ((laws_szNodeS.f k l0_1 t106).bind fun t107 => (if t107 < 0 then (some (-1)) else ((laws_szSubS.f k l0_2 t107).bind fun t108 => (if t108 < 0 then (some (-1)) else (some t108))))))) := by rw [laws_szNode.f]
abbrev laws_szNodeS.C (k : Nat) : Prop := ∀ (A0 : Option Addr) (c0 : Nat) (l0 : List (S26)) (a1 : Int) (r : Int) (w : World) (hr0 : Kd.C k26 w A0 l0.length l0) (hc0 : l0.length ≤ c0) (h : laws_szNodeS.f k l0 a1 = some r), Calls Tryd.prog 23 #[.slice A0 l0.length c0, .int .i64 a1] w fun e w' => e = .returned (.int .i64 r) ∧ Below w.heap.size w w'
abbrev laws_szNode.C (k : Nat) : Prop := ∀ (A0_0 : Option Addr) (c0_0 : Nat) (l0_0 : List ByteArray) (A0_1 : Option Addr) (c0_1 : Nat) (l0_1 : List (S26)) (A0_2 : Option Addr) (c0_2 : Nat) (l0_2 : List (S83)) (a1 : Int) (r : Int) (w : World) (hr0_0 : Kd.C Kd.string w A0_0 l0_0.length l0_0) (hc0_0 : l0_0.length ≤ c0_0) (hr0_1 : Kd.C k26 w A0_1 l0_1.length l0_1) (hc0_1 : l0_1.length ≤ c0_1) (hr0_2 : Kd.C k83 w A0_2 l0_2.length l0_2) (hc0_2 : l0_2.length ≤ c0_2) (h : laws_szNode.f k l0_0 l0_1 l0_2 a1 = some r), Calls Tryd.prog 6 #[.agg #[.slice A0_0 l0_0.length c0_0, .slice A0_1 l0_1.length c0_1, .slice A0_2 l0_2.length c0_2], .int .i64 a1] w fun e w' => e = .returned (.int .i64 r) ∧ Below w.heap.size w w'
theorem laws_szNodeS.step (k : Nat) (IH : ∀ j, j < k → laws_szNode.C j) (A0 : Option Addr) (c0 : Nat) (l0 : List (S26)) (a1 : Int) (r : Int) (w : World) (hr0 : Kd.C k26 w A0 l0.length l0) (hc0 : l0.length ≤ c0) (h : (if (wrap64 (a1 - (l0.length : Int))) < 0 then (some (-1)) else (laws_szNodeS.l0 k l0 (wrap64 (a1 - (l0.length : Int))) 0)) = some r) :
  Calls Tryd.prog 23 #[.slice A0 l0.length c0, .int .i64 a1] w fun e w' => e = .returned (.int .i64 r) ∧ Below w.heap.size w w' := by
 have huz1 := Tryd.underlying26
 have HRz1 := Aside0.mk hr0
 have HCz1 := Aside0.mk hc0
 clear hr0 hc0
 have HB := Aside0.mk (Below.refl w.heap.size w)
 have H : (if (wrap64 (a1 - (l0.length : Int))) < 0 then (some (-1)) else (laws_szNodeS.l0 k l0 (wrap64 (a1 - (l0.length : Int))) 0)) = some r := h
 clear h
 by_cases cz1 : (wrap64 (a1 - (l0.length : Int))) < 0
 ·rw [if_pos cz1] at H
  have cz2 : decide ((wrap64 (a1 - (l0.length : Int))) < 0) = true := decide_eq_true cz1
  clear cz1
  obtain rfl := Option.some.inj H
  go_enter Tryd.func23, Tryd.ntmps23
  go_wp2
  go_ret
  exact ⟨er_, be_⟩
 ·rw [if_neg cz1] at H
  have cz2 : decide ((wrap64 (a1 - (l0.length : Int))) < 0) = false := decide_eq_false cz1
  clear cz1
  have H' := Aside0.mk H
  clear H
  go_enter Tryd.func23, Tryd.ntmps23
  go_wp2
  go_loopg [1, 5] k (fun kq v1 v5 w' => ∃ (x1_1 : Int) (x5_1 : Int), v1 = .int .i64 x1_1 ∧ v5 = .int .i64 x5_1 ∧ Aside0 (laws_szNodeS.l0 kq l0 x1_1 x5_1 = some r) ∧ Aside0 (kq ≤ k) ∧ Aside0 (Below w.heap.size w w'))
  case atStart => exact ⟨(wrap64 (a1 - (l0.length : Int))), (0), rs_, rs_, H', ⟨Nat.le_refl _⟩, ⟨be_⟩⟩
  case round =>
   clear H'
   obtain ⟨xz1, xz2, rfl, rfl, HA, HKz1, HB⟩ := hrel
   cases gk with
   | zero => exact absurd HA.out (by simp [laws_szNodeS.l0])
   | succ kz1 =>
    have H := HA.out
    clear HA
    simp only [laws_szNodeS.l0] at H
    by_cases cz3 : xz2 < (l0.length : Int)
    ·rw [if_pos cz3] at H
     have cz4 : decide (xz2 < (l0.length : Int)) = true := decide_eq_true cz3
     clear cz3
     by_cases cz5 : 0 ≤ xz2
     ·rw [if_pos cz5] at H
      have cz6 : decide (0 ≤ xz2) = true := decide_eq_true cz5
      clear cz5
      replace H := bo_ H
      obtain ⟨tz1, Az2, H⟩ := H
      (try dsimp only at H)
      by_cases cz7 : tz1 < 0
      ·rw [if_pos cz7] at H
       have cz8 : decide (tz1 < 0) = true := decide_eq_true cz7
       clear cz7
       obtain rfl := Option.some.inj H
       obtain ⟨pz1, qz1, adz1, Az3, cz9, Az4, cz10, Az5, cz11, ez1, hxz1, hxz2, hxz3, hlz1, hiz1, hlz2, hiz2, hlz3, hiz3⟩ := aa_ (at_T26 HRz1.out xz2)
       cases ez1
       replace hxz1 := cl_ HB hxz1
       replace hxz2 := cl_ HB hxz2
       replace hxz3 := cl_ HB hxz3
       have HRz2 := Aside0.mk hiz1
       have HCz2 := Aside0.mk hlz1
       clear hiz1 hlz1
       have HRz3 := Aside0.mk hiz2
       have HCz3 := Aside0.mk hlz2
       clear hiz2 hlz2
       have HRz4 := Aside0.mk hiz3
       have HCz4 := Aside0.mk hlz3
       clear hiz3 hlz3
       go_wp2_with (first | ((with_reducible refine gate_callee (f := 6) rfl ?_); refine ca_ 23 Tryd.func6 #[.agg #[.slice Az3 ((rd_T26 l0 xz2).f0).length cz9, .slice Az4 ((rd_T26 l0 xz2).f1).length cz10, .slice Az5 ((rd_T26 l0 xz2).f2).length cz11], .int .i64 xz1] ?_; (with_reducible refine (IH kz1 (by first | exact Nat.lt_of_succ_le HKz1.out | (have := HKz1.out; omega)) _ _ ((rd_T26 l0 xz2).f0) _ _ ((rd_T26 l0 xz2).f1) _ _ ((rd_T26 l0 xz2).f2) xz1 tz1 _ ?side1 ?side2 ?side3 ?side4 ?side5 ?side6 Az2.out).mono ?_); (case side1 => exact Kd.C_below HRz2.out be_); (case side2 => exact HCz2.out); (case side3 => exact Kd.C_below HRz3.out be_); (case side4 => exact HCz3.out); (case side5 => exact Kd.C_below HRz4.out be_); (case side6 => exact HCz4.out); rintro e wz1 ⟨rfl, hb⟩; refine ⟨_, rfl, ?_⟩; replace HB := bw_ hb; clear hb))
       go_ret
       exact ⟨er_, be_⟩
      ·rw [if_neg cz7] at H
       have cz8 : decide (tz1 < 0) = false := decide_eq_false cz7
       clear cz7
       have H' := Aside0.mk H
       clear H
       obtain ⟨pz1, qz1, adz1, Az3, cz9, Az4, cz10, Az5, cz11, ez1, hxz1, hxz2, hxz3, hlz1, hiz1, hlz2, hiz2, hlz3, hiz3⟩ := aa_ (at_T26 HRz1.out xz2)
       cases ez1
       replace hxz1 := cl_ HB hxz1
       replace hxz2 := cl_ HB hxz2
       replace hxz3 := cl_ HB hxz3
       have HRz2 := Aside0.mk hiz1
       have HCz2 := Aside0.mk hlz1
       clear hiz1 hlz1
       have HRz3 := Aside0.mk hiz2
       have HCz3 := Aside0.mk hlz2
       clear hiz2 hlz2
       have HRz4 := Aside0.mk hiz3
       have HCz4 := Aside0.mk hlz3
       clear hiz3 hlz3
       go_wp2_with (first | ((with_reducible refine gate_callee (f := 6) rfl ?_); refine ca_ 23 Tryd.func6 #[.agg #[.slice Az3 ((rd_T26 l0 xz2).f0).length cz9, .slice Az4 ((rd_T26 l0 xz2).f1).length cz10, .slice Az5 ((rd_T26 l0 xz2).f2).length cz11], .int .i64 xz1] ?_; (with_reducible refine (IH kz1 (by first | exact Nat.lt_of_succ_le HKz1.out | (have := HKz1.out; omega)) _ _ ((rd_T26 l0 xz2).f0) _ _ ((rd_T26 l0 xz2).f1) _ _ ((rd_T26 l0 xz2).f2) xz1 tz1 _ ?side1 ?side2 ?side3 ?side4 ?side5 ?side6 Az2.out).mono ?_); (case side1 => exact Kd.C_below HRz2.out be_); (case side2 => exact HCz2.out); (case side3 => exact Kd.C_below HRz3.out be_); (case side4 => exact HCz3.out); (case side5 => exact Kd.C_below HRz4.out be_); (case side6 => exact HCz4.out); rintro e wz1 ⟨rfl, hb⟩; refine ⟨_, rfl, ?_⟩; replace HB := bw_ hb; clear hb))
       go_roundg kz1
       case measure => have := HKz1.out; omega
       case rel => exact ⟨(tz1), (wrap64 (xz2 + 1)), rs_, rs_, H', ⟨by have := HKz1.out; omega⟩, ⟨be_⟩⟩
     ·rw [if_neg cz5] at H
      exact absurd H (by simp)
    ·rw [if_neg cz3] at H
     have cz4 : decide (xz2 < (l0.length : Int)) = false := decide_eq_false cz3
     clear cz3
     obtain rfl := Option.some.inj H
     go_wp2
     go_ret
     exact ⟨er_, be_⟩

theorem laws_szNode_z2 {p : Prop} (h : p := by
 go_enter Tryd.func6, Tryd.ntmps6
 go_wp2_with (first | ((with_reducible refine gate_dst (N := 2) rfl ?_); refine box_event ?hg (N := 2) ?hd (cs := #[.slice A0_0 l0_0.length c0_0, .slice A0_1 l0_1.length c0_1, .slice A0_2 l0_2.length c0_2]) (t := 26) ?hr ?_; (case hd => rfl); (case hg => rfl); (case hr => first | (go_simp; done) | (go_simp; rfl)); intro gbz1 hg wz1 hbox hb; have BKz1 := Aside0.mk (hbox); have GWz1 := Aside0.mk ((sz_ : w.heap.size ≤ gbz1)); have GEz1 := Aside0.mk ((sz_ : w.heap.size ≤ gbz1)); replace HB := bw_ hb; clear hb hbox hg; have hczz1 : wz1.cell? ⟨gbz1, 0, none⟩ = some (.slice A0_0 l0_0.length c0_0) := bc_ BKz1 0; have hczz2 : wz1.cell? ⟨gbz1, 1, none⟩ = some (.slice A0_1 l0_1.length c0_1) := bc_ BKz1 1; have hczz3 : wz1.cell? ⟨gbz1, 2, none⟩ = some (.slice A0_2 l0_2.length c0_2) := bc_ BKz1 2; have hfzz1 := blk_frozen BKz1.out 0; have hfzz2 := blk_frozen BKz1.out 1; have hfzz3 := blk_frozen BKz1.out 2) | ((with_reducible refine gate_callee (f := 22) rfl ?_); refine ca_ 8 Tryd.func22 #[.slice A0_0 l0_0.length c0_0, .int .i64 a1] ?_; (with_reducible refine (laws_szStringS.calls k _ _ l0_0 a1 tz1 _ ?side1 ?side2 Az2.out).mono ?_); (case side1 => exact Kd.C_below HRz1.out be_); (case side2 => exact HCz1.out); rintro e w' ⟨rfl, ⟨nd, rfl⟩⟩; refine ⟨_, rfl, ?_⟩) | ((with_reducible refine gate_callee (f := 23) rfl ?_); refine ca_ 14 Tryd.func23 #[.slice A0_1 l0_1.length c0_1, .int .i64 tz1] ?_; (with_reducible refine (IH _ _ l0_1 tz1 tz2 _ ?side1 ?side2 Az4.out).mono ?_); (case side1 => repeat (first | exact (Kd.C_below HRz2.out be_) | (with_reducible refine Kd.C_alloc ?_ _) | (with_reducible refine Kd.C_drewN ?_ _) | (with_reducible refine Kd.C_drew ?_))); (case side2 => exact HCz2.out); rintro e wz2 ⟨rfl, hb⟩; refine ⟨_, rfl, ?_⟩; replace HB := bw_ hb; replace BKz1 := kb_ BKz1 hb; clear hb; have hczz4 : wz2.cell? ⟨gbz1, 0, none⟩ = some (.slice A0_0 l0_0.length c0_0) := bc_ BKz1 0; have hczz5 : wz2.cell? ⟨gbz1, 1, none⟩ = some (.slice A0_1 l0_1.length c0_1) := bc_ BKz1 1; have hczz6 : wz2.cell? ⟨gbz1, 2, none⟩ = some (.slice A0_2 l0_2.length c0_2) := bc_ BKz1 2; have hfzz4 := blk_frozen BKz1.out 0; have hfzz5 := blk_frozen BKz1.out 1; have hfzz6 := blk_frozen BKz1.out 2) | ((with_reducible refine gate_callee (f := 24) rfl ?_); refine ca_ 20 Tryd.func24 #[.slice A0_2 l0_2.length c0_2, .int .i64 tz2] ?_; (with_reducible refine (laws_szSubS.calls k _ _ l0_2 tz2 tz3 _ ?side1 ?side2 Az6.out).mono ?_); (case side1 => exact Kd.C_below HRz3.out be_); (case side2 => exact HCz3.out); rintro e wz3 ⟨rfl, hb⟩; refine ⟨_, rfl, ?_⟩; replace HB := bw_ hb; replace BKz1 := kb_ BKz1 hb; clear hb))
 go_ret
 exact ⟨er_, be_⟩) : p := h
theorem laws_szNode_z1 {p : Prop} (h : p := by
 obtain rfl := Option.some.inj H
 exact laws_szNode_z2) : p := h
theorem laws_szNode_z0 {p : Prop} (h : p := by
 clear cz5
 exact laws_szNode_z1) : p := h
theorem laws_szNode.step (k : Nat) (IH : laws_szNodeS.C k) (A0_0 : Option Addr) (c0_0 : Nat) (l0_0 : List ByteArray) (A0_1 : Option Addr) (c0_1 : Nat) (l0_1 : List (S26)) (A0_2 : Option Addr) (c0_2 : Nat) (l0_2 : List (S83)) (a1 : Int) (r : Int) (w : World) (hr0_0 : Kd.C Kd.string w A0_0 l0_0.length l0_0) (hc0_0 : l0_0.length ≤ c0_0) (hr0_1 : Kd.C k26 w A0_1 l0_1.length l0_1) (hc0_1 : l0_1.length ≤ c0_1) (hr0_2 : Kd.C k83 w A0_2 l0_2.length l0_2) (hc0_2 : l0_2.length ≤ c0_2) (h : ((laws_szStringS.f k l0_0 a1).bind fun t106 => (if t106 < 0 then (some (-1)) else ((laws_szNodeS.f k l0_1 t106).bind fun t107 => (if t107 < 0 then (some (-1)) else ((laws_szSubS.f k l0_2 t107).bind fun t108 => (if t108 < 0 then (some (-1)) else (some t108))))))) = some r) :
  Calls Tryd.prog 6 #[.agg #[.slice A0_0 l0_0.length c0_0, .slice A0_1 l0_1.length c0_1, .slice A0_2 l0_2.length c0_2], .int .i64 a1] w fun e w' => e = .returned (.int .i64 r) ∧ Below w.heap.size w w' := by
 have huz1 := Tryd.underlying26
 have HRz1 := Aside0.mk hr0_0
 have HCz1 := Aside0.mk hc0_0
 clear hr0_0 hc0_0
 have HRz2 := Aside0.mk hr0_1
 have HCz2 := Aside0.mk hc0_1
 clear hr0_1 hc0_1
 have HRz3 := Aside0.mk hr0_2
 have HCz3 := Aside0.mk hc0_2
 clear hr0_2 hc0_2
 have HB := Aside0.mk (Below.refl w.heap.size w)
 have H : ((laws_szStringS.f k l0_0 a1).bind fun t106 => (if t106 < 0 then (some (-1)) else ((laws_szNodeS.f k l0_1 t106).bind fun t107 => (if t107 < 0 then (some (-1)) else ((laws_szSubS.f k l0_2 t107).bind fun t108 => (if t108 < 0 then (some (-1)) else (some t108))))))) = some r := h
 clear h
 replace H := bo_ H
 obtain ⟨tz1, Az2, H⟩ := H
 (try dsimp only at H)
 by_cases cz1 : tz1 < 0
 ·rw [if_pos cz1] at H
  have cz2 : decide (tz1 < 0) = true := decide_eq_true cz1
  clear cz1
  obtain rfl := Option.some.inj H
  go_enter Tryd.func6, Tryd.ntmps6
  go_wp2_with (first | ((with_reducible refine gate_dst (N := 2) rfl ?_); refine box_event ?hg (N := 2) ?hd (cs := #[.slice A0_0 l0_0.length c0_0, .slice A0_1 l0_1.length c0_1, .slice A0_2 l0_2.length c0_2]) (t := 26) ?hr ?_; (case hd => rfl); (case hg => rfl); (case hr => first | (go_simp; done) | (go_simp; rfl)); intro gbz1 hg wz1 hbox hb; have BKz1 := Aside0.mk (hbox); have GWz1 := Aside0.mk ((sz_ : w.heap.size ≤ gbz1)); have GEz1 := Aside0.mk ((sz_ : w.heap.size ≤ gbz1)); replace HB := bw_ hb; clear hb hbox hg; have hczz1 : wz1.cell? ⟨gbz1, 0, none⟩ = some (.slice A0_0 l0_0.length c0_0) := bc_ BKz1 0; have hczz2 : wz1.cell? ⟨gbz1, 1, none⟩ = some (.slice A0_1 l0_1.length c0_1) := bc_ BKz1 1; have hczz3 : wz1.cell? ⟨gbz1, 2, none⟩ = some (.slice A0_2 l0_2.length c0_2) := bc_ BKz1 2; have hfzz1 := blk_frozen BKz1.out 0; have hfzz2 := blk_frozen BKz1.out 1; have hfzz3 := blk_frozen BKz1.out 2) | ((with_reducible refine gate_callee (f := 22) rfl ?_); refine ca_ 8 Tryd.func22 #[.slice A0_0 l0_0.length c0_0, .int .i64 a1] ?_; (with_reducible refine (laws_szStringS.calls k _ _ l0_0 a1 tz1 _ ?side1 ?side2 Az2.out).mono ?_); (case side1 => exact Kd.C_below HRz1.out be_); (case side2 => exact HCz1.out); rintro e w' ⟨rfl, ⟨nd, rfl⟩⟩; refine ⟨_, rfl, ?_⟩))
  go_ret
  exact ⟨er_, be_⟩
 ·rw [if_neg cz1] at H
  have cz2 : decide (tz1 < 0) = false := decide_eq_false cz1
  clear cz1
  replace H := bo_ H
  obtain ⟨tz2, Az4, H⟩ := H
  (try dsimp only at H)
  by_cases cz3 : tz2 < 0
  ·rw [if_pos cz3] at H
   have cz4 : decide (tz2 < 0) = true := decide_eq_true cz3
   clear cz3
   obtain rfl := Option.some.inj H
   go_enter Tryd.func6, Tryd.ntmps6
   go_wp2_with (first | ((with_reducible refine gate_dst (N := 2) rfl ?_); refine box_event ?hg (N := 2) ?hd (cs := #[.slice A0_0 l0_0.length c0_0, .slice A0_1 l0_1.length c0_1, .slice A0_2 l0_2.length c0_2]) (t := 26) ?hr ?_; (case hd => rfl); (case hg => rfl); (case hr => first | (go_simp; done) | (go_simp; rfl)); intro gbz1 hg wz1 hbox hb; have BKz1 := Aside0.mk (hbox); have GWz1 := Aside0.mk ((sz_ : w.heap.size ≤ gbz1)); have GEz1 := Aside0.mk ((sz_ : w.heap.size ≤ gbz1)); replace HB := bw_ hb; clear hb hbox hg; have hczz1 : wz1.cell? ⟨gbz1, 0, none⟩ = some (.slice A0_0 l0_0.length c0_0) := bc_ BKz1 0; have hczz2 : wz1.cell? ⟨gbz1, 1, none⟩ = some (.slice A0_1 l0_1.length c0_1) := bc_ BKz1 1; have hczz3 : wz1.cell? ⟨gbz1, 2, none⟩ = some (.slice A0_2 l0_2.length c0_2) := bc_ BKz1 2; have hfzz1 := blk_frozen BKz1.out 0; have hfzz2 := blk_frozen BKz1.out 1; have hfzz3 := blk_frozen BKz1.out 2) | ((with_reducible refine gate_callee (f := 22) rfl ?_); refine ca_ 8 Tryd.func22 #[.slice A0_0 l0_0.length c0_0, .int .i64 a1] ?_; (with_reducible refine (laws_szStringS.calls k _ _ l0_0 a1 tz1 _ ?side1 ?side2 Az2.out).mono ?_); (case side1 => exact Kd.C_below HRz1.out be_); (case side2 => exact HCz1.out); rintro e w' ⟨rfl, ⟨nd, rfl⟩⟩; refine ⟨_, rfl, ?_⟩) | ((with_reducible refine gate_callee (f := 23) rfl ?_); refine ca_ 14 Tryd.func23 #[.slice A0_1 l0_1.length c0_1, .int .i64 tz1] ?_; (with_reducible refine (IH _ _ l0_1 tz1 tz2 _ ?side1 ?side2 Az4.out).mono ?_); (case side1 => repeat (first | exact (Kd.C_below HRz2.out be_) | (with_reducible refine Kd.C_alloc ?_ _) | (with_reducible refine Kd.C_drewN ?_ _) | (with_reducible refine Kd.C_drew ?_))); (case side2 => exact HCz2.out); rintro e wz2 ⟨rfl, hb⟩; refine ⟨_, rfl, ?_⟩; replace HB := bw_ hb; replace BKz1 := kb_ BKz1 hb; clear hb))
   go_ret
   exact ⟨er_, be_⟩
  ·rw [if_neg cz3] at H
   have cz4 : decide (tz2 < 0) = false := decide_eq_false cz3
   clear cz3
   replace H := bo_ H
   obtain ⟨tz3, Az6, H⟩ := H
   (try dsimp only at H)
   by_cases cz5 : tz3 < 0
   ·rw [if_pos cz5] at H
    have cz6 : decide (tz3 < 0) = true := decide_eq_true cz5
    exact laws_szNode_z0
   ·rw [if_neg cz5] at H
    have cz6 : decide (tz3 < 0) = false := decide_eq_false cz5
    exact laws_szNode_z0

theorem laws_szNode.both : ∀ n k, k ≤ n → laws_szNode.C k ∧ laws_szNodeS.C k := by
 intro n
 induction n with
 | zero =>
  intro k hk
  obtain rfl : k = 0 := by omega
  exact ⟨(by intro A0_0 c0_0 l0_0 A0_1 c0_1 l0_1 A0_2 c0_2 l0_2 a1 r w hr0_0 hc0_0 hr0_1 hc0_1 hr0_2 hc0_2 h; simp [laws_szNode.f] at h), (by intro A0 c0 l0 a1 r w hr0 hc0 h; simp [laws_szNodeS.f] at h)⟩
 | succ n ih =>
  intro k hk
  cases k with
  | zero => exact ⟨(by intro A0_0 c0_0 l0_0 A0_1 c0_1 l0_1 A0_2 c0_2 l0_2 a1 r w hr0_0 hc0_0 hr0_1 hc0_1 hr0_2 hc0_2 h; simp [laws_szNode.f] at h), (by intro A0 c0 l0 a1 r w hr0 hc0 h; simp [laws_szNodeS.f] at h)⟩
  | succ j =>
   refine ⟨?_, ?_⟩
   ·intro A0_0 c0_0 l0_0 A0_1 c0_1 l0_1 A0_2 c0_2 l0_2 a1 r w hr0_0 hc0_0 hr0_1 hc0_1 hr0_2 hc0_2 h
    rw [laws_szNode.f_succ] at h
    exact laws_szNode.step j (ih j (by omega)).2 A0_0 c0_0 l0_0 A0_1 c0_1 l0_1 A0_2 c0_2 l0_2 a1 r w hr0_0 hc0_0 hr0_1 hc0_1 hr0_2 hc0_2 h
   ·intro A0 c0 l0 a1 r w hr0 hc0 h
    rw [laws_szNodeS.f_succ] at h
    exact laws_szNodeS.step j (fun i hi => (ih i (by omega)).1) A0 c0 l0 a1 r w hr0 hc0 h
theorem laws_szNode.calls (k : Nat) (A0_0 : Option Addr) (c0_0 : Nat) (l0_0 : List ByteArray) (A0_1 : Option Addr) (c0_1 : Nat) (l0_1 : List (S26)) (A0_2 : Option Addr) (c0_2 : Nat) (l0_2 : List (S83)) (a1 : Int) (r : Int) (w : World) (hr0_0 : Kd.C Kd.string w A0_0 l0_0.length l0_0) (hc0_0 : l0_0.length ≤ c0_0) (hr0_1 : Kd.C k26 w A0_1 l0_1.length l0_1) (hc0_1 : l0_1.length ≤ c0_1) (hr0_2 : Kd.C k83 w A0_2 l0_2.length l0_2) (hc0_2 : l0_2.length ≤ c0_2) (h : laws_szNode.f k l0_0 l0_1 l0_2 a1 = some r) :
  Calls Tryd.prog 6 #[.agg #[.slice A0_0 l0_0.length c0_0, .slice A0_1 l0_1.length c0_1, .slice A0_2 l0_2.length c0_2], .int .i64 a1] w fun e w' => e = .returned (.int .i64 r) ∧ Below w.heap.size w w' := (laws_szNode.both k k (Nat.le_refl _)).1 A0_0 c0_0 l0_0 A0_1 c0_1 l0_1 A0_2 c0_2 l0_2 a1 r w hr0_0 hc0_0 hr0_1 hc0_1 hr0_2 hc0_2 h
end Go.Proofs.YtggokdobijhdhaaDoor.X
