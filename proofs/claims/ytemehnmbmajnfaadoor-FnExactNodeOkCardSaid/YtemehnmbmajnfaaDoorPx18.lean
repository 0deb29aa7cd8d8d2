-- Printed by a program over the kit's print.py (mp.sh), several laws in one namespace.
import Derived.Test.YtemehnmbmajnfaaDoorPx0
import Derived.Test.YtemehnmbmajnfaaDoorS
import Derived.Test.YtemehnmbmajnfaaDoorPx7
import Derived.Test.YtemehnmbmajnfaaDoorPx16
import Derived.Test.YtemehnmbmajnfaaDoorM1
import Derived.Test.YtemehnmbmajnfaaDoorM2
import Derived.Test.YtemehnmbmajnfaaDoorM3
namespace Go.Proofs.YtemehnmbmajnfaaDoor.P
open Go.RowKit Go.Proofs.YtemehnmbmajnfaaDoor.X Go.Proofs.YtemehnmbmajnfaaDoorW.PrintWords Go.Proofs.YtemehnmbmajnfaaDoorW.PrintLast Go.Proofs.YtemehnmbmajnfaaDoorW.PrintMore
attribute [local go_sem] max2_int min2_int max_two min_two max_three min_three max_four min_four   -- for this text's walks alone
set_option linter.unusedVariables false
set_option linter.unusedSimpArgs false

/-! ### laws_FnExactNodeOk: function 3 -/
def laws_FnExactNodeOk.f (k : Nat) (l0_0 : List ByteArray) (l0_1 : List (S26)) (l0_2 : List (S79)) : Option (Bool) := (laws_szNode.f k l0_0 l0_1 l0_2 1048576).bind fun t257 => (if t257 < 0 then (some true) else ((laws_toNode.f k l0_0 l0_1 l0_2).bind fun bt258 => ((spec_NodeOk.f k bt258.1 bt258.2.1 bt258.2.2).bind fun t267 => ((laws_toNode.f k l0_0 l0_1 l0_2).bind fun bt268 => ((impl_NodeOk.f k bt268.1 bt268.2.1 bt268.2.2).bind fun t278 => (if (t278 != t267) = true then (some false) else ((laws_toNode.f k l0_0 l0_1 l0_2).bind fun bt279 => ((laws_eqNode.f k bt268.1 bt268.2.1 bt268.2.2 bt279.1 bt279.2.1 bt279.2.2).bind fun t288 => (if t288 = true then (some true) else (some false))))))))))
theorem laws_FnExactNodeOk.mono : ∀ a0 a1 a2 k, LeO (laws_FnExactNodeOk.f k a0 a1 a2) (laws_FnExactNodeOk.f (k + 1) a0 a1 a2) := by
  intro a0 a1 a2 k
  unfold laws_FnExactNodeOk.f
  repeat' first
      | (with_reducible exact impl_NodeOk.mono _ _ _ _)
      | (with_reducible exact laws_eqNode.mono _ _ _ _ _ _ _)
      | (with_reducible exact laws_szNode.mono _ _ _ _ _)
      | (with_reducible exact laws_toNode.mono _ _ _ _)
      | (with_reducible exact spec_NodeOk.mono _ _ _ _)
      | (with_reducible exact LeO.refl _)
      | (with_reducible exact LeO.none _)
      | (with_reducible refine LeO.ite ?_ ?_)
      | (with_reducible refine LeO.bind ?_ (fun _ => ?_))
      | exact impl_NodeOk.mono _ _ _ _
      | exact laws_eqNode.mono _ _ _ _ _ _ _
      | exact laws_szNode.mono _ _ _ _ _
      | exact laws_toNode.mono _ _ _ _
      | exact spec_NodeOk.mono _ _ _ _
      | exact LeO.none _
      | refine LeO.ite ?_ ?_
      | refine LeO.bind ?_ (fun _ => ?_)
set_option maxHeartbeats 8000000 in
set_option maxRecDepth 100000 in
theorem laws_FnExactNodeOk.calls (k : Nat) (A0_0 : Option Addr) (c0_0 : Nat) (l0_0 : List ByteArray) (A0_1 : Option Addr) (c0_1 : Nat) (l0_1 : List (S26)) (A0_2 : Option Addr) (c0_2 : Nat) (l0_2 : List (S79)) (r : Bool) (w : World) (hr0_0 : Kd.C Kd.string w A0_0 l0_0.length l0_0) (hc0_0 : l0_0.length ≤ c0_0) (hr0_1 : Kd.C k26 w A0_1 l0_1.length l0_1) (hc0_1 : l0_1.length ≤ c0_1) (hr0_2 : Kd.C k79 w A0_2 l0_2.length l0_2) (hc0_2 : l0_2.length ≤ c0_2) (hT : Tabs w) (h : laws_FnExactNodeOk.f k l0_0 l0_1 l0_2 = some r) :
    Calls Tryd.prog 3 #[.agg #[.slice A0_0 l0_0.length c0_0, .slice A0_1 l0_1.length c0_1, .slice A0_2 l0_2.length c0_2]] w fun e w' => e = .returned (.bool r) ∧ Below w.heap.size w w' := by
  have huz1 := Tryd.underlying26
  have huz2 := Tryd.underlying32
  have HT := Aside0.mk hT
  clear hT
  have HRz1 := Aside0.mk hr0_0
  have HCz1 := Aside0.mk hc0_0
  clear hr0_0 hc0_0
  have HRz2 := Aside0.mk hr0_1
  have HCz2 := Aside0.mk hc0_1
  clear hr0_1 hc0_1
  have HRz3 := Aside0.mk hr0_2
  have HCz3 := Aside0.mk hc0_2
  clear hr0_2 hc0_2
  have HB := Aside0.mk (Below.refl w.heap.size w)
  have H : ((laws_szNode.f k l0_0 l0_1 l0_2 1048576).bind fun t257 => (if t257 < 0 then (some true) else ((laws_toNode.f k l0_0 l0_1 l0_2).bind fun bt258 => ((spec_NodeOk.f k bt258.1 bt258.2.1 bt258.2.2).bind fun t267 => ((laws_toNode.f k l0_0 l0_1 l0_2).bind fun bt268 => ((impl_NodeOk.f k bt268.1 bt268.2.1 bt268.2.2).bind fun t278 => (if (t278 != t267) = true then (some false) else ((laws_toNode.f k l0_0 l0_1 l0_2).bind fun bt279 => ((laws_eqNode.f k bt268.1 bt268.2.1 bt268.2.2 bt279.1 bt279.2.1 bt279.2.2).bind fun t288 => (if t288 = true then (some true) else (some false))))))))))) = some r := h
  clear h
  replace H := Option.bind_eq_some_iff.mp H
  obtain ⟨tz1, Az1, H⟩ := H
  replace H : (if tz1 < 0 then (some true) else ((laws_toNode.f k l0_0 l0_1 l0_2).bind fun bt258 => ((spec_NodeOk.f k bt258.1 bt258.2.1 bt258.2.2).bind fun t267 => ((laws_toNode.f k l0_0 l0_1 l0_2).bind fun bt268 => ((impl_NodeOk.f k bt268.1 bt268.2.1 bt268.2.2).bind fun t278 => (if (t278 != t267) = true then (some false) else ((laws_toNode.f k l0_0 l0_1 l0_2).bind fun bt279 => ((laws_eqNode.f k bt268.1 bt268.2.1 bt268.2.2 bt279.1 bt279.2.1 bt279.2.2).bind fun t288 => (if t288 = true then (some true) else (some false)))))))))) = some r := H
  have Az2 := Aside0.mk Az1
  clear Az1
  by_cases cz1 : tz1 < 0
  · rw [if_pos cz1] at H
    have c3b0 : decide (tz1 < 0) = true := decide_eq_true cz1
    clear cz1
    obtain rfl := Option.some.inj H
    go_enter Tryd.func3, Tryd.ntmps3
    go_wp2_with (first | ((with_reducible refine gate_dst (N := 1) rfl ?_); refine box_event ?hg (N := 1) ?hd (cs := #[.slice A0_0 l0_0.length c0_0, .slice A0_1 l0_1.length c0_1, .slice A0_2 l0_2.length c0_2]) (t := 26) ?hr ?_; (case hd => rfl); (case hg => rfl); (case hr => first | (go_simp; done) | (go_simp; rfl)); intro gbz1 hg wz1 hbox hb; have nz1 := Aside0.mk (below_step be_ hb); have nz2 := Aside0.mk (hbox); have nz3 := Aside0.mk ((sz_ : w.heap.size ≤ gbz1)); have nz4 := Aside0.mk ((sz_ : w.heap.size ≤ gbz1)); clear HB; have HB := nz1; have BKz1 := nz2; have GWz1 := nz3; have GEz1 := nz4; clear nz1 nz2 nz3 nz4; clear hb hbox hg; have hczz1 : wz1.cell? ⟨gbz1, 0, none⟩ = some (.slice A0_0 l0_0.length c0_0) := (blk_cell BKz1.out 0).trans rfl; have hczz2 : wz1.cell? ⟨gbz1, 1, none⟩ = some (.slice A0_1 l0_1.length c0_1) := (blk_cell BKz1.out 1).trans rfl; have hczz3 : wz1.cell? ⟨gbz1, 2, none⟩ = some (.slice A0_2 l0_2.length c0_2) := (blk_cell BKz1.out 2).trans rfl; have hfzz1 := blk_frozen BKz1.out 0; have hfzz2 := blk_frozen BKz1.out 1; have hfzz3 := blk_frozen BKz1.out 2) | ((with_reducible refine gate_callee (f := 6) rfl ?_); refine goesL_ (some 9) rfl rfl Tryd.func6 (by kernel_rfl) rfl #[.agg #[.slice A0_0 l0_0.length c0_0, .slice A0_1 l0_1.length c0_1, .slice A0_2 l0_2.length c0_2], .int .i64 1048576] rfl ar_ ?_; (with_reducible refine (laws_szNode.calls k _ _ l0_0 _ _ l0_1 _ _ l0_2 1048576 tz1 _ ?side1 ?side2 ?side3 ?side4 ?side5 ?side6 Az2.out).mono ?_); (case side1 => exact Kd.C_below HRz1.out be_); (case side2 => exact HCz1.out); (case side3 => exact Kd.C_below HRz2.out be_); (case side4 => exact HCz2.out); (case side5 => exact Kd.C_below HRz3.out be_); (case side6 => exact HCz3.out); rintro e wz2 ⟨rfl, hb⟩; refine ⟨_, rfl, ?_⟩; have nz1 := Aside0.mk (blk_below (g := gbz1) (o := .cells #[.slice A0_0 l0_0.length c0_0, .slice A0_1 l0_1.length c0_1, .slice A0_2 l0_2.length c0_2] 26 (0, 0)) bk_ hb); have nz2 := Aside0.mk (below_step be_ hb); clear BKz1; clear HB; have BKz1 := nz1; have HB := nz2; clear nz1 nz2; (try clear hb); (try clear hb2); (try clear hk); (try clear hi)))
    go_ret
    exact ⟨by first | rfl | (simp [errW_none, errW_some] <;> rfl) | (simp [*, errW_none, errW_some] <;> rfl), be_⟩
  rw [if_neg cz1] at H
  have c3b0 : decide (tz1 < 0) = false := decide_eq_false cz1
  clear cz1
  replace H := Option.bind_eq_some_iff.mp H
  obtain ⟨⟨tz2, tz3, tz4⟩, Az3, H⟩ := H
  replace H : ((spec_NodeOk.f k tz2 tz3 tz4).bind fun t267 => ((laws_toNode.f k l0_0 l0_1 l0_2).bind fun bt268 => ((impl_NodeOk.f k bt268.1 bt268.2.1 bt268.2.2).bind fun t278 => (if (t278 != t267) = true then (some false) else ((laws_toNode.f k l0_0 l0_1 l0_2).bind fun bt279 => ((laws_eqNode.f k bt268.1 bt268.2.1 bt268.2.2 bt279.1 bt279.2.1 bt279.2.2).bind fun t288 => (if t288 = true then (some true) else (some false)))))))) = some r := H
  have Az4 := Aside0.mk Az3
  clear Az3
  replace H := Option.bind_eq_some_iff.mp H
  obtain ⟨tz5, Az5, H⟩ := H
  replace H : ((laws_toNode.f k l0_0 l0_1 l0_2).bind fun bt268 => ((impl_NodeOk.f k bt268.1 bt268.2.1 bt268.2.2).bind fun t278 => (if (t278 != tz5) = true then (some false) else ((laws_toNode.f k l0_0 l0_1 l0_2).bind fun bt279 => ((laws_eqNode.f k bt268.1 bt268.2.1 bt268.2.2 bt279.1 bt279.2.1 bt279.2.2).bind fun t288 => (if t288 = true then (some true) else (some false))))))) = some r := H
  have Az6 := Aside0.mk Az5
  clear Az5
  replace H := Option.bind_eq_some_iff.mp H
  obtain ⟨⟨tz6, tz7, tz8⟩, Az7, H⟩ := H
  replace H : ((impl_NodeOk.f k tz6 tz7 tz8).bind fun t278 => (if (t278 != tz5) = true then (some false) else ((laws_toNode.f k l0_0 l0_1 l0_2).bind fun bt279 => ((laws_eqNode.f k tz6 tz7 tz8 bt279.1 bt279.2.1 bt279.2.2).bind fun t288 => (if t288 = true then (some true) else (some false)))))) = some r := H
  have Az8 := Aside0.mk Az7
  clear Az7
  replace H := Option.bind_eq_some_iff.mp H
  obtain ⟨tz9, Az9, H⟩ := H
  replace H : (if (tz9 != tz5) = true then (some false) else ((laws_toNode.f k l0_0 l0_1 l0_2).bind fun bt279 => ((laws_eqNode.f k tz6 tz7 tz8 bt279.1 bt279.2.1 bt279.2.2).bind fun t288 => (if t288 = true then (some true) else (some false))))) = some r := H
  have Az10 := Aside0.mk Az9
  clear Az9
  by_cases cz2 : (tz9 != tz5) = true
  · rw [if_pos cz2] at H
    have c11b0 : (tz9 != tz5) = true := cz2
    (try (have c11b1 : decide (tz9 = tz5) = false := by simpa using cz2))
    (try (have c11b2 : (tz9 == tz5) = false := by simpa using cz2))
    (try (have c11b3 : ¬ (tz9 = tz5) := by simpa using cz2))
    clear cz2
    obtain rfl := Option.some.inj H
    go_enter Tryd.func3, Tryd.ntmps3
    go_wp2_with (first | ((with_reducible refine gate_dst (N := 1) rfl ?_); refine box_event ?hg (N := 1) ?hd (cs := #[.slice A0_0 l0_0.length c0_0, .slice A0_1 l0_1.length c0_1, .slice A0_2 l0_2.length c0_2]) (t := 26) ?hr ?_; (case hd => rfl); (case hg => rfl); (case hr => first | (go_simp; done) | (go_simp; rfl)); intro gbz1 hg wz1 hbox hb; have nz1 := Aside0.mk (below_step be_ hb); have nz2 := Aside0.mk (hbox); have nz3 := Aside0.mk ((sz_ : w.heap.size ≤ gbz1)); have nz4 := Aside0.mk ((sz_ : w.heap.size ≤ gbz1)); clear HB; have HB := nz1; have BKz1 := nz2; have GWz1 := nz3; have GEz1 := nz4; clear nz1 nz2 nz3 nz4; clear hb hbox hg; have hczz1 : wz1.cell? ⟨gbz1, 0, none⟩ = some (.slice A0_0 l0_0.length c0_0) := (blk_cell BKz1.out 0).trans rfl; have hczz2 : wz1.cell? ⟨gbz1, 1, none⟩ = some (.slice A0_1 l0_1.length c0_1) := (blk_cell BKz1.out 1).trans rfl; have hczz3 : wz1.cell? ⟨gbz1, 2, none⟩ = some (.slice A0_2 l0_2.length c0_2) := (blk_cell BKz1.out 2).trans rfl; have hfzz1 := blk_frozen BKz1.out 0; have hfzz2 := blk_frozen BKz1.out 1; have hfzz3 := blk_frozen BKz1.out 2) | ((with_reducible refine gate_callee (f := 6) rfl ?_); refine goesL_ (some 9) rfl rfl Tryd.func6 (by kernel_rfl) rfl #[.agg #[.slice A0_0 l0_0.length c0_0, .slice A0_1 l0_1.length c0_1, .slice A0_2 l0_2.length c0_2], .int .i64 1048576] rfl ar_ ?_; (with_reducible refine (laws_szNode.calls k _ _ l0_0 _ _ l0_1 _ _ l0_2 1048576 tz1 _ ?side1 ?side2 ?side3 ?side4 ?side5 ?side6 Az2.out).mono ?_); (case side1 => exact Kd.C_below HRz1.out be_); (case side2 => exact HCz1.out); (case side3 => exact Kd.C_below HRz2.out be_); (case side4 => exact HCz2.out); (case side5 => exact Kd.C_below HRz3.out be_); (case side6 => exact HCz3.out); rintro e wz2 ⟨rfl, hb⟩; refine ⟨_, rfl, ?_⟩; have nz1 := Aside0.mk (blk_below (g := gbz1) (o := .cells #[.slice A0_0 l0_0.length c0_0, .slice A0_1 l0_1.length c0_1, .slice A0_2 l0_2.length c0_2] 26 (0, 0)) bk_ hb); have nz2 := Aside0.mk (below_step be_ hb); clear BKz1; clear HB; have BKz1 := nz1; have HB := nz2; clear nz1 nz2; (try clear hb); (try clear hb2); (try clear hk); (try clear hi); have hczz4 : wz2.cell? ⟨gbz1, 0, none⟩ = some (.slice A0_0 l0_0.length c0_0) := (blk_cell BKz1.out 0).trans rfl; have hczz5 : wz2.cell? ⟨gbz1, 1, none⟩ = some (.slice A0_1 l0_1.length c0_1) := (blk_cell BKz1.out 1).trans rfl; have hczz6 : wz2.cell? ⟨gbz1, 2, none⟩ = some (.slice A0_2 l0_2.length c0_2) := (blk_cell BKz1.out 2).trans rfl; have hfzz4 := blk_frozen BKz1.out 0; have hfzz5 := blk_frozen BKz1.out 1; have hfzz6 := blk_frozen BKz1.out 2) | ((with_reducible refine gate_callee (f := 8) rfl ?_); refine goesL_ (some 13) rfl rfl Tryd.func8 (by kernel_rfl) rfl #[.agg #[.slice A0_0 l0_0.length c0_0, .slice A0_1 l0_1.length c0_1, .slice A0_2 l0_2.length c0_2]] rfl ar_ ?_; (with_reducible refine (laws_toNode.calls k _ _ l0_0 _ _ l0_1 _ _ l0_2 tz2 tz3 tz4 _ ?side1 ?side2 ?side3 ?side4 ?side5 ?side6 Az4.out).mono ?_); (case side1 => exact Kd.C_below HRz1.out be_); (case side2 => exact HCz1.out); (case side3 => exact Kd.C_below HRz2.out be_); (case side4 => exact HCz2.out); (case side5 => exact Kd.C_below HRz3.out be_); (case side6 => exact HCz3.out); rintro e wz3 ⟨vz1, vz2, vz3, rfl, hoz1, hoz2, hoz3, hb⟩; refine ⟨_, rfl, ?_⟩; have nz1 := Aside0.mk (Kd.R_lower hoz1 (below_size be_)); have nz2 := Aside0.mk (Kd.R_lower hoz2 (below_size be_)); have nz3 := Aside0.mk (Kd.R_lower hoz3 (below_size be_)); have nz4 := Aside0.mk (blk_below (g := gbz1) (o := .cells #[.slice A0_0 l0_0.length c0_0, .slice A0_1 l0_1.length c0_1, .slice A0_2 l0_2.length c0_2] 26 (0, 0)) bk_ hb); have nz5 := Aside0.mk (below_step be_ hb); clear BKz1; clear HB; have HOz1 := nz1; have HOz2 := nz2; have HOz3 := nz3; have BKz1 := nz4; have HB := nz5; clear nz1 nz2 nz3 nz4 nz5; (try clear hb); (try clear hb2); (try clear hk); (try clear hi); (try clear hoz1); (try clear hoz2); (try clear hoz3); obtain ⟨Aoz1, coz1, eoz1⟩ := Kd.R_slice HOz1.out; subst eoz1; obtain ⟨Aoz2, coz2, eoz2⟩ := Kd.R_slice HOz2.out; subst eoz2; obtain ⟨Aoz3, coz3, eoz3⟩ := Kd.R_slice HOz3.out; subst eoz3) | ((with_reducible refine gate_callee (f := 7) rfl ?_); refine goesL_ (some 14) rfl rfl Tryd.func7 (by kernel_rfl) rfl #[.agg #[.slice Aoz1 tz2.length coz1, .slice Aoz2 tz3.length coz2, .slice Aoz3 tz4.length coz3]] rfl ar_ ?_; (with_reducible refine (spec_NodeOk.calls k _ _ tz2 _ _ tz3 _ _ tz4 tz5 _ ?side1 ?side2 ?side3 ?side4 ?side5 ?side6 Az6.out).mono ?_); (case side1 => repeat (first | exact (Kd.R_reads' HOz1.out).2.2 | (with_reducible refine Kd.C_alloc ?_ _) | (with_reducible refine Kd.C_drewN ?_ _) | (with_reducible refine Kd.C_drew ?_))); (case side2 => exact (Kd.R_reads' HOz1.out).2.1); (case side3 => repeat (first | exact (Kd.R_reads' HOz2.out).2.2 | (with_reducible refine Kd.C_alloc ?_ _) | (with_reducible refine Kd.C_drewN ?_ _) | (with_reducible refine Kd.C_drew ?_))); (case side4 => exact (Kd.R_reads' HOz2.out).2.1); (case side5 => repeat (first | exact (Kd.R_reads' HOz3.out).2.2 | (with_reducible refine Kd.C_alloc ?_ _) | (with_reducible refine Kd.C_drewN ?_ _) | (with_reducible refine Kd.C_drew ?_))); (case side6 => exact (Kd.R_reads' HOz3.out).2.1); rintro e wz4 ⟨rfl, hb⟩; refine ⟨_, rfl, ?_⟩; have nz1 := Aside0.mk (Kd.R_below (by (with_reducible repeat (first | apply Kd.R_alloc | apply Kd.R_drewN | apply Kd.R_drew)); exact HOz1.out) hb); have nz2 := Aside0.mk (Kd.R_below (by (with_reducible repeat (first | apply Kd.R_alloc | apply Kd.R_drewN | apply Kd.R_drew)); exact HOz2.out) hb); have nz3 := Aside0.mk (Kd.R_below (by (with_reducible repeat (first | apply Kd.R_alloc | apply Kd.R_drewN | apply Kd.R_drew)); exact HOz3.out) hb); have nz4 := Aside0.mk (blk_below (g := gbz1) (o := .cells #[.slice A0_0 l0_0.length c0_0, .slice A0_1 l0_1.length c0_1, .slice A0_2 l0_2.length c0_2] 26 (0, 0)) bk_ hb); have nz5 := Aside0.mk (below_step be_ hb); clear HOz1; clear HOz2; clear HOz3; clear BKz1; clear HB; have HOz1 := nz1; have HOz2 := nz2; have HOz3 := nz3; have BKz1 := nz4; have HB := nz5; clear nz1 nz2 nz3 nz4 nz5; (try clear hb); (try clear hb2); (try clear hk); (try clear hi); have hczz7 : wz4.cell? ⟨gbz1, 0, none⟩ = some (.slice A0_0 l0_0.length c0_0) := (blk_cell BKz1.out 0).trans rfl; have hczz8 : wz4.cell? ⟨gbz1, 1, none⟩ = some (.slice A0_1 l0_1.length c0_1) := (blk_cell BKz1.out 1).trans rfl; have hczz9 : wz4.cell? ⟨gbz1, 2, none⟩ = some (.slice A0_2 l0_2.length c0_2) := (blk_cell BKz1.out 2).trans rfl; have hfzz7 := blk_frozen BKz1.out 0; have hfzz8 := blk_frozen BKz1.out 1; have hfzz9 := blk_frozen BKz1.out 2) | ((with_reducible refine gate_callee (f := 8) rfl ?_); refine goesL_ (some 16) rfl rfl Tryd.func8 (by kernel_rfl) rfl #[.agg #[.slice A0_0 l0_0.length c0_0, .slice A0_1 l0_1.length c0_1, .slice A0_2 l0_2.length c0_2]] rfl ar_ ?_; (with_reducible refine (laws_toNode.calls k _ _ l0_0 _ _ l0_1 _ _ l0_2 tz6 tz7 tz8 _ ?side1 ?side2 ?side3 ?side4 ?side5 ?side6 Az8.out).mono ?_); (case side1 => exact Kd.C_below HRz1.out be_); (case side2 => exact HCz1.out); (case side3 => exact Kd.C_below HRz2.out be_); (case side4 => exact HCz2.out); (case side5 => exact Kd.C_below HRz3.out be_); (case side6 => exact HCz3.out); rintro e wz5 ⟨vz4, vz5, vz6, rfl, hoz1, hoz2, hoz3, hb⟩; refine ⟨_, rfl, ?_⟩; have nz1 := Aside0.mk (Kd.R_elder' (by (with_reducible repeat (first | apply Kd.R_alloc | apply Kd.R_drewN | apply Kd.R_drew)); exact HOz1.out) (Kd.R_base hoz1) hb); have nz2 := Aside0.mk (Kd.R_mono (Kd.R_told (Kd.R_told (Kd.R_told (Kd.R_old (by (with_reducible repeat (first | apply Kd.R_alloc | apply Kd.R_drewN | apply Kd.R_drew)); exact HOz2.out) hb) (Kd.R_base hoz1)) (Kd.R_base hoz2)) (Kd.R_base hoz3)) (fun _ h_ => h_.1)); have nz3 := Aside0.mk (Kd.R_elder' (by (with_reducible repeat (first | apply Kd.R_alloc | apply Kd.R_drewN | apply Kd.R_drew)); exact HOz3.out) (Kd.R_base hoz3) hb); have nz4 := Aside0.mk (Kd.R_lower (Kd.R_new' hoz1 (Kd.R_lt (by (with_reducible repeat (first | apply Kd.R_alloc | apply Kd.R_drewN | apply Kd.R_drew)); exact HOz1.out))) (below_size be_)); have nz5 := Aside0.mk (Kd.R_lower (Kd.R_new' (Kd.R_new' (Kd.R_new' hoz2 (Kd.R_lt (by (with_reducible repeat (first | apply Kd.R_alloc | apply Kd.R_drewN | apply Kd.R_drew)); exact HOz1.out))) (Kd.R_lt (by (with_reducible repeat (first | apply Kd.R_alloc | apply Kd.R_drewN | apply Kd.R_drew)); exact HOz2.out))) (Kd.R_lt (by (with_reducible repeat (first | apply Kd.R_alloc | apply Kd.R_drewN | apply Kd.R_drew)); exact HOz3.out))) (below_size be_)); have nz6 := Aside0.mk (Kd.R_lower (Kd.R_new' hoz3 (Kd.R_lt (by (with_reducible repeat (first | apply Kd.R_alloc | apply Kd.R_drewN | apply Kd.R_drew)); exact HOz3.out))) (below_size be_)); have nz7 := Aside0.mk (blk_below (g := gbz1) (o := .cells #[.slice A0_0 l0_0.length c0_0, .slice A0_1 l0_1.length c0_1, .slice A0_2 l0_2.length c0_2] 26 (0, 0)) bk_ hb); have nz8 := Aside0.mk (below_step be_ hb); clear HOz1; clear HOz2; clear HOz3; clear BKz1; clear HB; have HOz1 := nz1; have HOz2 := nz2; have HOz3 := nz3; have HOz4 := nz4; have HOz5 := nz5; have HOz6 := nz6; have BKz1 := nz7; have HB := nz8; clear nz1 nz2 nz3 nz4 nz5 nz6 nz7 nz8; (try clear hb); (try clear hb2); (try clear hk); (try clear hi); (try clear hoz1); (try clear hoz2); (try clear hoz3)) | ((with_reducible refine gate_dst (N := 5) rfl ?_); refine box_event ?hg (N := 5) ?hd (cs := #[.slice none 0 0, .slice none 0 0, .slice none 0 0]) (t := 32) ?hr ?_; (case hd => rfl); (case hg => rfl); (case hr => first | (go_simp; done) | (go_simp; rfl)); intro gbz2 hg wz6 hbox hb; have nz1 := Aside0.mk (Kd.R_below (by (with_reducible repeat (first | apply Kd.R_alloc | apply Kd.R_drewN | apply Kd.R_drew)); exact HOz1.out) hb); have nz2 := Aside0.mk (Kd.R_below (Kd.R_elderB (by (with_reducible repeat (first | apply Kd.R_alloc | apply Kd.R_drewN | apply Kd.R_drew)); exact HOz2.out) gbz2 (Nat.le_of_eq hg.symm)) hb); have nz3 := Aside0.mk (Kd.R_below (by (with_reducible repeat (first | apply Kd.R_alloc | apply Kd.R_drewN | apply Kd.R_drew)); exact HOz3.out) hb); have nz4 := Aside0.mk (Kd.R_below (by (with_reducible repeat (first | apply Kd.R_alloc | apply Kd.R_drewN | apply Kd.R_drew)); exact HOz4.out) hb); have nz5 := Aside0.mk (Kd.R_below (Kd.R_elderB (by (with_reducible repeat (first | apply Kd.R_alloc | apply Kd.R_drewN | apply Kd.R_drew)); exact HOz5.out) gbz2 (Nat.le_of_eq hg.symm)) hb); have nz6 := Aside0.mk (Kd.R_below (by (with_reducible repeat (first | apply Kd.R_alloc | apply Kd.R_drewN | apply Kd.R_drew)); exact HOz6.out) hb); have nz7 := Aside0.mk (blk_below (g := gbz1) (o := .cells #[.slice A0_0 l0_0.length c0_0, .slice A0_1 l0_1.length c0_1, .slice A0_2 l0_2.length c0_2] 26 (0, 0)) bk_ hb); have nz8 := Aside0.mk (below_step be_ hb); have nz9 := Aside0.mk (hbox); have nz10 := Aside0.mk ((sz_ : w.heap.size ≤ gbz2)); have nz11 := Aside0.mk ((sz_ : w.heap.size ≤ gbz2)); have nz12 := Aside0.mk ((by rw [hg]; exact Nat.ne_of_lt (blk_lt (g := gbz1) (o := .cells #[.slice A0_0 l0_0.length c0_0, .slice A0_1 l0_1.length c0_1, .slice A0_2 l0_2.length c0_2] 26 (0, 0)) bk_) : gbz1 ≠ gbz2)); have nz13 := Aside0.mk ((by rw [hg]; exact Nat.ne_of_gt (blk_lt (g := gbz1) (o := .cells #[.slice A0_0 l0_0.length c0_0, .slice A0_1 l0_1.length c0_1, .slice A0_2 l0_2.length c0_2] 26 (0, 0)) bk_) : gbz2 ≠ gbz1)); clear HOz1; clear HOz2; clear HOz3; clear HOz4; clear HOz5; clear HOz6; clear BKz1; clear HB; have HOz1 := nz1; have HOz2 := nz2; have HOz3 := nz3; have HOz4 := nz4; have HOz5 := nz5; have HOz6 := nz6; have BKz1 := nz7; have HB := nz8; have BKz2 := nz9; have GWz2 := nz10; have GEz2 := nz11; have NBz1 := nz12; have NBz2 := nz13; clear nz1 nz2 nz3 nz4 nz5 nz6 nz7 nz8 nz9 nz10 nz11 nz12 nz13; clear hb hbox hg; obtain ⟨Aoz4, coz4, eoz4⟩ := Kd.R_slice HOz4.out; subst eoz4; have hnbz1 := NBz2.out; have hncz1 := NBz1.out; have hczz10 : wz6.cell? ⟨gbz2, 0, none⟩ = some (.slice none 0 0) := (blk_cell BKz2.out 0).trans rfl; have hczz11 : wz6.cell? ⟨gbz2, 1, none⟩ = some (.slice none 0 0) := (blk_cell BKz2.out 1).trans rfl; have hczz12 : wz6.cell? ⟨gbz2, 2, none⟩ = some (.slice none 0 0) := (blk_cell BKz2.out 2).trans rfl; have hfzz10 := blk_frozen BKz2.out 0; have hfzz11 := blk_frozen BKz2.out 1; have hfzz12 := blk_frozen BKz2.out 2; obtain ⟨Aoz5, coz5, eoz5⟩ := Kd.R_slice HOz5.out; subst eoz5; obtain ⟨Aoz6, coz6, eoz6⟩ := Kd.R_slice HOz6.out; subst eoz6) | ((with_reducible refine gate_callee (f := 9) rfl ?_); refine goesL_ (some 18) rfl rfl Tryd.func9 (by kernel_rfl) rfl #[.agg #[.slice Aoz4 tz6.length coz4, .slice Aoz5 tz7.length coz5, .slice Aoz6 tz8.length coz6]] rfl ar_ ?_; (with_reducible refine (impl_NodeOk.calls k _ _ tz6 _ _ tz7 _ _ tz8 tz9 _ ?side1 ?side2 ?side3 ?side4 ?side5 ?side6 ?side7 Az10.out).mono ?_); (case side1 => refine (Kd.R_reads' (e := 9) (base := w.heap.size) (ok := fun k_ => (True ∧ some k_ ≠ (.slice Aoz1 tz2.length coz1 : Value).ownBlock)) (n := tz6.length) (c := coz4) ?_).2.2; exact (by (with_reducible repeat (first | apply Kd.R_alloc | apply Kd.R_drewN | apply Kd.R_drew)); exact (Kd.R_mono (Kd.R_far (p := ⟨gbz2, 2, none⟩) (Kd.R_far (p := ⟨gbz2, 1, none⟩) (Kd.R_far (p := ⟨gbz2, 0, none⟩) (Kd.R_types HOz4.out BKz2.out (by decide)) (fun _ hk => hk.2) (.slice Aoz4 tz6.length coz4)) (fun _ hk => hk.2) (.slice Aoz5 tz7.length coz5)) (fun _ hk => hk.2) (.slice Aoz6 tz8.length coz6)) (fun _ h_ => h_.1)))); (case side2 => exact (Kd.R_reads' HOz4.out).2.1); (case side3 => refine (Kd.R_reads' (e := 32) (base := w.heap.size) (ok := fun k_ => (((((some k_ ≠ (.slice Aoz4 tz6.length coz4 : Value).ownBlock ∧ some k_ ≠ (.slice Aoz6 tz8.length coz6 : Value).ownBlock) ∧ some k_ ≠ (.slice Aoz1 tz2.length coz1 : Value).ownBlock) ∧ some k_ ≠ (.slice Aoz2 tz3.length coz2 : Value).ownBlock) ∧ some k_ ≠ (.slice Aoz3 tz4.length coz3 : Value).ownBlock) ∧ k_ ≠ gbz2)) (n := tz7.length) (c := coz5) ?_).2.2; exact (by (with_reducible repeat (first | apply Kd.R_alloc | apply Kd.R_drewN | apply Kd.R_drew)); exact (Kd.R_mono (Kd.R_far (p := ⟨gbz2, 2, none⟩) (Kd.R_far (p := ⟨gbz2, 1, none⟩) (Kd.R_far (p := ⟨gbz2, 0, none⟩) (Kd.R_mono HOz5.out (fun k_ hk => (⟨hk, hk.2⟩ : _ ∧ k_ ≠ gbz2))) (fun _ hk => hk.2) (.slice Aoz4 tz6.length coz4)) (fun _ hk => hk.2) (.slice Aoz5 tz7.length coz5)) (fun _ hk => hk.2) (.slice Aoz6 tz8.length coz6)) (fun _ h_ => h_.1)))); (case side4 => exact (Kd.R_reads' HOz5.out).2.1); (case side5 => refine (Kd.R_reads' (e := 81) (base := w.heap.size) (ok := fun k_ => (True ∧ some k_ ≠ (.slice Aoz3 tz4.length coz3 : Value).ownBlock)) (n := tz8.length) (c := coz6) ?_).2.2; exact (by (with_reducible repeat (first | apply Kd.R_alloc | apply Kd.R_drewN | apply Kd.R_drew)); exact (Kd.R_mono (Kd.R_far (p := ⟨gbz2, 2, none⟩) (Kd.R_far (p := ⟨gbz2, 1, none⟩) (Kd.R_far (p := ⟨gbz2, 0, none⟩) (Kd.R_types HOz6.out BKz2.out (by decide)) (fun _ hk => hk.2) (.slice Aoz4 tz6.length coz4)) (fun _ hk => hk.2) (.slice Aoz5 tz7.length coz5)) (fun _ hk => hk.2) (.slice Aoz6 tz8.length coz6)) (fun _ h_ => h_.1)))); (case side6 => exact (Kd.R_reads' HOz6.out).2.1); (case side7 => exact Tabs.below HT.out be_); rintro e wz7 ⟨rfl, hb⟩; refine ⟨_, rfl, ?_⟩; have nz1 := Aside0.mk (Kd.R_below (by (with_reducible repeat (first | apply Kd.R_alloc | apply Kd.R_drewN | apply Kd.R_drew)); exact (Kd.R_mono (Kd.R_far (p := ⟨gbz2, 2, none⟩) (Kd.R_far (p := ⟨gbz2, 1, none⟩) (Kd.R_far (p := ⟨gbz2, 0, none⟩) (Kd.R_types HOz1.out BKz2.out (by decide)) (fun _ hk => hk.2) (.slice Aoz4 tz6.length coz4)) (fun _ hk => hk.2) (.slice Aoz5 tz7.length coz5)) (fun _ hk => hk.2) (.slice Aoz6 tz8.length coz6)) (fun _ h_ => h_.1))) hb); have nz2 := Aside0.mk (Kd.R_below (by (with_reducible repeat (first | apply Kd.R_alloc | apply Kd.R_drewN | apply Kd.R_drew)); exact (Kd.R_mono (Kd.R_far (p := ⟨gbz2, 2, none⟩) (Kd.R_far (p := ⟨gbz2, 1, none⟩) (Kd.R_far (p := ⟨gbz2, 0, none⟩) (Kd.R_mono HOz2.out (fun k_ hk => (⟨hk, hk.2⟩ : _ ∧ k_ ≠ gbz2))) (fun _ hk => hk.2) (.slice Aoz4 tz6.length coz4)) (fun _ hk => hk.2) (.slice Aoz5 tz7.length coz5)) (fun _ hk => hk.2) (.slice Aoz6 tz8.length coz6)) (fun _ h_ => h_.1))) hb); have nz3 := Aside0.mk (Kd.R_below (by (with_reducible repeat (first | apply Kd.R_alloc | apply Kd.R_drewN | apply Kd.R_drew)); exact (Kd.R_mono (Kd.R_far (p := ⟨gbz2, 2, none⟩) (Kd.R_far (p := ⟨gbz2, 1, none⟩) (Kd.R_far (p := ⟨gbz2, 0, none⟩) (Kd.R_types HOz3.out BKz2.out (by decide)) (fun _ hk => hk.2) (.slice Aoz4 tz6.length coz4)) (fun _ hk => hk.2) (.slice Aoz5 tz7.length coz5)) (fun _ hk => hk.2) (.slice Aoz6 tz8.length coz6)) (fun _ h_ => h_.1))) hb); have nz4 := Aside0.mk (Kd.R_below (by (with_reducible repeat (first | apply Kd.R_alloc | apply Kd.R_drewN | apply Kd.R_drew)); exact (Kd.R_mono (Kd.R_far (p := ⟨gbz2, 2, none⟩) (Kd.R_far (p := ⟨gbz2, 1, none⟩) (Kd.R_far (p := ⟨gbz2, 0, none⟩) (Kd.R_types HOz4.out BKz2.out (by decide)) (fun _ hk => hk.2) (.slice Aoz4 tz6.length coz4)) (fun _ hk => hk.2) (.slice Aoz5 tz7.length coz5)) (fun _ hk => hk.2) (.slice Aoz6 tz8.length coz6)) (fun _ h_ => h_.1))) hb); have nz5 := Aside0.mk (Kd.R_below (by (with_reducible repeat (first | apply Kd.R_alloc | apply Kd.R_drewN | apply Kd.R_drew)); exact (Kd.R_mono (Kd.R_far (p := ⟨gbz2, 2, none⟩) (Kd.R_far (p := ⟨gbz2, 1, none⟩) (Kd.R_far (p := ⟨gbz2, 0, none⟩) (Kd.R_mono HOz5.out (fun k_ hk => (⟨hk, hk.2⟩ : _ ∧ k_ ≠ gbz2))) (fun _ hk => hk.2) (.slice Aoz4 tz6.length coz4)) (fun _ hk => hk.2) (.slice Aoz5 tz7.length coz5)) (fun _ hk => hk.2) (.slice Aoz6 tz8.length coz6)) (fun _ h_ => h_.1))) hb); have nz6 := Aside0.mk (Kd.R_below (by (with_reducible repeat (first | apply Kd.R_alloc | apply Kd.R_drewN | apply Kd.R_drew)); exact (Kd.R_mono (Kd.R_far (p := ⟨gbz2, 2, none⟩) (Kd.R_far (p := ⟨gbz2, 1, none⟩) (Kd.R_far (p := ⟨gbz2, 0, none⟩) (Kd.R_types HOz6.out BKz2.out (by decide)) (fun _ hk => hk.2) (.slice Aoz4 tz6.length coz4)) (fun _ hk => hk.2) (.slice Aoz5 tz7.length coz5)) (fun _ hk => hk.2) (.slice Aoz6 tz8.length coz6)) (fun _ h_ => h_.1))) hb); have nz7 := Aside0.mk (blk_below (g := gbz1) (o := .cells #[.slice A0_0 l0_0.length c0_0, .slice A0_1 l0_1.length c0_1, .slice A0_2 l0_2.length c0_2] 26 (0, 0)) (by (with_reducible repeat (first | refine blk_drewN ?_ _ | refine blk_drew ?_ | refine blk_alloc ?_ _)); refine blk_far ?_ NBz1.out _; (with_reducible repeat (first | refine blk_drewN ?_ _ | refine blk_drew ?_ | refine blk_alloc ?_ _)); refine blk_far ?_ NBz1.out _; (with_reducible repeat (first | refine blk_drewN ?_ _ | refine blk_drew ?_ | refine blk_alloc ?_ _)); refine blk_far ?_ NBz1.out _; (with_reducible repeat (first | refine blk_drewN ?_ _ | refine blk_drew ?_ | refine blk_alloc ?_ _)); exact BKz1.out) hb); have nz8 := Aside0.mk (blk_below (g := gbz2) (o := .cells #[.slice Aoz4 tz6.length coz4, .slice Aoz5 tz7.length coz5, .slice Aoz6 tz8.length coz6] 32 (0, 0)) (by (with_reducible repeat (first | refine blk_drewN ?_ _ | refine blk_drew ?_ | refine blk_alloc ?_ _)); refine blk_put (cs := #[.slice Aoz4 tz6.length coz4, .slice Aoz5 tz7.length coz5, .slice none 0 0]) ?_ 2 _ rfl; (with_reducible repeat (first | refine blk_drewN ?_ _ | refine blk_drew ?_ | refine blk_alloc ?_ _)); refine blk_put (cs := #[.slice Aoz4 tz6.length coz4, .slice none 0 0, .slice none 0 0]) ?_ 1 _ rfl; (with_reducible repeat (first | refine blk_drewN ?_ _ | refine blk_drew ?_ | refine blk_alloc ?_ _)); refine blk_put (cs := #[.slice none 0 0, .slice none 0 0, .slice none 0 0]) ?_ 0 _ rfl; (with_reducible repeat (first | refine blk_drewN ?_ _ | refine blk_drew ?_ | refine blk_alloc ?_ _)); exact BKz2.out) hb); have nz9 := Aside0.mk (below_step be_ hb); clear HOz1; clear HOz2; clear HOz3; clear HOz4; clear HOz5; clear HOz6; clear BKz1; clear BKz2; clear HB; have HOz1 := nz1; have HOz2 := nz2; have HOz3 := nz3; have HOz4 := nz4; have HOz5 := nz5; have HOz6 := nz6; have BKz1 := nz7; have BKz2 := nz8; have HB := nz9; clear nz1 nz2 nz3 nz4 nz5 nz6 nz7 nz8 nz9; (try clear hb); (try clear hb2); (try clear hk); (try clear hi)))
    go_ret
    exact ⟨by first | rfl | (simp [errW_none, errW_some] <;> rfl) | (simp [*, errW_none, errW_some] <;> rfl), be_⟩
  rw [if_neg cz2] at H
  have c11b0 : (tz9 != tz5) = false := by simpa using cz2
  (try (have c11b1 : decide (tz9 = tz5) = true := by simpa using cz2))
  (try (have c11b2 : (tz9 == tz5) = true := by simpa using cz2))
  clear cz2
  replace H := Option.bind_eq_some_iff.mp H
  obtain ⟨⟨tz10, tz11, tz12⟩, Az11, H⟩ := H
  replace H : ((laws_eqNode.f k tz6 tz7 tz8 tz10 tz11 tz12).bind fun t288 => (if t288 = true then (some true) else (some false))) = some r := H
  have Az12 := Aside0.mk Az11
  clear Az11
  replace H := Option.bind_eq_some_iff.mp H
  obtain ⟨tz13, Az13, H⟩ := H
  replace H : (if tz13 = true then (some true) else (some false)) = some r := H
  have Az14 := Aside0.mk Az13
  clear Az13
  by_cases cz3 : tz13 = true
  · subst cz3
    have Hz1 : (some true) = some r := by rw [if_pos rfl] at H; exact H
    clear H
    have H := Hz1
    clear Hz1
    obtain rfl := Option.some.inj H
    go_enter Tryd.func3, Tryd.ntmps3
    try go_wp2_with (first | ((with_reducible refine gate_dst (N := 1) rfl ?_); refine box_event ?hg (N := 1) ?hd (cs := #[.slice A0_0 l0_0.length c0_0, .slice A0_1 l0_1.length c0_1, .slice A0_2 l0_2.length c0_2]) (t := 26) ?hr ?_; (case hd => rfl); (case hg => rfl); (case hr => first | (go_simp; done) | (go_simp; rfl)); intro gbz1 hg wz1 hbox hb; have nz1 := Aside0.mk (below_step be_ hb); have nz2 := Aside0.mk (hbox); have nz3 := Aside0.mk ((sz_ : w.heap.size ≤ gbz1)); have nz4 := Aside0.mk ((sz_ : w.heap.size ≤ gbz1)); clear HB; have HB := nz1; have BKz1 := nz2; have GWz1 := nz3; have GEz1 := nz4; clear nz1 nz2 nz3 nz4; clear hb hbox hg; have hczz1 : wz1.cell? ⟨gbz1, 0, none⟩ = some (.slice A0_0 l0_0.length c0_0) := (blk_cell BKz1.out 0).trans rfl; have hczz2 : wz1.cell? ⟨gbz1, 1, none⟩ = some (.slice A0_1 l0_1.length c0_1) := (blk_cell BKz1.out 1).trans rfl; have hczz3 : wz1.cell? ⟨gbz1, 2, none⟩ = some (.slice A0_2 l0_2.length c0_2) := (blk_cell BKz1.out 2).trans rfl; have hfzz1 := blk_frozen BKz1.out 0; have hfzz2 := blk_frozen BKz1.out 1; have hfzz3 := blk_frozen BKz1.out 2) | ((with_reducible refine gate_callee (f := 6) rfl ?_); refine goesL_ (some 9) rfl rfl Tryd.func6 (by kernel_rfl) rfl #[.agg #[.slice A0_0 l0_0.length c0_0, .slice A0_1 l0_1.length c0_1, .slice A0_2 l0_2.length c0_2], .int .i64 1048576] rfl ar_ ?_; (with_reducible refine (laws_szNode.calls k _ _ l0_0 _ _ l0_1 _ _ l0_2 1048576 tz1 _ ?side1 ?side2 ?side3 ?side4 ?side5 ?side6 Az2.out).mono ?_); (case side1 => exact Kd.C_below HRz1.out be_); (case side2 => exact HCz1.out); (case side3 => exact Kd.C_below HRz2.out be_); (case side4 => exact HCz2.out); (case side5 => exact Kd.C_below HRz3.out be_); (case side6 => exact HCz3.out); rintro e wz2 ⟨rfl, hb⟩; refine ⟨_, rfl, ?_⟩; have nz1 := Aside0.mk (blk_below (g := gbz1) (o := .cells #[.slice A0_0 l0_0.length c0_0, .slice A0_1 l0_1.length c0_1, .slice A0_2 l0_2.length c0_2] 26 (0, 0)) bk_ hb); have nz2 := Aside0.mk (below_step be_ hb); clear BKz1; clear HB; have BKz1 := nz1; have HB := nz2; clear nz1 nz2; (try clear hb); (try clear hb2); (try clear hk); (try clear hi); have hczz4 : wz2.cell? ⟨gbz1, 0, none⟩ = some (.slice A0_0 l0_0.length c0_0) := (blk_cell BKz1.out 0).trans rfl; have hczz5 : wz2.cell? ⟨gbz1, 1, none⟩ = some (.slice A0_1 l0_1.length c0_1) := (blk_cell BKz1.out 1).trans rfl; have hczz6 : wz2.cell? ⟨gbz1, 2, none⟩ = some (.slice A0_2 l0_2.length c0_2) := (blk_cell BKz1.out 2).trans rfl; have hfzz4 := blk_frozen BKz1.out 0; have hfzz5 := blk_frozen BKz1.out 1; have hfzz6 := blk_frozen BKz1.out 2) | ((with_reducible refine gate_callee (f := 8) rfl ?_); refine goesL_ (some 13) rfl rfl Tryd.func8 (by kernel_rfl) rfl #[.agg #[.slice A0_0 l0_0.length c0_0, .slice A0_1 l0_1.length c0_1, .slice A0_2 l0_2.length c0_2]] rfl ar_ ?_; (with_reducible refine (laws_toNode.calls k _ _ l0_0 _ _ l0_1 _ _ l0_2 tz2 tz3 tz4 _ ?side1 ?side2 ?side3 ?side4 ?side5 ?side6 Az4.out).mono ?_); (case side1 => exact Kd.C_below HRz1.out be_); (case side2 => exact HCz1.out); (case side3 => exact Kd.C_below HRz2.out be_); (case side4 => exact HCz2.out); (case side5 => exact Kd.C_below HRz3.out be_); (case side6 => exact HCz3.out); rintro e wz3 ⟨vz1, vz2, vz3, rfl, hoz1, hoz2, hoz3, hb⟩; refine ⟨_, rfl, ?_⟩; have nz1 := Aside0.mk (Kd.R_lower hoz1 (below_size be_)); have nz2 := Aside0.mk (Kd.R_lower hoz2 (below_size be_)); have nz3 := Aside0.mk (Kd.R_lower hoz3 (below_size be_)); have nz4 := Aside0.mk (blk_below (g := gbz1) (o := .cells #[.slice A0_0 l0_0.length c0_0, .slice A0_1 l0_1.length c0_1, .slice A0_2 l0_2.length c0_2] 26 (0, 0)) bk_ hb); have nz5 := Aside0.mk (below_step be_ hb); clear BKz1; clear HB; have HOz1 := nz1; have HOz2 := nz2; have HOz3 := nz3; have BKz1 := nz4; have HB := nz5; clear nz1 nz2 nz3 nz4 nz5; (try clear hb); (try clear hb2); (try clear hk); (try clear hi); (try clear hoz1); (try clear hoz2); (try clear hoz3); obtain ⟨Aoz1, coz1, eoz1⟩ := Kd.R_slice HOz1.out; subst eoz1; obtain ⟨Aoz2, coz2, eoz2⟩ := Kd.R_slice HOz2.out; subst eoz2; obtain ⟨Aoz3, coz3, eoz3⟩ := Kd.R_slice HOz3.out; subst eoz3) | ((with_reducible refine gate_callee (f := 7) rfl ?_); refine goesL_ (some 14) rfl rfl Tryd.func7 (by kernel_rfl) rfl #[.agg #[.slice Aoz1 tz2.length coz1, .slice Aoz2 tz3.length coz2, .slice Aoz3 tz4.length coz3]] rfl ar_ ?_; (with_reducible refine (spec_NodeOk.calls k _ _ tz2 _ _ tz3 _ _ tz4 tz5 _ ?side1 ?side2 ?side3 ?side4 ?side5 ?side6 Az6.out).mono ?_); (case side1 => repeat (first | exact (Kd.R_reads' HOz1.out).2.2 | (with_reducible refine Kd.C_alloc ?_ _) | (with_reducible refine Kd.C_drewN ?_ _) | (with_reducible refine Kd.C_drew ?_))); (case side2 => exact (Kd.R_reads' HOz1.out).2.1); (case side3 => repeat (first | exact (Kd.R_reads' HOz2.out).2.2 | (with_reducible refine Kd.C_alloc ?_ _) | (with_reducible refine Kd.C_drewN ?_ _) | (with_reducible refine Kd.C_drew ?_))); (case side4 => exact (Kd.R_reads' HOz2.out).2.1); (case side5 => repeat (first | exact (Kd.R_reads' HOz3.out).2.2 | (with_reducible refine Kd.C_alloc ?_ _) | (with_reducible refine Kd.C_drewN ?_ _) | (with_reducible refine Kd.C_drew ?_))); (case side6 => exact (Kd.R_reads' HOz3.out).2.1); rintro e wz4 ⟨rfl, hb⟩; refine ⟨_, rfl, ?_⟩; have nz1 := Aside0.mk (Kd.R_below (by (with_reducible repeat (first | apply Kd.R_alloc | apply Kd.R_drewN | apply Kd.R_drew)); exact HOz1.out) hb); have nz2 := Aside0.mk (Kd.R_below (by (with_reducible repeat (first | apply Kd.R_alloc | apply Kd.R_drewN | apply Kd.R_drew)); exact HOz2.out) hb); have nz3 := Aside0.mk (Kd.R_below (by (with_reducible repeat (first | apply Kd.R_alloc | apply Kd.R_drewN | apply Kd.R_drew)); exact HOz3.out) hb); have nz4 := Aside0.mk (blk_below (g := gbz1) (o := .cells #[.slice A0_0 l0_0.length c0_0, .slice A0_1 l0_1.length c0_1, .slice A0_2 l0_2.length c0_2] 26 (0, 0)) bk_ hb); have nz5 := Aside0.mk (below_step be_ hb); clear HOz1; clear HOz2; clear HOz3; clear BKz1; clear HB; have HOz1 := nz1; have HOz2 := nz2; have HOz3 := nz3; have BKz1 := nz4; have HB := nz5; clear nz1 nz2 nz3 nz4 nz5; (try clear hb); (try clear hb2); (try clear hk); (try clear hi); have hczz7 : wz4.cell? ⟨gbz1, 0, none⟩ = some (.slice A0_0 l0_0.length c0_0) := (blk_cell BKz1.out 0).trans rfl; have hczz8 : wz4.cell? ⟨gbz1, 1, none⟩ = some (.slice A0_1 l0_1.length c0_1) := (blk_cell BKz1.out 1).trans rfl; have hczz9 : wz4.cell? ⟨gbz1, 2, none⟩ = some (.slice A0_2 l0_2.length c0_2) := (blk_cell BKz1.out 2).trans rfl; have hfzz7 := blk_frozen BKz1.out 0; have hfzz8 := blk_frozen BKz1.out 1; have hfzz9 := blk_frozen BKz1.out 2) | ((with_reducible refine gate_callee (f := 8) rfl ?_); refine goesL_ (some 16) rfl rfl Tryd.func8 (by kernel_rfl) rfl #[.agg #[.slice A0_0 l0_0.length c0_0, .slice A0_1 l0_1.length c0_1, .slice A0_2 l0_2.length c0_2]] rfl ar_ ?_; (with_reducible refine (laws_toNode.calls k _ _ l0_0 _ _ l0_1 _ _ l0_2 tz6 tz7 tz8 _ ?side1 ?side2 ?side3 ?side4 ?side5 ?side6 Az8.out).mono ?_); (case side1 => exact Kd.C_below HRz1.out be_); (case side2 => exact HCz1.out); (case side3 => exact Kd.C_below HRz2.out be_); (case side4 => exact HCz2.out); (case side5 => exact Kd.C_below HRz3.out be_); (case side6 => exact HCz3.out); rintro e wz5 ⟨vz4, vz5, vz6, rfl, hoz1, hoz2, hoz3, hb⟩; refine ⟨_, rfl, ?_⟩; have nz1 := Aside0.mk (Kd.R_elder' (by (with_reducible repeat (first | apply Kd.R_alloc | apply Kd.R_drewN | apply Kd.R_drew)); exact HOz1.out) (Kd.R_base hoz1) hb); have nz2 := Aside0.mk (Kd.R_mono (Kd.R_told (Kd.R_told (Kd.R_told (Kd.R_old (by (with_reducible repeat (first | apply Kd.R_alloc | apply Kd.R_drewN | apply Kd.R_drew)); exact HOz2.out) hb) (Kd.R_base hoz1)) (Kd.R_base hoz2)) (Kd.R_base hoz3)) (fun _ h_ => h_.1)); have nz3 := Aside0.mk (Kd.R_elder' (by (with_reducible repeat (first | apply Kd.R_alloc | apply Kd.R_drewN | apply Kd.R_drew)); exact HOz3.out) (Kd.R_base hoz3) hb); have nz4 := Aside0.mk (Kd.R_lower (Kd.R_new' hoz1 (Kd.R_lt (by (with_reducible repeat (first | apply Kd.R_alloc | apply Kd.R_drewN | apply Kd.R_drew)); exact HOz1.out))) (below_size be_)); have nz5 := Aside0.mk (Kd.R_lower (Kd.R_new' (Kd.R_new' (Kd.R_new' hoz2 (Kd.R_lt (by (with_reducible repeat (first | apply Kd.R_alloc | apply Kd.R_drewN | apply Kd.R_drew)); exact HOz1.out))) (Kd.R_lt (by (with_reducible repeat (first | apply Kd.R_alloc | apply Kd.R_drewN | apply Kd.R_drew)); exact HOz2.out))) (Kd.R_lt (by (with_reducible repeat (first | apply Kd.R_alloc | apply Kd.R_drewN | apply Kd.R_drew)); exact HOz3.out))) (below_size be_)); have nz6 := Aside0.mk (Kd.R_lower (Kd.R_new' hoz3 (Kd.R_lt (by (with_reducible repeat (first | apply Kd.R_alloc | apply Kd.R_drewN | apply Kd.R_drew)); exact HOz3.out))) (below_size be_)); have nz7 := Aside0.mk (blk_below (g := gbz1) (o := .cells #[.slice A0_0 l0_0.length c0_0, .slice A0_1 l0_1.length c0_1, .slice A0_2 l0_2.length c0_2] 26 (0, 0)) bk_ hb); have nz8 := Aside0.mk (below_step be_ hb); clear HOz1; clear HOz2; clear HOz3; clear BKz1; clear HB; have HOz1 := nz1; have HOz2 := nz2; have HOz3 := nz3; have HOz4 := nz4; have HOz5 := nz5; have HOz6 := nz6; have BKz1 := nz7; have HB := nz8; clear nz1 nz2 nz3 nz4 nz5 nz6 nz7 nz8; (try clear hb); (try clear hb2); (try clear hk); (try clear hi); (try clear hoz1); (try clear hoz2); (try clear hoz3)) | ((with_reducible refine gate_dst (N := 5) rfl ?_); refine box_event ?hg (N := 5) ?hd (cs := #[.slice none 0 0, .slice none 0 0, .slice none 0 0]) (t := 32) ?hr ?_; (case hd => rfl); (case hg => rfl); (case hr => first | (go_simp; done) | (go_simp; rfl)); intro gbz2 hg wz6 hbox hb; have nz1 := Aside0.mk (Kd.R_below (by (with_reducible repeat (first | apply Kd.R_alloc | apply Kd.R_drewN | apply Kd.R_drew)); exact HOz1.out) hb); have nz2 := Aside0.mk (Kd.R_below (Kd.R_elderB (by (with_reducible repeat (first | apply Kd.R_alloc | apply Kd.R_drewN | apply Kd.R_drew)); exact HOz2.out) gbz2 (Nat.le_of_eq hg.symm)) hb); have nz3 := Aside0.mk (Kd.R_below (by (with_reducible repeat (first | apply Kd.R_alloc | apply Kd.R_drewN | apply Kd.R_drew)); exact HOz3.out) hb); have nz4 := Aside0.mk (Kd.R_below (by (with_reducible repeat (first | apply Kd.R_alloc | apply Kd.R_drewN | apply Kd.R_drew)); exact HOz4.out) hb); have nz5 := Aside0.mk (Kd.R_below (Kd.R_elderB (by (with_reducible repeat (first | apply Kd.R_alloc | apply Kd.R_drewN | apply Kd.R_drew)); exact HOz5.out) gbz2 (Nat.le_of_eq hg.symm)) hb); have nz6 := Aside0.mk (Kd.R_below (by (with_reducible repeat (first | apply Kd.R_alloc | apply Kd.R_drewN | apply Kd.R_drew)); exact HOz6.out) hb); have nz7 := Aside0.mk (blk_below (g := gbz1) (o := .cells #[.slice A0_0 l0_0.length c0_0, .slice A0_1 l0_1.length c0_1, .slice A0_2 l0_2.length c0_2] 26 (0, 0)) bk_ hb); have nz8 := Aside0.mk (below_step be_ hb); have nz9 := Aside0.mk (hbox); have nz10 := Aside0.mk ((sz_ : w.heap.size ≤ gbz2)); have nz11 := Aside0.mk ((sz_ : w.heap.size ≤ gbz2)); have nz12 := Aside0.mk ((by rw [hg]; exact Nat.ne_of_lt (blk_lt (g := gbz1) (o := .cells #[.slice A0_0 l0_0.length c0_0, .slice A0_1 l0_1.length c0_1, .slice A0_2 l0_2.length c0_2] 26 (0, 0)) bk_) : gbz1 ≠ gbz2)); have nz13 := Aside0.mk ((by rw [hg]; exact Nat.ne_of_gt (blk_lt (g := gbz1) (o := .cells #[.slice A0_0 l0_0.length c0_0, .slice A0_1 l0_1.length c0_1, .slice A0_2 l0_2.length c0_2] 26 (0, 0)) bk_) : gbz2 ≠ gbz1)); clear HOz1; clear HOz2; clear HOz3; clear HOz4; clear HOz5; clear HOz6; clear BKz1; clear HB; have HOz1 := nz1; have HOz2 := nz2; have HOz3 := nz3; have HOz4 := nz4; have HOz5 := nz5; have HOz6 := nz6; have BKz1 := nz7; have HB := nz8; have BKz2 := nz9; have GWz2 := nz10; have GEz2 := nz11; have NBz1 := nz12; have NBz2 := nz13; clear nz1 nz2 nz3 nz4 nz5 nz6 nz7 nz8 nz9 nz10 nz11 nz12 nz13; clear hb hbox hg; obtain ⟨Aoz4, coz4, eoz4⟩ := Kd.R_slice HOz4.out; subst eoz4; have hnbz1 := NBz2.out; have hncz1 := NBz1.out; have hczz10 : wz6.cell? ⟨gbz2, 0, none⟩ = some (.slice none 0 0) := (blk_cell BKz2.out 0).trans rfl; have hczz11 : wz6.cell? ⟨gbz2, 1, none⟩ = some (.slice none 0 0) := (blk_cell BKz2.out 1).trans rfl; have hczz12 : wz6.cell? ⟨gbz2, 2, none⟩ = some (.slice none 0 0) := (blk_cell BKz2.out 2).trans rfl; have hfzz10 := blk_frozen BKz2.out 0; have hfzz11 := blk_frozen BKz2.out 1; have hfzz12 := blk_frozen BKz2.out 2; obtain ⟨Aoz5, coz5, eoz5⟩ := Kd.R_slice HOz5.out; subst eoz5; obtain ⟨Aoz6, coz6, eoz6⟩ := Kd.R_slice HOz6.out; subst eoz6) | ((with_reducible refine gate_callee (f := 9) rfl ?_); refine goesL_ (some 18) rfl rfl Tryd.func9 (by kernel_rfl) rfl #[.agg #[.slice Aoz4 tz6.length coz4, .slice Aoz5 tz7.length coz5, .slice Aoz6 tz8.length coz6]] rfl ar_ ?_; (with_reducible refine (impl_NodeOk.calls k _ _ tz6 _ _ tz7 _ _ tz8 tz9 _ ?side1 ?side2 ?side3 ?side4 ?side5 ?side6 ?side7 Az10.out).mono ?_); (case side1 => refine (Kd.R_reads' (e := 9) (base := w.heap.size) (ok := fun k_ => (True ∧ some k_ ≠ (.slice Aoz1 tz2.length coz1 : Value).ownBlock)) (n := tz6.length) (c := coz4) ?_).2.2; exact (by (with_reducible repeat (first | apply Kd.R_alloc | apply Kd.R_drewN | apply Kd.R_drew)); exact (Kd.R_mono (Kd.R_far (p := ⟨gbz2, 2, none⟩) (Kd.R_far (p := ⟨gbz2, 1, none⟩) (Kd.R_far (p := ⟨gbz2, 0, none⟩) (Kd.R_types HOz4.out BKz2.out (by decide)) (fun _ hk => hk.2) (.slice Aoz4 tz6.length coz4)) (fun _ hk => hk.2) (.slice Aoz5 tz7.length coz5)) (fun _ hk => hk.2) (.slice Aoz6 tz8.length coz6)) (fun _ h_ => h_.1)))); (case side2 => exact (Kd.R_reads' HOz4.out).2.1); (case side3 => refine (Kd.R_reads' (e := 32) (base := w.heap.size) (ok := fun k_ => (((((some k_ ≠ (.slice Aoz4 tz6.length coz4 : Value).ownBlock ∧ some k_ ≠ (.slice Aoz6 tz8.length coz6 : Value).ownBlock) ∧ some k_ ≠ (.slice Aoz1 tz2.length coz1 : Value).ownBlock) ∧ some k_ ≠ (.slice Aoz2 tz3.length coz2 : Value).ownBlock) ∧ some k_ ≠ (.slice Aoz3 tz4.length coz3 : Value).ownBlock) ∧ k_ ≠ gbz2)) (n := tz7.length) (c := coz5) ?_).2.2; exact (by (with_reducible repeat (first | apply Kd.R_alloc | apply Kd.R_drewN | apply Kd.R_drew)); exact (Kd.R_mono (Kd.R_far (p := ⟨gbz2, 2, none⟩) (Kd.R_far (p := ⟨gbz2, 1, none⟩) (Kd.R_far (p := ⟨gbz2, 0, none⟩) (Kd.R_mono HOz5.out (fun k_ hk => (⟨hk, hk.2⟩ : _ ∧ k_ ≠ gbz2))) (fun _ hk => hk.2) (.slice Aoz4 tz6.length coz4)) (fun _ hk => hk.2) (.slice Aoz5 tz7.length coz5)) (fun _ hk => hk.2) (.slice Aoz6 tz8.length coz6)) (fun _ h_ => h_.1)))); (case side4 => exact (Kd.R_reads' HOz5.out).2.1); (case side5 => refine (Kd.R_reads' (e := 81) (base := w.heap.size) (ok := fun k_ => (True ∧ some k_ ≠ (.slice Aoz3 tz4.length coz3 : Value).ownBlock)) (n := tz8.length) (c := coz6) ?_).2.2; exact (by (with_reducible repeat (first | apply Kd.R_alloc | apply Kd.R_drewN | apply Kd.R_drew)); exact (Kd.R_mono (Kd.R_far (p := ⟨gbz2, 2, none⟩) (Kd.R_far (p := ⟨gbz2, 1, none⟩) (Kd.R_far (p := ⟨gbz2, 0, none⟩) (Kd.R_types HOz6.out BKz2.out (by decide)) (fun _ hk => hk.2) (.slice Aoz4 tz6.length coz4)) (fun _ hk => hk.2) (.slice Aoz5 tz7.length coz5)) (fun _ hk => hk.2) (.slice Aoz6 tz8.length coz6)) (fun _ h_ => h_.1)))); (case side6 => exact (Kd.R_reads' HOz6.out).2.1); (case side7 => exact Tabs.below HT.out be_); rintro e wz7 ⟨rfl, hb⟩; refine ⟨_, rfl, ?_⟩; have nz1 := Aside0.mk (Kd.R_below (by (with_reducible repeat (first | apply Kd.R_alloc | apply Kd.R_drewN | apply Kd.R_drew)); exact (Kd.R_mono (Kd.R_far (p := ⟨gbz2, 2, none⟩) (Kd.R_far (p := ⟨gbz2, 1, none⟩) (Kd.R_far (p := ⟨gbz2, 0, none⟩) (Kd.R_types HOz1.out BKz2.out (by decide)) (fun _ hk => hk.2) (.slice Aoz4 tz6.length coz4)) (fun _ hk => hk.2) (.slice Aoz5 tz7.length coz5)) (fun _ hk => hk.2) (.slice Aoz6 tz8.length coz6)) (fun _ h_ => h_.1))) hb); have nz2 := Aside0.mk (Kd.R_below (by (with_reducible repeat (first | apply Kd.R_alloc | apply Kd.R_drewN | apply Kd.R_drew)); exact (Kd.R_mono (Kd.R_far (p := ⟨gbz2, 2, none⟩) (Kd.R_far (p := ⟨gbz2, 1, none⟩) (Kd.R_far (p := ⟨gbz2, 0, none⟩) (Kd.R_mono HOz2.out (fun k_ hk => (⟨hk, hk.2⟩ : _ ∧ k_ ≠ gbz2))) (fun _ hk => hk.2) (.slice Aoz4 tz6.length coz4)) (fun _ hk => hk.2) (.slice Aoz5 tz7.length coz5)) (fun _ hk => hk.2) (.slice Aoz6 tz8.length coz6)) (fun _ h_ => h_.1))) hb); have nz3 := Aside0.mk (Kd.R_below (by (with_reducible repeat (first | apply Kd.R_alloc | apply Kd.R_drewN | apply Kd.R_drew)); exact (Kd.R_mono (Kd.R_far (p := ⟨gbz2, 2, none⟩) (Kd.R_far (p := ⟨gbz2, 1, none⟩) (Kd.R_far (p := ⟨gbz2, 0, none⟩) (Kd.R_types HOz3.out BKz2.out (by decide)) (fun _ hk => hk.2) (.slice Aoz4 tz6.length coz4)) (fun _ hk => hk.2) (.slice Aoz5 tz7.length coz5)) (fun _ hk => hk.2) (.slice Aoz6 tz8.length coz6)) (fun _ h_ => h_.1))) hb); have nz4 := Aside0.mk (Kd.R_below (by (with_reducible repeat (first | apply Kd.R_alloc | apply Kd.R_drewN | apply Kd.R_drew)); exact (Kd.R_mono (Kd.R_far (p := ⟨gbz2, 2, none⟩) (Kd.R_far (p := ⟨gbz2, 1, none⟩) (Kd.R_far (p := ⟨gbz2, 0, none⟩) (Kd.R_types HOz4.out BKz2.out (by decide)) (fun _ hk => hk.2) (.slice Aoz4 tz6.length coz4)) (fun _ hk => hk.2) (.slice Aoz5 tz7.length coz5)) (fun _ hk => hk.2) (.slice Aoz6 tz8.length coz6)) (fun _ h_ => h_.1))) hb); have nz5 := Aside0.mk (Kd.R_below (by (with_reducible repeat (first | apply Kd.R_alloc | apply Kd.R_drewN | apply Kd.R_drew)); exact (Kd.R_mono (Kd.R_far (p := ⟨gbz2, 2, none⟩) (Kd.R_far (p := ⟨gbz2, 1, none⟩) (Kd.R_far (p := ⟨gbz2, 0, none⟩) (Kd.R_mono HOz5.out (fun k_ hk => (⟨hk, hk.2⟩ : _ ∧ k_ ≠ gbz2))) (fun _ hk => hk.2) (.slice Aoz4 tz6.length coz4)) (fun _ hk => hk.2) (.slice Aoz5 tz7.length coz5)) (fun _ hk => hk.2) (.slice Aoz6 tz8.length coz6)) (fun _ h_ => h_.1))) hb); have nz6 := Aside0.mk (Kd.R_below (by (with_reducible repeat (first | apply Kd.R_alloc | apply Kd.R_drewN | apply Kd.R_drew)); exact (Kd.R_mono (Kd.R_far (p := ⟨gbz2, 2, none⟩) (Kd.R_far (p := ⟨gbz2, 1, none⟩) (Kd.R_far (p := ⟨gbz2, 0, none⟩) (Kd.R_types HOz6.out BKz2.out (by decide)) (fun _ hk => hk.2) (.slice Aoz4 tz6.length coz4)) (fun _ hk => hk.2) (.slice Aoz5 tz7.length coz5)) (fun _ hk => hk.2) (.slice Aoz6 tz8.length coz6)) (fun _ h_ => h_.1))) hb); have nz7 := Aside0.mk (blk_below (g := gbz1) (o := .cells #[.slice A0_0 l0_0.length c0_0, .slice A0_1 l0_1.length c0_1, .slice A0_2 l0_2.length c0_2] 26 (0, 0)) (by (with_reducible repeat (first | refine blk_drewN ?_ _ | refine blk_drew ?_ | refine blk_alloc ?_ _)); refine blk_far ?_ NBz1.out _; (with_reducible repeat (first | refine blk_drewN ?_ _ | refine blk_drew ?_ | refine blk_alloc ?_ _)); refine blk_far ?_ NBz1.out _; (with_reducible repeat (first | refine blk_drewN ?_ _ | refine blk_drew ?_ | refine blk_alloc ?_ _)); refine blk_far ?_ NBz1.out _; (with_reducible repeat (first | refine blk_drewN ?_ _ | refine blk_drew ?_ | refine blk_alloc ?_ _)); exact BKz1.out) hb); have nz8 := Aside0.mk (blk_below (g := gbz2) (o := .cells #[.slice Aoz4 tz6.length coz4, .slice Aoz5 tz7.length coz5, .slice Aoz6 tz8.length coz6] 32 (0, 0)) (by (with_reducible repeat (first | refine blk_drewN ?_ _ | refine blk_drew ?_ | refine blk_alloc ?_ _)); refine blk_put (cs := #[.slice Aoz4 tz6.length coz4, .slice Aoz5 tz7.length coz5, .slice none 0 0]) ?_ 2 _ rfl; (with_reducible repeat (first | refine blk_drewN ?_ _ | refine blk_drew ?_ | refine blk_alloc ?_ _)); refine blk_put (cs := #[.slice Aoz4 tz6.length coz4, .slice none 0 0, .slice none 0 0]) ?_ 1 _ rfl; (with_reducible repeat (first | refine blk_drewN ?_ _ | refine blk_drew ?_ | refine blk_alloc ?_ _)); refine blk_put (cs := #[.slice none 0 0, .slice none 0 0, .slice none 0 0]) ?_ 0 _ rfl; (with_reducible repeat (first | refine blk_drewN ?_ _ | refine blk_drew ?_ | refine blk_alloc ?_ _)); exact BKz2.out) hb); have nz9 := Aside0.mk (below_step be_ hb); clear HOz1; clear HOz2; clear HOz3; clear HOz4; clear HOz5; clear HOz6; clear BKz1; clear BKz2; clear HB; have HOz1 := nz1; have HOz2 := nz2; have HOz3 := nz3; have HOz4 := nz4; have HOz5 := nz5; have HOz6 := nz6; have BKz1 := nz7; have BKz2 := nz8; have HB := nz9; clear nz1 nz2 nz3 nz4 nz5 nz6 nz7 nz8 nz9; (try clear hb); (try clear hb2); (try clear hk); (try clear hi)))
    have nz1 := Aside0.mk (Kd.R_drew HOz1.out)
    have nz2 := Aside0.mk (Kd.R_drew HOz2.out)
    have nz3 := Aside0.mk (Kd.R_drew HOz3.out)
    have nz4 := Aside0.mk (Kd.R_drew HOz4.out)
    have nz5 := Aside0.mk (Kd.R_drew HOz5.out)
    have nz6 := Aside0.mk (Kd.R_drew HOz6.out)
    have nz7 := Aside0.mk (blk_drew BKz1.out)
    have nz8 := Aside0.mk (blk_drew BKz2.out)
    have nz9 := Aside0.mk (below_drew1 HB.out)
    clear HOz1
    clear HOz2
    clear HOz3
    clear HOz4
    clear HOz5
    clear HOz6
    clear BKz1
    clear BKz2
    clear HB
    have HOz1 := nz1
    have HOz2 := nz2
    have HOz3 := nz3
    have HOz4 := nz4
    have HOz5 := nz5
    have HOz6 := nz6
    have BKz1 := nz7
    have BKz2 := nz8
    have HB := nz9
    clear nz1 nz2 nz3 nz4 nz5 nz6 nz7 nz8 nz9
    refine start_ (n := 5) (S := fun w' => w'.cell? ⟨gbz2, 0, none⟩ = some (.slice Aoz4 tz6.length coz4) ∧ w'.cell? ⟨gbz2, 1, none⟩ = some (.slice Aoz5 tz7.length coz5) ∧ w'.cell? ⟨gbz2, 2, none⟩ = some (.slice Aoz6 tz8.length coz6) ∧ w'.cell? ⟨gbz1, 0, none⟩ = some (.slice A0_0 l0_0.length c0_0) ∧ w'.cell? ⟨gbz1, 1, none⟩ = some (.slice A0_1 l0_1.length c0_1) ∧ w'.cell? ⟨gbz1, 2, none⟩ = some (.slice A0_2 l0_2.length c0_2)) (ds := []) #[false, false, false, false, false] (by kernel_rfl) rfl rfl ⟨(blk_cell BKz2.out 0).trans rfl, (blk_cell BKz2.out 1).trans rfl, (blk_cell BKz2.out 2).trans rfl, (blk_cell BKz1.out 0).trans rfl, (blk_cell BKz1.out 1).trans rfl, (blk_cell BKz1.out 2).trans rfl⟩ (fun hHeld => ?_)
    generalize wz7.drew = wz8 at HOz1 HOz2 HOz3 HOz4 HOz5 HOz6 BKz1 BKz2 HB hHeld ⊢
    refine take_ (i := 0) (N := some 22) (v := ?_) (a' := ?_) #[true, false, false, false, false] rfl rfl (by kernel_rfl) (fun _ _ _ h => h) (Or.inl ⟨by rfl, ?_⟩) hHeld ?_ ?_
    rotate_left
    · rintro w' ⟨sz1, sz2, sz3, sz4, sz5, sz6⟩
      go_simp
      with_reducible rfl
    rotate_left
    · simp only [Act.put, List.setIfInBounds_toArray, List.set_cons_zero, List.set_cons_succ, i64_w, i32_w]
      rfl
    refine take_ (i := 1) (N := some 23) (v := ?_) (a' := ?_) #[true, true, false, false, false] rfl rfl (by kernel_rfl) (fun _ _ _ h => h) (Or.inl ⟨by rfl, ?_⟩) hHeld ?_ ?_
    rotate_left
    · rintro w' ⟨sz1, sz2, sz3, sz4, sz5, sz6⟩
      go_simp
      with_reducible rfl
    rotate_left
    · simp only [Act.put, List.setIfInBounds_toArray, List.set_cons_zero, List.set_cons_succ, i64_w, i32_w]
      rfl
    refine one_ (i := 2) (N := some 24) #[true, true, true, false, false] rfl rfl (by kernel_rfl) (by decide) (fun K hK => ?_)
    refine goes_ Tryd.func8 (by kernel_rfl) rfl #[.agg #[.slice A0_0 l0_0.length c0_0, .slice A0_1 l0_1.length c0_1, .slice A0_2 l0_2.length c0_2]] (by rfl) rfl rfl ar_ ?_
    with_reducible refine (laws_toNode.calls k _ _ l0_0 _ _ l0_1 _ _ l0_2 tz10 tz11 tz12 _ ?side1 ?side2 ?side3 ?side4 ?side5 ?side6 Az12.out).mono ?_
    (case side1 => exact Kd.C_below HRz1.out be_)
    (case side2 => exact HCz1.out)
    (case side3 => exact Kd.C_below HRz2.out be_)
    (case side4 => exact HCz2.out)
    (case side5 => exact Kd.C_below HRz3.out be_)
    (case side6 => exact HCz3.out)
    rintro e wz9 ⟨vz7, vz8, vz9, rfl, hoz1, hoz2, hoz3, hb⟩
    refine ⟨_, rfl, ?_⟩
    have nz1 := Aside0.mk (Kd.R_elder' (by (with_reducible repeat (first | apply Kd.R_alloc | apply Kd.R_drewN | apply Kd.R_drew)); exact HOz1.out) (Kd.R_base hoz1) hb)
    have nz2 := Aside0.mk (Kd.R_mono (Kd.R_told (Kd.R_told (Kd.R_told (Kd.R_old (by (with_reducible repeat (first | apply Kd.R_alloc | apply Kd.R_drewN | apply Kd.R_drew)); exact HOz2.out) hb) (Kd.R_base hoz1)) (Kd.R_base hoz2)) (Kd.R_base hoz3)) (fun _ h_ => h_.1))
    have nz3 := Aside0.mk (Kd.R_elder' (by (with_reducible repeat (first | apply Kd.R_alloc | apply Kd.R_drewN | apply Kd.R_drew)); exact HOz3.out) (Kd.R_base hoz3) hb)
    have nz4 := Aside0.mk (Kd.R_elder' (by (with_reducible repeat (first | apply Kd.R_alloc | apply Kd.R_drewN | apply Kd.R_drew)); exact HOz4.out) (Kd.R_base hoz1) hb)
    have nz5 := Aside0.mk (Kd.R_mono (Kd.R_told (Kd.R_told (Kd.R_told (Kd.R_old (by (with_reducible repeat (first | apply Kd.R_alloc | apply Kd.R_drewN | apply Kd.R_drew)); exact HOz5.out) hb) (Kd.R_base hoz1)) (Kd.R_base hoz2)) (Kd.R_base hoz3)) (fun _ h_ => h_.1))
    have nz6 := Aside0.mk (Kd.R_elder' (by (with_reducible repeat (first | apply Kd.R_alloc | apply Kd.R_drewN | apply Kd.R_drew)); exact HOz6.out) (Kd.R_base hoz3) hb)
    have nz7 := Aside0.mk (Kd.R_lower (Kd.R_new' (Kd.R_new' hoz1 (Kd.R_lt (by (with_reducible repeat (first | apply Kd.R_alloc | apply Kd.R_drewN | apply Kd.R_drew)); exact HOz1.out))) (Kd.R_lt (by (with_reducible repeat (first | apply Kd.R_alloc | apply Kd.R_drewN | apply Kd.R_drew)); exact HOz4.out))) (below_size be_))
    have nz8 := Aside0.mk (Kd.R_lower (Kd.R_newB (Kd.R_new' (Kd.R_new' (Kd.R_new' (Kd.R_new' (Kd.R_new' (Kd.R_new' hoz2 (Kd.R_lt (by (with_reducible repeat (first | apply Kd.R_alloc | apply Kd.R_drewN | apply Kd.R_drew)); exact HOz1.out))) (Kd.R_lt (by (with_reducible repeat (first | apply Kd.R_alloc | apply Kd.R_drewN | apply Kd.R_drew)); exact HOz2.out))) (Kd.R_lt (by (with_reducible repeat (first | apply Kd.R_alloc | apply Kd.R_drewN | apply Kd.R_drew)); exact HOz3.out))) (Kd.R_lt (by (with_reducible repeat (first | apply Kd.R_alloc | apply Kd.R_drewN | apply Kd.R_drew)); exact HOz4.out))) (Kd.R_lt (by (with_reducible repeat (first | apply Kd.R_alloc | apply Kd.R_drewN | apply Kd.R_drew)); exact HOz5.out))) (Kd.R_lt (by (with_reducible repeat (first | apply Kd.R_alloc | apply Kd.R_drewN | apply Kd.R_drew)); exact HOz6.out))) (g := gbz2) (o := .cells #[.slice Aoz4 tz6.length coz4, .slice Aoz5 tz7.length coz5, .slice Aoz6 tz8.length coz6] 32 (0, 0)) bk_) (below_size be_))
    have nz9 := Aside0.mk (Kd.R_lower (Kd.R_new' (Kd.R_new' hoz3 (Kd.R_lt (by (with_reducible repeat (first | apply Kd.R_alloc | apply Kd.R_drewN | apply Kd.R_drew)); exact HOz3.out))) (Kd.R_lt (by (with_reducible repeat (first | apply Kd.R_alloc | apply Kd.R_drewN | apply Kd.R_drew)); exact HOz6.out))) (below_size be_))
    have nz10 := Aside0.mk (blk_below (g := gbz1) (o := .cells #[.slice A0_0 l0_0.length c0_0, .slice A0_1 l0_1.length c0_1, .slice A0_2 l0_2.length c0_2] 26 (0, 0)) bk_ hb)
    have nz11 := Aside0.mk (blk_below (g := gbz2) (o := .cells #[.slice Aoz4 tz6.length coz4, .slice Aoz5 tz7.length coz5, .slice Aoz6 tz8.length coz6] 32 (0, 0)) bk_ hb)
    have nz12 := Aside0.mk (below_step be_ hb)
    clear HOz1
    clear HOz2
    clear HOz3
    clear HOz4
    clear HOz5
    clear HOz6
    clear BKz1
    clear BKz2
    clear HB
    have HOz1 := nz1
    have HOz2 := nz2
    have HOz3 := nz3
    have HOz4 := nz4
    have HOz5 := nz5
    have HOz6 := nz6
    have HOz7 := nz7
    have HOz8 := nz8
    have HOz9 := nz9
    have BKz1 := nz10
    have BKz2 := nz11
    have HB := nz12
    clear nz1 nz2 nz3 nz4 nz5 nz6 nz7 nz8 nz9 nz10 nz11 nz12
    (try clear hb)
    (try clear hb2)
    (try clear hk)
    (try clear hi)
    (try clear hoz1)
    (try clear hoz2)
    (try clear hoz3)
    obtain ⟨Aoz7, coz7, eoz7⟩ := Kd.R_slice HOz7.out
    (first | subst eoz7 | (injection eoz7 with f1_ f2_ f3_; have fz1 := f1_.symm; have fz2 := f3_.symm; clear f1_ f2_ f3_; subst fz1; subst fz2))
    obtain ⟨Aoz8, coz8, eoz8⟩ := Kd.R_slice HOz8.out
    (first | subst eoz8 | (injection eoz8 with f1_ f2_ f3_; have fz1 := f1_.symm; have fz2 := f3_.symm; clear f1_ f2_ f3_; subst fz1; subst fz2))
    obtain ⟨Aoz9, coz9, eoz9⟩ := Kd.R_slice HOz9.out
    (first | subst eoz9 | (injection eoz9 with f1_ f2_ f3_; have fz1 := f1_.symm; have fz2 := f3_.symm; clear f1_ f2_ f3_; subst fz1; subst fz2))
    refine hK.out _ _ ⟨(blk_cell BKz2.out 0).trans rfl, (blk_cell BKz2.out 1).trans rfl, (blk_cell BKz2.out 2).trans rfl, (blk_cell BKz1.out 0).trans rfl, (blk_cell BKz1.out 1).trans rfl, (blk_cell BKz1.out 2).trans rfl⟩ (fun hHeld => ?_)
    clear hK K
    refine norm_ (a' := ?_) ?_ ?_
    rotate_left
    · show Act.put _ (some 24) _ = _
      simp only [Act.put, List.setIfInBounds_toArray, List.set_cons_zero, List.set_cons_succ, i64_w, i32_w]
      rfl
    refine one_ (i := 3) (N := some 25) #[true, true, true, true, false] rfl rfl (by kernel_rfl) (by decide) (fun K hK => ?_)
    refine goes_ Tryd.func10 (by kernel_rfl) rfl #[.agg #[.slice Aoz4 tz6.length coz4, .slice Aoz5 tz7.length coz5, .slice Aoz6 tz8.length coz6], .agg #[.slice Aoz7 tz10.length coz7, .slice Aoz8 tz11.length coz8, .slice Aoz9 tz12.length coz9]] (by rfl) rfl rfl ar_ ?_
    with_reducible refine (laws_eqNode.calls k _ _ tz6 _ _ tz7 _ _ tz8 _ _ tz10 _ _ tz11 _ _ tz12 true _ ?side1 ?side2 ?side3 ?side4 ?side5 ?side6 ?side7 ?side8 ?side9 ?side10 ?side11 ?side12 Az14.out).mono ?_
    (case side1 => repeat (first | exact (Kd.R_reads' HOz4.out).2.2 | (with_reducible refine Kd.C_alloc ?_ _) | (with_reducible refine Kd.C_drewN ?_ _) | (with_reducible refine Kd.C_drew ?_)))
    (case side2 => exact (Kd.R_reads' HOz4.out).2.1)
    (case side3 => repeat (first | exact (Kd.R_reads' HOz5.out).2.2 | (with_reducible refine Kd.C_alloc ?_ _) | (with_reducible refine Kd.C_drewN ?_ _) | (with_reducible refine Kd.C_drew ?_)))
    (case side4 => exact (Kd.R_reads' HOz5.out).2.1)
    (case side5 => repeat (first | exact (Kd.R_reads' HOz6.out).2.2 | (with_reducible refine Kd.C_alloc ?_ _) | (with_reducible refine Kd.C_drewN ?_ _) | (with_reducible refine Kd.C_drew ?_)))
    (case side6 => exact (Kd.R_reads' HOz6.out).2.1)
    (case side7 => repeat (first | exact (Kd.R_reads' HOz7.out).2.2 | (with_reducible refine Kd.C_alloc ?_ _) | (with_reducible refine Kd.C_drewN ?_ _) | (with_reducible refine Kd.C_drew ?_)))
    (case side8 => exact (Kd.R_reads' HOz7.out).2.1)
    (case side9 => repeat (first | exact (Kd.R_reads' HOz8.out).2.2 | (with_reducible refine Kd.C_alloc ?_ _) | (with_reducible refine Kd.C_drewN ?_ _) | (with_reducible refine Kd.C_drew ?_)))
    (case side10 => exact (Kd.R_reads' HOz8.out).2.1)
    (case side11 => repeat (first | exact (Kd.R_reads' HOz9.out).2.2 | (with_reducible refine Kd.C_alloc ?_ _) | (with_reducible refine Kd.C_drewN ?_ _) | (with_reducible refine Kd.C_drew ?_)))
    (case side12 => exact (Kd.R_reads' HOz9.out).2.1)
    rintro e wz10 ⟨rfl, hb⟩
    refine ⟨_, rfl, ?_⟩
    have nz1 := Aside0.mk (Kd.R_below (by (with_reducible repeat (first | apply Kd.R_alloc | apply Kd.R_drewN | apply Kd.R_drew)); exact HOz1.out) hb)
    have nz2 := Aside0.mk (Kd.R_below (by (with_reducible repeat (first | apply Kd.R_alloc | apply Kd.R_drewN | apply Kd.R_drew)); exact HOz2.out) hb)
    have nz3 := Aside0.mk (Kd.R_below (by (with_reducible repeat (first | apply Kd.R_alloc | apply Kd.R_drewN | apply Kd.R_drew)); exact HOz3.out) hb)
    have nz4 := Aside0.mk (Kd.R_below (by (with_reducible repeat (first | apply Kd.R_alloc | apply Kd.R_drewN | apply Kd.R_drew)); exact HOz4.out) hb)
    have nz5 := Aside0.mk (Kd.R_below (by (with_reducible repeat (first | apply Kd.R_alloc | apply Kd.R_drewN | apply Kd.R_drew)); exact HOz5.out) hb)
    have nz6 := Aside0.mk (Kd.R_below (by (with_reducible repeat (first | apply Kd.R_alloc | apply Kd.R_drewN | apply Kd.R_drew)); exact HOz6.out) hb)
    have nz7 := Aside0.mk (Kd.R_below (by (with_reducible repeat (first | apply Kd.R_alloc | apply Kd.R_drewN | apply Kd.R_drew)); exact HOz7.out) hb)
    have nz8 := Aside0.mk (Kd.R_below (by (with_reducible repeat (first | apply Kd.R_alloc | apply Kd.R_drewN | apply Kd.R_drew)); exact HOz8.out) hb)
    have nz9 := Aside0.mk (Kd.R_below (by (with_reducible repeat (first | apply Kd.R_alloc | apply Kd.R_drewN | apply Kd.R_drew)); exact HOz9.out) hb)
    have nz10 := Aside0.mk (blk_below (g := gbz1) (o := .cells #[.slice A0_0 l0_0.length c0_0, .slice A0_1 l0_1.length c0_1, .slice A0_2 l0_2.length c0_2] 26 (0, 0)) bk_ hb)
    have nz11 := Aside0.mk (blk_below (g := gbz2) (o := .cells #[.slice Aoz4 tz6.length coz4, .slice Aoz5 tz7.length coz5, .slice Aoz6 tz8.length coz6] 32 (0, 0)) bk_ hb)
    have nz12 := Aside0.mk (below_step be_ hb)
    clear HOz1
    clear HOz2
    clear HOz3
    clear HOz4
    clear HOz5
    clear HOz6
    clear HOz7
    clear HOz8
    clear HOz9
    clear BKz1
    clear BKz2
    clear HB
    have HOz1 := nz1
    have HOz2 := nz2
    have HOz3 := nz3
    have HOz4 := nz4
    have HOz5 := nz5
    have HOz6 := nz6
    have HOz7 := nz7
    have HOz8 := nz8
    have HOz9 := nz9
    have BKz1 := nz10
    have BKz2 := nz11
    have HB := nz12
    clear nz1 nz2 nz3 nz4 nz5 nz6 nz7 nz8 nz9 nz10 nz11 nz12
    (try clear hb)
    (try clear hb2)
    (try clear hk)
    (try clear hi)
    refine hK.out _ _ ⟨(blk_cell BKz2.out 0).trans rfl, (blk_cell BKz2.out 1).trans rfl, (blk_cell BKz2.out 2).trans rfl, (blk_cell BKz1.out 0).trans rfl, (blk_cell BKz1.out 1).trans rfl, (blk_cell BKz1.out 2).trans rfl⟩ (fun hHeld => ?_)
    clear hK K
    refine norm_ (a' := ?_) ?_ ?_
    rotate_left
    · show Act.put _ (some 25) _ = _
      simp only [Act.put, List.setIfInBounds_toArray, List.set_cons_zero, List.set_cons_succ, i64_w, i32_w]
      rfl
    refine pure_ (i := 4) (N := some 26) (v := ?_) (a' := ?_) #[true, true, true, true, true] rfl rfl (by kernel_rfl) (fun _ _ _ h => h) (Or.inl ⟨by rfl, ?_⟩) ?_ ?_
    rotate_left
    · intro w'
      go_simp
      with_reducible rfl
    rotate_left
    · simp only [Act.put, List.setIfInBounds_toArray, List.set_cons_zero, List.set_cons_succ, i64_w, i32_w]
      rfl
    refine done_ (by kernel_rfl) ?_
    try go_wp2
    go_ret
    exact ⟨by first | rfl | (simp [errW_none, errW_some] <;> rfl) | (simp [*, errW_none, errW_some] <;> rfl), be_⟩
  replace cz3 := Bool.eq_false_iff.mpr cz3
  subst cz3
  have Hz1 : (some false) = some r := by rw [if_neg (show ¬ (false = true) by decide)] at H; exact H
  clear H
  have H := Hz1
  clear Hz1
  obtain rfl := Option.some.inj H
  go_enter Tryd.func3, Tryd.ntmps3
  try go_wp2_with (first | ((with_reducible refine gate_dst (N := 1) rfl ?_); refine box_event ?hg (N := 1) ?hd (cs := #[.slice A0_0 l0_0.length c0_0, .slice A0_1 l0_1.length c0_1, .slice A0_2 l0_2.length c0_2]) (t := 26) ?hr ?_; (case hd => rfl); (case hg => rfl); (case hr => first | (go_simp; done) | (go_simp; rfl)); intro gbz1 hg wz1 hbox hb; have nz1 := Aside0.mk (below_step be_ hb); have nz2 := Aside0.mk (hbox); have nz3 := Aside0.mk ((sz_ : w.heap.size ≤ gbz1)); have nz4 := Aside0.mk ((sz_ : w.heap.size ≤ gbz1)); clear HB; have HB := nz1; have BKz1 := nz2; have GWz1 := nz3; have GEz1 := nz4; clear nz1 nz2 nz3 nz4; clear hb hbox hg; have hczz1 : wz1.cell? ⟨gbz1, 0, none⟩ = some (.slice A0_0 l0_0.length c0_0) := (blk_cell BKz1.out 0).trans rfl; have hczz2 : wz1.cell? ⟨gbz1, 1, none⟩ = some (.slice A0_1 l0_1.length c0_1) := (blk_cell BKz1.out 1).trans rfl; have hczz3 : wz1.cell? ⟨gbz1, 2, none⟩ = some (.slice A0_2 l0_2.length c0_2) := (blk_cell BKz1.out 2).trans rfl; have hfzz1 := blk_frozen BKz1.out 0; have hfzz2 := blk_frozen BKz1.out 1; have hfzz3 := blk_frozen BKz1.out 2) | ((with_reducible refine gate_callee (f := 6) rfl ?_); refine goesL_ (some 9) rfl rfl Tryd.func6 (by kernel_rfl) rfl #[.agg #[.slice A0_0 l0_0.length c0_0, .slice A0_1 l0_1.length c0_1, .slice A0_2 l0_2.length c0_2], .int .i64 1048576] rfl ar_ ?_; (with_reducible refine (laws_szNode.calls k _ _ l0_0 _ _ l0_1 _ _ l0_2 1048576 tz1 _ ?side1 ?side2 ?side3 ?side4 ?side5 ?side6 Az2.out).mono ?_); (case side1 => exact Kd.C_below HRz1.out be_); (case side2 => exact HCz1.out); (case side3 => exact Kd.C_below HRz2.out be_); (case side4 => exact HCz2.out); (case side5 => exact Kd.C_below HRz3.out be_); (case side6 => exact HCz3.out); rintro e wz2 ⟨rfl, hb⟩; refine ⟨_, rfl, ?_⟩; have nz1 := Aside0.mk (blk_below (g := gbz1) (o := .cells #[.slice A0_0 l0_0.length c0_0, .slice A0_1 l0_1.length c0_1, .slice A0_2 l0_2.length c0_2] 26 (0, 0)) bk_ hb); have nz2 := Aside0.mk (below_step be_ hb); clear BKz1; clear HB; have BKz1 := nz1; have HB := nz2; clear nz1 nz2; (try clear hb); (try clear hb2); (try clear hk); (try clear hi); have hczz4 : wz2.cell? ⟨gbz1, 0, none⟩ = some (.slice A0_0 l0_0.length c0_0) := (blk_cell BKz1.out 0).trans rfl; have hczz5 : wz2.cell? ⟨gbz1, 1, none⟩ = some (.slice A0_1 l0_1.length c0_1) := (blk_cell BKz1.out 1).trans rfl; have hczz6 : wz2.cell? ⟨gbz1, 2, none⟩ = some (.slice A0_2 l0_2.length c0_2) := (blk_cell BKz1.out 2).trans rfl; have hfzz4 := blk_frozen BKz1.out 0; have hfzz5 := blk_frozen BKz1.out 1; have hfzz6 := blk_frozen BKz1.out 2) | ((with_reducible refine gate_callee (f := 8) rfl ?_); refine goesL_ (some 13) rfl rfl Tryd.func8 (by kernel_rfl) rfl #[.agg #[.slice A0_0 l0_0.length c0_0, .slice A0_1 l0_1.length c0_1, .slice A0_2 l0_2.length c0_2]] rfl ar_ ?_; (with_reducible refine (laws_toNode.calls k _ _ l0_0 _ _ l0_1 _ _ l0_2 tz2 tz3 tz4 _ ?side1 ?side2 ?side3 ?side4 ?side5 ?side6 Az4.out).mono ?_); (case side1 => exact Kd.C_below HRz1.out be_); (case side2 => exact HCz1.out); (case side3 => exact Kd.C_below HRz2.out be_); (case side4 => exact HCz2.out); (case side5 => exact Kd.C_below HRz3.out be_); (case side6 => exact HCz3.out); rintro e wz3 ⟨vz1, vz2, vz3, rfl, hoz1, hoz2, hoz3, hb⟩; refine ⟨_, rfl, ?_⟩; have nz1 := Aside0.mk (Kd.R_lower hoz1 (below_size be_)); have nz2 := Aside0.mk (Kd.R_lower hoz2 (below_size be_)); have nz3 := Aside0.mk (Kd.R_lower hoz3 (below_size be_)); have nz4 := Aside0.mk (blk_below (g := gbz1) (o := .cells #[.slice A0_0 l0_0.length c0_0, .slice A0_1 l0_1.length c0_1, .slice A0_2 l0_2.length c0_2] 26 (0, 0)) bk_ hb); have nz5 := Aside0.mk (below_step be_ hb); clear BKz1; clear HB; have HOz1 := nz1; have HOz2 := nz2; have HOz3 := nz3; have BKz1 := nz4; have HB := nz5; clear nz1 nz2 nz3 nz4 nz5; (try clear hb); (try clear hb2); (try clear hk); (try clear hi); (try clear hoz1); (try clear hoz2); (try clear hoz3); obtain ⟨Aoz1, coz1, eoz1⟩ := Kd.R_slice HOz1.out; subst eoz1; obtain ⟨Aoz2, coz2, eoz2⟩ := Kd.R_slice HOz2.out; subst eoz2; obtain ⟨Aoz3, coz3, eoz3⟩ := Kd.R_slice HOz3.out; subst eoz3) | ((with_reducible refine gate_callee (f := 7) rfl ?_); refine goesL_ (some 14) rfl rfl Tryd.func7 (by kernel_rfl) rfl #[.agg #[.slice Aoz1 tz2.length coz1, .slice Aoz2 tz3.length coz2, .slice Aoz3 tz4.length coz3]] rfl ar_ ?_; (with_reducible refine (spec_NodeOk.calls k _ _ tz2 _ _ tz3 _ _ tz4 tz5 _ ?side1 ?side2 ?side3 ?side4 ?side5 ?side6 Az6.out).mono ?_); (case side1 => repeat (first | exact (Kd.R_reads' HOz1.out).2.2 | (with_reducible refine Kd.C_alloc ?_ _) | (with_reducible refine Kd.C_drewN ?_ _) | (with_reducible refine Kd.C_drew ?_))); (case side2 => exact (Kd.R_reads' HOz1.out).2.1); (case side3 => repeat (first | exact (Kd.R_reads' HOz2.out).2.2 | (with_reducible refine Kd.C_alloc ?_ _) | (with_reducible refine Kd.C_drewN ?_ _) | (with_reducible refine Kd.C_drew ?_))); (case side4 => exact (Kd.R_reads' HOz2.out).2.1); (case side5 => repeat (first | exact (Kd.R_reads' HOz3.out).2.2 | (with_reducible refine Kd.C_alloc ?_ _) | (with_reducible refine Kd.C_drewN ?_ _) | (with_reducible refine Kd.C_drew ?_))); (case side6 => exact (Kd.R_reads' HOz3.out).2.1); rintro e wz4 ⟨rfl, hb⟩; refine ⟨_, rfl, ?_⟩; have nz1 := Aside0.mk (Kd.R_below (by (with_reducible repeat (first | apply Kd.R_alloc | apply Kd.R_drewN | apply Kd.R_drew)); exact HOz1.out) hb); have nz2 := Aside0.mk (Kd.R_below (by (with_reducible repeat (first | apply Kd.R_alloc | apply Kd.R_drewN | apply Kd.R_drew)); exact HOz2.out) hb); have nz3 := Aside0.mk (Kd.R_below (by (with_reducible repeat (first | apply Kd.R_alloc | apply Kd.R_drewN | apply Kd.R_drew)); exact HOz3.out) hb); have nz4 := Aside0.mk (blk_below (g := gbz1) (o := .cells #[.slice A0_0 l0_0.length c0_0, .slice A0_1 l0_1.length c0_1, .slice A0_2 l0_2.length c0_2] 26 (0, 0)) bk_ hb); have nz5 := Aside0.mk (below_step be_ hb); clear HOz1; clear HOz2; clear HOz3; clear BKz1; clear HB; have HOz1 := nz1; have HOz2 := nz2; have HOz3 := nz3; have BKz1 := nz4; have HB := nz5; clear nz1 nz2 nz3 nz4 nz5; (try clear hb); (try clear hb2); (try clear hk); (try clear hi); have hczz7 : wz4.cell? ⟨gbz1, 0, none⟩ = some (.slice A0_0 l0_0.length c0_0) := (blk_cell BKz1.out 0).trans rfl; have hczz8 : wz4.cell? ⟨gbz1, 1, none⟩ = some (.slice A0_1 l0_1.length c0_1) := (blk_cell BKz1.out 1).trans rfl; have hczz9 : wz4.cell? ⟨gbz1, 2, none⟩ = some (.slice A0_2 l0_2.length c0_2) := (blk_cell BKz1.out 2).trans rfl; have hfzz7 := blk_frozen BKz1.out 0; have hfzz8 := blk_frozen BKz1.out 1; have hfzz9 := blk_frozen BKz1.out 2) | ((with_reducible refine gate_callee (f := 8) rfl ?_); refine goesL_ (some 16) rfl rfl Tryd.func8 (by kernel_rfl) rfl #[.agg #[.slice A0_0 l0_0.length c0_0, .slice A0_1 l0_1.length c0_1, .slice A0_2 l0_2.length c0_2]] rfl ar_ ?_; (with_reducible refine (laws_toNode.calls k _ _ l0_0 _ _ l0_1 _ _ l0_2 tz6 tz7 tz8 _ ?side1 ?side2 ?side3 ?side4 ?side5 ?side6 Az8.out).mono ?_); (case side1 => exact Kd.C_below HRz1.out be_); (case side2 => exact HCz1.out); (case side3 => exact Kd.C_below HRz2.out be_); (case side4 => exact HCz2.out); (case side5 => exact Kd.C_below HRz3.out be_); (case side6 => exact HCz3.out); rintro e wz5 ⟨vz4, vz5, vz6, rfl, hoz1, hoz2, hoz3, hb⟩; refine ⟨_, rfl, ?_⟩; have nz1 := Aside0.mk (Kd.R_elder' (by (with_reducible repeat (first | apply Kd.R_alloc | apply Kd.R_drewN | apply Kd.R_drew)); exact HOz1.out) (Kd.R_base hoz1) hb); have nz2 := Aside0.mk (Kd.R_mono (Kd.R_told (Kd.R_told (Kd.R_told (Kd.R_old (by (with_reducible repeat (first | apply Kd.R_alloc | apply Kd.R_drewN | apply Kd.R_drew)); exact HOz2.out) hb) (Kd.R_base hoz1)) (Kd.R_base hoz2)) (Kd.R_base hoz3)) (fun _ h_ => h_.1)); have nz3 := Aside0.mk (Kd.R_elder' (by (with_reducible repeat (first | apply Kd.R_alloc | apply Kd.R_drewN | apply Kd.R_drew)); exact HOz3.out) (Kd.R_base hoz3) hb); have nz4 := Aside0.mk (Kd.R_lower (Kd.R_new' hoz1 (Kd.R_lt (by (with_reducible repeat (first | apply Kd.R_alloc | apply Kd.R_drewN | apply Kd.R_drew)); exact HOz1.out))) (below_size be_)); have nz5 := Aside0.mk (Kd.R_lower (Kd.R_new' (Kd.R_new' (Kd.R_new' hoz2 (Kd.R_lt (by (with_reducible repeat (first | apply Kd.R_alloc | apply Kd.R_drewN | apply Kd.R_drew)); exact HOz1.out))) (Kd.R_lt (by (with_reducible repeat (first | apply Kd.R_alloc | apply Kd.R_drewN | apply Kd.R_drew)); exact HOz2.out))) (Kd.R_lt (by (with_reducible repeat (first | apply Kd.R_alloc | apply Kd.R_drewN | apply Kd.R_drew)); exact HOz3.out))) (below_size be_)); have nz6 := Aside0.mk (Kd.R_lower (Kd.R_new' hoz3 (Kd.R_lt (by (with_reducible repeat (first | apply Kd.R_alloc | apply Kd.R_drewN | apply Kd.R_drew)); exact HOz3.out))) (below_size be_)); have nz7 := Aside0.mk (blk_below (g := gbz1) (o := .cells #[.slice A0_0 l0_0.length c0_0, .slice A0_1 l0_1.length c0_1, .slice A0_2 l0_2.length c0_2] 26 (0, 0)) bk_ hb); have nz8 := Aside0.mk (below_step be_ hb); clear HOz1; clear HOz2; clear HOz3; clear BKz1; clear HB; have HOz1 := nz1; have HOz2 := nz2; have HOz3 := nz3; have HOz4 := nz4; have HOz5 := nz5; have HOz6 := nz6; have BKz1 := nz7; have HB := nz8; clear nz1 nz2 nz3 nz4 nz5 nz6 nz7 nz8; (try clear hb); (try clear hb2); (try clear hk); (try clear hi); (try clear hoz1); (try clear hoz2); (try clear hoz3)) | ((with_reducible refine gate_dst (N := 5) rfl ?_); refine box_event ?hg (N := 5) ?hd (cs := #[.slice none 0 0, .slice none 0 0, .slice none 0 0]) (t := 32) ?hr ?_; (case hd => rfl); (case hg => rfl); (case hr => first | (go_simp; done) | (go_simp; rfl)); intro gbz2 hg wz6 hbox hb; have nz1 := Aside0.mk (Kd.R_below (by (with_reducible repeat (first | apply Kd.R_alloc | apply Kd.R_drewN | apply Kd.R_drew)); exact HOz1.out) hb); have nz2 := Aside0.mk (Kd.R_below (Kd.R_elderB (by (with_reducible repeat (first | apply Kd.R_alloc | apply Kd.R_drewN | apply Kd.R_drew)); exact HOz2.out) gbz2 (Nat.le_of_eq hg.symm)) hb); have nz3 := Aside0.mk (Kd.R_below (by (with_reducible repeat (first | apply Kd.R_alloc | apply Kd.R_drewN | apply Kd.R_drew)); exact HOz3.out) hb); have nz4 := Aside0.mk (Kd.R_below (by (with_reducible repeat (first | apply Kd.R_alloc | apply Kd.R_drewN | apply Kd.R_drew)); exact HOz4.out) hb); have nz5 := Aside0.mk (Kd.R_below (Kd.R_elderB (by (with_reducible repeat (first | apply Kd.R_alloc | apply Kd.R_drewN | apply Kd.R_drew)); exact HOz5.out) gbz2 (Nat.le_of_eq hg.symm)) hb); have nz6 := Aside0.mk (Kd.R_below (by (with_reducible repeat (first | apply Kd.R_alloc | apply Kd.R_drewN | apply Kd.R_drew)); exact HOz6.out) hb); have nz7 := Aside0.mk (blk_below (g := gbz1) (o := .cells #[.slice A0_0 l0_0.length c0_0, .slice A0_1 l0_1.length c0_1, .slice A0_2 l0_2.length c0_2] 26 (0, 0)) bk_ hb); have nz8 := Aside0.mk (below_step be_ hb); have nz9 := Aside0.mk (hbox); have nz10 := Aside0.mk ((sz_ : w.heap.size ≤ gbz2)); have nz11 := Aside0.mk ((sz_ : w.heap.size ≤ gbz2)); have nz12 := Aside0.mk ((by rw [hg]; exact Nat.ne_of_lt (blk_lt (g := gbz1) (o := .cells #[.slice A0_0 l0_0.length c0_0, .slice A0_1 l0_1.length c0_1, .slice A0_2 l0_2.length c0_2] 26 (0, 0)) bk_) : gbz1 ≠ gbz2)); have nz13 := Aside0.mk ((by rw [hg]; exact Nat.ne_of_gt (blk_lt (g := gbz1) (o := .cells #[.slice A0_0 l0_0.length c0_0, .slice A0_1 l0_1.length c0_1, .slice A0_2 l0_2.length c0_2] 26 (0, 0)) bk_) : gbz2 ≠ gbz1)); clear HOz1; clear HOz2; clear HOz3; clear HOz4; clear HOz5; clear HOz6; clear BKz1; clear HB; have HOz1 := nz1; have HOz2 := nz2; have HOz3 := nz3; have HOz4 := nz4; have HOz5 := nz5; have HOz6 := nz6; have BKz1 := nz7; have HB := nz8; have BKz2 := nz9; have GWz2 := nz10; have GEz2 := nz11; have NBz1 := nz12; have NBz2 := nz13; clear nz1 nz2 nz3 nz4 nz5 nz6 nz7 nz8 nz9 nz10 nz11 nz12 nz13; clear hb hbox hg; obtain ⟨Aoz4, coz4, eoz4⟩ := Kd.R_slice HOz4.out; subst eoz4; have hnbz1 := NBz2.out; have hncz1 := NBz1.out; have hczz10 : wz6.cell? ⟨gbz2, 0, none⟩ = some (.slice none 0 0) := (blk_cell BKz2.out 0).trans rfl; have hczz11 : wz6.cell? ⟨gbz2, 1, none⟩ = some (.slice none 0 0) := (blk_cell BKz2.out 1).trans rfl; have hczz12 : wz6.cell? ⟨gbz2, 2, none⟩ = some (.slice none 0 0) := (blk_cell BKz2.out 2).trans rfl; have hfzz10 := blk_frozen BKz2.out 0; have hfzz11 := blk_frozen BKz2.out 1; have hfzz12 := blk_frozen BKz2.out 2; obtain ⟨Aoz5, coz5, eoz5⟩ := Kd.R_slice HOz5.out; subst eoz5; obtain ⟨Aoz6, coz6, eoz6⟩ := Kd.R_slice HOz6.out; subst eoz6) | ((with_reducible refine gate_callee (f := 9) rfl ?_); refine goesL_ (some 18) rfl rfl Tryd.func9 (by kernel_rfl) rfl #[.agg #[.slice Aoz4 tz6.length coz4, .slice Aoz5 tz7.length coz5, .slice Aoz6 tz8.length coz6]] rfl ar_ ?_; (with_reducible refine (impl_NodeOk.calls k _ _ tz6 _ _ tz7 _ _ tz8 tz9 _ ?side1 ?side2 ?side3 ?side4 ?side5 ?side6 ?side7 Az10.out).mono ?_); (case side1 => refine (Kd.R_reads' (e := 9) (base := w.heap.size) (ok := fun k_ => (True ∧ some k_ ≠ (.slice Aoz1 tz2.length coz1 : Value).ownBlock)) (n := tz6.length) (c := coz4) ?_).2.2; exact (by (with_reducible repeat (first | apply Kd.R_alloc | apply Kd.R_drewN | apply Kd.R_drew)); exact (Kd.R_mono (Kd.R_far (p := ⟨gbz2, 2, none⟩) (Kd.R_far (p := ⟨gbz2, 1, none⟩) (Kd.R_far (p := ⟨gbz2, 0, none⟩) (Kd.R_types HOz4.out BKz2.out (by decide)) (fun _ hk => hk.2) (.slice Aoz4 tz6.length coz4)) (fun _ hk => hk.2) (.slice Aoz5 tz7.length coz5)) (fun _ hk => hk.2) (.slice Aoz6 tz8.length coz6)) (fun _ h_ => h_.1)))); (case side2 => exact (Kd.R_reads' HOz4.out).2.1); (case side3 => refine (Kd.R_reads' (e := 32) (base := w.heap.size) (ok := fun k_ => (((((some k_ ≠ (.slice Aoz4 tz6.length coz4 : Value).ownBlock ∧ some k_ ≠ (.slice Aoz6 tz8.length coz6 : Value).ownBlock) ∧ some k_ ≠ (.slice Aoz1 tz2.length coz1 : Value).ownBlock) ∧ some k_ ≠ (.slice Aoz2 tz3.length coz2 : Value).ownBlock) ∧ some k_ ≠ (.slice Aoz3 tz4.length coz3 : Value).ownBlock) ∧ k_ ≠ gbz2)) (n := tz7.length) (c := coz5) ?_).2.2; exact (by (with_reducible repeat (first | apply Kd.R_alloc | apply Kd.R_drewN | apply Kd.R_drew)); exact (Kd.R_mono (Kd.R_far (p := ⟨gbz2, 2, none⟩) (Kd.R_far (p := ⟨gbz2, 1, none⟩) (Kd.R_far (p := ⟨gbz2, 0, none⟩) (Kd.R_mono HOz5.out (fun k_ hk => (⟨hk, hk.2⟩ : _ ∧ k_ ≠ gbz2))) (fun _ hk => hk.2) (.slice Aoz4 tz6.length coz4)) (fun _ hk => hk.2) (.slice Aoz5 tz7.length coz5)) (fun _ hk => hk.2) (.slice Aoz6 tz8.length coz6)) (fun _ h_ => h_.1)))); (case side4 => exact (Kd.R_reads' HOz5.out).2.1); (case side5 => refine (Kd.R_reads' (e := 81) (base := w.heap.size) (ok := fun k_ => (True ∧ some k_ ≠ (.slice Aoz3 tz4.length coz3 : Value).ownBlock)) (n := tz8.length) (c := coz6) ?_).2.2; exact (by (with_reducible repeat (first | apply Kd.R_alloc | apply Kd.R_drewN | apply Kd.R_drew)); exact (Kd.R_mono (Kd.R_far (p := ⟨gbz2, 2, none⟩) (Kd.R_far (p := ⟨gbz2, 1, none⟩) (Kd.R_far (p := ⟨gbz2, 0, none⟩) (Kd.R_types HOz6.out BKz2.out (by decide)) (fun _ hk => hk.2) (.slice Aoz4 tz6.length coz4)) (fun _ hk => hk.2) (.slice Aoz5 tz7.length coz5)) (fun _ hk => hk.2) (.slice Aoz6 tz8.length coz6)) (fun _ h_ => h_.1)))); (case side6 => exact (Kd.R_reads' HOz6.out).2.1); (case side7 => exact Tabs.below HT.out be_); rintro e wz7 ⟨rfl, hb⟩; refine ⟨_, rfl, ?_⟩; have nz1 := Aside0.mk (Kd.R_below (by (with_reducible repeat (first | apply Kd.R_alloc | apply Kd.R_drewN | apply Kd.R_drew)); exact (Kd.R_mono (Kd.R_far (p := ⟨gbz2, 2, none⟩) (Kd.R_far (p := ⟨gbz2, 1, none⟩) (Kd.R_far (p := ⟨gbz2, 0, none⟩) (Kd.R_types HOz1.out BKz2.out (by decide)) (fun _ hk => hk.2) (.slice Aoz4 tz6.length coz4)) (fun _ hk => hk.2) (.slice Aoz5 tz7.length coz5)) (fun _ hk => hk.2) (.slice Aoz6 tz8.length coz6)) (fun _ h_ => h_.1))) hb); have nz2 := Aside0.mk (Kd.R_below (by (with_reducible repeat (first | apply Kd.R_alloc | apply Kd.R_drewN | apply Kd.R_drew)); exact (Kd.R_mono (Kd.R_far (p := ⟨gbz2, 2, none⟩) (Kd.R_far (p := ⟨gbz2, 1, none⟩) (Kd.R_far (p := ⟨gbz2, 0, none⟩) (Kd.R_mono HOz2.out (fun k_ hk => (⟨hk, hk.2⟩ : _ ∧ k_ ≠ gbz2))) (fun _ hk => hk.2) (.slice Aoz4 tz6.length coz4)) (fun _ hk => hk.2) (.slice Aoz5 tz7.length coz5)) (fun _ hk => hk.2) (.slice Aoz6 tz8.length coz6)) (fun _ h_ => h_.1))) hb); have nz3 := Aside0.mk (Kd.R_below (by (with_reducible repeat (first | apply Kd.R_alloc | apply Kd.R_drewN | apply Kd.R_drew)); exact (Kd.R_mono (Kd.R_far (p := ⟨gbz2, 2, none⟩) (Kd.R_far (p := ⟨gbz2, 1, none⟩) (Kd.R_far (p := ⟨gbz2, 0, none⟩) (Kd.R_types HOz3.out BKz2.out (by decide)) (fun _ hk => hk.2) (.slice Aoz4 tz6.length coz4)) (fun _ hk => hk.2) (.slice Aoz5 tz7.length coz5)) (fun _ hk => hk.2) (.slice Aoz6 tz8.length coz6)) (fun _ h_ => h_.1))) hb); have nz4 := Aside0.mk (Kd.R_below (by (with_reducible repeat (first | apply Kd.R_alloc | apply Kd.R_drewN | apply Kd.R_drew)); exact (Kd.R_mono (Kd.R_far (p := ⟨gbz2, 2, none⟩) (Kd.R_far (p := ⟨gbz2, 1, none⟩) (Kd.R_far (p := ⟨gbz2, 0, none⟩) (Kd.R_types HOz4.out BKz2.out (by decide)) (fun _ hk => hk.2) (.slice Aoz4 tz6.length coz4)) (fun _ hk => hk.2) (.slice Aoz5 tz7.length coz5)) (fun _ hk => hk.2) (.slice Aoz6 tz8.length coz6)) (fun _ h_ => h_.1))) hb); have nz5 := Aside0.mk (Kd.R_below (by (with_reducible repeat (first | apply Kd.R_alloc | apply Kd.R_drewN | apply Kd.R_drew)); exact (Kd.R_mono (Kd.R_far (p := ⟨gbz2, 2, none⟩) (Kd.R_far (p := ⟨gbz2, 1, none⟩) (Kd.R_far (p := ⟨gbz2, 0, none⟩) (Kd.R_mono HOz5.out (fun k_ hk => (⟨hk, hk.2⟩ : _ ∧ k_ ≠ gbz2))) (fun _ hk => hk.2) (.slice Aoz4 tz6.length coz4)) (fun _ hk => hk.2) (.slice Aoz5 tz7.length coz5)) (fun _ hk => hk.2) (.slice Aoz6 tz8.length coz6)) (fun _ h_ => h_.1))) hb); have nz6 := Aside0.mk (Kd.R_below (by (with_reducible repeat (first | apply Kd.R_alloc | apply Kd.R_drewN | apply Kd.R_drew)); exact (Kd.R_mono (Kd.R_far (p := ⟨gbz2, 2, none⟩) (Kd.R_far (p := ⟨gbz2, 1, none⟩) (Kd.R_far (p := ⟨gbz2, 0, none⟩) (Kd.R_types HOz6.out BKz2.out (by decide)) (fun _ hk => hk.2) (.slice Aoz4 tz6.length coz4)) (fun _ hk => hk.2) (.slice Aoz5 tz7.length coz5)) (fun _ hk => hk.2) (.slice Aoz6 tz8.length coz6)) (fun _ h_ => h_.1))) hb); have nz7 := Aside0.mk (blk_below (g := gbz1) (o := .cells #[.slice A0_0 l0_0.length c0_0, .slice A0_1 l0_1.length c0_1, .slice A0_2 l0_2.length c0_2] 26 (0, 0)) (by (with_reducible repeat (first | refine blk_drewN ?_ _ | refine blk_drew ?_ | refine blk_alloc ?_ _)); refine blk_far ?_ NBz1.out _; (with_reducible repeat (first | refine blk_drewN ?_ _ | refine blk_drew ?_ | refine blk_alloc ?_ _)); refine blk_far ?_ NBz1.out _; (with_reducible repeat (first | refine blk_drewN ?_ _ | refine blk_drew ?_ | refine blk_alloc ?_ _)); refine blk_far ?_ NBz1.out _; (with_reducible repeat (first | refine blk_drewN ?_ _ | refine blk_drew ?_ | refine blk_alloc ?_ _)); exact BKz1.out) hb); have nz8 := Aside0.mk (blk_below (g := gbz2) (o := .cells #[.slice Aoz4 tz6.length coz4, .slice Aoz5 tz7.length coz5, .slice Aoz6 tz8.length coz6] 32 (0, 0)) (by (with_reducible repeat (first | refine blk_drewN ?_ _ | refine blk_drew ?_ | refine blk_alloc ?_ _)); refine blk_put (cs := #[.slice Aoz4 tz6.length coz4, .slice Aoz5 tz7.length coz5, .slice none 0 0]) ?_ 2 _ rfl; (with_reducible repeat (first | refine blk_drewN ?_ _ | refine blk_drew ?_ | refine blk_alloc ?_ _)); refine blk_put (cs := #[.slice Aoz4 tz6.length coz4, .slice none 0 0, .slice none 0 0]) ?_ 1 _ rfl; (with_reducible repeat (first | refine blk_drewN ?_ _ | refine blk_drew ?_ | refine blk_alloc ?_ _)); refine blk_put (cs := #[.slice none 0 0, .slice none 0 0, .slice none 0 0]) ?_ 0 _ rfl; (with_reducible repeat (first | refine blk_drewN ?_ _ | refine blk_drew ?_ | refine blk_alloc ?_ _)); exact BKz2.out) hb); have nz9 := Aside0.mk (below_step be_ hb); clear HOz1; clear HOz2; clear HOz3; clear HOz4; clear HOz5; clear HOz6; clear BKz1; clear BKz2; clear HB; have HOz1 := nz1; have HOz2 := nz2; have HOz3 := nz3; have HOz4 := nz4; have HOz5 := nz5; have HOz6 := nz6; have BKz1 := nz7; have BKz2 := nz8; have HB := nz9; clear nz1 nz2 nz3 nz4 nz5 nz6 nz7 nz8 nz9; (try clear hb); (try clear hb2); (try clear hk); (try clear hi)))
  have nz1 := Aside0.mk (Kd.R_drew HOz1.out)
  have nz2 := Aside0.mk (Kd.R_drew HOz2.out)
  have nz3 := Aside0.mk (Kd.R_drew HOz3.out)
  have nz4 := Aside0.mk (Kd.R_drew HOz4.out)
  have nz5 := Aside0.mk (Kd.R_drew HOz5.out)
  have nz6 := Aside0.mk (Kd.R_drew HOz6.out)
  have nz7 := Aside0.mk (blk_drew BKz1.out)
  have nz8 := Aside0.mk (blk_drew BKz2.out)
  have nz9 := Aside0.mk (below_drew1 HB.out)
  clear HOz1
  clear HOz2
  clear HOz3
  clear HOz4
  clear HOz5
  clear HOz6
  clear BKz1
  clear BKz2
  clear HB
  have HOz1 := nz1
  have HOz2 := nz2
  have HOz3 := nz3
  have HOz4 := nz4
  have HOz5 := nz5
  have HOz6 := nz6
  have BKz1 := nz7
  have BKz2 := nz8
  have HB := nz9
  clear nz1 nz2 nz3 nz4 nz5 nz6 nz7 nz8 nz9
  refine start_ (n := 5) (S := fun w' => w'.cell? ⟨gbz2, 0, none⟩ = some (.slice Aoz4 tz6.length coz4) ∧ w'.cell? ⟨gbz2, 1, none⟩ = some (.slice Aoz5 tz7.length coz5) ∧ w'.cell? ⟨gbz2, 2, none⟩ = some (.slice Aoz6 tz8.length coz6) ∧ w'.cell? ⟨gbz1, 0, none⟩ = some (.slice A0_0 l0_0.length c0_0) ∧ w'.cell? ⟨gbz1, 1, none⟩ = some (.slice A0_1 l0_1.length c0_1) ∧ w'.cell? ⟨gbz1, 2, none⟩ = some (.slice A0_2 l0_2.length c0_2)) (ds := []) #[false, false, false, false, false] (by kernel_rfl) rfl rfl ⟨(blk_cell BKz2.out 0).trans rfl, (blk_cell BKz2.out 1).trans rfl, (blk_cell BKz2.out 2).trans rfl, (blk_cell BKz1.out 0).trans rfl, (blk_cell BKz1.out 1).trans rfl, (blk_cell BKz1.out 2).trans rfl⟩ (fun hHeld => ?_)
  generalize wz7.drew = wz8 at HOz1 HOz2 HOz3 HOz4 HOz5 HOz6 BKz1 BKz2 HB hHeld ⊢
  refine take_ (i := 0) (N := some 22) (v := ?_) (a' := ?_) #[true, false, false, false, false] rfl rfl (by kernel_rfl) (fun _ _ _ h => h) (Or.inl ⟨by rfl, ?_⟩) hHeld ?_ ?_
  rotate_left
  · rintro w' ⟨sz1, sz2, sz3, sz4, sz5, sz6⟩
    go_simp
    with_reducible rfl
  rotate_left
  · simp only [Act.put, List.setIfInBounds_toArray, List.set_cons_zero, List.set_cons_succ, i64_w, i32_w]
    rfl
  refine take_ (i := 1) (N := some 23) (v := ?_) (a' := ?_) #[true, true, false, false, false] rfl rfl (by kernel_rfl) (fun _ _ _ h => h) (Or.inl ⟨by rfl, ?_⟩) hHeld ?_ ?_
  rotate_left
  · rintro w' ⟨sz1, sz2, sz3, sz4, sz5, sz6⟩
    go_simp
    with_reducible rfl
  rotate_left
  · simp only [Act.put, List.setIfInBounds_toArray, List.set_cons_zero, List.set_cons_succ, i64_w, i32_w]
    rfl
  refine one_ (i := 2) (N := some 24) #[true, true, true, false, false] rfl rfl (by kernel_rfl) (by decide) (fun K hK => ?_)
  refine goes_ Tryd.func8 (by kernel_rfl) rfl #[.agg #[.slice A0_0 l0_0.length c0_0, .slice A0_1 l0_1.length c0_1, .slice A0_2 l0_2.length c0_2]] (by rfl) rfl rfl ar_ ?_
  with_reducible refine (laws_toNode.calls k _ _ l0_0 _ _ l0_1 _ _ l0_2 tz10 tz11 tz12 _ ?side1 ?side2 ?side3 ?side4 ?side5 ?side6 Az12.out).mono ?_
  (case side1 => exact Kd.C_below HRz1.out be_)
  (case side2 => exact HCz1.out)
  (case side3 => exact Kd.C_below HRz2.out be_)
  (case side4 => exact HCz2.out)
  (case side5 => exact Kd.C_below HRz3.out be_)
  (case side6 => exact HCz3.out)
  rintro e wz9 ⟨vz7, vz8, vz9, rfl, hoz1, hoz2, hoz3, hb⟩
  refine ⟨_, rfl, ?_⟩
  have nz1 := Aside0.mk (Kd.R_elder' (by (with_reducible repeat (first | apply Kd.R_alloc | apply Kd.R_drewN | apply Kd.R_drew)); exact HOz1.out) (Kd.R_base hoz1) hb)
  have nz2 := Aside0.mk (Kd.R_mono (Kd.R_told (Kd.R_told (Kd.R_told (Kd.R_old (by (with_reducible repeat (first | apply Kd.R_alloc | apply Kd.R_drewN | apply Kd.R_drew)); exact HOz2.out) hb) (Kd.R_base hoz1)) (Kd.R_base hoz2)) (Kd.R_base hoz3)) (fun _ h_ => h_.1))
  have nz3 := Aside0.mk (Kd.R_elder' (by (with_reducible repeat (first | apply Kd.R_alloc | apply Kd.R_drewN | apply Kd.R_drew)); exact HOz3.out) (Kd.R_base hoz3) hb)
  have nz4 := Aside0.mk (Kd.R_elder' (by (with_reducible repeat (first | apply Kd.R_alloc | apply Kd.R_drewN | apply Kd.R_drew)); exact HOz4.out) (Kd.R_base hoz1) hb)
  have nz5 := Aside0.mk (Kd.R_mono (Kd.R_told (Kd.R_told (Kd.R_told (Kd.R_old (by (with_reducible repeat (first | apply Kd.R_alloc | apply Kd.R_drewN | apply Kd.R_drew)); exact HOz5.out) hb) (Kd.R_base hoz1)) (Kd.R_base hoz2)) (Kd.R_base hoz3)) (fun _ h_ => h_.1))
  have nz6 := Aside0.mk (Kd.R_elder' (by (with_reducible repeat (first | apply Kd.R_alloc | apply Kd.R_drewN | apply Kd.R_drew)); exact HOz6.out) (Kd.R_base hoz3) hb)
  have nz7 := Aside0.mk (Kd.R_lower (Kd.R_new' (Kd.R_new' hoz1 (Kd.R_lt (by (with_reducible repeat (first | apply Kd.R_alloc | apply Kd.R_drewN | apply Kd.R_drew)); exact HOz1.out))) (Kd.R_lt (by (with_reducible repeat (first | apply Kd.R_alloc | apply Kd.R_drewN | apply Kd.R_drew)); exact HOz4.out))) (below_size be_))
  have nz8 := Aside0.mk (Kd.R_lower (Kd.R_newB (Kd.R_new' (Kd.R_new' (Kd.R_new' (Kd.R_new' (Kd.R_new' (Kd.R_new' hoz2 (Kd.R_lt (by (with_reducible repeat (first | apply Kd.R_alloc | apply Kd.R_drewN | apply Kd.R_drew)); exact HOz1.out))) (Kd.R_lt (by (with_reducible repeat (first | apply Kd.R_alloc | apply Kd.R_drewN | apply Kd.R_drew)); exact HOz2.out))) (Kd.R_lt (by (with_reducible repeat (first | apply Kd.R_alloc | apply Kd.R_drewN | apply Kd.R_drew)); exact HOz3.out))) (Kd.R_lt (by (with_reducible repeat (first | apply Kd.R_alloc | apply Kd.R_drewN | apply Kd.R_drew)); exact HOz4.out))) (Kd.R_lt (by (with_reducible repeat (first | apply Kd.R_alloc | apply Kd.R_drewN | apply Kd.R_drew)); exact HOz5.out))) (Kd.R_lt (by (with_reducible repeat (first | apply Kd.R_alloc | apply Kd.R_drewN | apply Kd.R_drew)); exact HOz6.out))) (g := gbz2) (o := .cells #[.slice Aoz4 tz6.length coz4, .slice Aoz5 tz7.length coz5, .slice Aoz6 tz8.length coz6] 32 (0, 0)) bk_) (below_size be_))
  have nz9 := Aside0.mk (Kd.R_lower (Kd.R_new' (Kd.R_new' hoz3 (Kd.R_lt (by (with_reducible repeat (first | apply Kd.R_alloc | apply Kd.R_drewN | apply Kd.R_drew)); exact HOz3.out))) (Kd.R_lt (by (with_reducible repeat (first | apply Kd.R_alloc | apply Kd.R_drewN | apply Kd.R_drew)); exact HOz6.out))) (below_size be_))
  have nz10 := Aside0.mk (blk_below (g := gbz1) (o := .cells #[.slice A0_0 l0_0.length c0_0, .slice A0_1 l0_1.length c0_1, .slice A0_2 l0_2.length c0_2] 26 (0, 0)) bk_ hb)
  have nz11 := Aside0.mk (blk_below (g := gbz2) (o := .cells #[.slice Aoz4 tz6.length coz4, .slice Aoz5 tz7.length coz5, .slice Aoz6 tz8.length coz6] 32 (0, 0)) bk_ hb)
  have nz12 := Aside0.mk (below_step be_ hb)
  clear HOz1
  clear HOz2
  clear HOz3
  clear HOz4
  clear HOz5
  clear HOz6
  clear BKz1
  clear BKz2
  clear HB
  have HOz1 := nz1
  have HOz2 := nz2
  have HOz3 := nz3
  have HOz4 := nz4
  have HOz5 := nz5
  have HOz6 := nz6
  have HOz7 := nz7
  have HOz8 := nz8
  have HOz9 := nz9
  have BKz1 := nz10
  have BKz2 := nz11
  have HB := nz12
  clear nz1 nz2 nz3 nz4 nz5 nz6 nz7 nz8 nz9 nz10 nz11 nz12
  (try clear hb)
  (try clear hb2)
  (try clear hk)
  (try clear hi)
  (try clear hoz1)
  (try clear hoz2)
  (try clear hoz3)
  obtain ⟨Aoz7, coz7, eoz7⟩ := Kd.R_slice HOz7.out
  (first | subst eoz7 | (injection eoz7 with f1_ f2_ f3_; have fz1 := f1_.symm; have fz2 := f3_.symm; clear f1_ f2_ f3_; subst fz1; subst fz2))
  obtain ⟨Aoz8, coz8, eoz8⟩ := Kd.R_slice HOz8.out
  (first | subst eoz8 | (injection eoz8 with f1_ f2_ f3_; have fz1 := f1_.symm; have fz2 := f3_.symm; clear f1_ f2_ f3_; subst fz1; subst fz2))
  obtain ⟨Aoz9, coz9, eoz9⟩ := Kd.R_slice HOz9.out
  (first | subst eoz9 | (injection eoz9 with f1_ f2_ f3_; have fz1 := f1_.symm; have fz2 := f3_.symm; clear f1_ f2_ f3_; subst fz1; subst fz2))
  refine hK.out _ _ ⟨(blk_cell BKz2.out 0).trans rfl, (blk_cell BKz2.out 1).trans rfl, (blk_cell BKz2.out 2).trans rfl, (blk_cell BKz1.out 0).trans rfl, (blk_cell BKz1.out 1).trans rfl, (blk_cell BKz1.out 2).trans rfl⟩ (fun hHeld => ?_)
  clear hK K
  refine norm_ (a' := ?_) ?_ ?_
  rotate_left
  · show Act.put _ (some 24) _ = _
    simp only [Act.put, List.setIfInBounds_toArray, List.set_cons_zero, List.set_cons_succ, i64_w, i32_w]
    rfl
  refine one_ (i := 3) (N := some 25) #[true, true, true, true, false] rfl rfl (by kernel_rfl) (by decide) (fun K hK => ?_)
  refine goes_ Tryd.func10 (by kernel_rfl) rfl #[.agg #[.slice Aoz4 tz6.length coz4, .slice Aoz5 tz7.length coz5, .slice Aoz6 tz8.length coz6], .agg #[.slice Aoz7 tz10.length coz7, .slice Aoz8 tz11.length coz8, .slice Aoz9 tz12.length coz9]] (by rfl) rfl rfl ar_ ?_
  with_reducible refine (laws_eqNode.calls k _ _ tz6 _ _ tz7 _ _ tz8 _ _ tz10 _ _ tz11 _ _ tz12 false _ ?side1 ?side2 ?side3 ?side4 ?side5 ?side6 ?side7 ?side8 ?side9 ?side10 ?side11 ?side12 Az14.out).mono ?_
  (case side1 => repeat (first | exact (Kd.R_reads' HOz4.out).2.2 | (with_reducible refine Kd.C_alloc ?_ _) | (with_reducible refine Kd.C_drewN ?_ _) | (with_reducible refine Kd.C_drew ?_)))
  (case side2 => exact (Kd.R_reads' HOz4.out).2.1)
  (case side3 => repeat (first | exact (Kd.R_reads' HOz5.out).2.2 | (with_reducible refine Kd.C_alloc ?_ _) | (with_reducible refine Kd.C_drewN ?_ _) | (with_reducible refine Kd.C_drew ?_)))
  (case side4 => exact (Kd.R_reads' HOz5.out).2.1)
  (case side5 => repeat (first | exact (Kd.R_reads' HOz6.out).2.2 | (with_reducible refine Kd.C_alloc ?_ _) | (with_reducible refine Kd.C_drewN ?_ _) | (with_reducible refine Kd.C_drew ?_)))
  (case side6 => exact (Kd.R_reads' HOz6.out).2.1)
  (case side7 => repeat (first | exact (Kd.R_reads' HOz7.out).2.2 | (with_reducible refine Kd.C_alloc ?_ _) | (with_reducible refine Kd.C_drewN ?_ _) | (with_reducible refine Kd.C_drew ?_)))
  (case side8 => exact (Kd.R_reads' HOz7.out).2.1)
  (case side9 => repeat (first | exact (Kd.R_reads' HOz8.out).2.2 | (with_reducible refine Kd.C_alloc ?_ _) | (with_reducible refine Kd.C_drewN ?_ _) | (with_reducible refine Kd.C_drew ?_)))
  (case side10 => exact (Kd.R_reads' HOz8.out).2.1)
  (case side11 => repeat (first | exact (Kd.R_reads' HOz9.out).2.2 | (with_reducible refine Kd.C_alloc ?_ _) | (with_reducible refine Kd.C_drewN ?_ _) | (with_reducible refine Kd.C_drew ?_)))
  (case side12 => exact (Kd.R_reads' HOz9.out).2.1)
  rintro e wz10 ⟨rfl, hb⟩
  refine ⟨_, rfl, ?_⟩
  have nz1 := Aside0.mk (Kd.R_below (by (with_reducible repeat (first | apply Kd.R_alloc | apply Kd.R_drewN | apply Kd.R_drew)); exact HOz1.out) hb)
  have nz2 := Aside0.mk (Kd.R_below (by (with_reducible repeat (first | apply Kd.R_alloc | apply Kd.R_drewN | apply Kd.R_drew)); exact HOz2.out) hb)
  have nz3 := Aside0.mk (Kd.R_below (by (with_reducible repeat (first | apply Kd.R_alloc | apply Kd.R_drewN | apply Kd.R_drew)); exact HOz3.out) hb)
  have nz4 := Aside0.mk (Kd.R_below (by (with_reducible repeat (first | apply Kd.R_alloc | apply Kd.R_drewN | apply Kd.R_drew)); exact HOz4.out) hb)
  have nz5 := Aside0.mk (Kd.R_below (by (with_reducible repeat (first | apply Kd.R_alloc | apply Kd.R_drewN | apply Kd.R_drew)); exact HOz5.out) hb)
  have nz6 := Aside0.mk (Kd.R_below (by (with_reducible repeat (first | apply Kd.R_alloc | apply Kd.R_drewN | apply Kd.R_drew)); exact HOz6.out) hb)
  have nz7 := Aside0.mk (Kd.R_below (by (with_reducible repeat (first | apply Kd.R_alloc | apply Kd.R_drewN | apply Kd.R_drew)); exact HOz7.out) hb)
  have nz8 := Aside0.mk (Kd.R_below (by (with_reducible repeat (first | apply Kd.R_alloc | apply Kd.R_drewN | apply Kd.R_drew)); exact HOz8.out) hb)
  have nz9 := Aside0.mk (Kd.R_below (by (with_reducible repeat (first | apply Kd.R_alloc | apply Kd.R_drewN | apply Kd.R_drew)); exact HOz9.out) hb)
  have nz10 := Aside0.mk (blk_below (g := gbz1) (o := .cells #[.slice A0_0 l0_0.length c0_0, .slice A0_1 l0_1.length c0_1, .slice A0_2 l0_2.length c0_2] 26 (0, 0)) bk_ hb)
  have nz11 := Aside0.mk (blk_below (g := gbz2) (o := .cells #[.slice Aoz4 tz6.length coz4, .slice Aoz5 tz7.length coz5, .slice Aoz6 tz8.length coz6] 32 (0, 0)) bk_ hb)
  have nz12 := Aside0.mk (below_step be_ hb)
  clear HOz1
  clear HOz2
  clear HOz3
  clear HOz4
  clear HOz5
  clear HOz6
  clear HOz7
  clear HOz8
  clear HOz9
  clear BKz1
  clear BKz2
  clear HB
  have HOz1 := nz1
  have HOz2 := nz2
  have HOz3 := nz3
  have HOz4 := nz4
  have HOz5 := nz5
  have HOz6 := nz6
  have HOz7 := nz7
  have HOz8 := nz8
  have HOz9 := nz9
  have BKz1 := nz10
  have BKz2 := nz11
  have HB := nz12
  clear nz1 nz2 nz3 nz4 nz5 nz6 nz7 nz8 nz9 nz10 nz11 nz12
  (try clear hb)
  (try clear hb2)
  (try clear hk)
  (try clear hi)
  refine hK.out _ _ ⟨(blk_cell BKz2.out 0).trans rfl, (blk_cell BKz2.out 1).trans rfl, (blk_cell BKz2.out 2).trans rfl, (blk_cell BKz1.out 0).trans rfl, (blk_cell BKz1.out 1).trans rfl, (blk_cell BKz1.out 2).trans rfl⟩ (fun hHeld => ?_)
  clear hK K
  refine norm_ (a' := ?_) ?_ ?_
  rotate_left
  · show Act.put _ (some 25) _ = _
    simp only [Act.put, List.setIfInBounds_toArray, List.set_cons_zero, List.set_cons_succ, i64_w, i32_w]
    rfl
  refine pure_ (i := 4) (N := some 26) (v := ?_) (a' := ?_) #[true, true, true, true, true] rfl rfl (by kernel_rfl) (fun _ _ _ h => h) (Or.inl ⟨by rfl, ?_⟩) ?_ ?_
  rotate_left
  · intro w'
    go_simp
    with_reducible rfl
  rotate_left
  · simp only [Act.put, List.setIfInBounds_toArray, List.set_cons_zero, List.set_cons_succ, i64_w, i32_w]
    rfl
  refine done_ (by kernel_rfl) ?_
  try go_wp2
  go_ret
  exact ⟨by first | rfl | (simp [errW_none, errW_some] <;> rfl) | (simp [*, errW_none, errW_some] <;> rfl), be_⟩

end Go.Proofs.YtemehnmbmajnfaaDoor.P
