-- Printed by a program over the kit's print.py (mp.sh), several laws in one namespace.
import Derived.Test.YtpigbffaacilfaaDoorPx0
import Derived.Test.YtpigbffaacilfaaDoorS
import Derived.Test.YtpigbffaacilfaaDoorPx4
import Derived.Test.YtpigbffaacilfaaDoorPx6
import Derived.Test.YtpigbffaacilfaaDoorPx9
import Derived.Test.YtpigbffaacilfaaDoorPx14
import Derived.Test.YtpigbffaacilfaaDoorPx17
import Derived.Test.YtpigbffaacilfaaDoorPx18
import Derived.Test.YtpigbffaacilfaaDoorPx21
import Derived.Test.YtpigbffaacilfaaDoorMgIKept
namespace Go.Proofs.YtpigbffaacilfaaDoor.P
open Go.RowKit Go.Proofs.YtpigbffaacilfaaDoor.X Go.Proofs.YtpigbffaacilfaaDoorW.PrintWords Go.Proofs.YtpigbffaacilfaaDoorW.PrintLast Go.Proofs.YtpigbffaacilfaaDoorW.PrintMore
attribute [local go_sem] max2_int min2_int max_two min_two max_three min_three max_four min_four   -- for this text's walks alone
set_option linter.unusedVariables false
set_option linter.unusedSimpArgs false

def laws_FnKept.j0 : Nat → List (S41) → ByteArray → List Int → Int → List (S41) → Bool → Bool → Option (Bool)
  | 0, _, _, _, _, _, _, _ => none
  | k + 1, x3, x4, x5, x6, x7, x8, x50 => if x50 = true then (some false) else (if x8 = true then ((impl_KeptFor.f k x7 x4).bind fun t538 => ((impl_KeptFor.f k x3 (⟨#[35]⟩ : ByteArray)).bind fun t541 => ((impl_KeptFor.f k x7 (⟨#[35]⟩ : ByteArray)).bind fun t544 => (if (x5.length : Int) = 0 then ((impl_KeptOk.f k x7).bind fun t547 => (if t547 = true then (if (t538.length : Int) = 0 then (if (wrap64 ((t544.length : Int) - (t541.length : Int))) ≤ 0 then (some (decide ((wrap64 ((t544.length : Int) - (t541.length : Int))) ≥ (-1)))) else (some false)) else (some false)) else (some false))) else ((impl_KeptOk.f k x7).bind fun t548 => (if t548 = true then (if (t538.length : Int) = 1 then (if 0 < (t538.length : Int) then (if ((rd_T41 t538 0).f0).toList = x4.toList then ((laws_same.f ((rd_T41 t538 0).f1) x5).bind fun t551 => (if t551 = true then (if ((rd_T41 t538 0).f2) = x6 then (if (wrap64 ((t544.length : Int) - (t541.length : Int))) ≥ 0 then (some (decide ((wrap64 ((t544.length : Int) - (t541.length : Int))) ≤ 1))) else (some false)) else (some false)) else (some false))) else (some false)) else (none)) else (some false)) else (some false))))))) else ((laws_sameKept.f k x7 x3).bind fun t537 => (some t537)))
def laws_FnKept.f (k : Nat) (l0 : List Int) : Option (Bool) := (laws_big.f l0).bind fun t518 => (if t518 = true then (some true) else ((spec_DrawSetKept.f k l0).bind fun bt519 => ((impl_SetKept.f k bt519.1 bt519.2.1 bt519.2.2.1 bt519.2.2.2).bind fun bt527 => ((spec_SetKept.f k bt519.1 bt519.2.1 bt519.2.2.1 bt519.2.2.2).bind fun bt531 => (if (bt527.2 != bt531.2) = true then (laws_FnKept.j0 k bt519.1 bt519.2.1 bt519.2.2.1 bt519.2.2.2 bt527.1 bt527.2 true) else ((impl_KeptOk.f k bt519.1).bind fun t535 => ((spec_KeptOk.f k bt519.1).bind fun t536 => (laws_FnKept.j0 k bt519.1 bt519.2.1 bt519.2.2.1 bt519.2.2.2 bt527.1 bt527.2 (t535 != t536)))))))))
theorem laws_FnKept.mono_l : ∀ k, (∀ y0 y1 y2 y3 y4 y5 y6, LeO (laws_FnKept.j0 k y0 y1 y2 y3 y4 y5 y6) (laws_FnKept.j0 (k + 1) y0 y1 y2 y3 y4 y5 y6))
  | 0 => fun _ _ _ _ _ _ _ r h => by simp [laws_FnKept.j0] at h
  | k + 1 => by
    have ih0 := laws_FnKept.mono_l k
    · intro y0 y1 y2 y3 y4 y5 y6
      unfold laws_FnKept.j0
      repeat' first
      | (with_reducible exact ih0 _ _ _ _ _ _ _)
      | (with_reducible exact impl_KeptFor.mono _ _ _)
      | (with_reducible exact impl_KeptOk.mono _ _)
      | (with_reducible exact impl_SetKept.mono _ _ _ _ _)
      | (with_reducible exact laws_sameKept.mono _ _ _)
      | (with_reducible exact spec_DrawSetKept.mono _ _)
      | (with_reducible exact spec_KeptOk.mono _ _)
      | (with_reducible exact spec_SetKept.mono _ _ _ _ _)
      | (with_reducible exact LeO.refl _)
      | (with_reducible exact LeO.none _)
      | (with_reducible refine LeO.ite ?_ ?_)
      | (with_reducible refine LeO.bind ?_ (fun _ => ?_))
      | exact ih0 _ _ _ _ _ _ _
      | exact impl_KeptFor.mono _ _ _
      | exact impl_KeptOk.mono _ _
      | exact impl_SetKept.mono _ _ _ _ _
      | exact laws_sameKept.mono _ _ _
      | exact spec_DrawSetKept.mono _ _
      | exact spec_KeptOk.mono _ _
      | exact spec_SetKept.mono _ _ _ _ _
      | exact LeO.none _
      | refine LeO.ite ?_ ?_
      | refine LeO.bind ?_ (fun _ => ?_)
theorem laws_FnKept.mono : ∀ a0 k, LeO (laws_FnKept.f k a0) (laws_FnKept.f (k + 1) a0) := by
  intro a0 k
  have ih0 := laws_FnKept.mono_l k
  unfold laws_FnKept.f
  repeat' first
      | (with_reducible exact ih0 _ _ _ _ _ _ _)
      | (with_reducible exact impl_KeptFor.mono _ _ _)
      | (with_reducible exact impl_KeptOk.mono _ _)
      | (with_reducible exact impl_SetKept.mono _ _ _ _ _)
      | (with_reducible exact laws_sameKept.mono _ _ _)
      | (with_reducible exact spec_DrawSetKept.mono _ _)
      | (with_reducible exact spec_KeptOk.mono _ _)
      | (with_reducible exact spec_SetKept.mono _ _ _ _ _)
      | (with_reducible exact LeO.refl _)
      | (with_reducible exact LeO.none _)
      | (with_reducible refine LeO.ite ?_ ?_)
      | (with_reducible refine LeO.bind ?_ (fun _ => ?_))
      | exact ih0 _ _ _ _ _ _ _
      | exact impl_KeptFor.mono _ _ _
      | exact impl_KeptOk.mono _ _
      | exact impl_SetKept.mono _ _ _ _ _
      | exact laws_sameKept.mono _ _ _
      | exact spec_DrawSetKept.mono _ _
      | exact spec_KeptOk.mono _ _
      | exact spec_SetKept.mono _ _ _ _ _
      | exact LeO.none _
      | refine LeO.ite ?_ ?_
      | refine LeO.bind ?_ (fun _ => ?_)
theorem laws_FnKept_z3 {p : Prop} (h : p := by
  go_wp2_with (first | ((with_reducible refine gate_callee (f := 20) rfl ?_); refine ca_ 58 Tryd.func20 #[.slice Aoz3 tz6.length coz3, .string tz3] ?_; (with_reducible refine (impl_KeptFor.calls kjz1 (fun k_ => (some k_ ≠ (.slice Aoz1 tz2.length coz1 : Value).ownBlock ∧ some k_ ≠ (.slice Aoz2 tz4.length coz2 : Value).ownBlock)) _ _ tz6 tz3 tz10 _ ?side1 ?side2 Az1.out).mono ?_); (case side1 => exact Kd.N_V (HO_7.out)); (case side2 => exact Tabs.below HT.out be_); rintro e wz4 ⟨vz5, rfl, hoz1, hb⟩; refine ⟨_, rfl, ?_⟩; replace HO_7 := eN_ HO_7 (Kd.N_base hoz1) hb; have HOz5 := Aside0.mk (Kd.N_lower (Kd.N_mono (ok' := fun k_ => some k_ ≠ (.slice Aoz1 tz2.length coz1 : Value).ownBlock ∧ some k_ ≠ (.slice Aoz2 tz4.length coz2 : Value).ownBlock) hoz1 (fun k_ hk_ => ⟨Or.elim hk_ (fun hs_ => hs_.1) (fun hn_ => (Kd.fresh' (Kd.N_lt (lN_ HO_3.out)) k_ hn_)), Or.elim hk_ (fun hs_ => hs_.2) (fun hn_ => (Kd.fresh' (Kd.R_lt (lR_ HO_5.out)) k_ hn_))⟩)) (below_size be_)); replace HO_3 := eN_ HO_3 (Kd.N_base hoz1) hb; replace HO_5 := bR_ HO_5 hb; replace HB := bw_ hb; clear hb hoz1) | ((with_reducible refine gate_callee (f := 20) rfl ?_); refine ca_ 61 Tryd.func20 #[.slice Aoz1 tz2.length coz1, .string (⟨#[35]⟩ : ByteArray)] ?_; (with_reducible refine (impl_KeptFor.calls kjz1 (fun k_ => ((some k_ ≠ (.slice Aoz2 tz4.length coz2 : Value).ownBlock ∧ some k_ ≠ (.slice Aoz3 tz6.length coz3 : Value).ownBlock) ∧ some k_ ≠ (vz5 : Value).ownBlock)) _ _ tz2 (⟨#[35]⟩ : ByteArray) tz11 _ ?side1 ?side2 Az11.out).mono ?_); (case side1 => exact Kd.N_V (HO_3.out)); (case side2 => exact Tabs.below HT.out be_); rintro e wz5 ⟨vz6, rfl, hoz1, hb⟩; refine ⟨_, rfl, ?_⟩; replace HO_3 := eN_ HO_3 (Kd.N_base hoz1) hb; have HOz6 := Aside0.mk (Kd.N_lower (Kd.N_mono (ok' := fun k_ => some k_ ≠ (.slice Aoz2 tz4.length coz2 : Value).ownBlock ∧ some k_ ≠ (.slice Aoz3 tz6.length coz3 : Value).ownBlock ∧ some k_ ≠ (vz5 : Value).ownBlock) hoz1 (fun k_ hk_ => ⟨Or.elim hk_ (fun hs_ => hs_.1.1) (fun hn_ => (Kd.fresh' (Kd.R_lt (lR_ HO_5.out)) k_ hn_)), Or.elim hk_ (fun hs_ => hs_.1.2) (fun hn_ => (Kd.fresh' (Kd.N_lt (lN_ HO_7.out)) k_ hn_)), Or.elim hk_ (fun hs_ => hs_.2) (fun hn_ => (Kd.fresh' (Kd.N_lt (lN_ HOz5.out)) k_ hn_))⟩)) (below_size be_)); replace HO_5 := bR_ HO_5 hb; replace HO_7 := eN_ HO_7 (Kd.N_base hoz1) hb; replace HOz5 := eN_ HOz5 (Kd.N_base hoz1) hb; replace HB := bw_ hb; clear hb hoz1) | ((with_reducible refine gate_callee (f := 20) rfl ?_); refine ca_ 64 Tryd.func20 #[.slice Aoz3 tz6.length coz3, .string (⟨#[35]⟩ : ByteArray)] ?_; (with_reducible refine (impl_KeptFor.calls kjz1 (fun k_ => (((some k_ ≠ (.slice Aoz1 tz2.length coz1 : Value).ownBlock ∧ some k_ ≠ (.slice Aoz2 tz4.length coz2 : Value).ownBlock) ∧ some k_ ≠ (vz5 : Value).ownBlock) ∧ some k_ ≠ (vz6 : Value).ownBlock)) _ _ tz6 (⟨#[35]⟩ : ByteArray) tz12 _ ?side1 ?side2 Az13.out).mono ?_); (case side1 => exact Kd.N_V (HO_7.out)); (case side2 => exact Tabs.below HT.out be_); rintro e wz6 ⟨vz7, rfl, hoz1, hb⟩; refine ⟨_, rfl, ?_⟩; replace HO_7 := eN_ HO_7 (Kd.N_base hoz1) hb; have HOz7 := Aside0.mk (Kd.N_lower (Kd.N_mono (ok' := fun k_ => some k_ ≠ (.slice Aoz1 tz2.length coz1 : Value).ownBlock ∧ some k_ ≠ (.slice Aoz2 tz4.length coz2 : Value).ownBlock ∧ some k_ ≠ (vz5 : Value).ownBlock ∧ some k_ ≠ (vz6 : Value).ownBlock) hoz1 (fun k_ hk_ => ⟨Or.elim hk_ (fun hs_ => hs_.1.1.1) (fun hn_ => (Kd.fresh' (Kd.N_lt (lN_ HO_3.out)) k_ hn_)), Or.elim hk_ (fun hs_ => hs_.1.1.2) (fun hn_ => (Kd.fresh' (Kd.R_lt (lR_ HO_5.out)) k_ hn_)), Or.elim hk_ (fun hs_ => hs_.1.2) (fun hn_ => (Kd.fresh' (Kd.N_lt (lN_ HOz5.out)) k_ hn_)), Or.elim hk_ (fun hs_ => hs_.2) (fun hn_ => (Kd.fresh' (Kd.N_lt (lN_ HOz6.out)) k_ hn_))⟩)) (below_size be_)); replace HO_3 := eN_ HO_3 (Kd.N_base hoz1) hb; replace HO_5 := bR_ HO_5 hb; replace HOz5 := eN_ HOz5 (Kd.N_base hoz1) hb; replace HOz6 := eN_ HOz6 (Kd.N_base hoz1) hb; replace HB := bw_ hb; clear hb hoz1; obtain ⟨Aoz4, coz4, eoz4⟩ := Kd.N_slice HOz7.out; subst eoz4; obtain ⟨Aoz5, coz5, eoz5⟩ := Kd.N_slice HOz6.out; subst eoz5) | ((with_reducible refine gate_callee (f := 17) rfl ?_); refine ca_ 74 Tryd.func17 #[.slice Aoz3 tz6.length coz3] ?_; (with_reducible refine (impl_KeptOk.calls kjz1 _ _ tz6 true _ ?side1 ?side2 ?side3 Az15.out).mono ?_); (case side1 => exact cN_ HO_7); (case side2 => exact (Kd.N_reads' HO_7.out).2.1); (case side3 => exact Tabs.below HT.out be_); rintro e wz7 ⟨rfl, hb⟩; refine ⟨_, rfl, ?_⟩; replace HO_3 := bN_ HO_3 hb; replace HO_5 := bR_ HO_5 hb; replace HO_7 := bN_ HO_7 hb; replace HOz5 := bN_ HOz5 hb; replace HOz6 := bN_ HOz6 hb; replace HOz7 := bN_ HOz7 hb; replace HB := bw_ hb; clear hb; obtain ⟨Aoz6, coz6, eoz6⟩ := Kd.N_slice HOz5.out; subst eoz6))
  go_ret
  exact ⟨er_, be_⟩) : p := h
theorem laws_FnKept_z2 {p : Prop} (h : p := by
  subst eoz3
  exact laws_FnKept_z3) : p := h
theorem laws_FnKept_z1 {p : Prop} (h : p := by
  obtain ⟨Aoz3, coz3, eoz3⟩ := Kd.N_slice HO_7.out
  exact laws_FnKept_z2) : p := h
theorem laws_FnKept_z0 {p : Prop} (h : p := by
  obtain rfl := Option.some.inj H
  exact laws_FnKept_z1) : p := h
theorem laws_FnKept_z4 {p : Prop} (h : p := by
  clear cz11
  exact laws_FnKept_z0) : p := h
theorem laws_FnKept_z9 {p : Prop} (h : p := by
  go_wp2_with (first | ((with_reducible refine gate_callee (f := 20) rfl ?_); refine ca_ 58 Tryd.func20 #[.slice Aoz3 tz6.length coz3, .string tz3] ?_; (with_reducible refine (impl_KeptFor.calls kjz1 (fun k_ => (some k_ ≠ (.slice Aoz1 tz2.length coz1 : Value).ownBlock ∧ some k_ ≠ (.slice Aoz2 tz4.length coz2 : Value).ownBlock)) _ _ tz6 tz3 tz10 _ ?side1 ?side2 Az1.out).mono ?_); (case side1 => exact Kd.N_V (HO_7.out)); (case side2 => exact Tabs.below HT.out be_); rintro e wz4 ⟨vz5, rfl, hoz1, hb⟩; refine ⟨_, rfl, ?_⟩; replace HO_7 := eN_ HO_7 (Kd.N_base hoz1) hb; have HOz5 := Aside0.mk (Kd.N_lower (Kd.N_mono (ok' := fun k_ => some k_ ≠ (.slice Aoz1 tz2.length coz1 : Value).ownBlock ∧ some k_ ≠ (.slice Aoz2 tz4.length coz2 : Value).ownBlock) hoz1 (fun k_ hk_ => ⟨Or.elim hk_ (fun hs_ => hs_.1) (fun hn_ => (Kd.fresh' (Kd.N_lt (lN_ HO_3.out)) k_ hn_)), Or.elim hk_ (fun hs_ => hs_.2) (fun hn_ => (Kd.fresh' (Kd.R_lt (lR_ HO_5.out)) k_ hn_))⟩)) (below_size be_)); replace HO_3 := eN_ HO_3 (Kd.N_base hoz1) hb; replace HO_5 := bR_ HO_5 hb; replace HB := bw_ hb; clear hb hoz1) | ((with_reducible refine gate_callee (f := 20) rfl ?_); refine ca_ 61 Tryd.func20 #[.slice Aoz1 tz2.length coz1, .string (⟨#[35]⟩ : ByteArray)] ?_; (with_reducible refine (impl_KeptFor.calls kjz1 (fun k_ => ((some k_ ≠ (.slice Aoz2 tz4.length coz2 : Value).ownBlock ∧ some k_ ≠ (.slice Aoz3 tz6.length coz3 : Value).ownBlock) ∧ some k_ ≠ (vz5 : Value).ownBlock)) _ _ tz2 (⟨#[35]⟩ : ByteArray) tz11 _ ?side1 ?side2 Az11.out).mono ?_); (case side1 => exact Kd.N_V (HO_3.out)); (case side2 => exact Tabs.below HT.out be_); rintro e wz5 ⟨vz6, rfl, hoz1, hb⟩; refine ⟨_, rfl, ?_⟩; replace HO_3 := eN_ HO_3 (Kd.N_base hoz1) hb; have HOz6 := Aside0.mk (Kd.N_lower (Kd.N_mono (ok' := fun k_ => some k_ ≠ (.slice Aoz2 tz4.length coz2 : Value).ownBlock ∧ some k_ ≠ (.slice Aoz3 tz6.length coz3 : Value).ownBlock ∧ some k_ ≠ (vz5 : Value).ownBlock) hoz1 (fun k_ hk_ => ⟨Or.elim hk_ (fun hs_ => hs_.1.1) (fun hn_ => (Kd.fresh' (Kd.R_lt (lR_ HO_5.out)) k_ hn_)), Or.elim hk_ (fun hs_ => hs_.1.2) (fun hn_ => (Kd.fresh' (Kd.N_lt (lN_ HO_7.out)) k_ hn_)), Or.elim hk_ (fun hs_ => hs_.2) (fun hn_ => (Kd.fresh' (Kd.N_lt (lN_ HOz5.out)) k_ hn_))⟩)) (below_size be_)); replace HO_5 := bR_ HO_5 hb; replace HO_7 := eN_ HO_7 (Kd.N_base hoz1) hb; replace HOz5 := eN_ HOz5 (Kd.N_base hoz1) hb; replace HB := bw_ hb; clear hb hoz1) | ((with_reducible refine gate_callee (f := 20) rfl ?_); refine ca_ 64 Tryd.func20 #[.slice Aoz3 tz6.length coz3, .string (⟨#[35]⟩ : ByteArray)] ?_; (with_reducible refine (impl_KeptFor.calls kjz1 (fun k_ => (((some k_ ≠ (.slice Aoz1 tz2.length coz1 : Value).ownBlock ∧ some k_ ≠ (.slice Aoz2 tz4.length coz2 : Value).ownBlock) ∧ some k_ ≠ (vz5 : Value).ownBlock) ∧ some k_ ≠ (vz6 : Value).ownBlock)) _ _ tz6 (⟨#[35]⟩ : ByteArray) tz12 _ ?side1 ?side2 Az13.out).mono ?_); (case side1 => exact Kd.N_V (HO_7.out)); (case side2 => exact Tabs.below HT.out be_); rintro e wz6 ⟨vz7, rfl, hoz1, hb⟩; refine ⟨_, rfl, ?_⟩; replace HO_7 := eN_ HO_7 (Kd.N_base hoz1) hb; have HOz7 := Aside0.mk (Kd.N_lower (Kd.N_mono (ok' := fun k_ => some k_ ≠ (.slice Aoz1 tz2.length coz1 : Value).ownBlock ∧ some k_ ≠ (.slice Aoz2 tz4.length coz2 : Value).ownBlock ∧ some k_ ≠ (vz5 : Value).ownBlock ∧ some k_ ≠ (vz6 : Value).ownBlock) hoz1 (fun k_ hk_ => ⟨Or.elim hk_ (fun hs_ => hs_.1.1.1) (fun hn_ => (Kd.fresh' (Kd.N_lt (lN_ HO_3.out)) k_ hn_)), Or.elim hk_ (fun hs_ => hs_.1.1.2) (fun hn_ => (Kd.fresh' (Kd.R_lt (lR_ HO_5.out)) k_ hn_)), Or.elim hk_ (fun hs_ => hs_.1.2) (fun hn_ => (Kd.fresh' (Kd.N_lt (lN_ HOz5.out)) k_ hn_)), Or.elim hk_ (fun hs_ => hs_.2) (fun hn_ => (Kd.fresh' (Kd.N_lt (lN_ HOz6.out)) k_ hn_))⟩)) (below_size be_)); replace HO_3 := eN_ HO_3 (Kd.N_base hoz1) hb; replace HO_5 := bR_ HO_5 hb; replace HOz5 := eN_ HOz5 (Kd.N_base hoz1) hb; replace HOz6 := eN_ HOz6 (Kd.N_base hoz1) hb; replace HB := bw_ hb; clear hb hoz1; obtain ⟨Aoz4, coz4, eoz4⟩ := Kd.N_slice HOz7.out; subst eoz4; obtain ⟨Aoz5, coz5, eoz5⟩ := Kd.N_slice HOz6.out; subst eoz5) | ((with_reducible refine gate_callee (f := 17) rfl ?_); refine ca_ 89 Tryd.func17 #[.slice Aoz3 tz6.length coz3] ?_; (with_reducible refine (impl_KeptOk.calls kjz1 _ _ tz6 true _ ?side1 ?side2 ?side3 Az15.out).mono ?_); (case side1 => exact cN_ HO_7); (case side2 => exact (Kd.N_reads' HO_7.out).2.1); (case side3 => exact Tabs.below HT.out be_); rintro e wz7 ⟨rfl, hb⟩; refine ⟨_, rfl, ?_⟩; replace HO_3 := bN_ HO_3 hb; replace HO_5 := bR_ HO_5 hb; replace HO_7 := bN_ HO_7 hb; replace HOz5 := bN_ HOz5 hb; replace HOz6 := bN_ HOz6 hb; replace HOz7 := bN_ HOz7 hb; replace HB := bw_ hb; clear hb; obtain ⟨Aoz6, coz6, eoz6⟩ := Kd.N_slice HOz5.out; subst eoz6; have pz1 : 0 ≤ (0 : Int) := (by omega); have qz1 : 0 < (tz10.length : Int) := dt_; obtain ⟨adz1, Az18, cz24, ez1, hxz1, hxz2, hxz3, hlz1, hiz1⟩ := at_T41 (Kd.N_reads' HOz5.out).2.2 0 pz1 qz1; cases ez1; obtain ⟨cez1, hcez1, hMez1, hccz1⟩ := Kd.N_get HOz5.out z41 0 pz1 (by first | exact qz1 | exact dt_ | (have e_ := (Kd.N_reads' HOz5.out).1; omega)); obtain ⟨uaz1, ucz1, rfl, ulz1, gez1⟩ := k41_openF hMez1; have hvz1 := hccz1 1 _ rfl; rw [add_field _ _ 1 (by omega)] at hvz1; replace hvz1 := Option.some.inj (hvz1.symm.trans hxz2); injection hvz1 with hva_ hvn_ hvc_; rw [hva_] at gez1; rw [hvc_] at ulz1; have HLz1 := Aside0.mk (show Kd.V (Kd.int .u8) 5 _ w.heap.size _ _ ((rd_T41 tz10 0).f1) from Kd.V_mk ulz1 gez1); clear hva_ hvn_ hvc_ gez1 ulz1 hccz1 hcez1; have qiz1 : (0 < tz10.length) = True := eq_true (by omega); (try rw [show ((0 : Int)).toNat = 0 from rfl] at hxz1); (try rw [show 0 * 3 = 0 from rfl] at hxz1); (try rw [Addr.add_zero'] at hxz1); (try rw [show ((0 : Int)).toNat = 0 from rfl] at hxz2); (try rw [show 0 * 3 = 0 from rfl] at hxz2); (try rw [Addr.add_zero'] at hxz2); (try rw [show ((0 : Int)).toNat = 0 from rfl] at hxz3); (try rw [show 0 * 3 = 0 from rfl] at hxz3); (try rw [Addr.add_zero'] at hxz3); have HRz2 := Aside0.mk hiz1; have HCz3 := Aside0.mk hlz1; clear hiz1 hlz1; replace pz1 := eq_true pz1; replace qz1 := eq_true qz1; have pz2 : 0 ≤ (0 : Int) := (by omega); have qz2 : 0 < (tz10.length : Int) := dt_; obtain ⟨adz2, Az19, cz25, ez2, hxz4, hxz5, hxz6, hlz2, hiz2⟩ := at_T41 (Kd.N_reads' HOz5.out).2.2 0 pz2 qz2; obtain rfl : adz1 = adz2 := (by injection ez2); obtain ⟨cez2, hcez2, hMez2, hccz2⟩ := Kd.N_get HOz5.out z41 0 pz2 (by first | exact qz2 | exact dt_ | (have e_ := (Kd.N_reads' HOz5.out).1; omega)); obtain ⟨uaz2, ucz2, rfl, ulz2, gez2⟩ := k41_openF hMez2; have hvz2 := hccz2 1 _ rfl; rw [add_field _ _ 1 (by omega)] at hvz2; replace hvz2 := Option.some.inj (hvz2.symm.trans hxz5); injection hvz2 with hva_ hvn_ hvc_; rw [hva_] at gez2; rw [hvc_] at ulz2; have HLz2 := Aside0.mk (show Kd.V (Kd.int .u8) 5 _ w.heap.size _ _ ((rd_T41 tz10 0).f1) from Kd.V_mk ulz2 gez2); clear hva_ hvn_ hvc_ gez2 ulz2 hccz2 hcez2; have qiz2 : (0 < tz10.length) = True := eq_true (by omega); (try rw [show ((0 : Int)).toNat = 0 from rfl] at hxz4); (try rw [show 0 * 3 = 0 from rfl] at hxz4); (try rw [Addr.add_zero'] at hxz4); (try rw [show ((0 : Int)).toNat = 0 from rfl] at hxz5); (try rw [show 0 * 3 = 0 from rfl] at hxz5); (try rw [Addr.add_zero'] at hxz5); (try rw [show ((0 : Int)).toNat = 0 from rfl] at hxz6); (try rw [show 0 * 3 = 0 from rfl] at hxz6); (try rw [Addr.add_zero'] at hxz6); have HRz3 := Aside0.mk hiz2; have HCz4 := Aside0.mk hlz2; clear hiz2 hlz2; replace pz2 := eq_true pz2; replace qz2 := eq_true qz2; have ea_ := Option.some.inj (hxz2.symm.trans hxz5); injection ea_ with ea_ en_ ec_; subst ea_; subst ec_; clear en_) | (go_at_call 21; (with_reducible refine (laws_same.calls _ _ ((rd_T41 tz10 0).f1) _ _ tz4 true _ ?side1 ?side2 ?side3 ?side4 Az17.out).mono ?_); (case side1 => repeat (first | exact (by repeat (first | (with_reducible exact HRz3.out) | (with_reducible refine Kd.C_alloc ?_ _) | (with_reducible refine Kd.C_drewN ?_ _) | (with_reducible refine Kd.C_drew ?_) | exact HRz3.out)) | (with_reducible refine Kd.C_alloc ?_ _) | (with_reducible refine Kd.C_drewN ?_ _) | (with_reducible refine Kd.C_drew ?_))); (case side2 => exact HCz4.out); (case side3 => exact cR_ HO_5); (case side4 => exact (Kd.R_reads' HO_5.out).2.1); rintro e w' ⟨rfl, ⟨nd, rfl⟩⟩; have pz3 : 0 ≤ (0 : Int) := (by omega); have qz3 : 0 < (tz10.length : Int) := dt_; obtain ⟨adz3, Az20, cz26, ez3, hxz7, hxz8, hxz9, hlz3, hiz3⟩ := at_T41 (Kd.N_reads' HOz5.out).2.2 0 pz3 qz3; obtain rfl : adz1 = adz3 := (by injection ez3); obtain ⟨cez3, hcez3, hMez3, hccz3⟩ := Kd.N_get HOz5.out z41 0 pz3 (by first | exact qz3 | exact dt_ | (have e_ := (Kd.N_reads' HOz5.out).1; omega)); obtain ⟨uaz3, ucz3, rfl, ulz3, gez3⟩ := k41_openF hMez3; have hvz3 := hccz3 1 _ rfl; rw [add_field _ _ 1 (by omega)] at hvz3; replace hvz3 := Option.some.inj (hvz3.symm.trans hxz8); injection hvz3 with hva_ hvn_ hvc_; rw [hva_] at gez3; rw [hvc_] at ulz3; have HLz3 := Aside0.mk (show Kd.V (Kd.int .u8) 5 _ w.heap.size _ _ ((rd_T41 tz10 0).f1) from Kd.V_mk ulz3 gez3); clear hva_ hvn_ hvc_ gez3 ulz3 hccz3 hcez3; have qiz3 : (0 < tz10.length) = True := eq_true (by omega); (try rw [show ((0 : Int)).toNat = 0 from rfl] at hxz7); (try rw [show 0 * 3 = 0 from rfl] at hxz7); (try rw [Addr.add_zero'] at hxz7); (try rw [show ((0 : Int)).toNat = 0 from rfl] at hxz8); (try rw [show 0 * 3 = 0 from rfl] at hxz8); (try rw [Addr.add_zero'] at hxz8); (try rw [show ((0 : Int)).toNat = 0 from rfl] at hxz9); (try rw [show 0 * 3 = 0 from rfl] at hxz9); (try rw [Addr.add_zero'] at hxz9); have HRz4 := Aside0.mk hiz3; have HCz5 := Aside0.mk hlz3; clear hiz3 hlz3; replace pz3 := eq_true pz3; replace qz3 := eq_true qz3; have ea_ := Option.some.inj (hxz2.symm.trans hxz8); injection ea_ with ea_ en_ ec_; subst ea_; subst ec_; clear en_))
  go_ret
  exact ⟨er_, be_⟩) : p := h
theorem laws_FnKept_z8 {p : Prop} (h : p := by
  subst eoz3
  exact laws_FnKept_z9) : p := h
theorem laws_FnKept_z7 {p : Prop} (h : p := by
  obtain ⟨Aoz3, coz3, eoz3⟩ := Kd.N_slice HO_7.out
  exact laws_FnKept_z8) : p := h
theorem laws_FnKept_z6 {p : Prop} (h : p := by
  obtain rfl := Option.some.inj H
  exact laws_FnKept_z7) : p := h
theorem laws_FnKept_z5 {p : Prop} (h : p := by
  clear cz22
  exact laws_FnKept_z6) : p := h
set_option maxHeartbeats 8000000 in
set_option maxRecDepth 100000 in
theorem laws_FnKept.calls (k : Nat) (A0 : Option Addr) (c0 : Nat) (l0 : List Int) (r : Bool) (w : World) (hr0 : Kd.C (Kd.int .u8) w A0 l0.length l0) (hc0 : l0.length ≤ c0) (hT : Tabs w) (h : laws_FnKept.f k l0 = some r) :
    Calls Tryd.prog 4 #[.slice A0 l0.length c0] w fun e w' => e = .returned (.bool r) ∧ Below w.heap.size w w' := by
  have HT := Aside0.mk hT
  clear hT
  have HRz1 := Aside0.mk hr0
  have HCz1 := Aside0.mk hc0
  clear hr0 hc0
  have HB := Aside0.mk (Below.refl w.heap.size w)
  have H : ((laws_big.f l0).bind fun t518 => (if t518 = true then (some true) else ((spec_DrawSetKept.f k l0).bind fun bt519 => ((impl_SetKept.f k bt519.1 bt519.2.1 bt519.2.2.1 bt519.2.2.2).bind fun bt527 => ((spec_SetKept.f k bt519.1 bt519.2.1 bt519.2.2.1 bt519.2.2.2).bind fun bt531 => (if (bt527.2 != bt531.2) = true then (laws_FnKept.j0 k bt519.1 bt519.2.1 bt519.2.2.1 bt519.2.2.2 bt527.1 bt527.2 true) else ((impl_KeptOk.f k bt519.1).bind fun t535 => ((spec_KeptOk.f k bt519.1).bind fun t536 => (laws_FnKept.j0 k bt519.1 bt519.2.1 bt519.2.2.1 bt519.2.2.2 bt527.1 bt527.2 (t535 != t536)))))))))) = some r := h
  clear h
  replace H := bo_ H
  obtain ⟨tz1, Az2, H⟩ := H
  (try dsimp only at H)
  by_cases cz1 : tz1 = true
  · subst cz1
    replace H := bt_ H
    obtain rfl := Option.some.inj H
    go_enter Tryd.func4, Tryd.ntmps4
    go_wp2_with (first | ((with_reducible refine gate_callee (f := 15) rfl ?_); refine ca_ 17 Tryd.func15 #[.slice A0 l0.length c0] ?_; (with_reducible refine (laws_big.calls _ _ l0 true _ ?side1 ?side2 Az2.out).mono ?_); (case side1 => repeat (first | exact HRz1.out | (with_reducible refine Kd.C_alloc ?_ _) | (with_reducible refine Kd.C_drewN ?_ _) | (with_reducible refine Kd.C_drew ?_))); (case side2 => exact HCz1.out); rintro e w' ⟨rfl, ⟨nd, rfl⟩⟩; refine ⟨_, rfl, ?_⟩))
    go_ret
    exact ⟨er_, be_⟩
  replace cz1 := Bool.eq_false_iff.mpr cz1
  subst cz1
  replace H := bf_ H
  replace H := bo_ H
  obtain ⟨⟨tz2, tz3, tz4, tz5⟩, Az4, H⟩ := H
  (try dsimp only at H)
  replace H := bo_ H
  obtain ⟨⟨tz6, tz7⟩, Az6, H⟩ := H
  (try dsimp only at H)
  replace H := bo_ H
  obtain ⟨⟨tz8, tz9⟩, Az8, H⟩ := H
  (try dsimp only at H)
  have HCz2 := Aside0.mk H
  clear H
  go_enter Tryd.func4, Tryd.ntmps4
  go_upto_region 6 with (first | ((with_reducible refine gate_callee (f := 15) rfl ?_); refine ca_ 17 Tryd.func15 #[.slice A0 l0.length c0] ?_; (with_reducible refine (laws_big.calls _ _ l0 false _ ?side1 ?side2 Az2.out).mono ?_); (case side1 => repeat (first | exact HRz1.out | (with_reducible refine Kd.C_alloc ?_ _) | (with_reducible refine Kd.C_drewN ?_ _) | (with_reducible refine Kd.C_drew ?_))); (case side2 => exact HCz1.out); rintro e w' ⟨rfl, ⟨nd, rfl⟩⟩; refine ⟨_, rfl, ?_⟩) | ((with_reducible refine gate_callee (f := 16) rfl ?_); refine ca_ 20 Tryd.func16 #[.slice A0 l0.length c0] ?_; (with_reducible refine (spec_DrawSetKept.calls k _ _ l0 tz2 tz3 tz4 tz5 _ ?side1 ?side2 Az4.out).mono ?_); (case side1 => repeat (first | exact HRz1.out | (with_reducible refine Kd.C_alloc ?_ _) | (with_reducible refine Kd.C_drewN ?_ _) | (with_reducible refine Kd.C_drew ?_))); (case side2 => exact HCz1.out); rintro e wz1 ⟨vz1, vz2, rfl, hoz1, hoz2, hb⟩; refine ⟨_, rfl, ?_⟩; have HOz1 := Aside0.mk (Kd.N_lower (Kd.N_mono (ok' := fun k_ => some k_ ≠ (vz2 : Value).ownBlock) hoz1 (fun k_ hk_ => hk_.2)) (below_size be_)); have HOz2 := Aside0.mk (Kd.R_lower (Kd.R_mono (ok' := fun k_ => True) hoz2 (fun _ hk_ => trivial)) (below_size be_)); replace HB := bw_ hb; clear hb hoz1 hoz2; obtain ⟨Aoz1, coz1, eoz1⟩ := Kd.N_slice HOz1.out; subst eoz1; obtain ⟨Aoz2, coz2, eoz2⟩ := Kd.R_slice HOz2.out; subst eoz2) | ((with_reducible refine gate_callee (f := 9) rfl ?_); refine ca_ 30 Tryd.func9 #[.slice Aoz1 tz2.length coz1, .string tz3, .slice Aoz2 tz4.length coz2, .int .i64 tz5] ?_; (with_reducible refine (impl_SetKept.calls k _ _ tz2 tz3 _ _ tz4 tz5 tz6 tz7 _ ?side1 ?side2 ?side3 ?side4 ?side5 Az6.out).mono ?_); (case side1 => exact cN_ HOz1); (case side2 => exact (Kd.N_reads' HOz1.out).2.1); (case side3 => exact cR_ HOz2); (case side4 => exact (Kd.R_reads' HOz2.out).2.1); (case side5 => exact Tabs.below HT.out be_); rintro e wz2 ⟨vz3, rfl, hoz1, hb⟩; refine ⟨_, rfl, ?_⟩; have HOz3 := Aside0.mk (Kd.N_lower (Kd.N_mono (ok' := fun k_ => some k_ ≠ (.slice Aoz1 tz2.length coz1 : Value).ownBlock ∧ some k_ ≠ (.slice Aoz2 tz4.length coz2 : Value).ownBlock) (Kd.S_N (Kd.S_bound hoz1)) (fun k_ hk_ => ⟨(Kd.fresh' (Kd.N_lt (lN_ HOz1.out)) k_ hk_.2.1), (Kd.fresh' (Kd.R_lt (lR_ HOz2.out)) k_ hk_.2.1)⟩)) (below_size be_)); replace HOz1 := eN_ HOz1 (Kd.N_base (Kd.S_N hoz1)) hb; replace HOz2 := bR_ HOz2 hb; replace HB := bw_ hb; clear hb hoz1) | ((with_reducible refine gate_callee (f := 6) rfl ?_); refine ca_ 38 Tryd.func6 #[.slice Aoz1 tz2.length coz1, .string tz3, .slice Aoz2 tz4.length coz2, .int .i64 tz5] ?_; (with_reducible refine (spec_SetKept.calls k (fun k_ => (some k_ ≠ (.slice Aoz2 tz4.length coz2 : Value).ownBlock ∧ some k_ ≠ (vz3 : Value).ownBlock)) _ _ tz2 tz3 _ _ tz4 tz5 tz8 tz9 _ ?side1 ?side2 ?side3 Az8.out).mono ?_); (case side1 => exact Kd.N_V (HOz1.out)); (case side2 => exact cR_ HOz2); (case side3 => exact (Kd.R_reads' HOz2.out).2.1); rintro e wz3 ⟨vz4, rfl, hoz1, hb⟩; refine ⟨_, rfl, ?_⟩; replace HOz1 := eN_ HOz1 (Kd.N_base hoz1) hb; have HOz4 := Aside0.mk (Kd.N_lower (Kd.N_mono (ok' := fun k_ => some k_ ≠ (.slice Aoz2 tz4.length coz2 : Value).ownBlock ∧ some k_ ≠ (vz3 : Value).ownBlock) hoz1 (fun k_ hk_ => ⟨Or.elim hk_ (fun hs_ => hs_.1) (fun hn_ => (Kd.fresh' (Kd.R_lt (lR_ HOz2.out)) k_ hn_)), Or.elim hk_ (fun hs_ => hs_.2) (fun hn_ => (Kd.fresh' (Kd.N_lt (lN_ HOz3.out)) k_ hn_))⟩)) (below_size be_)); replace HOz2 := bR_ HOz2 hb; replace HOz3 := eN_ HOz3 (Kd.N_base hoz1) hb; replace HB := bw_ hb; clear hb hoz1))
  (try simp only [Act.put, List.setIfInBounds_toArray, List.set_cons_zero, List.set_cons_succ])
  go_cut [50] (fun v50 wc => ∃ (kq : Nat) (x50_6 : Bool), v50 = .bool x50_6 ∧ Aside0 (laws_FnKept.j0 kq tz2 tz3 tz4 tz5 tz6 tz7 x50_6 = some r) ∧ Aside0 (kq ≤ k) ∧ Aside0 (Kd.N k41 41 wc w.heap.size (fun k_ => some k_ ≠ ((.slice Aoz2 tz4.length coz2) : Value).ownBlock ∧ some k_ ≠ (vz3 : Value).ownBlock) (.slice Aoz1 tz2.length coz1) tz2) ∧ Aside0 (Kd.R (Kd.int .u8) 5 wc w.heap.size (fun _ => True) (.slice Aoz2 tz4.length coz2) tz4) ∧ Aside0 (Kd.N k41 41 wc w.heap.size (fun k_ => some k_ ≠ ((.slice Aoz1 tz2.length coz1) : Value).ownBlock ∧ some k_ ≠ ((.slice Aoz2 tz4.length coz2) : Value).ownBlock) vz3 tz6) ∧ Aside0 (Below w.heap.size w wc))
  case first =>
    have H := HCz2.out
    clear HCz2
    by_cases cz2 : (tz7 != tz9) = true
    · rw [if_pos cz2] at H
      have cz3 : (tz7 != tz9) = true := cz2
      (try (have cz4 : decide (tz7 = tz9) = false := by simpa using cz2))
      (try (have cz5 : (tz7 == tz9) = false := by simpa using cz2))
      (try (have cz6 : ¬ (tz7 = tz9) := by simpa using cz2))
      clear cz2
      (first | rw [cz3] | (simp only [i64_w, i32_w]; rw [cz3]) | skip)
      have H' := Aside0.mk H
      clear H
      go_wp2
      go_meet
      case rel => exact ⟨_, (true), rs_, H', ⟨by first | omega | exact Nat.le_refl _⟩, ⟨lN_ (Kd.N_mono HOz1.out (fun _ hk => ⟨hk.1.1, hk.1.2⟩))⟩, ⟨lR_ HOz2.out⟩, ⟨lN_ (Kd.N_mono HOz3.out (fun _ hk => ⟨hk.1.1, hk.1.2⟩))⟩, ⟨be_⟩⟩
    rw [if_neg cz2] at H
    have cz3 : (tz7 != tz9) = false := by simpa using cz2
    (try (have cz4 : decide (tz7 = tz9) = true := by simpa using cz2))
    (try (have cz5 : (tz7 == tz9) = true := by simpa using cz2))
    clear cz2
    (first | rw [cz3] | (simp only [i64_w, i32_w]; rw [cz3]) | skip)
    replace H := bo_ H
    obtain ⟨tz10, Az10, H⟩ := H
    (try dsimp only at H)
    replace H := bo_ H
    obtain ⟨tz11, Az12, H⟩ := H
    (try dsimp only at H)
    have H' := Aside0.mk H
    clear H
    go_wp2_with (first | (go_at_call 17; (with_reducible refine (impl_KeptOk.calls k _ _ tz2 tz10 _ ?side1 ?side2 ?side3 Az10.out).mono ?_); (case side1 => exact cN_ HOz1); (case side2 => exact (Kd.N_reads' HOz1.out).2.1); (case side3 => exact Tabs.below HT.out be_); rintro e wz4 ⟨rfl, hb⟩; replace HOz1 := bN_ HOz1 hb; replace HOz2 := bR_ HOz2 hb; replace HOz3 := bN_ HOz3 hb; replace HOz4 := bN_ HOz4 hb; replace HB := bw_ hb; clear hb) | (go_at_call 18; (with_reducible refine (spec_KeptOk.calls k _ _ tz2 tz11 _ ?side1 ?side2 Az12.out).mono ?_); (case side1 => exact cN_ HOz1); (case side2 => exact (Kd.N_reads' HOz1.out).2.1); rintro e wz5 ⟨rfl, hb⟩; replace HOz1 := bN_ HOz1 hb; replace HOz2 := bR_ HOz2 hb; replace HOz3 := bN_ HOz3 hb; replace HOz4 := bN_ HOz4 hb; replace HB := bw_ hb; clear hb))
    go_meet
    case rel => exact ⟨_, ((tz10 != tz11)), rs_, H', ⟨by first | omega | exact Nat.le_refl _⟩, ⟨lN_ (Kd.N_mono HOz1.out (fun _ hk => ⟨hk.1.1, hk.1.2⟩))⟩, ⟨lR_ HOz2.out⟩, ⟨lN_ (Kd.N_mono HOz3.out (fun _ hk => ⟨hk.1.1, hk.1.2⟩))⟩, ⟨be_⟩⟩
  case rest =>
    clear HCz2
    try clear c1
    try clear p2
    try clear cz1
    try clear c4
    try clear c6
    try clear c9
    try clear c13
    try clear c13b0
    try clear c13b1
    try clear c13b2
    try clear c15
    try clear c16
    obtain ⟨kq, xz1, rfl, HA, HJz1, HO_3, HO_5, HO_7, HB⟩ := hcut
    cases kq with
    | zero => exact absurd HA.out (by simp [laws_FnKept.j0])
    | succ kjz1 =>
      have H := HA.out
      clear HA
      simp only [laws_FnKept.j0] at H
      by_cases cz2 : xz1 = true
      · subst cz2
        replace H := bt_ H
        obtain rfl := Option.some.inj H
        go_wp2
        go_ret
        exact ⟨er_, be_⟩
      replace cz2 := Bool.eq_false_iff.mpr cz2
      subst cz2
      replace H := bf_ H
      by_cases cz3 : tz7 = true
      rotate_left
      · replace cz3 := Bool.eq_false_iff.mpr cz3
        subst cz3
        replace H := bf_ H
        replace H := bo_ H
        obtain ⟨tz10, Az10, H⟩ := H
        (try dsimp only at H)
        obtain rfl := Option.some.inj H
        obtain ⟨Aoz3, coz3, eoz3⟩ := Kd.N_slice HO_7.out
        subst eoz3
        go_wp2_with (first | ((with_reducible refine gate_callee (f := 19) rfl ?_); refine ca_ 55 Tryd.func19 #[.slice Aoz3 tz6.length coz3, .slice Aoz1 tz2.length coz1] ?_; (with_reducible refine (laws_sameKept.calls kjz1 _ _ tz6 _ _ tz2 tz10 _ ?side1 ?side2 ?side3 ?side4 Az10.out).mono ?_); (case side1 => exact cN_ HO_7); (case side2 => exact (Kd.N_reads' HO_7.out).2.1); (case side3 => exact cN_ HO_3); (case side4 => exact (Kd.N_reads' HO_3.out).2.1); rintro e wz4 ⟨rfl, hb⟩; refine ⟨_, rfl, ?_⟩; replace HO_3 := bN_ HO_3 hb; replace HO_5 := bR_ HO_5 hb; replace HO_7 := bN_ HO_7 hb; replace HB := bw_ hb; clear hb))
        go_ret
        exact ⟨er_, be_⟩
      subst cz3
      replace H := bt_ H
      replace H := bo_ H
      obtain ⟨tz10, Az1, H⟩ := H
      (try dsimp only at H)
      replace H := bo_ H
      obtain ⟨tz11, Az11, H⟩ := H
      (try dsimp only at H)
      replace H := bo_ H
      obtain ⟨tz12, Az13, H⟩ := H
      (try dsimp only at H)
      by_cases cz4 : (tz4.length : Int) = 0
      · rw [if_pos cz4] at H
        have cz5 : ((tz4.length : Int) == 0) = true := beq_iff_eq.mpr cz4
        have cz6 : ((tz4.length : Int) != 0) = false := bne_eq_false_iff_eq.mpr cz4
        clear cz4
        replace H := bo_ H
        obtain ⟨tz13, Az15, H⟩ := H
        (try dsimp only at H)
        by_cases cz7 : tz13 = true
        rotate_left
        · replace cz7 := Bool.eq_false_iff.mpr cz7
          subst cz7
          replace H := bf_ H
          obtain rfl := Option.some.inj H
          obtain ⟨Aoz3, coz3, eoz3⟩ := Kd.N_slice HO_7.out
          subst eoz3
          go_wp2_with (first | ((with_reducible refine gate_callee (f := 20) rfl ?_); refine ca_ 58 Tryd.func20 #[.slice Aoz3 tz6.length coz3, .string tz3] ?_; (with_reducible refine (impl_KeptFor.calls kjz1 (fun k_ => (some k_ ≠ (.slice Aoz1 tz2.length coz1 : Value).ownBlock ∧ some k_ ≠ (.slice Aoz2 tz4.length coz2 : Value).ownBlock)) _ _ tz6 tz3 tz10 _ ?side1 ?side2 Az1.out).mono ?_); (case side1 => exact Kd.N_V (HO_7.out)); (case side2 => exact Tabs.below HT.out be_); rintro e wz4 ⟨vz5, rfl, hoz1, hb⟩; refine ⟨_, rfl, ?_⟩; replace HO_7 := eN_ HO_7 (Kd.N_base hoz1) hb; have HOz5 := Aside0.mk (Kd.N_lower (Kd.N_mono (ok' := fun k_ => some k_ ≠ (.slice Aoz1 tz2.length coz1 : Value).ownBlock ∧ some k_ ≠ (.slice Aoz2 tz4.length coz2 : Value).ownBlock) hoz1 (fun k_ hk_ => ⟨Or.elim hk_ (fun hs_ => hs_.1) (fun hn_ => (Kd.fresh' (Kd.N_lt (lN_ HO_3.out)) k_ hn_)), Or.elim hk_ (fun hs_ => hs_.2) (fun hn_ => (Kd.fresh' (Kd.R_lt (lR_ HO_5.out)) k_ hn_))⟩)) (below_size be_)); replace HO_3 := eN_ HO_3 (Kd.N_base hoz1) hb; replace HO_5 := bR_ HO_5 hb; replace HB := bw_ hb; clear hb hoz1) | ((with_reducible refine gate_callee (f := 20) rfl ?_); refine ca_ 61 Tryd.func20 #[.slice Aoz1 tz2.length coz1, .string (⟨#[35]⟩ : ByteArray)] ?_; (with_reducible refine (impl_KeptFor.calls kjz1 (fun k_ => ((some k_ ≠ (.slice Aoz2 tz4.length coz2 : Value).ownBlock ∧ some k_ ≠ (.slice Aoz3 tz6.length coz3 : Value).ownBlock) ∧ some k_ ≠ (vz5 : Value).ownBlock)) _ _ tz2 (⟨#[35]⟩ : ByteArray) tz11 _ ?side1 ?side2 Az11.out).mono ?_); (case side1 => exact Kd.N_V (HO_3.out)); (case side2 => exact Tabs.below HT.out be_); rintro e wz5 ⟨vz6, rfl, hoz1, hb⟩; refine ⟨_, rfl, ?_⟩; replace HO_3 := eN_ HO_3 (Kd.N_base hoz1) hb; have HOz6 := Aside0.mk (Kd.N_lower (Kd.N_mono (ok' := fun k_ => some k_ ≠ (.slice Aoz2 tz4.length coz2 : Value).ownBlock ∧ some k_ ≠ (.slice Aoz3 tz6.length coz3 : Value).ownBlock ∧ some k_ ≠ (vz5 : Value).ownBlock) hoz1 (fun k_ hk_ => ⟨Or.elim hk_ (fun hs_ => hs_.1.1) (fun hn_ => (Kd.fresh' (Kd.R_lt (lR_ HO_5.out)) k_ hn_)), Or.elim hk_ (fun hs_ => hs_.1.2) (fun hn_ => (Kd.fresh' (Kd.N_lt (lN_ HO_7.out)) k_ hn_)), Or.elim hk_ (fun hs_ => hs_.2) (fun hn_ => (Kd.fresh' (Kd.N_lt (lN_ HOz5.out)) k_ hn_))⟩)) (below_size be_)); replace HO_5 := bR_ HO_5 hb; replace HO_7 := eN_ HO_7 (Kd.N_base hoz1) hb; replace HOz5 := eN_ HOz5 (Kd.N_base hoz1) hb; replace HB := bw_ hb; clear hb hoz1) | ((with_reducible refine gate_callee (f := 20) rfl ?_); refine ca_ 64 Tryd.func20 #[.slice Aoz3 tz6.length coz3, .string (⟨#[35]⟩ : ByteArray)] ?_; (with_reducible refine (impl_KeptFor.calls kjz1 (fun k_ => (((some k_ ≠ (.slice Aoz1 tz2.length coz1 : Value).ownBlock ∧ some k_ ≠ (.slice Aoz2 tz4.length coz2 : Value).ownBlock) ∧ some k_ ≠ (vz5 : Value).ownBlock) ∧ some k_ ≠ (vz6 : Value).ownBlock)) _ _ tz6 (⟨#[35]⟩ : ByteArray) tz12 _ ?side1 ?side2 Az13.out).mono ?_); (case side1 => exact Kd.N_V (HO_7.out)); (case side2 => exact Tabs.below HT.out be_); rintro e wz6 ⟨vz7, rfl, hoz1, hb⟩; refine ⟨_, rfl, ?_⟩; replace HO_7 := eN_ HO_7 (Kd.N_base hoz1) hb; have HOz7 := Aside0.mk (Kd.N_lower (Kd.N_mono (ok' := fun k_ => some k_ ≠ (.slice Aoz1 tz2.length coz1 : Value).ownBlock ∧ some k_ ≠ (.slice Aoz2 tz4.length coz2 : Value).ownBlock ∧ some k_ ≠ (vz5 : Value).ownBlock ∧ some k_ ≠ (vz6 : Value).ownBlock) hoz1 (fun k_ hk_ => ⟨Or.elim hk_ (fun hs_ => hs_.1.1.1) (fun hn_ => (Kd.fresh' (Kd.N_lt (lN_ HO_3.out)) k_ hn_)), Or.elim hk_ (fun hs_ => hs_.1.1.2) (fun hn_ => (Kd.fresh' (Kd.R_lt (lR_ HO_5.out)) k_ hn_)), Or.elim hk_ (fun hs_ => hs_.1.2) (fun hn_ => (Kd.fresh' (Kd.N_lt (lN_ HOz5.out)) k_ hn_)), Or.elim hk_ (fun hs_ => hs_.2) (fun hn_ => (Kd.fresh' (Kd.N_lt (lN_ HOz6.out)) k_ hn_))⟩)) (below_size be_)); replace HO_3 := eN_ HO_3 (Kd.N_base hoz1) hb; replace HO_5 := bR_ HO_5 hb; replace HOz5 := eN_ HOz5 (Kd.N_base hoz1) hb; replace HOz6 := eN_ HOz6 (Kd.N_base hoz1) hb; replace HB := bw_ hb; clear hb hoz1; obtain ⟨Aoz4, coz4, eoz4⟩ := Kd.N_slice HOz7.out; subst eoz4; obtain ⟨Aoz5, coz5, eoz5⟩ := Kd.N_slice HOz6.out; subst eoz5) | ((with_reducible refine gate_callee (f := 17) rfl ?_); refine ca_ 74 Tryd.func17 #[.slice Aoz3 tz6.length coz3] ?_; (with_reducible refine (impl_KeptOk.calls kjz1 _ _ tz6 false _ ?side1 ?side2 ?side3 Az15.out).mono ?_); (case side1 => exact cN_ HO_7); (case side2 => exact (Kd.N_reads' HO_7.out).2.1); (case side3 => exact Tabs.below HT.out be_); rintro e wz7 ⟨rfl, hb⟩; refine ⟨_, rfl, ?_⟩; replace HO_3 := bN_ HO_3 hb; replace HO_5 := bR_ HO_5 hb; replace HO_7 := bN_ HO_7 hb; replace HOz5 := bN_ HOz5 hb; replace HOz6 := bN_ HOz6 hb; replace HOz7 := bN_ HOz7 hb; replace HB := bw_ hb; clear hb))
          go_ret
          exact ⟨er_, be_⟩
        subst cz7
        replace H := bt_ H
        by_cases cz8 : (tz10.length : Int) = 0
        rotate_left
        · rw [if_neg cz8] at H
          have cz9 : ((tz10.length : Int) == 0) = false := beq_eq_false_iff_ne.mpr cz8
          have cz10 : ((tz10.length : Int) != 0) = true := bne_iff_ne.mpr cz8
          have cz11 : ¬ (tz10 = []) := fun h_ => cz8 (by rw [h_]; rfl)
          exact laws_FnKept_z0
        rw [if_pos cz8] at H
        have cz9 : ((tz10.length : Int) == 0) = true := beq_iff_eq.mpr cz8
        have cz10 : ((tz10.length : Int) != 0) = false := bne_eq_false_iff_eq.mpr cz8
        clear cz8
        by_cases cz11 : (wrap64 ((tz12.length : Int) - (tz11.length : Int))) ≤ 0
        · rw [if_pos cz11] at H
          have cz12 : decide ((wrap64 ((tz12.length : Int) - (tz11.length : Int))) ≤ 0) = true := decide_eq_true cz11
          exact laws_FnKept_z4
        rw [if_neg cz11] at H
        have cz12 : decide ((wrap64 ((tz12.length : Int) - (tz11.length : Int))) ≤ 0) = false := decide_eq_false cz11
        exact laws_FnKept_z4
      rw [if_neg cz4] at H
      have cz5 : ((tz4.length : Int) == 0) = false := beq_eq_false_iff_ne.mpr cz4
      have cz6 : ((tz4.length : Int) != 0) = true := bne_iff_ne.mpr cz4
      have cz7 : ¬ (tz4 = []) := fun h_ => cz4 (by rw [h_]; rfl)
      replace H := bo_ H
      obtain ⟨tz13, Az15, H⟩ := H
      (try dsimp only at H)
      by_cases cz8 : tz13 = true
      rotate_left
      · replace cz8 := Bool.eq_false_iff.mpr cz8
        subst cz8
        replace H := bf_ H
        obtain rfl := Option.some.inj H
        obtain ⟨Aoz3, coz3, eoz3⟩ := Kd.N_slice HO_7.out
        subst eoz3
        go_wp2_with (first | ((with_reducible refine gate_callee (f := 20) rfl ?_); refine ca_ 58 Tryd.func20 #[.slice Aoz3 tz6.length coz3, .string tz3] ?_; (with_reducible refine (impl_KeptFor.calls kjz1 (fun k_ => (some k_ ≠ (.slice Aoz1 tz2.length coz1 : Value).ownBlock ∧ some k_ ≠ (.slice Aoz2 tz4.length coz2 : Value).ownBlock)) _ _ tz6 tz3 tz10 _ ?side1 ?side2 Az1.out).mono ?_); (case side1 => exact Kd.N_V (HO_7.out)); (case side2 => exact Tabs.below HT.out be_); rintro e wz4 ⟨vz5, rfl, hoz1, hb⟩; refine ⟨_, rfl, ?_⟩; replace HO_7 := eN_ HO_7 (Kd.N_base hoz1) hb; have HOz5 := Aside0.mk (Kd.N_lower (Kd.N_mono (ok' := fun k_ => some k_ ≠ (.slice Aoz1 tz2.length coz1 : Value).ownBlock ∧ some k_ ≠ (.slice Aoz2 tz4.length coz2 : Value).ownBlock) hoz1 (fun k_ hk_ => ⟨Or.elim hk_ (fun hs_ => hs_.1) (fun hn_ => (Kd.fresh' (Kd.N_lt (lN_ HO_3.out)) k_ hn_)), Or.elim hk_ (fun hs_ => hs_.2) (fun hn_ => (Kd.fresh' (Kd.R_lt (lR_ HO_5.out)) k_ hn_))⟩)) (below_size be_)); replace HO_3 := eN_ HO_3 (Kd.N_base hoz1) hb; replace HO_5 := bR_ HO_5 hb; replace HB := bw_ hb; clear hb hoz1) | ((with_reducible refine gate_callee (f := 20) rfl ?_); refine ca_ 61 Tryd.func20 #[.slice Aoz1 tz2.length coz1, .string (⟨#[35]⟩ : ByteArray)] ?_; (with_reducible refine (impl_KeptFor.calls kjz1 (fun k_ => ((some k_ ≠ (.slice Aoz2 tz4.length coz2 : Value).ownBlock ∧ some k_ ≠ (.slice Aoz3 tz6.length coz3 : Value).ownBlock) ∧ some k_ ≠ (vz5 : Value).ownBlock)) _ _ tz2 (⟨#[35]⟩ : ByteArray) tz11 _ ?side1 ?side2 Az11.out).mono ?_); (case side1 => exact Kd.N_V (HO_3.out)); (case side2 => exact Tabs.below HT.out be_); rintro e wz5 ⟨vz6, rfl, hoz1, hb⟩; refine ⟨_, rfl, ?_⟩; replace HO_3 := eN_ HO_3 (Kd.N_base hoz1) hb; have HOz6 := Aside0.mk (Kd.N_lower (Kd.N_mono (ok' := fun k_ => some k_ ≠ (.slice Aoz2 tz4.length coz2 : Value).ownBlock ∧ some k_ ≠ (.slice Aoz3 tz6.length coz3 : Value).ownBlock ∧ some k_ ≠ (vz5 : Value).ownBlock) hoz1 (fun k_ hk_ => ⟨Or.elim hk_ (fun hs_ => hs_.1.1) (fun hn_ => (Kd.fresh' (Kd.R_lt (lR_ HO_5.out)) k_ hn_)), Or.elim hk_ (fun hs_ => hs_.1.2) (fun hn_ => (Kd.fresh' (Kd.N_lt (lN_ HO_7.out)) k_ hn_)), Or.elim hk_ (fun hs_ => hs_.2) (fun hn_ => (Kd.fresh' (Kd.N_lt (lN_ HOz5.out)) k_ hn_))⟩)) (below_size be_)); replace HO_5 := bR_ HO_5 hb; replace HO_7 := eN_ HO_7 (Kd.N_base hoz1) hb; replace HOz5 := eN_ HOz5 (Kd.N_base hoz1) hb; replace HB := bw_ hb; clear hb hoz1) | ((with_reducible refine gate_callee (f := 20) rfl ?_); refine ca_ 64 Tryd.func20 #[.slice Aoz3 tz6.length coz3, .string (⟨#[35]⟩ : ByteArray)] ?_; (with_reducible refine (impl_KeptFor.calls kjz1 (fun k_ => (((some k_ ≠ (.slice Aoz1 tz2.length coz1 : Value).ownBlock ∧ some k_ ≠ (.slice Aoz2 tz4.length coz2 : Value).ownBlock) ∧ some k_ ≠ (vz5 : Value).ownBlock) ∧ some k_ ≠ (vz6 : Value).ownBlock)) _ _ tz6 (⟨#[35]⟩ : ByteArray) tz12 _ ?side1 ?side2 Az13.out).mono ?_); (case side1 => exact Kd.N_V (HO_7.out)); (case side2 => exact Tabs.below HT.out be_); rintro e wz6 ⟨vz7, rfl, hoz1, hb⟩; refine ⟨_, rfl, ?_⟩; replace HO_7 := eN_ HO_7 (Kd.N_base hoz1) hb; have HOz7 := Aside0.mk (Kd.N_lower (Kd.N_mono (ok' := fun k_ => some k_ ≠ (.slice Aoz1 tz2.length coz1 : Value).ownBlock ∧ some k_ ≠ (.slice Aoz2 tz4.length coz2 : Value).ownBlock ∧ some k_ ≠ (vz5 : Value).ownBlock ∧ some k_ ≠ (vz6 : Value).ownBlock) hoz1 (fun k_ hk_ => ⟨Or.elim hk_ (fun hs_ => hs_.1.1.1) (fun hn_ => (Kd.fresh' (Kd.N_lt (lN_ HO_3.out)) k_ hn_)), Or.elim hk_ (fun hs_ => hs_.1.1.2) (fun hn_ => (Kd.fresh' (Kd.R_lt (lR_ HO_5.out)) k_ hn_)), Or.elim hk_ (fun hs_ => hs_.1.2) (fun hn_ => (Kd.fresh' (Kd.N_lt (lN_ HOz5.out)) k_ hn_)), Or.elim hk_ (fun hs_ => hs_.2) (fun hn_ => (Kd.fresh' (Kd.N_lt (lN_ HOz6.out)) k_ hn_))⟩)) (below_size be_)); replace HO_3 := eN_ HO_3 (Kd.N_base hoz1) hb; replace HO_5 := bR_ HO_5 hb; replace HOz5 := eN_ HOz5 (Kd.N_base hoz1) hb; replace HOz6 := eN_ HOz6 (Kd.N_base hoz1) hb; replace HB := bw_ hb; clear hb hoz1; obtain ⟨Aoz4, coz4, eoz4⟩ := Kd.N_slice HOz7.out; subst eoz4; obtain ⟨Aoz5, coz5, eoz5⟩ := Kd.N_slice HOz6.out; subst eoz5) | ((with_reducible refine gate_callee (f := 17) rfl ?_); refine ca_ 89 Tryd.func17 #[.slice Aoz3 tz6.length coz3] ?_; (with_reducible refine (impl_KeptOk.calls kjz1 _ _ tz6 false _ ?side1 ?side2 ?side3 Az15.out).mono ?_); (case side1 => exact cN_ HO_7); (case side2 => exact (Kd.N_reads' HO_7.out).2.1); (case side3 => exact Tabs.below HT.out be_); rintro e wz7 ⟨rfl, hb⟩; refine ⟨_, rfl, ?_⟩; replace HO_3 := bN_ HO_3 hb; replace HO_5 := bR_ HO_5 hb; replace HO_7 := bN_ HO_7 hb; replace HOz5 := bN_ HOz5 hb; replace HOz6 := bN_ HOz6 hb; replace HOz7 := bN_ HOz7 hb; replace HB := bw_ hb; clear hb))
        go_ret
        exact ⟨er_, be_⟩
      subst cz8
      replace H := bt_ H
      by_cases cz9 : (tz10.length : Int) = 1
      rotate_left
      · rw [if_neg cz9] at H
        have cz10 : ((tz10.length : Int) == 1) = false := beq_eq_false_iff_ne.mpr cz9
        have cz11 : ((tz10.length : Int) != 1) = true := bne_iff_ne.mpr cz9
        obtain rfl := Option.some.inj H
        obtain ⟨Aoz3, coz3, eoz3⟩ := Kd.N_slice HO_7.out
        subst eoz3
        go_wp2_with (first | ((with_reducible refine gate_callee (f := 20) rfl ?_); refine ca_ 58 Tryd.func20 #[.slice Aoz3 tz6.length coz3, .string tz3] ?_; (with_reducible refine (impl_KeptFor.calls kjz1 (fun k_ => (some k_ ≠ (.slice Aoz1 tz2.length coz1 : Value).ownBlock ∧ some k_ ≠ (.slice Aoz2 tz4.length coz2 : Value).ownBlock)) _ _ tz6 tz3 tz10 _ ?side1 ?side2 Az1.out).mono ?_); (case side1 => exact Kd.N_V (HO_7.out)); (case side2 => exact Tabs.below HT.out be_); rintro e wz4 ⟨vz5, rfl, hoz1, hb⟩; refine ⟨_, rfl, ?_⟩; replace HO_7 := eN_ HO_7 (Kd.N_base hoz1) hb; have HOz5 := Aside0.mk (Kd.N_lower (Kd.N_mono (ok' := fun k_ => some k_ ≠ (.slice Aoz1 tz2.length coz1 : Value).ownBlock ∧ some k_ ≠ (.slice Aoz2 tz4.length coz2 : Value).ownBlock) hoz1 (fun k_ hk_ => ⟨Or.elim hk_ (fun hs_ => hs_.1) (fun hn_ => (Kd.fresh' (Kd.N_lt (lN_ HO_3.out)) k_ hn_)), Or.elim hk_ (fun hs_ => hs_.2) (fun hn_ => (Kd.fresh' (Kd.R_lt (lR_ HO_5.out)) k_ hn_))⟩)) (below_size be_)); replace HO_3 := eN_ HO_3 (Kd.N_base hoz1) hb; replace HO_5 := bR_ HO_5 hb; replace HB := bw_ hb; clear hb hoz1) | ((with_reducible refine gate_callee (f := 20) rfl ?_); refine ca_ 61 Tryd.func20 #[.slice Aoz1 tz2.length coz1, .string (⟨#[35]⟩ : ByteArray)] ?_; (with_reducible refine (impl_KeptFor.calls kjz1 (fun k_ => ((some k_ ≠ (.slice Aoz2 tz4.length coz2 : Value).ownBlock ∧ some k_ ≠ (.slice Aoz3 tz6.length coz3 : Value).ownBlock) ∧ some k_ ≠ (vz5 : Value).ownBlock)) _ _ tz2 (⟨#[35]⟩ : ByteArray) tz11 _ ?side1 ?side2 Az11.out).mono ?_); (case side1 => exact Kd.N_V (HO_3.out)); (case side2 => exact Tabs.below HT.out be_); rintro e wz5 ⟨vz6, rfl, hoz1, hb⟩; refine ⟨_, rfl, ?_⟩; replace HO_3 := eN_ HO_3 (Kd.N_base hoz1) hb; have HOz6 := Aside0.mk (Kd.N_lower (Kd.N_mono (ok' := fun k_ => some k_ ≠ (.slice Aoz2 tz4.length coz2 : Value).ownBlock ∧ some k_ ≠ (.slice Aoz3 tz6.length coz3 : Value).ownBlock ∧ some k_ ≠ (vz5 : Value).ownBlock) hoz1 (fun k_ hk_ => ⟨Or.elim hk_ (fun hs_ => hs_.1.1) (fun hn_ => (Kd.fresh' (Kd.R_lt (lR_ HO_5.out)) k_ hn_)), Or.elim hk_ (fun hs_ => hs_.1.2) (fun hn_ => (Kd.fresh' (Kd.N_lt (lN_ HO_7.out)) k_ hn_)), Or.elim hk_ (fun hs_ => hs_.2) (fun hn_ => (Kd.fresh' (Kd.N_lt (lN_ HOz5.out)) k_ hn_))⟩)) (below_size be_)); replace HO_5 := bR_ HO_5 hb; replace HO_7 := eN_ HO_7 (Kd.N_base hoz1) hb; replace HOz5 := eN_ HOz5 (Kd.N_base hoz1) hb; replace HB := bw_ hb; clear hb hoz1) | ((with_reducible refine gate_callee (f := 20) rfl ?_); refine ca_ 64 Tryd.func20 #[.slice Aoz3 tz6.length coz3, .string (⟨#[35]⟩ : ByteArray)] ?_; (with_reducible refine (impl_KeptFor.calls kjz1 (fun k_ => (((some k_ ≠ (.slice Aoz1 tz2.length coz1 : Value).ownBlock ∧ some k_ ≠ (.slice Aoz2 tz4.length coz2 : Value).ownBlock) ∧ some k_ ≠ (vz5 : Value).ownBlock) ∧ some k_ ≠ (vz6 : Value).ownBlock)) _ _ tz6 (⟨#[35]⟩ : ByteArray) tz12 _ ?side1 ?side2 Az13.out).mono ?_); (case side1 => exact Kd.N_V (HO_7.out)); (case side2 => exact Tabs.below HT.out be_); rintro e wz6 ⟨vz7, rfl, hoz1, hb⟩; refine ⟨_, rfl, ?_⟩; replace HO_7 := eN_ HO_7 (Kd.N_base hoz1) hb; have HOz7 := Aside0.mk (Kd.N_lower (Kd.N_mono (ok' := fun k_ => some k_ ≠ (.slice Aoz1 tz2.length coz1 : Value).ownBlock ∧ some k_ ≠ (.slice Aoz2 tz4.length coz2 : Value).ownBlock ∧ some k_ ≠ (vz5 : Value).ownBlock ∧ some k_ ≠ (vz6 : Value).ownBlock) hoz1 (fun k_ hk_ => ⟨Or.elim hk_ (fun hs_ => hs_.1.1.1) (fun hn_ => (Kd.fresh' (Kd.N_lt (lN_ HO_3.out)) k_ hn_)), Or.elim hk_ (fun hs_ => hs_.1.1.2) (fun hn_ => (Kd.fresh' (Kd.R_lt (lR_ HO_5.out)) k_ hn_)), Or.elim hk_ (fun hs_ => hs_.1.2) (fun hn_ => (Kd.fresh' (Kd.N_lt (lN_ HOz5.out)) k_ hn_)), Or.elim hk_ (fun hs_ => hs_.2) (fun hn_ => (Kd.fresh' (Kd.N_lt (lN_ HOz6.out)) k_ hn_))⟩)) (below_size be_)); replace HO_3 := eN_ HO_3 (Kd.N_base hoz1) hb; replace HO_5 := bR_ HO_5 hb; replace HOz5 := eN_ HOz5 (Kd.N_base hoz1) hb; replace HOz6 := eN_ HOz6 (Kd.N_base hoz1) hb; replace HB := bw_ hb; clear hb hoz1; obtain ⟨Aoz4, coz4, eoz4⟩ := Kd.N_slice HOz7.out; subst eoz4; obtain ⟨Aoz5, coz5, eoz5⟩ := Kd.N_slice HOz6.out; subst eoz5) | ((with_reducible refine gate_callee (f := 17) rfl ?_); refine ca_ 89 Tryd.func17 #[.slice Aoz3 tz6.length coz3] ?_; (with_reducible refine (impl_KeptOk.calls kjz1 _ _ tz6 true _ ?side1 ?side2 ?side3 Az15.out).mono ?_); (case side1 => exact cN_ HO_7); (case side2 => exact (Kd.N_reads' HO_7.out).2.1); (case side3 => exact Tabs.below HT.out be_); rintro e wz7 ⟨rfl, hb⟩; refine ⟨_, rfl, ?_⟩; replace HO_3 := bN_ HO_3 hb; replace HO_5 := bR_ HO_5 hb; replace HO_7 := bN_ HO_7 hb; replace HOz5 := bN_ HOz5 hb; replace HOz6 := bN_ HOz6 hb; replace HOz7 := bN_ HOz7 hb; replace HB := bw_ hb; clear hb; obtain ⟨Aoz6, coz6, eoz6⟩ := Kd.N_slice HOz5.out; subst eoz6))
        go_ret
        exact ⟨er_, be_⟩
      rw [if_pos cz9] at H
      have cz10 : ((tz10.length : Int) == 1) = true := beq_iff_eq.mpr cz9
      have cz11 : ((tz10.length : Int) != 1) = false := bne_eq_false_iff_eq.mpr cz9
      clear cz9
      by_cases cz12 : 0 < (tz10.length : Int)
      rotate_left
      · rw [if_neg cz12] at H
        exact absurd H (by simp)
      rw [if_pos cz12] at H
      have cz13 : decide (0 < (tz10.length : Int)) = true := decide_eq_true cz12
      have cz14 : decide (0 < tz10.length) = true := decide_eq_true (by omega)
      clear cz12
      by_cases cz15 : ((rd_T41 tz10 0).f0).toList = tz3.toList
      rotate_left
      · rw [if_neg cz15] at H
        have cz16 : (((rd_T41 tz10 0).f0).toList == tz3.toList) = false := beq_eq_false_iff_ne.mpr cz15
        have cz17 : (((rd_T41 tz10 0).f0).toList != tz3.toList) = true := bne_iff_ne.mpr cz15
        obtain rfl := Option.some.inj H
        obtain ⟨Aoz3, coz3, eoz3⟩ := Kd.N_slice HO_7.out
        subst eoz3
        go_wp2_with (first | ((with_reducible refine gate_callee (f := 20) rfl ?_); refine ca_ 58 Tryd.func20 #[.slice Aoz3 tz6.length coz3, .string tz3] ?_; (with_reducible refine (impl_KeptFor.calls kjz1 (fun k_ => (some k_ ≠ (.slice Aoz1 tz2.length coz1 : Value).ownBlock ∧ some k_ ≠ (.slice Aoz2 tz4.length coz2 : Value).ownBlock)) _ _ tz6 tz3 tz10 _ ?side1 ?side2 Az1.out).mono ?_); (case side1 => exact Kd.N_V (HO_7.out)); (case side2 => exact Tabs.below HT.out be_); rintro e wz4 ⟨vz5, rfl, hoz1, hb⟩; refine ⟨_, rfl, ?_⟩; replace HO_7 := eN_ HO_7 (Kd.N_base hoz1) hb; have HOz5 := Aside0.mk (Kd.N_lower (Kd.N_mono (ok' := fun k_ => some k_ ≠ (.slice Aoz1 tz2.length coz1 : Value).ownBlock ∧ some k_ ≠ (.slice Aoz2 tz4.length coz2 : Value).ownBlock) hoz1 (fun k_ hk_ => ⟨Or.elim hk_ (fun hs_ => hs_.1) (fun hn_ => (Kd.fresh' (Kd.N_lt (lN_ HO_3.out)) k_ hn_)), Or.elim hk_ (fun hs_ => hs_.2) (fun hn_ => (Kd.fresh' (Kd.R_lt (lR_ HO_5.out)) k_ hn_))⟩)) (below_size be_)); replace HO_3 := eN_ HO_3 (Kd.N_base hoz1) hb; replace HO_5 := bR_ HO_5 hb; replace HB := bw_ hb; clear hb hoz1) | ((with_reducible refine gate_callee (f := 20) rfl ?_); refine ca_ 61 Tryd.func20 #[.slice Aoz1 tz2.length coz1, .string (⟨#[35]⟩ : ByteArray)] ?_; (with_reducible refine (impl_KeptFor.calls kjz1 (fun k_ => ((some k_ ≠ (.slice Aoz2 tz4.length coz2 : Value).ownBlock ∧ some k_ ≠ (.slice Aoz3 tz6.length coz3 : Value).ownBlock) ∧ some k_ ≠ (vz5 : Value).ownBlock)) _ _ tz2 (⟨#[35]⟩ : ByteArray) tz11 _ ?side1 ?side2 Az11.out).mono ?_); (case side1 => exact Kd.N_V (HO_3.out)); (case side2 => exact Tabs.below HT.out be_); rintro e wz5 ⟨vz6, rfl, hoz1, hb⟩; refine ⟨_, rfl, ?_⟩; replace HO_3 := eN_ HO_3 (Kd.N_base hoz1) hb; have HOz6 := Aside0.mk (Kd.N_lower (Kd.N_mono (ok' := fun k_ => some k_ ≠ (.slice Aoz2 tz4.length coz2 : Value).ownBlock ∧ some k_ ≠ (.slice Aoz3 tz6.length coz3 : Value).ownBlock ∧ some k_ ≠ (vz5 : Value).ownBlock) hoz1 (fun k_ hk_ => ⟨Or.elim hk_ (fun hs_ => hs_.1.1) (fun hn_ => (Kd.fresh' (Kd.R_lt (lR_ HO_5.out)) k_ hn_)), Or.elim hk_ (fun hs_ => hs_.1.2) (fun hn_ => (Kd.fresh' (Kd.N_lt (lN_ HO_7.out)) k_ hn_)), Or.elim hk_ (fun hs_ => hs_.2) (fun hn_ => (Kd.fresh' (Kd.N_lt (lN_ HOz5.out)) k_ hn_))⟩)) (below_size be_)); replace HO_5 := bR_ HO_5 hb; replace HO_7 := eN_ HO_7 (Kd.N_base hoz1) hb; replace HOz5 := eN_ HOz5 (Kd.N_base hoz1) hb; replace HB := bw_ hb; clear hb hoz1) | ((with_reducible refine gate_callee (f := 20) rfl ?_); refine ca_ 64 Tryd.func20 #[.slice Aoz3 tz6.length coz3, .string (⟨#[35]⟩ : ByteArray)] ?_; (with_reducible refine (impl_KeptFor.calls kjz1 (fun k_ => (((some k_ ≠ (.slice Aoz1 tz2.length coz1 : Value).ownBlock ∧ some k_ ≠ (.slice Aoz2 tz4.length coz2 : Value).ownBlock) ∧ some k_ ≠ (vz5 : Value).ownBlock) ∧ some k_ ≠ (vz6 : Value).ownBlock)) _ _ tz6 (⟨#[35]⟩ : ByteArray) tz12 _ ?side1 ?side2 Az13.out).mono ?_); (case side1 => exact Kd.N_V (HO_7.out)); (case side2 => exact Tabs.below HT.out be_); rintro e wz6 ⟨vz7, rfl, hoz1, hb⟩; refine ⟨_, rfl, ?_⟩; replace HO_7 := eN_ HO_7 (Kd.N_base hoz1) hb; have HOz7 := Aside0.mk (Kd.N_lower (Kd.N_mono (ok' := fun k_ => some k_ ≠ (.slice Aoz1 tz2.length coz1 : Value).ownBlock ∧ some k_ ≠ (.slice Aoz2 tz4.length coz2 : Value).ownBlock ∧ some k_ ≠ (vz5 : Value).ownBlock ∧ some k_ ≠ (vz6 : Value).ownBlock) hoz1 (fun k_ hk_ => ⟨Or.elim hk_ (fun hs_ => hs_.1.1.1) (fun hn_ => (Kd.fresh' (Kd.N_lt (lN_ HO_3.out)) k_ hn_)), Or.elim hk_ (fun hs_ => hs_.1.1.2) (fun hn_ => (Kd.fresh' (Kd.R_lt (lR_ HO_5.out)) k_ hn_)), Or.elim hk_ (fun hs_ => hs_.1.2) (fun hn_ => (Kd.fresh' (Kd.N_lt (lN_ HOz5.out)) k_ hn_)), Or.elim hk_ (fun hs_ => hs_.2) (fun hn_ => (Kd.fresh' (Kd.N_lt (lN_ HOz6.out)) k_ hn_))⟩)) (below_size be_)); replace HO_3 := eN_ HO_3 (Kd.N_base hoz1) hb; replace HO_5 := bR_ HO_5 hb; replace HOz5 := eN_ HOz5 (Kd.N_base hoz1) hb; replace HOz6 := eN_ HOz6 (Kd.N_base hoz1) hb; replace HB := bw_ hb; clear hb hoz1; obtain ⟨Aoz4, coz4, eoz4⟩ := Kd.N_slice HOz7.out; subst eoz4; obtain ⟨Aoz5, coz5, eoz5⟩ := Kd.N_slice HOz6.out; subst eoz5) | ((with_reducible refine gate_callee (f := 17) rfl ?_); refine ca_ 89 Tryd.func17 #[.slice Aoz3 tz6.length coz3] ?_; (with_reducible refine (impl_KeptOk.calls kjz1 _ _ tz6 true _ ?side1 ?side2 ?side3 Az15.out).mono ?_); (case side1 => exact cN_ HO_7); (case side2 => exact (Kd.N_reads' HO_7.out).2.1); (case side3 => exact Tabs.below HT.out be_); rintro e wz7 ⟨rfl, hb⟩; refine ⟨_, rfl, ?_⟩; replace HO_3 := bN_ HO_3 hb; replace HO_5 := bR_ HO_5 hb; replace HO_7 := bN_ HO_7 hb; replace HOz5 := bN_ HOz5 hb; replace HOz6 := bN_ HOz6 hb; replace HOz7 := bN_ HOz7 hb; replace HB := bw_ hb; clear hb; obtain ⟨Aoz6, coz6, eoz6⟩ := Kd.N_slice HOz5.out; subst eoz6; have pz1 : 0 ≤ (0 : Int) := (by omega); have qz1 : 0 < (tz10.length : Int) := dt_; obtain ⟨adz1, Az16, cz18, ez1, hxz1, hxz2, hxz3, hlz1, hiz1⟩ := at_T41 (Kd.N_reads' HOz5.out).2.2 0 pz1 qz1; cases ez1; obtain ⟨cez1, hcez1, hMez1, hccz1⟩ := Kd.N_get HOz5.out z41 0 pz1 (by first | exact qz1 | exact dt_ | (have e_ := (Kd.N_reads' HOz5.out).1; omega)); obtain ⟨uaz1, ucz1, rfl, ulz1, gez1⟩ := k41_openF hMez1; have hvz1 := hccz1 1 _ rfl; rw [add_field _ _ 1 (by omega)] at hvz1; replace hvz1 := Option.some.inj (hvz1.symm.trans hxz2); injection hvz1 with hva_ hvn_ hvc_; rw [hva_] at gez1; rw [hvc_] at ulz1; have HLz1 := Aside0.mk (show Kd.V (Kd.int .u8) 5 _ w.heap.size _ _ ((rd_T41 tz10 0).f1) from Kd.V_mk ulz1 gez1); clear hva_ hvn_ hvc_ gez1 ulz1 hccz1 hcez1; have qiz1 : (0 < tz10.length) = True := eq_true (by omega); (try rw [show ((0 : Int)).toNat = 0 from rfl] at hxz1); (try rw [show 0 * 3 = 0 from rfl] at hxz1); (try rw [Addr.add_zero'] at hxz1); (try rw [show ((0 : Int)).toNat = 0 from rfl] at hxz2); (try rw [show 0 * 3 = 0 from rfl] at hxz2); (try rw [Addr.add_zero'] at hxz2); (try rw [show ((0 : Int)).toNat = 0 from rfl] at hxz3); (try rw [show 0 * 3 = 0 from rfl] at hxz3); (try rw [Addr.add_zero'] at hxz3); have HRz2 := Aside0.mk hiz1; have HCz3 := Aside0.mk hlz1; clear hiz1 hlz1; replace pz1 := eq_true pz1; replace qz1 := eq_true qz1))
        go_ret
        exact ⟨er_, be_⟩
      rw [if_pos cz15] at H
      have cz16 : (((rd_T41 tz10 0).f0).toList == tz3.toList) = true := beq_iff_eq.mpr cz15
      have cz17 : (((rd_T41 tz10 0).f0).toList != tz3.toList) = false := bne_eq_false_iff_eq.mpr cz15
      clear cz15
      replace H := bo_ H
      obtain ⟨tz14, Az17, H⟩ := H
      (try dsimp only at H)
      by_cases cz18 : tz14 = true
      rotate_left
      · replace cz18 := Bool.eq_false_iff.mpr cz18
        subst cz18
        replace H := bf_ H
        obtain rfl := Option.some.inj H
        obtain ⟨Aoz3, coz3, eoz3⟩ := Kd.N_slice HO_7.out
        subst eoz3
        go_wp2_with (first | ((with_reducible refine gate_callee (f := 20) rfl ?_); refine ca_ 58 Tryd.func20 #[.slice Aoz3 tz6.length coz3, .string tz3] ?_; (with_reducible refine (impl_KeptFor.calls kjz1 (fun k_ => (some k_ ≠ (.slice Aoz1 tz2.length coz1 : Value).ownBlock ∧ some k_ ≠ (.slice Aoz2 tz4.length coz2 : Value).ownBlock)) _ _ tz6 tz3 tz10 _ ?side1 ?side2 Az1.out).mono ?_); (case side1 => exact Kd.N_V (HO_7.out)); (case side2 => exact Tabs.below HT.out be_); rintro e wz4 ⟨vz5, rfl, hoz1, hb⟩; refine ⟨_, rfl, ?_⟩; replace HO_7 := eN_ HO_7 (Kd.N_base hoz1) hb; have HOz5 := Aside0.mk (Kd.N_lower (Kd.N_mono (ok' := fun k_ => some k_ ≠ (.slice Aoz1 tz2.length coz1 : Value).ownBlock ∧ some k_ ≠ (.slice Aoz2 tz4.length coz2 : Value).ownBlock) hoz1 (fun k_ hk_ => ⟨Or.elim hk_ (fun hs_ => hs_.1) (fun hn_ => (Kd.fresh' (Kd.N_lt (lN_ HO_3.out)) k_ hn_)), Or.elim hk_ (fun hs_ => hs_.2) (fun hn_ => (Kd.fresh' (Kd.R_lt (lR_ HO_5.out)) k_ hn_))⟩)) (below_size be_)); replace HO_3 := eN_ HO_3 (Kd.N_base hoz1) hb; replace HO_5 := bR_ HO_5 hb; replace HB := bw_ hb; clear hb hoz1) | ((with_reducible refine gate_callee (f := 20) rfl ?_); refine ca_ 61 Tryd.func20 #[.slice Aoz1 tz2.length coz1, .string (⟨#[35]⟩ : ByteArray)] ?_; (with_reducible refine (impl_KeptFor.calls kjz1 (fun k_ => ((some k_ ≠ (.slice Aoz2 tz4.length coz2 : Value).ownBlock ∧ some k_ ≠ (.slice Aoz3 tz6.length coz3 : Value).ownBlock) ∧ some k_ ≠ (vz5 : Value).ownBlock)) _ _ tz2 (⟨#[35]⟩ : ByteArray) tz11 _ ?side1 ?side2 Az11.out).mono ?_); (case side1 => exact Kd.N_V (HO_3.out)); (case side2 => exact Tabs.below HT.out be_); rintro e wz5 ⟨vz6, rfl, hoz1, hb⟩; refine ⟨_, rfl, ?_⟩; replace HO_3 := eN_ HO_3 (Kd.N_base hoz1) hb; have HOz6 := Aside0.mk (Kd.N_lower (Kd.N_mono (ok' := fun k_ => some k_ ≠ (.slice Aoz2 tz4.length coz2 : Value).ownBlock ∧ some k_ ≠ (.slice Aoz3 tz6.length coz3 : Value).ownBlock ∧ some k_ ≠ (vz5 : Value).ownBlock) hoz1 (fun k_ hk_ => ⟨Or.elim hk_ (fun hs_ => hs_.1.1) (fun hn_ => (Kd.fresh' (Kd.R_lt (lR_ HO_5.out)) k_ hn_)), Or.elim hk_ (fun hs_ => hs_.1.2) (fun hn_ => (Kd.fresh' (Kd.N_lt (lN_ HO_7.out)) k_ hn_)), Or.elim hk_ (fun hs_ => hs_.2) (fun hn_ => (Kd.fresh' (Kd.N_lt (lN_ HOz5.out)) k_ hn_))⟩)) (below_size be_)); replace HO_5 := bR_ HO_5 hb; replace HO_7 := eN_ HO_7 (Kd.N_base hoz1) hb; replace HOz5 := eN_ HOz5 (Kd.N_base hoz1) hb; replace HB := bw_ hb; clear hb hoz1) | ((with_reducible refine gate_callee (f := 20) rfl ?_); refine ca_ 64 Tryd.func20 #[.slice Aoz3 tz6.length coz3, .string (⟨#[35]⟩ : ByteArray)] ?_; (with_reducible refine (impl_KeptFor.calls kjz1 (fun k_ => (((some k_ ≠ (.slice Aoz1 tz2.length coz1 : Value).ownBlock ∧ some k_ ≠ (.slice Aoz2 tz4.length coz2 : Value).ownBlock) ∧ some k_ ≠ (vz5 : Value).ownBlock) ∧ some k_ ≠ (vz6 : Value).ownBlock)) _ _ tz6 (⟨#[35]⟩ : ByteArray) tz12 _ ?side1 ?side2 Az13.out).mono ?_); (case side1 => exact Kd.N_V (HO_7.out)); (case side2 => exact Tabs.below HT.out be_); rintro e wz6 ⟨vz7, rfl, hoz1, hb⟩; refine ⟨_, rfl, ?_⟩; replace HO_7 := eN_ HO_7 (Kd.N_base hoz1) hb; have HOz7 := Aside0.mk (Kd.N_lower (Kd.N_mono (ok' := fun k_ => some k_ ≠ (.slice Aoz1 tz2.length coz1 : Value).ownBlock ∧ some k_ ≠ (.slice Aoz2 tz4.length coz2 : Value).ownBlock ∧ some k_ ≠ (vz5 : Value).ownBlock ∧ some k_ ≠ (vz6 : Value).ownBlock) hoz1 (fun k_ hk_ => ⟨Or.elim hk_ (fun hs_ => hs_.1.1.1) (fun hn_ => (Kd.fresh' (Kd.N_lt (lN_ HO_3.out)) k_ hn_)), Or.elim hk_ (fun hs_ => hs_.1.1.2) (fun hn_ => (Kd.fresh' (Kd.R_lt (lR_ HO_5.out)) k_ hn_)), Or.elim hk_ (fun hs_ => hs_.1.2) (fun hn_ => (Kd.fresh' (Kd.N_lt (lN_ HOz5.out)) k_ hn_)), Or.elim hk_ (fun hs_ => hs_.2) (fun hn_ => (Kd.fresh' (Kd.N_lt (lN_ HOz6.out)) k_ hn_))⟩)) (below_size be_)); replace HO_3 := eN_ HO_3 (Kd.N_base hoz1) hb; replace HO_5 := bR_ HO_5 hb; replace HOz5 := eN_ HOz5 (Kd.N_base hoz1) hb; replace HOz6 := eN_ HOz6 (Kd.N_base hoz1) hb; replace HB := bw_ hb; clear hb hoz1; obtain ⟨Aoz4, coz4, eoz4⟩ := Kd.N_slice HOz7.out; subst eoz4; obtain ⟨Aoz5, coz5, eoz5⟩ := Kd.N_slice HOz6.out; subst eoz5) | ((with_reducible refine gate_callee (f := 17) rfl ?_); refine ca_ 89 Tryd.func17 #[.slice Aoz3 tz6.length coz3] ?_; (with_reducible refine (impl_KeptOk.calls kjz1 _ _ tz6 true _ ?side1 ?side2 ?side3 Az15.out).mono ?_); (case side1 => exact cN_ HO_7); (case side2 => exact (Kd.N_reads' HO_7.out).2.1); (case side3 => exact Tabs.below HT.out be_); rintro e wz7 ⟨rfl, hb⟩; refine ⟨_, rfl, ?_⟩; replace HO_3 := bN_ HO_3 hb; replace HO_5 := bR_ HO_5 hb; replace HO_7 := bN_ HO_7 hb; replace HOz5 := bN_ HOz5 hb; replace HOz6 := bN_ HOz6 hb; replace HOz7 := bN_ HOz7 hb; replace HB := bw_ hb; clear hb; obtain ⟨Aoz6, coz6, eoz6⟩ := Kd.N_slice HOz5.out; subst eoz6; have pz1 : 0 ≤ (0 : Int) := (by omega); have qz1 : 0 < (tz10.length : Int) := dt_; obtain ⟨adz1, Az18, cz19, ez1, hxz1, hxz2, hxz3, hlz1, hiz1⟩ := at_T41 (Kd.N_reads' HOz5.out).2.2 0 pz1 qz1; cases ez1; obtain ⟨cez1, hcez1, hMez1, hccz1⟩ := Kd.N_get HOz5.out z41 0 pz1 (by first | exact qz1 | exact dt_ | (have e_ := (Kd.N_reads' HOz5.out).1; omega)); obtain ⟨uaz1, ucz1, rfl, ulz1, gez1⟩ := k41_openF hMez1; have hvz1 := hccz1 1 _ rfl; rw [add_field _ _ 1 (by omega)] at hvz1; replace hvz1 := Option.some.inj (hvz1.symm.trans hxz2); injection hvz1 with hva_ hvn_ hvc_; rw [hva_] at gez1; rw [hvc_] at ulz1; have HLz1 := Aside0.mk (show Kd.V (Kd.int .u8) 5 _ w.heap.size _ _ ((rd_T41 tz10 0).f1) from Kd.V_mk ulz1 gez1); clear hva_ hvn_ hvc_ gez1 ulz1 hccz1 hcez1; have qiz1 : (0 < tz10.length) = True := eq_true (by omega); (try rw [show ((0 : Int)).toNat = 0 from rfl] at hxz1); (try rw [show 0 * 3 = 0 from rfl] at hxz1); (try rw [Addr.add_zero'] at hxz1); (try rw [show ((0 : Int)).toNat = 0 from rfl] at hxz2); (try rw [show 0 * 3 = 0 from rfl] at hxz2); (try rw [Addr.add_zero'] at hxz2); (try rw [show ((0 : Int)).toNat = 0 from rfl] at hxz3); (try rw [show 0 * 3 = 0 from rfl] at hxz3); (try rw [Addr.add_zero'] at hxz3); have HRz2 := Aside0.mk hiz1; have HCz3 := Aside0.mk hlz1; clear hiz1 hlz1; replace pz1 := eq_true pz1; replace qz1 := eq_true qz1; have pz2 : 0 ≤ (0 : Int) := (by omega); have qz2 : 0 < (tz10.length : Int) := dt_; obtain ⟨adz2, Az19, cz20, ez2, hxz4, hxz5, hxz6, hlz2, hiz2⟩ := at_T41 (Kd.N_reads' HOz5.out).2.2 0 pz2 qz2; obtain rfl : adz1 = adz2 := (by injection ez2); obtain ⟨cez2, hcez2, hMez2, hccz2⟩ := Kd.N_get HOz5.out z41 0 pz2 (by first | exact qz2 | exact dt_ | (have e_ := (Kd.N_reads' HOz5.out).1; omega)); obtain ⟨uaz2, ucz2, rfl, ulz2, gez2⟩ := k41_openF hMez2; have hvz2 := hccz2 1 _ rfl; rw [add_field _ _ 1 (by omega)] at hvz2; replace hvz2 := Option.some.inj (hvz2.symm.trans hxz5); injection hvz2 with hva_ hvn_ hvc_; rw [hva_] at gez2; rw [hvc_] at ulz2; have HLz2 := Aside0.mk (show Kd.V (Kd.int .u8) 5 _ w.heap.size _ _ ((rd_T41 tz10 0).f1) from Kd.V_mk ulz2 gez2); clear hva_ hvn_ hvc_ gez2 ulz2 hccz2 hcez2; have qiz2 : (0 < tz10.length) = True := eq_true (by omega); (try rw [show ((0 : Int)).toNat = 0 from rfl] at hxz4); (try rw [show 0 * 3 = 0 from rfl] at hxz4); (try rw [Addr.add_zero'] at hxz4); (try rw [show ((0 : Int)).toNat = 0 from rfl] at hxz5); (try rw [show 0 * 3 = 0 from rfl] at hxz5); (try rw [Addr.add_zero'] at hxz5); (try rw [show ((0 : Int)).toNat = 0 from rfl] at hxz6); (try rw [show 0 * 3 = 0 from rfl] at hxz6); (try rw [Addr.add_zero'] at hxz6); have HRz3 := Aside0.mk hiz2; have HCz4 := Aside0.mk hlz2; clear hiz2 hlz2; replace pz2 := eq_true pz2; replace qz2 := eq_true qz2; have ea_ := Option.some.inj (hxz2.symm.trans hxz5); injection ea_ with ea_ en_ ec_; subst ea_; subst ec_; clear en_) | (go_at_call 21; (with_reducible refine (laws_same.calls _ _ ((rd_T41 tz10 0).f1) _ _ tz4 false _ ?side1 ?side2 ?side3 ?side4 Az17.out).mono ?_); (case side1 => repeat (first | exact (by repeat (first | (with_reducible exact HRz3.out) | (with_reducible refine Kd.C_alloc ?_ _) | (with_reducible refine Kd.C_drewN ?_ _) | (with_reducible refine Kd.C_drew ?_) | exact HRz3.out)) | (with_reducible refine Kd.C_alloc ?_ _) | (with_reducible refine Kd.C_drewN ?_ _) | (with_reducible refine Kd.C_drew ?_))); (case side2 => exact HCz4.out); (case side3 => exact cR_ HO_5); (case side4 => exact (Kd.R_reads' HO_5.out).2.1); rintro e w' ⟨rfl, ⟨nd, rfl⟩⟩))
        go_ret
        exact ⟨er_, be_⟩
      subst cz18
      replace H := bt_ H
      by_cases cz19 : ((rd_T41 tz10 0).f2) = tz5
      rotate_left
      · rw [if_neg cz19] at H
        have cz20 : (((rd_T41 tz10 0).f2) == tz5) = false := beq_eq_false_iff_ne.mpr cz19
        have cz21 : (((rd_T41 tz10 0).f2) != tz5) = true := bne_iff_ne.mpr cz19
        obtain rfl := Option.some.inj H
        obtain ⟨Aoz3, coz3, eoz3⟩ := Kd.N_slice HO_7.out
        subst eoz3
        go_wp2_with (first | ((with_reducible refine gate_callee (f := 20) rfl ?_); refine ca_ 58 Tryd.func20 #[.slice Aoz3 tz6.length coz3, .string tz3] ?_; (with_reducible refine (impl_KeptFor.calls kjz1 (fun k_ => (some k_ ≠ (.slice Aoz1 tz2.length coz1 : Value).ownBlock ∧ some k_ ≠ (.slice Aoz2 tz4.length coz2 : Value).ownBlock)) _ _ tz6 tz3 tz10 _ ?side1 ?side2 Az1.out).mono ?_); (case side1 => exact Kd.N_V (HO_7.out)); (case side2 => exact Tabs.below HT.out be_); rintro e wz4 ⟨vz5, rfl, hoz1, hb⟩; refine ⟨_, rfl, ?_⟩; replace HO_7 := eN_ HO_7 (Kd.N_base hoz1) hb; have HOz5 := Aside0.mk (Kd.N_lower (Kd.N_mono (ok' := fun k_ => some k_ ≠ (.slice Aoz1 tz2.length coz1 : Value).ownBlock ∧ some k_ ≠ (.slice Aoz2 tz4.length coz2 : Value).ownBlock) hoz1 (fun k_ hk_ => ⟨Or.elim hk_ (fun hs_ => hs_.1) (fun hn_ => (Kd.fresh' (Kd.N_lt (lN_ HO_3.out)) k_ hn_)), Or.elim hk_ (fun hs_ => hs_.2) (fun hn_ => (Kd.fresh' (Kd.R_lt (lR_ HO_5.out)) k_ hn_))⟩)) (below_size be_)); replace HO_3 := eN_ HO_3 (Kd.N_base hoz1) hb; replace HO_5 := bR_ HO_5 hb; replace HB := bw_ hb; clear hb hoz1) | ((with_reducible refine gate_callee (f := 20) rfl ?_); refine ca_ 61 Tryd.func20 #[.slice Aoz1 tz2.length coz1, .string (⟨#[35]⟩ : ByteArray)] ?_; (with_reducible refine (impl_KeptFor.calls kjz1 (fun k_ => ((some k_ ≠ (.slice Aoz2 tz4.length coz2 : Value).ownBlock ∧ some k_ ≠ (.slice Aoz3 tz6.length coz3 : Value).ownBlock) ∧ some k_ ≠ (vz5 : Value).ownBlock)) _ _ tz2 (⟨#[35]⟩ : ByteArray) tz11 _ ?side1 ?side2 Az11.out).mono ?_); (case side1 => exact Kd.N_V (HO_3.out)); (case side2 => exact Tabs.below HT.out be_); rintro e wz5 ⟨vz6, rfl, hoz1, hb⟩; refine ⟨_, rfl, ?_⟩; replace HO_3 := eN_ HO_3 (Kd.N_base hoz1) hb; have HOz6 := Aside0.mk (Kd.N_lower (Kd.N_mono (ok' := fun k_ => some k_ ≠ (.slice Aoz2 tz4.length coz2 : Value).ownBlock ∧ some k_ ≠ (.slice Aoz3 tz6.length coz3 : Value).ownBlock ∧ some k_ ≠ (vz5 : Value).ownBlock) hoz1 (fun k_ hk_ => ⟨Or.elim hk_ (fun hs_ => hs_.1.1) (fun hn_ => (Kd.fresh' (Kd.R_lt (lR_ HO_5.out)) k_ hn_)), Or.elim hk_ (fun hs_ => hs_.1.2) (fun hn_ => (Kd.fresh' (Kd.N_lt (lN_ HO_7.out)) k_ hn_)), Or.elim hk_ (fun hs_ => hs_.2) (fun hn_ => (Kd.fresh' (Kd.N_lt (lN_ HOz5.out)) k_ hn_))⟩)) (below_size be_)); replace HO_5 := bR_ HO_5 hb; replace HO_7 := eN_ HO_7 (Kd.N_base hoz1) hb; replace HOz5 := eN_ HOz5 (Kd.N_base hoz1) hb; replace HB := bw_ hb; clear hb hoz1) | ((with_reducible refine gate_callee (f := 20) rfl ?_); refine ca_ 64 Tryd.func20 #[.slice Aoz3 tz6.length coz3, .string (⟨#[35]⟩ : ByteArray)] ?_; (with_reducible refine (impl_KeptFor.calls kjz1 (fun k_ => (((some k_ ≠ (.slice Aoz1 tz2.length coz1 : Value).ownBlock ∧ some k_ ≠ (.slice Aoz2 tz4.length coz2 : Value).ownBlock) ∧ some k_ ≠ (vz5 : Value).ownBlock) ∧ some k_ ≠ (vz6 : Value).ownBlock)) _ _ tz6 (⟨#[35]⟩ : ByteArray) tz12 _ ?side1 ?side2 Az13.out).mono ?_); (case side1 => exact Kd.N_V (HO_7.out)); (case side2 => exact Tabs.below HT.out be_); rintro e wz6 ⟨vz7, rfl, hoz1, hb⟩; refine ⟨_, rfl, ?_⟩; replace HO_7 := eN_ HO_7 (Kd.N_base hoz1) hb; have HOz7 := Aside0.mk (Kd.N_lower (Kd.N_mono (ok' := fun k_ => some k_ ≠ (.slice Aoz1 tz2.length coz1 : Value).ownBlock ∧ some k_ ≠ (.slice Aoz2 tz4.length coz2 : Value).ownBlock ∧ some k_ ≠ (vz5 : Value).ownBlock ∧ some k_ ≠ (vz6 : Value).ownBlock) hoz1 (fun k_ hk_ => ⟨Or.elim hk_ (fun hs_ => hs_.1.1.1) (fun hn_ => (Kd.fresh' (Kd.N_lt (lN_ HO_3.out)) k_ hn_)), Or.elim hk_ (fun hs_ => hs_.1.1.2) (fun hn_ => (Kd.fresh' (Kd.R_lt (lR_ HO_5.out)) k_ hn_)), Or.elim hk_ (fun hs_ => hs_.1.2) (fun hn_ => (Kd.fresh' (Kd.N_lt (lN_ HOz5.out)) k_ hn_)), Or.elim hk_ (fun hs_ => hs_.2) (fun hn_ => (Kd.fresh' (Kd.N_lt (lN_ HOz6.out)) k_ hn_))⟩)) (below_size be_)); replace HO_3 := eN_ HO_3 (Kd.N_base hoz1) hb; replace HO_5 := bR_ HO_5 hb; replace HOz5 := eN_ HOz5 (Kd.N_base hoz1) hb; replace HOz6 := eN_ HOz6 (Kd.N_base hoz1) hb; replace HB := bw_ hb; clear hb hoz1; obtain ⟨Aoz4, coz4, eoz4⟩ := Kd.N_slice HOz7.out; subst eoz4; obtain ⟨Aoz5, coz5, eoz5⟩ := Kd.N_slice HOz6.out; subst eoz5) | ((with_reducible refine gate_callee (f := 17) rfl ?_); refine ca_ 89 Tryd.func17 #[.slice Aoz3 tz6.length coz3] ?_; (with_reducible refine (impl_KeptOk.calls kjz1 _ _ tz6 true _ ?side1 ?side2 ?side3 Az15.out).mono ?_); (case side1 => exact cN_ HO_7); (case side2 => exact (Kd.N_reads' HO_7.out).2.1); (case side3 => exact Tabs.below HT.out be_); rintro e wz7 ⟨rfl, hb⟩; refine ⟨_, rfl, ?_⟩; replace HO_3 := bN_ HO_3 hb; replace HO_5 := bR_ HO_5 hb; replace HO_7 := bN_ HO_7 hb; replace HOz5 := bN_ HOz5 hb; replace HOz6 := bN_ HOz6 hb; replace HOz7 := bN_ HOz7 hb; replace HB := bw_ hb; clear hb; obtain ⟨Aoz6, coz6, eoz6⟩ := Kd.N_slice HOz5.out; subst eoz6; have pz1 : 0 ≤ (0 : Int) := (by omega); have qz1 : 0 < (tz10.length : Int) := dt_; obtain ⟨adz1, Az18, cz22, ez1, hxz1, hxz2, hxz3, hlz1, hiz1⟩ := at_T41 (Kd.N_reads' HOz5.out).2.2 0 pz1 qz1; cases ez1; obtain ⟨cez1, hcez1, hMez1, hccz1⟩ := Kd.N_get HOz5.out z41 0 pz1 (by first | exact qz1 | exact dt_ | (have e_ := (Kd.N_reads' HOz5.out).1; omega)); obtain ⟨uaz1, ucz1, rfl, ulz1, gez1⟩ := k41_openF hMez1; have hvz1 := hccz1 1 _ rfl; rw [add_field _ _ 1 (by omega)] at hvz1; replace hvz1 := Option.some.inj (hvz1.symm.trans hxz2); injection hvz1 with hva_ hvn_ hvc_; rw [hva_] at gez1; rw [hvc_] at ulz1; have HLz1 := Aside0.mk (show Kd.V (Kd.int .u8) 5 _ w.heap.size _ _ ((rd_T41 tz10 0).f1) from Kd.V_mk ulz1 gez1); clear hva_ hvn_ hvc_ gez1 ulz1 hccz1 hcez1; have qiz1 : (0 < tz10.length) = True := eq_true (by omega); (try rw [show ((0 : Int)).toNat = 0 from rfl] at hxz1); (try rw [show 0 * 3 = 0 from rfl] at hxz1); (try rw [Addr.add_zero'] at hxz1); (try rw [show ((0 : Int)).toNat = 0 from rfl] at hxz2); (try rw [show 0 * 3 = 0 from rfl] at hxz2); (try rw [Addr.add_zero'] at hxz2); (try rw [show ((0 : Int)).toNat = 0 from rfl] at hxz3); (try rw [show 0 * 3 = 0 from rfl] at hxz3); (try rw [Addr.add_zero'] at hxz3); have HRz2 := Aside0.mk hiz1; have HCz3 := Aside0.mk hlz1; clear hiz1 hlz1; replace pz1 := eq_true pz1; replace qz1 := eq_true qz1; have pz2 : 0 ≤ (0 : Int) := (by omega); have qz2 : 0 < (tz10.length : Int) := dt_; obtain ⟨adz2, Az19, cz23, ez2, hxz4, hxz5, hxz6, hlz2, hiz2⟩ := at_T41 (Kd.N_reads' HOz5.out).2.2 0 pz2 qz2; obtain rfl : adz1 = adz2 := (by injection ez2); obtain ⟨cez2, hcez2, hMez2, hccz2⟩ := Kd.N_get HOz5.out z41 0 pz2 (by first | exact qz2 | exact dt_ | (have e_ := (Kd.N_reads' HOz5.out).1; omega)); obtain ⟨uaz2, ucz2, rfl, ulz2, gez2⟩ := k41_openF hMez2; have hvz2 := hccz2 1 _ rfl; rw [add_field _ _ 1 (by omega)] at hvz2; replace hvz2 := Option.some.inj (hvz2.symm.trans hxz5); injection hvz2 with hva_ hvn_ hvc_; rw [hva_] at gez2; rw [hvc_] at ulz2; have HLz2 := Aside0.mk (show Kd.V (Kd.int .u8) 5 _ w.heap.size _ _ ((rd_T41 tz10 0).f1) from Kd.V_mk ulz2 gez2); clear hva_ hvn_ hvc_ gez2 ulz2 hccz2 hcez2; have qiz2 : (0 < tz10.length) = True := eq_true (by omega); (try rw [show ((0 : Int)).toNat = 0 from rfl] at hxz4); (try rw [show 0 * 3 = 0 from rfl] at hxz4); (try rw [Addr.add_zero'] at hxz4); (try rw [show ((0 : Int)).toNat = 0 from rfl] at hxz5); (try rw [show 0 * 3 = 0 from rfl] at hxz5); (try rw [Addr.add_zero'] at hxz5); (try rw [show ((0 : Int)).toNat = 0 from rfl] at hxz6); (try rw [show 0 * 3 = 0 from rfl] at hxz6); (try rw [Addr.add_zero'] at hxz6); have HRz3 := Aside0.mk hiz2; have HCz4 := Aside0.mk hlz2; clear hiz2 hlz2; replace pz2 := eq_true pz2; replace qz2 := eq_true qz2; have ea_ := Option.some.inj (hxz2.symm.trans hxz5); injection ea_ with ea_ en_ ec_; subst ea_; subst ec_; clear en_) | (go_at_call 21; (with_reducible refine (laws_same.calls _ _ ((rd_T41 tz10 0).f1) _ _ tz4 true _ ?side1 ?side2 ?side3 ?side4 Az17.out).mono ?_); (case side1 => repeat (first | exact (by repeat (first | (with_reducible exact HRz3.out) | (with_reducible refine Kd.C_alloc ?_ _) | (with_reducible refine Kd.C_drewN ?_ _) | (with_reducible refine Kd.C_drew ?_) | exact HRz3.out)) | (with_reducible refine Kd.C_alloc ?_ _) | (with_reducible refine Kd.C_drewN ?_ _) | (with_reducible refine Kd.C_drew ?_))); (case side2 => exact HCz4.out); (case side3 => exact cR_ HO_5); (case side4 => exact (Kd.R_reads' HO_5.out).2.1); rintro e w' ⟨rfl, ⟨nd, rfl⟩⟩; have pz3 : 0 ≤ (0 : Int) := (by omega); have qz3 : 0 < (tz10.length : Int) := dt_; obtain ⟨adz3, Az20, cz24, ez3, hxz7, hxz8, hxz9, hlz3, hiz3⟩ := at_T41 (Kd.N_reads' HOz5.out).2.2 0 pz3 qz3; obtain rfl : adz1 = adz3 := (by injection ez3); obtain ⟨cez3, hcez3, hMez3, hccz3⟩ := Kd.N_get HOz5.out z41 0 pz3 (by first | exact qz3 | exact dt_ | (have e_ := (Kd.N_reads' HOz5.out).1; omega)); obtain ⟨uaz3, ucz3, rfl, ulz3, gez3⟩ := k41_openF hMez3; have hvz3 := hccz3 1 _ rfl; rw [add_field _ _ 1 (by omega)] at hvz3; replace hvz3 := Option.some.inj (hvz3.symm.trans hxz8); injection hvz3 with hva_ hvn_ hvc_; rw [hva_] at gez3; rw [hvc_] at ulz3; have HLz3 := Aside0.mk (show Kd.V (Kd.int .u8) 5 _ w.heap.size _ _ ((rd_T41 tz10 0).f1) from Kd.V_mk ulz3 gez3); clear hva_ hvn_ hvc_ gez3 ulz3 hccz3 hcez3; have qiz3 : (0 < tz10.length) = True := eq_true (by omega); (try rw [show ((0 : Int)).toNat = 0 from rfl] at hxz7); (try rw [show 0 * 3 = 0 from rfl] at hxz7); (try rw [Addr.add_zero'] at hxz7); (try rw [show ((0 : Int)).toNat = 0 from rfl] at hxz8); (try rw [show 0 * 3 = 0 from rfl] at hxz8); (try rw [Addr.add_zero'] at hxz8); (try rw [show ((0 : Int)).toNat = 0 from rfl] at hxz9); (try rw [show 0 * 3 = 0 from rfl] at hxz9); (try rw [Addr.add_zero'] at hxz9); have HRz4 := Aside0.mk hiz3; have HCz5 := Aside0.mk hlz3; clear hiz3 hlz3; replace pz3 := eq_true pz3; replace qz3 := eq_true qz3; have ea_ := Option.some.inj (hxz2.symm.trans hxz8); injection ea_ with ea_ en_ ec_; subst ea_; subst ec_; clear en_))
        go_ret
        exact ⟨er_, be_⟩
      rw [if_pos cz19] at H
      have cz20 : (((rd_T41 tz10 0).f2) == tz5) = true := beq_iff_eq.mpr cz19
      have cz21 : (((rd_T41 tz10 0).f2) != tz5) = false := bne_eq_false_iff_eq.mpr cz19
      clear cz19
      by_cases cz22 : (wrap64 ((tz12.length : Int) - (tz11.length : Int))) ≥ 0
      · rw [if_pos cz22] at H
        have cz23 : decide (0 ≤ (wrap64 ((tz12.length : Int) - (tz11.length : Int)))) = true := decide_eq_true cz22
        exact laws_FnKept_z5
      rw [if_neg cz22] at H
      have cz23 : decide (0 ≤ (wrap64 ((tz12.length : Int) - (tz11.length : Int)))) = false := decide_eq_false cz22
      exact laws_FnKept_z5

/-- THE ONE PURE STATEMENT of laws_FnKept: yours. -/
def laws_FnKept.Pure : Prop := ∀ (l0 : List Int), l0.length ≤ maxLen → l0.length * 1 ≤ 140737488351232 → (∀ x ∈ l0, (Lit.int .u8 x).wf = true) → ∃ k, laws_FnKept.f k l0 = some true
theorem laws_FnKept.walk (P : laws_FnKept.Pure) (a0 : Option Addr) (len0 cap0 : Nat) (z0 : List Int) (w : World) (w0 : (a0 = none ∧ len0 = 0 ∧ cap0 = 0 ∧ z0 = []) ∨ ∃ x, a0 = some x ∧ len0 ≤ cap0 ∧ cap0 ≤ maxLen ∧ z0.length = cap0 ∧ (∀ i, i < z0.length → w.cell? (x.add i) = some (.int .u8 (z0.getD i 0))) ∧ ∀ n ∈ z0, (Lit.int .u8 n).wf = true) (y0 : len0 * 1 ≤ 140737488351232) (hT : Tabs w) :
    Calls Tryd.prog 4 #[.slice a0 len0 cap0] w fun e w' => e = .returned (.bool true) ∧ Below w.heap.size w w' := by
  obtain ⟨l0, rfl, hr0, hm0, hw0, hc0⟩ := ReadsInt.ofRowC w0
  obtain ⟨k, h⟩ := P l0 hm0 y0 hw0
  refine (laws_FnKept.calls k _ _ l0 true w (Kd.C_of_reads (d := (0 : Int)) (h1 := fun _ => rfl) hr0) hc0 hT h).mono ?_
  rintro e w' ⟨rfl, hd⟩
  exact ⟨rfl, hd⟩

end Go.Proofs.YtpigbffaacilfaaDoor.P
