/- laws_toNode and laws_toNodeS call each other: told by mutual recursion on the rounds, and walked by induction on them, out of two printed halves (a program of this work, mutual.py). -/
import Derived.Test.YtemehnmbmajnfaaDoorPx0
import Derived.Test.YtemehnmbmajnfaaDoorS
import Derived.Test.YtemehnmbmajnfaaDoorPx8
namespace Go.Proofs.YtemehnmbmajnfaaDoor.X
open Go.RowKit Go.Proofs.YtemehnmbmajnfaaDoor.P Go.Proofs.YtemehnmbmajnfaaDoorW.PrintWords Go.Proofs.YtemehnmbmajnfaaDoorW.PrintLast Go.Proofs.YtemehnmbmajnfaaDoorW.PrintMore
set_option linter.unusedVariables false
set_option linter.unusedSimpArgs false
theorem info32 : (Tryd.prog.info? 32).map (fun i => (i.zero, i.size, i.bytes)) = some (some (.agg #[(.slice none 0 0), (.slice none 0 0), (.slice none 0 0)]), 3, 72) := by kernel_rfl
mutual
def laws_toNodeS.l0 : Nat → List (S26) → List (S32) → Int → Option ((List (S32)))
  | 0, _, _, _ => none
  | k + 1, x0, x3, x4 => if x4 < (x0.length : Int) then (if 0 ≤ x4 then ((laws_toNode.f k ((rd_T26 x0 x4).f0) ((rd_T26 x0 x4).f1) ((rd_T26 x0 x4).f2)).bind fun bt236 => (if x4 < (x3.length : Int) then (laws_toNodeS.l0 k x0 (x3.set (x4 : Int).toNat (⟨bt236.1, bt236.2.1, bt236.2.2⟩ : S32)) (wrap64 (x4 + 1))) else (none))) else (none)) else (some x3)
def laws_toNodeS.f : Nat → List (S26) → Option ((List (S32)))
  | 0, _ => none
  | k + 1, l0 => if 0 ≤ (l0.length : Int) then (if ((l0.length : Int) : Int).toNat ≤ 3909374676536 then (laws_toNodeS.l0 k l0 (List.replicate ((l0.length : Int) : Int).toNat z32) 0) else (none)) else (none)
def laws_toNode.f : Nat → List ByteArray → List (S26) → List (S79) → Option (List ByteArray × (List (S32)) × (List (S81)))
  | 0, _, _, _ => none
  | k + 1, l0_0, l0_1, l0_2 => (laws_toStringS.f k l0_0).bind fun t253 => ((laws_toNodeS.f k l0_1).bind fun t256 => ((laws_toSubS.f k l0_2).bind fun t259 => (some (t253, t256, t259))))
end
theorem laws_toNodeS.f_succ (k : Nat) (l0 : List (S26)) : laws_toNodeS.f (k + 1) l0 = (if 0 ≤ (l0.length : Int) then (if ((l0.length : Int) : Int).toNat ≤ 3909374676536 then (laws_toNodeS.l0 k l0 (List.replicate ((l0.length : Int) : Int).toNat z32) 0) else (none)) else (none)) := by rw [laws_toNodeS.f]
theorem laws_toNode.f_succ (k : Nat) (l0_0 : List ByteArray) (l0_1 : List (S26)) (l0_2 : List (S79)) : laws_toNode.f (k + 1) l0_0 l0_1 l0_2 = ((laws_toStringS.f k l0_0).bind fun t253 => ((laws_toNodeS.f k l0_1).bind fun t256 => ((laws_toSubS.f k l0_2).bind fun t259 => (some (t253, t256, t259))))) := by rw [laws_toNode.f]
theorem laws_toNodeS.mono_all : ∀ k, (∀ y0 y1 y2, LeO (laws_toNodeS.l0 k y0 y1 y2) (laws_toNodeS.l0 (k + 1) y0 y1 y2)) ∧ (∀ y0, LeO (laws_toNodeS.f k y0) (laws_toNodeS.f (k + 1) y0)) ∧ (∀ y0 y1 y2, LeO (laws_toNode.f k y0 y1 y2) (laws_toNode.f (k + 1) y0 y1 y2))
  | 0 => ⟨fun _ _ _ r h => by simp [laws_toNodeS.l0] at h, fun _ r h => by simp [laws_toNodeS.f] at h, fun _ _ _ r h => by simp [laws_toNode.f] at h⟩
  | k + 1 => by
    obtain ⟨ih0, ih1, ih2⟩ := laws_toNodeS.mono_all k
    refine ⟨?_, ?_, ?_⟩
    · intro y0 y1 y2
      unfold laws_toNodeS.l0
      repeat' first
      | (with_reducible exact ih0 _ _ _)
      | (with_reducible exact ih1 _)
      | (with_reducible exact ih2 _ _ _)
      | (with_reducible exact LeO.refl _)
      | (with_reducible exact LeO.none _)
      | (with_reducible refine LeO.ite ?_ ?_)
      | (with_reducible refine LeO.bind ?_ (fun _ => ?_))
      | (with_reducible exact laws_toStringS.mono _ _)
      | (with_reducible exact laws_toSubS.mono _ _)
      | exact ih0 _ _ _
      | exact ih1 _
      | exact ih2 _ _ _
      | exact LeO.none _
      | refine LeO.ite ?_ ?_
      | refine LeO.bind ?_ (fun _ => ?_)
      | exact laws_toStringS.mono _ _
      | exact laws_toSubS.mono _ _
    · intro y0
      unfold laws_toNodeS.f
      repeat' first
      | (with_reducible exact ih0 _ _ _)
      | (with_reducible exact ih1 _)
      | (with_reducible exact ih2 _ _ _)
      | (with_reducible exact LeO.refl _)
      | (with_reducible exact LeO.none _)
      | (with_reducible refine LeO.ite ?_ ?_)
      | (with_reducible refine LeO.bind ?_ (fun _ => ?_))
      | (with_reducible exact laws_toStringS.mono _ _)
      | (with_reducible exact laws_toSubS.mono _ _)
      | exact ih0 _ _ _
      | exact ih1 _
      | exact ih2 _ _ _
      | exact LeO.none _
      | refine LeO.ite ?_ ?_
      | refine LeO.bind ?_ (fun _ => ?_)
      | exact laws_toStringS.mono _ _
      | exact laws_toSubS.mono _ _
    · intro y0 y1 y2
      unfold laws_toNode.f
      repeat' first
      | (with_reducible exact ih0 _ _ _)
      | (with_reducible exact ih1 _)
      | (with_reducible exact ih2 _ _ _)
      | (with_reducible exact LeO.refl _)
      | (with_reducible exact LeO.none _)
      | (with_reducible refine LeO.ite ?_ ?_)
      | (with_reducible refine LeO.bind ?_ (fun _ => ?_))
      | (with_reducible exact laws_toStringS.mono _ _)
      | (with_reducible exact laws_toSubS.mono _ _)
      | exact ih0 _ _ _
      | exact ih1 _
      | exact ih2 _ _ _
      | exact LeO.none _
      | refine LeO.ite ?_ ?_
      | refine LeO.bind ?_ (fun _ => ?_)
      | exact laws_toStringS.mono _ _
      | exact laws_toSubS.mono _ _
theorem laws_toNodeS.mono : ∀ a0 k, LeO (laws_toNodeS.f k a0) (laws_toNodeS.f (k + 1) a0) := fun a0 k => (laws_toNodeS.mono_all k).2.1 a0
theorem laws_toNode.mono : ∀ a0 a1 a2 k, LeO (laws_toNode.f k a0 a1 a2) (laws_toNode.f (k + 1) a0 a1 a2) := fun a0 a1 a2 k => (laws_toNodeS.mono_all k).2.2 a0 a1 a2
abbrev laws_toNodeS.C (k : Nat) : Prop := ∀ (A0 : Option Addr) (c0 : Nat) (l0 : List (S26)) (r : List (S32)) (w : World) (hr0 : Kd.C k26 w A0 l0.length l0) (hc0 : l0.length ≤ c0) (h : laws_toNodeS.f k l0 = some r), Calls Tryd.prog 28 #[.slice A0 l0.length c0] w fun e w' => ∃ v0_ : Value, e = .returned (v0_) ∧ Kd.R k32 32 w' w.heap.size (fun _ => True) v0_ r ∧ Below w.heap.size w w'
abbrev laws_toNode.C (k : Nat) : Prop := ∀ (A0_0 : Option Addr) (c0_0 : Nat) (l0_0 : List ByteArray) (A0_1 : Option Addr) (c0_1 : Nat) (l0_1 : List (S26)) (A0_2 : Option Addr) (c0_2 : Nat) (l0_2 : List (S79)) (r1 : List ByteArray) (r2 : List (S32)) (r3 : List (S81)) (w : World) (hr0_0 : Kd.C Kd.string w A0_0 l0_0.length l0_0) (hc0_0 : l0_0.length ≤ c0_0) (hr0_1 : Kd.C k26 w A0_1 l0_1.length l0_1) (hc0_1 : l0_1.length ≤ c0_1) (hr0_2 : Kd.C k79 w A0_2 l0_2.length l0_2) (hc0_2 : l0_2.length ≤ c0_2) (h : laws_toNode.f k l0_0 l0_1 l0_2 = some (r1, r2, r3)), Calls Tryd.prog 8 #[.agg #[.slice A0_0 l0_0.length c0_0, .slice A0_1 l0_1.length c0_1, .slice A0_2 l0_2.length c0_2]] w fun e w' => ∃ v0_ v1_ v2_ : Value, e = .returned (.agg #[v0_, v1_, v2_]) ∧ Kd.R Kd.string 9 w' w.heap.size (fun _ => True) v0_ r1 ∧ Kd.R k32 32 w' w.heap.size (fun k_ => some k_ ≠ (v0_ : Value).ownBlock ∧ some k_ ≠ (v2_ : Value).ownBlock) v1_ r2 ∧ Kd.R k81 81 w' w.heap.size (fun _ => True) v2_ r3 ∧ Below w.heap.size w w'
set_option maxHeartbeats 8000000 in
set_option maxRecDepth 100000 in
theorem laws_toNodeS.step (k : Nat) (IH : ∀ j, j < k → laws_toNode.C j) (A0 : Option Addr) (c0 : Nat) (l0 : List (S26)) (r : List (S32)) (w : World) (hr0 : Kd.C k26 w A0 l0.length l0) (hc0 : l0.length ≤ c0) (h : (if 0 ≤ (l0.length : Int) then (if ((l0.length : Int) : Int).toNat ≤ 3909374676536 then (laws_toNodeS.l0 k l0 (List.replicate ((l0.length : Int) : Int).toNat z32) 0) else (none)) else (none)) = some r) :
    Calls Tryd.prog 28 #[.slice A0 l0.length c0] w fun e w' => ∃ v0_ : Value, e = .returned (v0_) ∧ Kd.R k32 32 w' w.heap.size (fun _ => True) v0_ r ∧ Below w.heap.size w w' := by
  have huz1 := Tryd.underlying26
  have huz2 := Tryd.underlying32
  have HRz1 := Aside0.mk hr0
  have HCz1 := Aside0.mk hc0
  clear hr0 hc0
  have HB := Aside0.mk (Below.refl w.heap.size w)
  have H : (if 0 ≤ (l0.length : Int) then (if ((l0.length : Int) : Int).toNat ≤ 3909374676536 then (laws_toNodeS.l0 k l0 (List.replicate ((l0.length : Int) : Int).toNat z32) 0) else (none)) else (none)) = some r := h
  clear h
  by_cases cz1 : 0 ≤ (l0.length : Int)
  · rw [if_pos cz1] at H
    have c2b0 := eq_true cz1
    have c2b1 : decide (0 ≤ (l0.length : Int)) = true := decide_eq_true cz1
    clear cz1
    by_cases cz2 : ((l0.length : Int) : Int).toNat ≤ 3909374676536
    · rw [if_pos cz2] at H
      have c3b0 := eq_true cz2
      have c3b1 : decide (((l0.length : Int) : Int).toNat ≤ 3909374676536) = true := decide_eq_true cz2
      clear cz2
      obtain ⟨yz1, hyz1⟩ : ∃ y_ : List (S32), y_ = (List.replicate ((l0.length : Int) : Int).toNat z32) := ⟨_, rfl⟩
      replace H : (laws_toNodeS.l0 k l0 yz1 0) = some r := by first | (rw [hyz1]; with_reducible exact H) | (have Hz1 := (Option.bind_some _ _).symm.trans H; rw [hyz1]; with_reducible exact Hz1) | (have Hz1 := (Option.bind_some _ _).symm.trans H; with_reducible exact Hz1) | with_reducible exact H | (rw [hyz1]; exact H) | exact H
      have Nyz1 := Aside0.mk hyz1
      clear hyz1
      have H' := Aside0.mk H
      clear H
      go_enter Tryd.func28, Tryd.ntmps28
      go_wp2_with (first | ((with_reducible refine gate_dst (N := 7) rfl ?_); refine Kd.R_make k32 _ 32 rfl (N := 7) rfl 29 _ _ rfl (l0.length : Int) rfl rfl Tryd.underlying29 (.agg #[(.slice none 0 0), (.slice none 0 0), (.slice none 0 0)]) 72 info32 rfl (by decide) (by omega) z32 (ok := fun _ => True) (okp := fun _ => True) (k32_mkM _ _ _ z32 (Kd.R_nil _ _ _ _ _) (Kd.R_nil _ _ _ _ _) (Kd.R_nil _ _ _ _ _)) (fun _ hk => hk) trivial (of_decide_eq_true as_) (Nat.le_trans (Nat.mul_le_mul_right _ (of_decide_eq_true as_ : (l0.length : Int).toNat ≤ 3909374676536)) (by omega)) (Below.refl _ _) (Nat.le_refl _) ?_; intro vz1 wz1 hoz1 hb hg_ hnew_; clear hg_ hnew_; (first | rw [← Nyz1.out] at hoz1 | (simp only [Int.reduceToNat] at hoz1; rw [← Nyz1.out] at hoz1)); have nz1 := Aside0.mk (Kd.R_lower hoz1 (below_size be_)); have nz2 := Aside0.mk (below_step be_ hb); clear HB; have HOz1 := nz1; have HB := nz2; clear nz1 nz2; clear hb hoz1))
      go_loopg [4] k (fun kq v4 w' => ∃ (x3_1 : List (S32)) (x4_1 : Int), v4 = .int .i64 x4_1 ∧ Aside0 (laws_toNodeS.l0 kq l0 x3_1 x4_1 = some r) ∧ Aside0 (kq ≤ k) ∧ Aside0 (Kd.R k32 32 w' w.heap.size (fun _ => True) vz1 x3_1) ∧ Aside0 (Below w.heap.size w w'))
      case atStart => exact ⟨(yz1), (0), (by first | rfl | (simp; done) | (simp [*]; done)), H', ⟨Nat.le_refl _⟩, ⟨by (with_reducible repeat (first | apply Kd.R_alloc | apply Kd.R_drewN | apply Kd.R_drew)); exact HOz1.out⟩, ⟨be_⟩⟩
      case round =>
        clear H'
        try clear cz1
        try clear c2b0
        try clear c2b1
        try clear p2
        try clear cz2
        try clear c3b0
        try clear c3b1
        obtain ⟨xz1, xz2, rfl, HA, HKz1, HO_3, HB⟩ := hrel
        cases gk with
        | zero => exact absurd HA.out (by simp [laws_toNodeS.l0])
        | succ kz1 =>
          have H := HA.out
          clear HA
          simp only [laws_toNodeS.l0] at H
          by_cases cz3 : xz2 < (l0.length : Int)
          · rw [if_pos cz3] at H
            have c6b0 : decide (xz2 < (l0.length : Int)) = true := decide_eq_true cz3
            clear cz3
            by_cases cz4 : 0 ≤ xz2
            · rw [if_pos cz4] at H
              have c7b0 : decide (0 ≤ xz2) = true := decide_eq_true cz4
              clear cz4
              replace H := Option.bind_eq_some_iff.mp H
              obtain ⟨⟨tz1, tz2, tz3⟩, Az1, H⟩ := H
              replace H : (if xz2 < (xz1.length : Int) then (laws_toNodeS.l0 kz1 l0 (xz1.set (xz2 : Int).toNat (⟨tz1, tz2, tz3⟩ : S32)) (wrap64 (xz2 + 1))) else (none)) = some r := H
              have Az2 := Aside0.mk Az1
              clear Az1
              by_cases cz5 : xz2 < (xz1.length : Int)
              · rw [if_pos cz5] at H
                have c9b0 : decide (xz2 < (xz1.length : Int)) = true := decide_eq_true cz5
                clear cz5
                obtain ⟨yz2, hyz2⟩ : ∃ y_ : List (S32), y_ = (xz1.set (xz2 : Int).toNat (⟨tz1, tz2, tz3⟩ : S32)) := ⟨_, rfl⟩
                replace H : (laws_toNodeS.l0 kz1 l0 yz2 (wrap64 (xz2 + 1))) = some r := by first | (rw [hyz2]; with_reducible exact H) | (have Hz1 := (Option.bind_some _ _).symm.trans H; rw [hyz2]; with_reducible exact Hz1) | (have Hz1 := (Option.bind_some _ _).symm.trans H; with_reducible exact Hz1) | with_reducible exact H | (rw [hyz2]; exact H) | exact H
                have Nyz2 := Aside0.mk hyz2
                clear hyz2
                have H' := Aside0.mk H
                clear H
                have pz1 : 0 ≤ (xz2 : Int) := of_decide_eq_true as_
                have qz1 : xz2 < (l0.length : Int) := of_decide_eq_true as_
                obtain ⟨adz1, Az3, cz6, Az4, cz7, Az5, cz8, ez1, hxz1, hxz2, hxz3, hlz1, hiz1, hlz2, hiz2, hlz3, hiz3⟩ := at_T26 HRz1.out xz2 pz1 qz1
                cases ez1
                replace hxz1 := (HB.out.cell (World.block_lt_of_cell? w _ hxz1)).trans hxz1
                replace hxz2 := (HB.out.cell (World.block_lt_of_cell? w _ hxz2)).trans hxz2
                replace hxz3 := (HB.out.cell (World.block_lt_of_cell? w _ hxz3)).trans hxz3
                have HRz2 := Aside0.mk hiz1
                have HCz2 := Aside0.mk hlz1
                clear hiz1 hlz1
                have HRz3 := Aside0.mk hiz2
                have HCz3 := Aside0.mk hlz2
                clear hiz2 hlz2
                have HRz4 := Aside0.mk hiz3
                have HCz4 := Aside0.mk hlz3
                clear hiz3 hlz3
                replace pz1 := eq_true pz1
                replace qz1 := eq_true qz1
                go_wp2_with (first | ((with_reducible refine gate_callee (f := 8) rfl ?_); refine goesL_ (some 20) rfl rfl Tryd.func8 (by kernel_rfl) rfl #[.agg #[.slice Az3 ((rd_T26 l0 xz2).f0).length cz6, .slice Az4 ((rd_T26 l0 xz2).f1).length cz7, .slice Az5 ((rd_T26 l0 xz2).f2).length cz8]] rfl ar_ ?_; (with_reducible refine (IH kz1 (by first | exact Nat.lt_of_succ_le HKz1.out | (have := HKz1.out; omega)) _ _ ((rd_T26 l0 xz2).f0) _ _ ((rd_T26 l0 xz2).f1) _ _ ((rd_T26 l0 xz2).f2) tz1 tz2 tz3 _ ?side1 ?side2 ?side3 ?side4 ?side5 ?side6 Az2.out).mono ?_); (case side1 => exact Kd.C_below HRz2.out be_); (case side2 => exact HCz2.out); (case side3 => exact Kd.C_below HRz3.out be_); (case side4 => exact HCz3.out); (case side5 => exact Kd.C_below HRz4.out be_); (case side6 => exact HCz4.out); rintro e wz2 ⟨vz2, vz3, vz4, rfl, hoz2, hoz3, hoz4, hb⟩; refine ⟨_, rfl, ?_⟩; have one_v237 : vz2.oneCell' = true := (by first | (obtain ⟨_, _, e_⟩ := Kd.R_slice hoz2; rw [e_]; rfl) | (obtain ⟨_, _, e_⟩ := Kd.S_slice hoz2; rw [e_]; rfl) | (obtain ⟨_, _, e_⟩ := Kd.N_slice hoz2; rw [e_]; rfl)); have one_v240 : vz3.oneCell' = true := (by first | (obtain ⟨_, _, e_⟩ := Kd.R_slice hoz3; rw [e_]; rfl) | (obtain ⟨_, _, e_⟩ := Kd.S_slice hoz3; rw [e_]; rfl) | (obtain ⟨_, _, e_⟩ := Kd.N_slice hoz3; rw [e_]; rfl)); have one_v243 : vz4.oneCell' = true := (by first | (obtain ⟨_, _, e_⟩ := Kd.R_slice hoz4; rw [e_]; rfl) | (obtain ⟨_, _, e_⟩ := Kd.S_slice hoz4; rw [e_]; rfl) | (obtain ⟨_, _, e_⟩ := Kd.N_slice hoz4; rw [e_]; rfl)); have nz1 := Aside0.mk (Kd.R_mono (Kd.R_told (Kd.R_told (Kd.R_told (Kd.R_old (by (with_reducible repeat (first | apply Kd.R_alloc | apply Kd.R_drewN | apply Kd.R_drew)); exact HO_3.out) hb) (Kd.R_base hoz2)) (Kd.R_base hoz3)) (Kd.R_base hoz4)) (fun _ h_ => h_.1)); have nz2 := Aside0.mk (Kd.R_lower hoz2 (below_size be_)); have nz3 := Aside0.mk (Kd.R_lower (Kd.R_new' hoz3 (Kd.R_lt (by (with_reducible repeat (first | apply Kd.R_alloc | apply Kd.R_drewN | apply Kd.R_drew)); exact HO_3.out))) (below_size be_)); have nz4 := Aside0.mk (Kd.R_lower hoz4 (below_size be_)); have nz5 := Aside0.mk (below_step be_ hb); clear HO_3; clear HB; have HO_3 := nz1; have HOz2 := nz2; have HOz3 := nz3; have HOz4 := nz4; have HB := nz5; clear nz1 nz2 nz3 nz4 nz5; (try clear hb); (try clear hb2); (try clear hk); (try clear hi); (try clear hoz2); (try clear hoz3); (try clear hoz4); have pz2 : 0 ≤ (xz2 : Int) := of_decide_eq_true as_; have qz2 : (xz2 : Int) < ((xz1.length : Int) : Int) := of_decide_eq_true as_; obtain ⟨goz1, coz1, eoz1, gbz1, glz1, clz1, HGz1⟩ := Kd.R_form HO_3.out (by omega); (first | cases eoz1 | (injection eoz1 with ea_ en_ ec_; (first | subst ea_ | (injection ea_ with ea_; subst ea_)); subst ec_; clear en_)); have GBz1 := Aside0.mk gbz1; have GGz1 := Aside0.mk HGz1; clear gbz1 glz1 HGz1; obtain ⟨cez1, hclz1, hMz1, hccz1, hfrz1⟩ := Kd.R_elem HO_3.out z32 (xz2 : Int) pz2 qz2; obtain ⟨vez1, vez2, vez3, rfl, gez1, gez2, gez3⟩ := k32_openM hMz1; have hxz4 : wz2.cell? ⟨goz1, (xz2 : Int).toNat * 3, none⟩ = some (vez1) := hccz1 0 _ rfl; have hxz5 : wz2.cell? ⟨goz1, (xz2 : Int).toNat * 3 + 1, none⟩ = some (vez2) := hccz1 1 _ rfl; have hxz6 : wz2.cell? ⟨goz1, (xz2 : Int).toNat * 3 + 2, none⟩ = some (vez3) := hccz1 2 _ rfl; have hfz1 : wz2.frozen? ⟨goz1, (xz2 : Int).toNat * 3, none⟩ = false := hfrz1 0; have hfz2 : wz2.frozen? ⟨goz1, (xz2 : Int).toNat * 3 + 1, none⟩ = false := hfrz1 1; have hfz3 : wz2.frozen? ⟨goz1, (xz2 : Int).toNat * 3 + 2, none⟩ = false := hfrz1 2; clear hclz1 hccz1 hfrz1 hMz1; replace pz2 := eq_true pz2; replace qz2 := eq_true qz2; have n_ := Aside0.mk (Kd.R_mono (ok' := (fun k_ => some k_ ≠ (vz2 : Value).ownBlock ∧ some k_ ≠ (vz3 : Value).ownBlock ∧ some k_ ≠ (vz4 : Value).ownBlock)) HO_3.out (fun k_ hk => ⟨hk.1.1.2, ⟨hk.1.2, hk.2⟩⟩)); clear HO_3; have HO_3 := n_; clear n_; have HXz1 := Aside0.mk (show Kd.R k32 32 wz2 w.heap.size (fun _ => True) (.slice (some ⟨goz1, 0, none⟩) xz1.length coz1) xz1 from (by (with_reducible repeat (first | apply Kd.R_alloc | apply Kd.R_drewN | apply Kd.R_drew)); exact Kd.R_mono HO_3.out (fun _ hk => trivial))); obtain ⟨cez2, hclz2, hMz2, hccz2, hfrz2⟩ := Kd.R_elem HXz1.out z32 (xz2 : Int) (of_decide_eq_true as_) (by have h_ : (xz2 : Int) < ((xz1.length : Int) : Int) := of_decide_eq_true as_; first | exact h_ | (have e_ := (Kd.R_reads' HO_3.out).1; omega) | simpa using h_); obtain ⟨vez4, vez5, vez6, rfl, gez4, gez5, gez6⟩ := k32_openM hMz2; have HPz1 := Kd.R_seg HXz1.out (xz2 : Int) (of_decide_eq_true as_) (by have h_ : (xz2 : Int) < ((xz1.length : Int) : Int) := of_decide_eq_true as_; first | exact h_ | (have e_ := (Kd.R_reads' HO_3.out).1; omega) | simpa using h_) (seg := [vz2, vz3, vz4]) (j := 0) hclz2 hccz2 (show 3 ≤ 3 from by decide) (x' := (⟨tz1, tz2, tz3⟩ : S32)) (k32_mkM _ _ _ (⟨tz1, tz2, tz3⟩ : S32) (Kd.R_mono (Kd.R_apart' (HOz2.out) (Kd.R_typed HO_3.out) (by decide)) (fun k_ hk => ⟨trivial, fun e_ => (hk.2) (by rw [e_]; rfl)⟩)) (Kd.R_mono (HOz3.out) (fun k_ hk => ⟨trivial, fun e_ => (hk.2) (by rw [e_]; rfl)⟩)) (Kd.R_mono (Kd.R_apart' (HOz4.out) (Kd.R_typed HO_3.out) (by decide)) (fun k_ hk => ⟨trivial, fun e_ => (hk.2) (by rw [e_]; rfl)⟩))) (fun _ hk => hk); have hxz7 := hccz2 0 _ rfl; (try simp only [show (k32).sz = 3 from rfl, Nat.mul_one, Nat.add_zero] at hxz7); have hfz4 := hfrz2 0; (try simp only [show (k32).sz = 3 from rfl, Nat.mul_one, Nat.add_zero] at hfz4); have hxz8 := hccz2 1 _ rfl; (try simp only [show (k32).sz = 3 from rfl, Nat.mul_one, Nat.add_zero] at hxz8); have hfz5 := hfrz2 1; (try simp only [show (k32).sz = 3 from rfl, Nat.mul_one, Nat.add_zero] at hfz5); have hxz9 := hccz2 2 _ rfl; (try simp only [show (k32).sz = 3 from rfl, Nat.mul_one, Nat.add_zero] at hxz9); have hfz6 := hfrz2 2; (try simp only [show (k32).sz = 3 from rfl, Nat.mul_one, Nat.add_zero] at hfz6); clear hclz2 hccz2 hfrz2 hMz2) | ((with_reducible refine gate_store (t := 32) (p := 21) rfl ?_); refine store_event (t := 32) (p := 21) (v := ?vo_w13) (w1 := (((wz2.setCell ⟨goz1, (xz2 : Int).toNat * 3, none⟩ (vz2)).setCell ⟨goz1, (xz2 : Int).toNat * 3 + 1, none⟩ (vz3)).setCell ⟨goz1, (xz2 : Int).toNat * 3 + 2, none⟩ (vz4))) ?hg ?ho ?hn ?hr ?_; (case ho => rfl); (case hg => rfl); (case hn => rfl); (case hr => first | (have rs_v237 := fun W_ (a_ : Addr) => run_store Tryd.prog W_ a_ vz2 .plain one_v237; have rs_v240 := fun W_ (a_ : Addr) => run_store Tryd.prog W_ a_ vz3 .plain one_v240; have rs_v243 := fun W_ (a_ : Addr) => run_store Tryd.prog W_ a_ vz4 .plain one_v243; go_simp; done) | (have rs_v237 := fun W_ (a_ : Addr) => run_store Tryd.prog W_ a_ vz2 .plain one_v237; have rs_v240 := fun W_ (a_ : Addr) => run_store Tryd.prog W_ a_ vz3 .plain one_v240; have rs_v243 := fun W_ (a_ : Addr) => run_store Tryd.prog W_ a_ vz4 .plain one_v243; go_simp; rfl) | (go_simp; done) | (go_simp; rfl)); intro wz3 hw; have hg : wz2.grownBy wz3 (some goz1) := (by rw [hw]; exact HPz1.2); have hp_ : Kd.R k32 32 wz3 w.heap.size (fun _ => True) (.slice (some ⟨goz1, 0, none⟩) xz1.length coz1) yz2 := (by rw [hw, Nyz2.out]; exact HPz1.1); clear HPz1; have nz1 := Aside0.mk (hp_); have nz2 := Aside0.mk ((by rw [hw]; exact below_set (below_set (below_set (HB.out) GBz1.out) GBz1.out) GBz1.out : Below w.heap.size w wz3)); clear HO_3; clear HB; clear HOz2; clear HOz3; clear HOz4; have HO_3 := nz1; have HB := nz2; clear nz1 nz2; clear hg hw hp_))
                go_roundg kz1
                case measure => have := HKz1.out; omega
                case rel => exact ⟨(yz2), (wrap64 (xz2 + 1)), (by first | rfl | (simp; done) | (simp [*]; done)), H', ⟨by have := HKz1.out; omega⟩, ⟨by (with_reducible repeat (first | apply Kd.R_alloc | apply Kd.R_drewN | apply Kd.R_drew)); exact HO_3.out⟩, ⟨be_⟩⟩
              · rw [if_neg cz5] at H
                exact absurd H (by simp)
            · rw [if_neg cz4] at H
              exact absurd H (by simp)
          · rw [if_neg cz3] at H
            have c6b0 : decide (xz2 < (l0.length : Int)) = false := decide_eq_false cz3
            clear cz3
            obtain rfl := Option.some.inj H
            go_wp2
            go_ret
            exact ⟨_, by first | rfl | (simp [errW_none, errW_some] <;> rfl) | (simp [*, errW_none, errW_some] <;> rfl), by (with_reducible repeat (first | apply Kd.R_alloc | apply Kd.R_drewN | apply Kd.R_drew)); exact HO_3.out, be_⟩
    · rw [if_neg cz2] at H
      exact absurd H (by simp)
  · rw [if_neg cz1] at H
    exact absurd H (by simp)

set_option maxHeartbeats 8000000 in
set_option maxRecDepth 100000 in
theorem laws_toNode.step (k : Nat) (IH : laws_toNodeS.C k) (A0_0 : Option Addr) (c0_0 : Nat) (l0_0 : List ByteArray) (A0_1 : Option Addr) (c0_1 : Nat) (l0_1 : List (S26)) (A0_2 : Option Addr) (c0_2 : Nat) (l0_2 : List (S79)) (r1 : List ByteArray) (r2 : List (S32)) (r3 : List (S81)) (w : World) (hr0_0 : Kd.C Kd.string w A0_0 l0_0.length l0_0) (hc0_0 : l0_0.length ≤ c0_0) (hr0_1 : Kd.C k26 w A0_1 l0_1.length l0_1) (hc0_1 : l0_1.length ≤ c0_1) (hr0_2 : Kd.C k79 w A0_2 l0_2.length l0_2) (hc0_2 : l0_2.length ≤ c0_2) (h : ((laws_toStringS.f k l0_0).bind fun t253 => ((laws_toNodeS.f k l0_1).bind fun t256 => ((laws_toSubS.f k l0_2).bind fun t259 => (some (t253, t256, t259))))) = some (r1, r2, r3)) :
    Calls Tryd.prog 8 #[.agg #[.slice A0_0 l0_0.length c0_0, .slice A0_1 l0_1.length c0_1, .slice A0_2 l0_2.length c0_2]] w fun e w' => ∃ v0_ v1_ v2_ : Value, e = .returned (.agg #[v0_, v1_, v2_]) ∧ Kd.R Kd.string 9 w' w.heap.size (fun _ => True) v0_ r1 ∧ Kd.R k32 32 w' w.heap.size (fun k_ => some k_ ≠ (v0_ : Value).ownBlock ∧ some k_ ≠ (v2_ : Value).ownBlock) v1_ r2 ∧ Kd.R k81 81 w' w.heap.size (fun _ => True) v2_ r3 ∧ Below w.heap.size w w' := by
  have huz1 := Tryd.underlying26
  have huz2 := Tryd.underlying32
  have HRz1 := Aside0.mk hr0_0
  have HCz1 := Aside0.mk hc0_0
  clear hr0_0 hc0_0
  have HRz2 := Aside0.mk hr0_1
  have HCz2 := Aside0.mk hc0_1
  clear hr0_1 hc0_1
  have HRz3 := Aside0.mk hr0_2
  have HCz3 := Aside0.mk hc0_2
  clear hr0_2 hc0_2
  have HB := Aside0.mk (Below.refl w.heap.size w)
  have H : ((laws_toStringS.f k l0_0).bind fun t253 => ((laws_toNodeS.f k l0_1).bind fun t256 => ((laws_toSubS.f k l0_2).bind fun t259 => (some (t253, t256, t259))))) = some (r1, r2, r3) := h
  clear h
  replace H := Option.bind_eq_some_iff.mp H
  obtain ⟨tz1, Az1, H⟩ := H
  replace H : ((laws_toNodeS.f k l0_1).bind fun t256 => ((laws_toSubS.f k l0_2).bind fun t259 => (some (tz1, t256, t259)))) = some (r1, r2, r3) := H
  have Az2 := Aside0.mk Az1
  clear Az1
  replace H := Option.bind_eq_some_iff.mp H
  obtain ⟨tz2, Az3, H⟩ := H
  replace H : ((laws_toSubS.f k l0_2).bind fun t259 => (some (tz1, tz2, t259))) = some (r1, r2, r3) := H
  have Az4 := Aside0.mk Az3
  clear Az3
  replace H := Option.bind_eq_some_iff.mp H
  obtain ⟨tz3, Az5, H⟩ := H
  replace H : (some (tz1, tz2, tz3)) = some (r1, r2, r3) := H
  have Az6 := Aside0.mk Az5
  clear Az5
  simp only [Option.some.injEq, Prod.mk.injEq] at H
  obtain ⟨rfl, rfl, rfl⟩ := H
  go_enter Tryd.func8, Tryd.ntmps8
  go_wp2_with (first | ((with_reducible refine gate_dst (N := 1) rfl ?_); refine box_event ?hg (N := 1) ?hd (cs := #[.slice A0_0 l0_0.length c0_0, .slice A0_1 l0_1.length c0_1, .slice A0_2 l0_2.length c0_2]) (t := 26) ?hr ?_; (case hd => rfl); (case hg => rfl); (case hr => first | (go_simp; done) | (go_simp; rfl)); intro gbz1 hg wz1 hbox hb; have nz1 := Aside0.mk (below_step be_ hb); have nz2 := Aside0.mk (hbox); have nz3 := Aside0.mk ((sz_ : w.heap.size ≤ gbz1)); have nz4 := Aside0.mk ((sz_ : w.heap.size ≤ gbz1)); clear HB; have HB := nz1; have BKz1 := nz2; have GWz1 := nz3; have GEz1 := nz4; clear nz1 nz2 nz3 nz4; clear hb hbox hg) | ((with_reducible refine gate_dst (N := 2) rfl ?_); refine box_event ?hg (N := 2) ?hd (cs := #[.slice none 0 0, .slice none 0 0, .slice none 0 0]) (t := 32) ?hr ?_; (case hd => rfl); (case hg => rfl); (case hr => first | (go_simp; done) | (go_simp; rfl)); intro gbz2 hg wz2 hbox hb; have nz1 := Aside0.mk (blk_below (g := gbz1) (o := .cells #[.slice A0_0 l0_0.length c0_0, .slice A0_1 l0_1.length c0_1, .slice A0_2 l0_2.length c0_2] 26 (0, 0)) bk_ hb); have nz2 := Aside0.mk (below_step be_ hb); have nz3 := Aside0.mk (hbox); have nz4 := Aside0.mk ((sz_ : w.heap.size ≤ gbz2)); have nz5 := Aside0.mk ((sz_ : w.heap.size ≤ gbz2)); have nz6 := Aside0.mk ((by rw [hg]; exact Nat.ne_of_lt (blk_lt (g := gbz1) (o := .cells #[.slice A0_0 l0_0.length c0_0, .slice A0_1 l0_1.length c0_1, .slice A0_2 l0_2.length c0_2] 26 (0, 0)) bk_) : gbz1 ≠ gbz2)); have nz7 := Aside0.mk ((by rw [hg]; exact Nat.ne_of_gt (blk_lt (g := gbz1) (o := .cells #[.slice A0_0 l0_0.length c0_0, .slice A0_1 l0_1.length c0_1, .slice A0_2 l0_2.length c0_2] 26 (0, 0)) bk_) : gbz2 ≠ gbz1)); clear BKz1; clear HB; have BKz1 := nz1; have HB := nz2; have BKz2 := nz3; have GWz2 := nz4; have GEz2 := nz5; have NBz1 := nz6; have NBz2 := nz7; clear nz1 nz2 nz3 nz4 nz5 nz6 nz7; clear hb hbox hg) | ((with_reducible refine gate_dst (N := 3) rfl ?_); refine box_event ?hg (N := 3) ?hd (cs := #[.slice none 0 0, .slice none 0 0, .slice none 0 0]) (t := 32) ?hr ?_; (case hd => rfl); (case hg => rfl); (case hr => first | (go_simp; done) | (go_simp; rfl)); intro gbz3 hg wz3 hbox hb; have nz1 := Aside0.mk (blk_below (g := gbz1) (o := .cells #[.slice A0_0 l0_0.length c0_0, .slice A0_1 l0_1.length c0_1, .slice A0_2 l0_2.length c0_2] 26 (0, 0)) bk_ hb); have nz2 := Aside0.mk (blk_below (g := gbz2) (o := .cells #[.slice none 0 0, .slice none 0 0, .slice none 0 0] 32 (0, 0)) bk_ hb); have nz3 := Aside0.mk (below_step be_ hb); have nz4 := Aside0.mk (hbox); have nz5 := Aside0.mk ((sz_ : w.heap.size ≤ gbz3)); have nz6 := Aside0.mk ((sz_ : w.heap.size ≤ gbz3)); have nz7 := Aside0.mk ((by rw [hg]; exact Nat.ne_of_lt (blk_lt (g := gbz1) (o := .cells #[.slice A0_0 l0_0.length c0_0, .slice A0_1 l0_1.length c0_1, .slice A0_2 l0_2.length c0_2] 26 (0, 0)) bk_) : gbz1 ≠ gbz3)); have nz8 := Aside0.mk ((by rw [hg]; exact Nat.ne_of_gt (blk_lt (g := gbz1) (o := .cells #[.slice A0_0 l0_0.length c0_0, .slice A0_1 l0_1.length c0_1, .slice A0_2 l0_2.length c0_2] 26 (0, 0)) bk_) : gbz3 ≠ gbz1)); have nz9 := Aside0.mk ((by rw [hg]; exact Nat.ne_of_lt (blk_lt (g := gbz2) (o := .cells #[.slice none 0 0, .slice none 0 0, .slice none 0 0] 32 (0, 0)) bk_) : gbz2 ≠ gbz3)); have nz10 := Aside0.mk ((by rw [hg]; exact Nat.ne_of_gt (blk_lt (g := gbz2) (o := .cells #[.slice none 0 0, .slice none 0 0, .slice none 0 0] 32 (0, 0)) bk_) : gbz3 ≠ gbz2)); clear BKz1; clear BKz2; clear HB; have BKz1 := nz1; have BKz2 := nz2; have HB := nz3; have BKz3 := nz4; have GWz3 := nz5; have GEz3 := nz6; have NBz3 := nz7; have NBz4 := nz8; have NBz5 := nz9; have NBz6 := nz10; clear nz1 nz2 nz3 nz4 nz5 nz6 nz7 nz8 nz9 nz10; clear hb hbox hg; have hnbz1 := NBz1.out; have hncz1 := NBz2.out; have hnbz2 := NBz3.out; have hncz2 := NBz4.out; have hczz1 : wz3.cell? ⟨gbz1, 0, none⟩ = some (.slice A0_0 l0_0.length c0_0) := (blk_cell BKz1.out 0).trans rfl; have hczz2 : wz3.cell? ⟨gbz1, 1, none⟩ = some (.slice A0_1 l0_1.length c0_1) := (blk_cell BKz1.out 1).trans rfl; have hczz3 : wz3.cell? ⟨gbz1, 2, none⟩ = some (.slice A0_2 l0_2.length c0_2) := (blk_cell BKz1.out 2).trans rfl; have hfzz1 := blk_frozen BKz1.out 0; have hfzz2 := blk_frozen BKz1.out 1; have hfzz3 := blk_frozen BKz1.out 2) | ((with_reducible refine gate_callee (f := 27) rfl ?_); refine goesL_ (some 6) rfl rfl Tryd.func27 (by kernel_rfl) rfl #[.slice A0_0 l0_0.length c0_0] rfl ar_ ?_; (with_reducible refine (laws_toStringS.calls k _ _ l0_0 tz1 _ ?side1 ?side2 Az2.out).mono ?_); (case side1 => exact Kd.C_below HRz1.out be_); (case side2 => exact HCz1.out); rintro e wz4 ⟨vz1, rfl, hoz1, hb⟩; refine ⟨_, rfl, ?_⟩; have nz1 := Aside0.mk (Kd.R_lower hoz1 (below_size be_)); have nz2 := Aside0.mk (blk_below (g := gbz1) (o := .cells #[.slice A0_0 l0_0.length c0_0, .slice A0_1 l0_1.length c0_1, .slice A0_2 l0_2.length c0_2] 26 (0, 0)) bk_ hb); have nz3 := Aside0.mk (blk_below (g := gbz2) (o := .cells #[.slice none 0 0, .slice none 0 0, .slice none 0 0] 32 (0, 0)) bk_ hb); have nz4 := Aside0.mk (blk_below (g := gbz3) (o := .cells #[.slice none 0 0, .slice none 0 0, .slice none 0 0] 32 (0, 0)) bk_ hb); have nz5 := Aside0.mk (below_step be_ hb); clear BKz1; clear BKz2; clear BKz3; clear HB; have HOz1 := nz1; have BKz1 := nz2; have BKz2 := nz3; have BKz3 := nz4; have HB := nz5; clear nz1 nz2 nz3 nz4 nz5; (try clear hb); (try clear hb2); (try clear hk); (try clear hi); (try clear hoz1); obtain ⟨Aoz1, coz1, eoz1⟩ := Kd.R_slice HOz1.out; subst eoz1; have hnbz3 := NBz6.out; have hncz3 := NBz5.out; have hczz4 : wz4.cell? ⟨gbz3, 0, none⟩ = some (.slice none 0 0) := (blk_cell BKz3.out 0).trans rfl; have hczz5 : wz4.cell? ⟨gbz3, 1, none⟩ = some (.slice none 0 0) := (blk_cell BKz3.out 1).trans rfl; have hczz6 : wz4.cell? ⟨gbz3, 2, none⟩ = some (.slice none 0 0) := (blk_cell BKz3.out 2).trans rfl; have hfzz4 := blk_frozen BKz3.out 0; have hfzz5 := blk_frozen BKz3.out 1; have hfzz6 := blk_frozen BKz3.out 2; have hczz7 : wz4.cell? ⟨gbz1, 0, none⟩ = some (.slice A0_0 l0_0.length c0_0) := (blk_cell BKz1.out 0).trans rfl; have hczz8 : wz4.cell? ⟨gbz1, 1, none⟩ = some (.slice A0_1 l0_1.length c0_1) := (blk_cell BKz1.out 1).trans rfl; have hczz9 : wz4.cell? ⟨gbz1, 2, none⟩ = some (.slice A0_2 l0_2.length c0_2) := (blk_cell BKz1.out 2).trans rfl; have hfzz7 := blk_frozen BKz1.out 0; have hfzz8 := blk_frozen BKz1.out 1; have hfzz9 := blk_frozen BKz1.out 2) | ((with_reducible refine gate_callee (f := 28) rfl ?_); refine goesL_ (some 10) rfl rfl Tryd.func28 (by kernel_rfl) rfl #[.slice A0_1 l0_1.length c0_1] rfl ar_ ?_; (with_reducible refine (IH _ _ l0_1 tz2 _ ?side1 ?side2 Az4.out).mono ?_); (case side1 => exact Kd.C_below HRz2.out be_); (case side2 => exact HCz2.out); rintro e wz5 ⟨vz2, rfl, hoz1, hb⟩; refine ⟨_, rfl, ?_⟩; have nz1 := Aside0.mk (Kd.R_below (by (with_reducible repeat (first | apply Kd.R_alloc | apply Kd.R_drewN | apply Kd.R_drew)); exact (Kd.R_mono (Kd.R_far (p := ⟨gbz3, 0, none⟩) (Kd.R_types HOz1.out BKz3.out (by decide)) (fun _ hk => hk.2) (.slice Aoz1 tz1.length coz1)) (fun _ h_ => h_.1))) hb); have nz2 := Aside0.mk (Kd.R_lower (Kd.R_newB (Kd.R_newB (Kd.R_new' hoz1 (Kd.R_lt (by (with_reducible repeat (first | apply Kd.R_alloc | apply Kd.R_drewN | apply Kd.R_drew)); exact (Kd.R_mono (Kd.R_far (p := ⟨gbz3, 0, none⟩) (Kd.R_types HOz1.out BKz3.out (by decide)) (fun _ hk => hk.2) (.slice Aoz1 tz1.length coz1)) (fun _ h_ => h_.1))))) (g := gbz2) (o := .cells #[.slice none 0 0, .slice none 0 0, .slice none 0 0] 32 (0, 0)) (by (with_reducible repeat (first | refine blk_drewN ?_ _ | refine blk_drew ?_ | refine blk_alloc ?_ _)); refine blk_far ?_ NBz5.out _; (with_reducible repeat (first | refine blk_drewN ?_ _ | refine blk_drew ?_ | refine blk_alloc ?_ _)); exact BKz2.out)) (g := gbz3) (o := .cells #[.slice Aoz1 tz1.length coz1, .slice none 0 0, .slice none 0 0] 32 (0, 0)) (by (with_reducible repeat (first | refine blk_drewN ?_ _ | refine blk_drew ?_ | refine blk_alloc ?_ _)); refine blk_put (cs := #[.slice none 0 0, .slice none 0 0, .slice none 0 0]) ?_ 0 _ rfl; (with_reducible repeat (first | refine blk_drewN ?_ _ | refine blk_drew ?_ | refine blk_alloc ?_ _)); exact BKz3.out)) (below_size be_)); have nz3 := Aside0.mk (blk_below (g := gbz1) (o := .cells #[.slice A0_0 l0_0.length c0_0, .slice A0_1 l0_1.length c0_1, .slice A0_2 l0_2.length c0_2] 26 (0, 0)) (by (with_reducible repeat (first | refine blk_drewN ?_ _ | refine blk_drew ?_ | refine blk_alloc ?_ _)); refine blk_far ?_ NBz3.out _; (with_reducible repeat (first | refine blk_drewN ?_ _ | refine blk_drew ?_ | refine blk_alloc ?_ _)); exact BKz1.out) hb); have nz4 := Aside0.mk (blk_below (g := gbz2) (o := .cells #[.slice none 0 0, .slice none 0 0, .slice none 0 0] 32 (0, 0)) (by (with_reducible repeat (first | refine blk_drewN ?_ _ | refine blk_drew ?_ | refine blk_alloc ?_ _)); refine blk_far ?_ NBz5.out _; (with_reducible repeat (first | refine blk_drewN ?_ _ | refine blk_drew ?_ | refine blk_alloc ?_ _)); exact BKz2.out) hb); have nz5 := Aside0.mk (blk_below (g := gbz3) (o := .cells #[.slice Aoz1 tz1.length coz1, .slice none 0 0, .slice none 0 0] 32 (0, 0)) (by (with_reducible repeat (first | refine blk_drewN ?_ _ | refine blk_drew ?_ | refine blk_alloc ?_ _)); refine blk_put (cs := #[.slice none 0 0, .slice none 0 0, .slice none 0 0]) ?_ 0 _ rfl; (with_reducible repeat (first | refine blk_drewN ?_ _ | refine blk_drew ?_ | refine blk_alloc ?_ _)); exact BKz3.out) hb); have nz6 := Aside0.mk (below_step be_ hb); clear HOz1; clear BKz1; clear BKz2; clear BKz3; clear HB; have HOz1 := nz1; have HOz2 := nz2; have BKz1 := nz3; have BKz2 := nz4; have BKz3 := nz5; have HB := nz6; clear nz1 nz2 nz3 nz4 nz5 nz6; (try clear hb); (try clear hb2); (try clear hk); (try clear hi); (try clear hoz1); obtain ⟨Aoz2, coz2, eoz2⟩ := Kd.R_slice HOz2.out; subst eoz2; have hczz10 : wz5.cell? ⟨gbz3, 0, none⟩ = some (.slice Aoz1 tz1.length coz1) := (blk_cell BKz3.out 0).trans rfl; have hczz11 : wz5.cell? ⟨gbz3, 1, none⟩ = some (.slice none 0 0) := (blk_cell BKz3.out 1).trans rfl; have hczz12 : wz5.cell? ⟨gbz3, 2, none⟩ = some (.slice none 0 0) := (blk_cell BKz3.out 2).trans rfl; have hfzz10 := blk_frozen BKz3.out 0; have hfzz11 := blk_frozen BKz3.out 1; have hfzz12 := blk_frozen BKz3.out 2; have hczz13 : wz5.cell? ⟨gbz1, 0, none⟩ = some (.slice A0_0 l0_0.length c0_0) := (blk_cell BKz1.out 0).trans rfl; have hczz14 : wz5.cell? ⟨gbz1, 1, none⟩ = some (.slice A0_1 l0_1.length c0_1) := (blk_cell BKz1.out 1).trans rfl; have hczz15 : wz5.cell? ⟨gbz1, 2, none⟩ = some (.slice A0_2 l0_2.length c0_2) := (blk_cell BKz1.out 2).trans rfl; have hfzz13 := blk_frozen BKz1.out 0; have hfzz14 := blk_frozen BKz1.out 1; have hfzz15 := blk_frozen BKz1.out 2) | ((with_reducible refine gate_callee (f := 29) rfl ?_); refine goesL_ (some 14) rfl rfl Tryd.func29 (by kernel_rfl) rfl #[.slice A0_2 l0_2.length c0_2] rfl ar_ ?_; (with_reducible refine (laws_toSubS.calls k _ _ l0_2 tz3 _ ?side1 ?side2 Az6.out).mono ?_); (case side1 => exact Kd.C_below HRz3.out be_); (case side2 => exact HCz3.out); rintro e wz6 ⟨vz3, rfl, hoz1, hb⟩; refine ⟨_, rfl, ?_⟩; have nz1 := Aside0.mk (Kd.R_below (by (with_reducible repeat (first | apply Kd.R_alloc | apply Kd.R_drewN | apply Kd.R_drew)); exact (Kd.R_mono (Kd.R_far (p := ⟨gbz3, 1, none⟩) (Kd.R_types HOz1.out BKz3.out (by decide)) (fun _ hk => hk.2) (.slice Aoz2 tz2.length coz2)) (fun _ h_ => h_.1))) hb); have nz2 := Aside0.mk (Kd.R_elder' (by (with_reducible repeat (first | apply Kd.R_alloc | apply Kd.R_drewN | apply Kd.R_drew)); exact (Kd.R_mono (Kd.R_far (p := ⟨gbz3, 1, none⟩) (Kd.R_mono HOz2.out (fun k_ hk => (⟨hk, hk.2⟩ : _ ∧ k_ ≠ gbz3))) (fun _ hk => hk.2) (.slice Aoz2 tz2.length coz2)) (fun _ h_ => h_.1))) (Kd.R_base hoz1) hb); have nz3 := Aside0.mk (Kd.R_lower hoz1 (below_size be_)); have nz4 := Aside0.mk (blk_below (g := gbz1) (o := .cells #[.slice A0_0 l0_0.length c0_0, .slice A0_1 l0_1.length c0_1, .slice A0_2 l0_2.length c0_2] 26 (0, 0)) (by (with_reducible repeat (first | refine blk_drewN ?_ _ | refine blk_drew ?_ | refine blk_alloc ?_ _)); refine blk_far ?_ NBz3.out _; (with_reducible repeat (first | refine blk_drewN ?_ _ | refine blk_drew ?_ | refine blk_alloc ?_ _)); exact BKz1.out) hb); have nz5 := Aside0.mk (blk_below (g := gbz2) (o := .cells #[.slice none 0 0, .slice none 0 0, .slice none 0 0] 32 (0, 0)) (by (with_reducible repeat (first | refine blk_drewN ?_ _ | refine blk_drew ?_ | refine blk_alloc ?_ _)); refine blk_far ?_ NBz5.out _; (with_reducible repeat (first | refine blk_drewN ?_ _ | refine blk_drew ?_ | refine blk_alloc ?_ _)); exact BKz2.out) hb); have nz6 := Aside0.mk (blk_below (g := gbz3) (o := .cells #[.slice Aoz1 tz1.length coz1, .slice Aoz2 tz2.length coz2, .slice none 0 0] 32 (0, 0)) (by (with_reducible repeat (first | refine blk_drewN ?_ _ | refine blk_drew ?_ | refine blk_alloc ?_ _)); refine blk_put (cs := #[.slice Aoz1 tz1.length coz1, .slice none 0 0, .slice none 0 0]) ?_ 1 _ rfl; (with_reducible repeat (first | refine blk_drewN ?_ _ | refine blk_drew ?_ | refine blk_alloc ?_ _)); exact BKz3.out) hb); have nz7 := Aside0.mk (below_step be_ hb); clear HOz1; clear HOz2; clear BKz1; clear BKz2; clear BKz3; clear HB; have HOz1 := nz1; have HOz2 := nz2; have HOz3 := nz3; have BKz1 := nz4; have BKz2 := nz5; have BKz3 := nz6; have HB := nz7; clear nz1 nz2 nz3 nz4 nz5 nz6 nz7; (try clear hb); (try clear hb2); (try clear hk); (try clear hi); (try clear hoz1); obtain ⟨Aoz3, coz3, eoz3⟩ := Kd.R_slice HOz3.out; subst eoz3; have hczz16 : wz6.cell? ⟨gbz3, 0, none⟩ = some (.slice Aoz1 tz1.length coz1) := (blk_cell BKz3.out 0).trans rfl; have hczz17 : wz6.cell? ⟨gbz3, 1, none⟩ = some (.slice Aoz2 tz2.length coz2) := (blk_cell BKz3.out 1).trans rfl; have hczz18 : wz6.cell? ⟨gbz3, 2, none⟩ = some (.slice none 0 0) := (blk_cell BKz3.out 2).trans rfl; have hfzz16 := blk_frozen BKz3.out 0; have hfzz17 := blk_frozen BKz3.out 1; have hfzz18 := blk_frozen BKz3.out 2; have hczz19 : wz6.cell? ⟨gbz2, 0, none⟩ = some (.slice none 0 0) := (blk_cell BKz2.out 0).trans rfl; have hczz20 : wz6.cell? ⟨gbz2, 1, none⟩ = some (.slice none 0 0) := (blk_cell BKz2.out 1).trans rfl; have hczz21 : wz6.cell? ⟨gbz2, 2, none⟩ = some (.slice none 0 0) := (blk_cell BKz2.out 2).trans rfl; have hfzz19 := blk_frozen BKz2.out 0; have hfzz20 := blk_frozen BKz2.out 1; have hfzz21 := blk_frozen BKz2.out 2))
  refine bodyPost_ret (results_cell_row rfl _ _ gbz2 32 #[.slice Aoz1 tz1.length coz1, .slice Aoz2 tz2.length coz2, .slice Aoz3 tz3.length coz3] (0, 0) _ rfl (by (with_reducible repeat (first | refine blk_drewN ?_ _ | refine blk_drew ?_ | refine blk_alloc ?_ _)); refine blk_put (cs := #[.slice Aoz1 tz1.length coz1, .slice Aoz2 tz2.length coz2, .slice none 0 0]) ?_ 2 _ rfl; (with_reducible repeat (first | refine blk_drewN ?_ _ | refine blk_drew ?_ | refine blk_alloc ?_ _)); refine blk_put (cs := #[.slice Aoz1 tz1.length coz1, .slice none 0 0, .slice none 0 0]) ?_ 1 _ rfl; (with_reducible repeat (first | refine blk_drewN ?_ _ | refine blk_drew ?_ | refine blk_alloc ?_ _)); refine blk_put (cs := #[.slice none 0 0, .slice none 0 0, .slice none 0 0]) ?_ 0 _ rfl; (with_reducible repeat (first | refine blk_drewN ?_ _ | refine blk_drew ?_ | refine blk_alloc ?_ _)); refine blk_far ?_ NBz5.out _; (with_reducible repeat (first | refine blk_drewN ?_ _ | refine blk_drew ?_ | refine blk_alloc ?_ _)); exact BKz2.out) Tryd.underlying32 rfl (by kernel_rfl)) rfl ?_
  exact ⟨_, _, _, by first | rfl | (simp [errW_none, errW_some] <;> rfl) | (simp [*, errW_none, errW_some] <;> rfl), by (with_reducible repeat (first | apply Kd.R_alloc | apply Kd.R_drewN | apply Kd.R_drew)); exact Kd.R_mono (Kd.R_far (p := ⟨gbz2, 2, none⟩) (Kd.R_far (p := ⟨gbz2, 1, none⟩) (Kd.R_far (p := ⟨gbz2, 0, none⟩) (Kd.R_far (p := ⟨gbz3, 2, none⟩) (Kd.R_types (Kd.R_types HOz1.out BKz3.out (by decide)) BKz2.out (by decide)) (fun _ hk => hk.1.2) (.slice Aoz3 tz3.length coz3)) (fun _ hk => hk.2) (.slice Aoz1 tz1.length coz1)) (fun _ hk => hk.2) (.slice Aoz2 tz2.length coz2)) (fun _ hk => hk.2) (.slice Aoz3 tz3.length coz3)) (fun _ hk => trivial), by (with_reducible repeat (first | apply Kd.R_alloc | apply Kd.R_drewN | apply Kd.R_drew)); exact Kd.R_mono (Kd.R_far (p := ⟨gbz2, 2, none⟩) (Kd.R_far (p := ⟨gbz2, 1, none⟩) (Kd.R_far (p := ⟨gbz2, 0, none⟩) (Kd.R_far (p := ⟨gbz3, 2, none⟩) (Kd.R_mono (Kd.R_mono HOz2.out (fun k_ hk => (⟨hk, hk.1.2⟩ : _ ∧ k_ ≠ gbz3))) (fun k_ hk => (⟨hk, hk.1.1.1.2⟩ : _ ∧ k_ ≠ gbz2))) (fun _ hk => hk.1.2) (.slice Aoz3 tz3.length coz3)) (fun _ hk => hk.2) (.slice Aoz1 tz1.length coz1)) (fun _ hk => hk.2) (.slice Aoz2 tz2.length coz2)) (fun _ hk => hk.2) (.slice Aoz3 tz3.length coz3)) (fun _ hk => ⟨hk.1.1.1.1.1.2, hk.1.1.2⟩), by (with_reducible repeat (first | apply Kd.R_alloc | apply Kd.R_drewN | apply Kd.R_drew)); exact Kd.R_mono (Kd.R_far (p := ⟨gbz2, 2, none⟩) (Kd.R_far (p := ⟨gbz2, 1, none⟩) (Kd.R_far (p := ⟨gbz2, 0, none⟩) (Kd.R_far (p := ⟨gbz3, 2, none⟩) (Kd.R_types (Kd.R_types HOz3.out BKz3.out (by decide)) BKz2.out (by decide)) (fun _ hk => hk.1.2) (.slice Aoz3 tz3.length coz3)) (fun _ hk => hk.2) (.slice Aoz1 tz1.length coz1)) (fun _ hk => hk.2) (.slice Aoz2 tz2.length coz2)) (fun _ hk => hk.2) (.slice Aoz3 tz3.length coz3)) (fun _ hk => trivial), be_⟩

theorem laws_toNode.both : ∀ n k, k ≤ n → laws_toNode.C k ∧ laws_toNodeS.C k := by
  intro n
  induction n with
  | zero =>
    intro k hk
    obtain rfl : k = 0 := by omega
    exact ⟨(by intro A0_0 c0_0 l0_0 A0_1 c0_1 l0_1 A0_2 c0_2 l0_2 r1 r2 r3 w hr0_0 hc0_0 hr0_1 hc0_1 hr0_2 hc0_2 h; simp [laws_toNode.f] at h), (by intro A0 c0 l0 r w hr0 hc0 h; simp [laws_toNodeS.f] at h)⟩
  | succ n ih =>
    intro k hk
    cases k with
    | zero => exact ⟨(by intro A0_0 c0_0 l0_0 A0_1 c0_1 l0_1 A0_2 c0_2 l0_2 r1 r2 r3 w hr0_0 hc0_0 hr0_1 hc0_1 hr0_2 hc0_2 h; simp [laws_toNode.f] at h), (by intro A0 c0 l0 r w hr0 hc0 h; simp [laws_toNodeS.f] at h)⟩
    | succ j =>
      refine ⟨?_, ?_⟩
      · intro A0_0 c0_0 l0_0 A0_1 c0_1 l0_1 A0_2 c0_2 l0_2 r1 r2 r3 w hr0_0 hc0_0 hr0_1 hc0_1 hr0_2 hc0_2 h
        rw [laws_toNode.f_succ] at h
        exact laws_toNode.step j (ih j (by omega)).2 A0_0 c0_0 l0_0 A0_1 c0_1 l0_1 A0_2 c0_2 l0_2 r1 r2 r3 w hr0_0 hc0_0 hr0_1 hc0_1 hr0_2 hc0_2 h
      · intro A0 c0 l0 r w hr0 hc0 h
        rw [laws_toNodeS.f_succ] at h
        exact laws_toNodeS.step j (fun i hi => (ih i (by omega)).1) A0 c0 l0 r w hr0 hc0 h
theorem laws_toNodeS.calls (k : Nat) (A0 : Option Addr) (c0 : Nat) (l0 : List (S26)) (r : List (S32)) (w : World) (hr0 : Kd.C k26 w A0 l0.length l0) (hc0 : l0.length ≤ c0) (h : laws_toNodeS.f k l0 = some r) :
    Calls Tryd.prog 28 #[.slice A0 l0.length c0] w fun e w' => ∃ v0_ : Value, e = .returned (v0_) ∧ Kd.R k32 32 w' w.heap.size (fun _ => True) v0_ r ∧ Below w.heap.size w w' := (laws_toNode.both k k (Nat.le_refl _)).2 A0 c0 l0 r w hr0 hc0 h
theorem laws_toNode.calls (k : Nat) (A0_0 : Option Addr) (c0_0 : Nat) (l0_0 : List ByteArray) (A0_1 : Option Addr) (c0_1 : Nat) (l0_1 : List (S26)) (A0_2 : Option Addr) (c0_2 : Nat) (l0_2 : List (S79)) (r1 : List ByteArray) (r2 : List (S32)) (r3 : List (S81)) (w : World) (hr0_0 : Kd.C Kd.string w A0_0 l0_0.length l0_0) (hc0_0 : l0_0.length ≤ c0_0) (hr0_1 : Kd.C k26 w A0_1 l0_1.length l0_1) (hc0_1 : l0_1.length ≤ c0_1) (hr0_2 : Kd.C k79 w A0_2 l0_2.length l0_2) (hc0_2 : l0_2.length ≤ c0_2) (h : laws_toNode.f k l0_0 l0_1 l0_2 = some (r1, r2, r3)) :
    Calls Tryd.prog 8 #[.agg #[.slice A0_0 l0_0.length c0_0, .slice A0_1 l0_1.length c0_1, .slice A0_2 l0_2.length c0_2]] w fun e w' => ∃ v0_ v1_ v2_ : Value, e = .returned (.agg #[v0_, v1_, v2_]) ∧ Kd.R Kd.string 9 w' w.heap.size (fun _ => True) v0_ r1 ∧ Kd.R k32 32 w' w.heap.size (fun k_ => some k_ ≠ (v0_ : Value).ownBlock ∧ some k_ ≠ (v2_ : Value).ownBlock) v1_ r2 ∧ Kd.R k81 81 w' w.heap.size (fun _ => True) v2_ r3 ∧ Below w.heap.size w w' := (laws_toNode.both k k (Nat.le_refl _)).1 A0_0 c0_0 l0_0 A0_1 c0_1 l0_1 A0_2 c0_2 l0_2 r1 r2 r3 w hr0_0 hc0_0 hr0_1 hc0_1 hr0_2 hc0_2 h
end Go.Proofs.YtemehnmbmajnfaaDoor.X
