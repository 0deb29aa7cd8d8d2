-- Printed by a program over the kit's print.py (mp.sh), several laws in one namespace.
import Derived.Test.YtpigbffaacilfaaDoorPx0
import Derived.Test.YtpigbffaacilfaaDoorS
namespace Go.Proofs.YtpigbffaacilfaaDoor.P
open Go.RowKit Go.Proofs.YtpigbffaacilfaaDoor.X Go.Proofs.YtpigbffaacilfaaDoorW.PrintWords Go.Proofs.YtpigbffaacilfaaDoorW.PrintLast Go.Proofs.YtpigbffaacilfaaDoorW.PrintMore
attribute [local go_sem] max2_int min2_int max_two min_two max_three min_three max_four min_four   -- for this text's walks alone
set_option linter.unusedVariables false
set_option linter.unusedSimpArgs false

def spec_l9Copy_bools0_ : Array Bool := bs_ 22 0
def spec_l9Copy_bools1_ : Array Bool := bs_ 22 1
def spec_l9Copy_bools2_ : Array Bool := bs_ 22 3
def spec_l9Copy_bools3_ : Array Bool := bs_ 22 7
def spec_l9Copy_bools4_ : Array Bool := bs_ 22 15
def spec_l9Copy_bools5_ : Array Bool := bs_ 22 31
def spec_l9Copy_bools6_ : Array Bool := bs_ 22 159
def spec_l9Copy_bools7_ : Array Bool := bs_ 22 415
def spec_l9Copy_bools8_ : Array Bool := bs_ 22 927
def spec_l9Copy_bools9_ : Array Bool := bs_ 22 1951
def spec_l9Copy_bools10_ : Array Bool := bs_ 22 10143
def spec_l9Copy_bools11_ : Array Bool := bs_ 22 26527
def spec_l9Copy_bools12_ : Array Bool := bs_ 22 59295
def spec_l9Copy_bools13_ : Array Bool := bs_ 22 124831
def spec_l9Copy_bools14_ : Array Bool := bs_ 22 124863
def spec_l9Copy_bools15_ : Array Bool := bs_ 22 126911
def spec_l9Copy_bools16_ : Array Bool := bs_ 22 257983
def spec_l9Copy_bools17_ : Array Bool := bs_ 22 258047
def spec_l9Copy_bools18_ : Array Bool := bs_ 22 262143
def spec_l9Copy_bools19_ : Array Bool := bs_ 22 524287
def spec_l9Copy_bools20_ : Array Bool := bs_ 22 1048575
def spec_l9Copy_bools21_ : Array Bool := bs_ 22 2097151
def spec_l9Copy_bools22_ : Array Bool := bs_ 22 4194303
def spec_l9Copy.l0 : Nat → List (S41) → List (S41) → Int → Option ((List (S41)))
  | 0, _, _, _ => none
  | k + 1, x0, x3, x4 => if x4 < (x0.length : Int) then (if 0 ≤ x4 then ((some (([] : List Int) : List Int)).bind fun y136 => (if y136.length + ((rd_T41 x0 x4).f1).length < 140737488355328 then (if x3.length < 2932031007402 then (spec_l9Copy.l0 k x0 (x3 ++ [(⟨(rd_T41 x0 x4).f0, (y136 ++ ((rd_T41 x0 x4).f1)), (rd_T41 x0 x4).f2⟩ : S41)]) (wrap64 (x4 + 1))) else (none)) else (none))) else (none)) else (some x3)
def spec_l9Copy.f (k : Nat) (l0 : List (S41)) : Option ((List (S41))) := spec_l9Copy.l0 k l0 (([] : List (S41))) 0
theorem spec_l9Copy.mono_l : ∀ k, (∀ y0 y1 y2, LeO (spec_l9Copy.l0 k y0 y1 y2) (spec_l9Copy.l0 (k + 1) y0 y1 y2))
  | 0 => fun _ _ _ r h => by simp [spec_l9Copy.l0] at h
  | k + 1 => by
    have ih0 := spec_l9Copy.mono_l k
    · intro y0 y1 y2
      unfold spec_l9Copy.l0
      repeat' first
      | (with_reducible exact ih0 _ _ _)
      | (with_reducible exact LeO.refl _)
      | (with_reducible exact LeO.none _)
      | (with_reducible refine LeO.ite ?_ ?_)
      | (with_reducible refine LeO.bind ?_ (fun _ => ?_))
      | exact ih0 _ _ _
      | exact LeO.none _
      | refine LeO.ite ?_ ?_
      | refine LeO.bind ?_ (fun _ => ?_)
theorem spec_l9Copy.mono : ∀ a0 k, LeO (spec_l9Copy.f k a0) (spec_l9Copy.f (k + 1) a0) := by
  intro a0 k
  have ih0 := spec_l9Copy.mono_l k
  unfold spec_l9Copy.f
  repeat' first
      | (with_reducible exact ih0 _ _ _)
      | (with_reducible exact LeO.refl _)
      | (with_reducible exact LeO.none _)
      | (with_reducible refine LeO.ite ?_ ?_)
      | (with_reducible refine LeO.bind ?_ (fun _ => ?_))
      | exact ih0 _ _ _
      | exact LeO.none _
      | refine LeO.ite ?_ ?_
      | refine LeO.bind ?_ (fun _ => ?_)
def spec_l9Copy.T5 : Bool × List (List Nat × List Nat) := (true, [([], []), ([], []), ([], []), ([1, 2], [1, 2]), ([3], [3]), ([4], [4]), ([], []), ([], []), ([], []), ([7, 8], [7, 8]), ([9], [9]), ([10], [10]), ([6, 11], [6, 11]), ([], []), ([], []), ([13, 14], [13, 14]), ([15], [15]), ([16], [16]), ([5, 12, 17], [5, 12, 17]), ([18], [18]), ([0, 19, 12], [0, 19]), ([20, 20, 0, 1, 2, 3, 4, 5, 6, 7, 8, 9, 10, 11, 12, 13, 14, 15, 16, 17, 18, 19, 20], [0, 20])])
def spec_l9Copy.B5 : List Nat := [0, 0, 0, 6, 14, 30, 0, 0, 0, 384, 896, 1920, 4032, 0, 0, 24576, 57344, 122880, 262142, 524286, 1048575, 2097151]
theorem spec_l9Copy.tab5 : rtab .any (opsOf Tryd.f25 5) = spec_l9Copy.T5 := by kernel_rfl
theorem spec_l9Copy.bits5 : waitsOk spec_l9Copy.T5.2 spec_l9Copy.B5 = true := by kernel_rfl
set_option maxHeartbeats 8000000 in
set_option maxRecDepth 100000 in
theorem spec_l9Copy.calls (k : Nat) (A0 : Option Addr) (c0 : Nat) (l0 : List (S41)) (r : List (S41)) (w : World) (hr0 : Kd.C k41 w A0 l0.length l0) (hc0 : l0.length ≤ c0) (h : spec_l9Copy.f k l0 = some r) :
    Calls Tryd.prog 25 #[.slice A0 l0.length c0] w fun e w' => ∃ v0_ : Value, e = .returned (v0_) ∧ Kd.S k41 41 w' w.heap.size (fun _ => True) v0_ r ∧ Below w.heap.size w w' := by
  have huz1 := Tryd.underlying41
  have HRz1 := Aside0.mk hr0
  have HCz1 := Aside0.mk hc0
  clear hr0 hc0
  have HB := Aside0.mk (Below.refl w.heap.size w)
  have H : (spec_l9Copy.l0 k l0 (([] : List (S41))) 0) = some r := h
  clear h
  obtain ⟨yz1, hyz1⟩ : ∃ y_ : List (S41), y_ = (([] : List (S41))) := ⟨_, rfl⟩
  (first | (with_reducible replace H := ys_ hyz1 H; (try dsimp only at H)) | rw [← hyz1] at H | skip)
  have Nyz1 := Aside0.mk hyz1
  clear hyz1
  have H' := Aside0.mk H
  clear H
  go_enter Tryd.func25, Tryd.ntmps25
  go_wp2_with (first | ((with_reducible refine gate_dst (N := 5) rfl ?_); refine Kd.S_lit k41 _ 41 ?hg (N := 5) ?hd (xs := ([] : List (S41))) (inner := []) (ok := fun _ => True) (okp := fun _ => True) ?hr ?hp (fun _ hk => hk) trivial (Below.refl _ _) (Nat.le_refl _) (by simp) ?_; (case hd => rfl); (case hg => rfl); (case hr => first | (go_simp; done) | (go_simp; rfl)); (case hp => exact (Reps.none _ _)); intro vz1 wz1 hoz1 hb hg_ hnew_; clear hg_ hnew_; (first | rw [← Nyz1.out] at hoz1 | (simp only [Int.reduceToNat] at hoz1; rw [← Nyz1.out] at hoz1)); have HOz1 := Aside0.mk (Kd.S_lower hoz1 (below_size be_)); replace HB := bw_ hb; clear hb hoz1))
  go_loopg [3, 4] k (fun kq v3 v4 w' => ∃ (x3_1 : List (S41)) (x4_1 : Int), v4 = .int .i64 x4_1 ∧ Aside0 (spec_l9Copy.l0 kq l0 x3_1 x4_1 = some r) ∧ Aside0 (kq ≤ k) ∧ Aside0 (Kd.S k41 41 w' w.heap.size (fun _ => True) v3 x3_1) ∧ Aside0 (Below w.heap.size w w'))
  case atStart => exact ⟨(yz1), (0), rs_, H', ⟨Nat.le_refl _⟩, ⟨lS_ HOz1.out⟩, ⟨be_⟩⟩
  case round =>
    clear H'
    try clear c2
    try clear p2
    obtain ⟨xz1, xz2, rfl, HA, HKz1, HO_3, HB⟩ := hrel
    cases gk with
    | zero => exact absurd HA.out (by simp [spec_l9Copy.l0])
    | succ kz1 =>
      have H := HA.out
      clear HA
      simp only [spec_l9Copy.l0] at H
      by_cases cz1 : xz2 < (l0.length : Int)
      rotate_left
      · rw [if_neg cz1] at H
        have cz2 : decide (xz2 < (l0.length : Int)) = false := decide_eq_false cz1
        clear cz1
        obtain rfl := Option.some.inj H
        go_wp2
        go_ret
        exact ⟨_, er_, lS_ HO_3.out, be_⟩
      rw [if_pos cz1] at H
      have cz2 : decide (xz2 < (l0.length : Int)) = true := decide_eq_true cz1
      clear cz1
      by_cases cz3 : 0 ≤ xz2
      rotate_left
      · rw [if_neg cz3] at H
        exact absurd H (by simp)
      rw [if_pos cz3] at H
      have cz4 : decide (0 ≤ xz2) = true := decide_eq_true cz3
      clear cz3
      obtain ⟨yz2, hyz2⟩ : ∃ y_ : List Int, y_ = (([] : List Int)) := ⟨_, rfl⟩
      (first | (with_reducible replace H := ys_ hyz2 H; (try dsimp only at H)) | rw [← hyz2] at H | skip)
      have Nyz2 := Aside0.mk hyz2
      clear hyz2
      by_cases cz5 : yz2.length + ((rd_T41 l0 xz2).f1).length < 140737488355328
      rotate_left
      · rw [if_neg cz5] at H
        exact absurd H (by simp)
      rw [if_pos cz5] at H
      have LMcz1 := Aside0.mk cz5
      clear cz5
      obtain ⟨yz3, hyz3⟩ : ∃ y_ : List Int, y_ = (yz2 ++ ((rd_T41 l0 xz2).f1)) := ⟨_, rfl⟩
      (first | (with_reducible replace H := ys_ hyz3 H; (try dsimp only at H)) | rw [← hyz3] at H | skip)
      have Nyz3 := Aside0.mk hyz3
      clear hyz3
      by_cases cz6 : xz1.length < 2932031007402
      rotate_left
      · rw [if_neg cz6] at H
        exact absurd H (by simp)
      rw [if_pos cz6] at H
      have LMcz2 := Aside0.mk cz6
      clear cz6
      obtain ⟨yz4, hyz4⟩ : ∃ y_ : List (S41), y_ = (xz1 ++ [(⟨(rd_T41 l0 xz2).f0, yz3, (rd_T41 l0 xz2).f2⟩ : S41)]) := ⟨_, rfl⟩
      (first | (with_reducible replace H := ys_ hyz4 H; (try dsimp only at H)) | rw [← hyz4] at H | skip)
      have Nyz4 := Aside0.mk hyz4
      clear hyz4
      have H' := Aside0.mk H
      clear H
      try go_wp2
      replace HO_3 := Aside0.mk (Kd.S_drew HO_3.out)
      replace HB := Aside0.mk (below_drew1 HB.out)
      have pz1 : 0 ≤ (xz2 : Int) := dt_
      have qz1 : xz2 < (l0.length : Int) := dt_
      obtain ⟨adz1, Az1, cz7, ez1, hxz1, hxz2, hxz3, hlz1, hiz1⟩ := at_T41 HRz1.out xz2 pz1 qz1
      have hwz1 := hxz3
      have hwz2 := hxz2
      have hwz3 := hxz1
      cases ez1
      replace hxz1 := cl_ HB hxz1
      replace hxz2 := cl_ HB hxz2
      replace hxz3 := cl_ HB hxz3
      have HRz2 := Aside0.mk hiz1
      have HCz2 := Aside0.mk hlz1
      clear hiz1 hlz1
      replace pz1 := eq_true pz1
      replace qz1 := eq_true qz1
      have pz2 : 0 ≤ (xz2 : Int) := dt_
      have qz2 : xz2 < (l0.length : Int) := dt_
      obtain ⟨adz2, Az2, cz8, ez2, hxz4, hxz5, hxz6, hlz2, hiz2⟩ := at_T41 HRz1.out xz2 pz2 qz2
      have hwz4 := hxz6
      have hwz5 := hxz5
      have hwz6 := hxz4
      obtain rfl : adz1 = adz2 := (by injection ez2)
      replace hxz4 := cl_ HB hxz4
      replace hxz5 := cl_ HB hxz5
      replace hxz6 := cl_ HB hxz6
      have HRz3 := Aside0.mk hiz2
      have HCz3 := Aside0.mk hlz2
      clear hiz2 hlz2
      replace pz2 := eq_true pz2
      replace qz2 := eq_true qz2
      have ea_ := Option.some.inj (hxz2.symm.trans hxz5)
      injection ea_ with ea_ en_ ec_
      subst ea_
      subst ec_
      clear en_
      have pz3 : 0 ≤ (xz2 : Int) := dt_
      have qz3 : xz2 < (l0.length : Int) := dt_
      obtain ⟨adz3, Az3, cz9, ez3, hxz7, hxz8, hxz9, hlz3, hiz3⟩ := at_T41 HRz1.out xz2 pz3 qz3
      have hwz7 := hxz9
      have hwz8 := hxz8
      have hwz9 := hxz7
      obtain rfl : adz1 = adz3 := (by injection ez3)
      replace hxz7 := cl_ HB hxz7
      replace hxz8 := cl_ HB hxz8
      replace hxz9 := cl_ HB hxz9
      have HRz4 := Aside0.mk hiz3
      have HCz4 := Aside0.mk hlz3
      clear hiz3 hlz3
      replace pz3 := eq_true pz3
      replace qz3 := eq_true qz3
      have ea_ := Option.some.inj (hxz2.symm.trans hxz8)
      injection ea_ with ea_ en_ ec_
      subst ea_
      subst ec_
      clear en_
      refine start_ (n := 22) (S := fun w' => w'.cell? (adz1.add ((xz2).toNat * 3)) = some (.string ((rd_T41 l0 xz2).f0)) ∧ w'.cell? ⟨(adz1.add ((xz2).toNat * 3)).block, (adz1.add ((xz2).toNat * 3)).off + 1, none⟩ = some (.slice Az1 ((rd_T41 l0 xz2).f1).length cz7) ∧ w'.cell? ⟨(adz1.add ((xz2).toNat * 3)).block, (adz1.add ((xz2).toNat * 3)).off + 2, none⟩ = some (.int .i64 ((rd_T41 l0 xz2).f2)) ∧ w'.cell? (adz1.add ((xz2).toNat * 3)) = some (.string ((rd_T41 l0 xz2).f0)) ∧ w'.cell? ⟨(adz1.add ((xz2).toNat * 3)).block, (adz1.add ((xz2).toNat * 3)).off + 1, none⟩ = some (.slice Az1 ((rd_T41 l0 xz2).f1).length cz7) ∧ w'.cell? ⟨(adz1.add ((xz2).toNat * 3)).block, (adz1.add ((xz2).toNat * 3)).off + 2, none⟩ = some (.int .i64 ((rd_T41 l0 xz2).f2)) ∧ w'.cell? (adz1.add ((xz2).toNat * 3)) = some (.string ((rd_T41 l0 xz2).f0)) ∧ w'.cell? ⟨(adz1.add ((xz2).toNat * 3)).block, (adz1.add ((xz2).toNat * 3)).off + 1, none⟩ = some (.slice Az1 ((rd_T41 l0 xz2).f1).length cz7) ∧ w'.cell? ⟨(adz1.add ((xz2).toNat * 3)).block, (adz1.add ((xz2).toNat * 3)).off + 2, none⟩ = some (.int .i64 ((rd_T41 l0 xz2).f2))) (ds := []) spec_l9Copy_bools0_ (by kernel_rfl) rfl (by kernel_rfl) ⟨(cl_ HB hwz3), (cl_ HB hwz2), (cl_ HB hwz1), (cl_ HB hwz6), (cl_ HB hwz5), (cl_ HB hwz4), (cl_ HB hwz9), (cl_ HB hwz8), (cl_ HB hwz7)⟩ (fun hHeld => ?_); refine with_tabW spec_l9Copy.tab5 spec_l9Copy.bits5 (fun HT_ HW_ => ?_)
      generalize wr.drew = wz2 at HO_3 HB HRz2 HRz3 HRz4 hxz1 hxz2 hxz3 hxz4 hxz5 hxz6 hxz7 hxz8 hxz9 hHeld ⊢
      refine pu_ HT_ 0 12 spec_l9Copy_bools1_ ?_
      refine pu_ HT_ 1 13 spec_l9Copy_bools2_ ?_
      refine pu_ HT_ 2 14 spec_l9Copy_bools3_ ?_
      refine pu_ HT_ 3 15 spec_l9Copy_bools4_ ?_
      refine pu_ HT_ 4 16 spec_l9Copy_bools5_ ?_
      refine pu_ HT_ 7 19 spec_l9Copy_bools6_ ?_
      refine pu_ HT_ 8 20 spec_l9Copy_bools7_ ?_
      refine pu_ HT_ 9 21 spec_l9Copy_bools8_ ?_
      refine pu_ HT_ 10 22 spec_l9Copy_bools9_ ?_
      refine pu_ HT_ 13 25 spec_l9Copy_bools10_ ?_
      refine pu_ HT_ 14 26 spec_l9Copy_bools11_ ?_
      refine pu_ HT_ 15 27 spec_l9Copy_bools12_ ?_
      refine pu_ HT_ 16 28 spec_l9Copy_bools13_ ?_
      refine ta_ HT_ HW_ hHeld 5 17 spec_l9Copy_bools14_ ?_
      refine ta_ HT_ HW_ hHeld 11 23 spec_l9Copy_bools15_ ?_
      refine ta_ HT_ HW_ hHeld 17 29 spec_l9Copy_bools16_ ?_
      refine on_ HT_ 6 18 spec_l9Copy_bools17_ (fun K hK => ?_)
      refine Kd.R_lit_step (Kd.int .u8) _ 5 ?hg (N := 18) ?hd (xs := ([] : List Int)) (inner := []) (ok := fun _ => True) (okp := fun _ => True) ?hr ?hp (fun _ hk => hk) trivial (Below.refl _ _) (Nat.le_refl _) (by simp) ?_; (case hd => rfl); (case hg => rfl); (case hr => first | (go_simp; done) | (go_simp; rfl)); (case hp => exact (Reps.none _ _))
      intro vz2 wz3 hoz2 hb hg_ hnew_
      clear hg_ hnew_
      (first | rw [← Nyz2.out] at hoz2 | (simp only [Int.reduceToNat] at hoz2; rw [← Nyz2.out] at hoz2))
      replace HO_3 := eS_ HO_3 (Kd.R_base hoz2) hb
      have HOz2 := Aside0.mk (Kd.R_lower hoz2 (below_size be_))
      replace HB := bw_ hb
      clear hb hoz2
      refine hK.out _ _ ⟨(cl_ HB hwz3), (cl_ HB hwz2), (cl_ HB hwz1), (cl_ HB hwz6), (cl_ HB hwz5), (cl_ HB hwz4), (cl_ HB hwz9), (cl_ HB hwz8), (cl_ HB hwz7)⟩ (fun hHeld => ?_)
      clear hK K
      refine nm_ 18 ?_
      refine on_ HT_ 12 24 spec_l9Copy_bools18_ (fun K hK => ?_)
      refine Kd.R_append_rows_step (Kd.int .u8) (w0 := w) w.heap.size (by rfl) (.tmp 18) (.tmp 23) 23 5 (.int .u8 0) 1 rfl Tryd.underlying23 info5 rfl (by decide) (by omega) vz2 yz2 ((rd_T41 l0 xz2).f1) _ _ _ (fun _ => True) (fun _ => False) rfl rfl ?aO ?aR (fun _ _ h => h) (fun _ h => h.elim) ?aF ?aB ?aS ?aL ?_
      (case aR => exact Kd.C_below HRz3.out be_)
      (case aB => exact be_)
      (case aF => exact (fun _ _ => trivial))
      (case aO => exact (lR_ HOz2.out))
      (case aS => exact (below_size be_))
      (case aL => have := LMcz1.out; omega)
      intro vz3 wz4 ho hb hg hat
      rw [← Nyz3.out] at ho
      replace HO_3 := Aside0.mk (Kd.S_after (ok := (fun _ => True)) (lS_ HO_3.out) hg hat)
      replace HB := Aside0.mk (hb)
      have HOz3 := Aside0.mk (ho)
      clear HOz2 ho hb hg hat
      obtain ⟨Aoz1, coz1, eoz1⟩ := Kd.R_slice HOz3.out
      (first | subst eoz1 | (injection eoz1 with f1_ f2_ f3_; have fz1 := f1_.symm; have fz2 := f3_.symm; clear f1_ f2_ f3_; subst fz1; subst fz2))
      refine hK.out _ _ ⟨(cl_ HB hwz3), (cl_ HB hwz2), (cl_ HB hwz1), (cl_ HB hwz6), (cl_ HB hwz5), (cl_ HB hwz4), (cl_ HB hwz9), (cl_ HB hwz8), (cl_ HB hwz7)⟩ (fun hHeld => ?_)
      clear hK K
      refine nm_ 24 ?_
      refine pu_ HT_ 18 30 spec_l9Copy_bools19_ ?_
      refine on_ HT_ 19 31 spec_l9Copy_bools20_ (fun K hK => ?_)
      refine value_ (w1 := ?_) (v := ?_) (by rfl) rfl ?_ ?_
      rotate_left 2
      · go_simp
        constructor
        · rfl
        · rfl
      refine hK.out _ _ ⟨(World.cell?_alloc_lt _ _ _ (World.block_lt_of_cell? _ _ ((cl_ HB hwz3)))).trans ((cl_ HB hwz3)), (World.cell?_alloc_lt _ _ _ (World.block_lt_of_cell? _ _ ((cl_ HB hwz2)))).trans ((cl_ HB hwz2)), (World.cell?_alloc_lt _ _ _ (World.block_lt_of_cell? _ _ ((cl_ HB hwz1)))).trans ((cl_ HB hwz1)), (World.cell?_alloc_lt _ _ _ (World.block_lt_of_cell? _ _ ((cl_ HB hwz6)))).trans ((cl_ HB hwz6)), (World.cell?_alloc_lt _ _ _ (World.block_lt_of_cell? _ _ ((cl_ HB hwz5)))).trans ((cl_ HB hwz5)), (World.cell?_alloc_lt _ _ _ (World.block_lt_of_cell? _ _ ((cl_ HB hwz4)))).trans ((cl_ HB hwz4)), (World.cell?_alloc_lt _ _ _ (World.block_lt_of_cell? _ _ ((cl_ HB hwz9)))).trans ((cl_ HB hwz9)), (World.cell?_alloc_lt _ _ _ (World.block_lt_of_cell? _ _ ((cl_ HB hwz8)))).trans ((cl_ HB hwz8)), (World.cell?_alloc_lt _ _ _ (World.block_lt_of_cell? _ _ ((cl_ HB hwz7)))).trans ((cl_ HB hwz7))⟩ (fun hHeld => ?_)
      clear hK K
      refine nm_ 31 ?_
      refine on_ HT_ 20 32 spec_l9Copy_bools21_ (fun K hK => ?_)
      refine Kd.S_append_step k41 (w0 := w) w.heap.size (by rfl) (.tmp 12) (.tmp 31) 25 41 (.agg #[(.string ⟨#[]⟩), (.slice none 0 0), (.int .i64 0)]) 48 rfl Tryd.underlying25 info41 rfl (by decide) (by omega) u3 xz1 (⟨(rd_T41 l0 xz2).f0, yz3, (rd_T41 l0 xz2).f2⟩ : S41) [.string ((rd_T41 l0 xz2).f0), .slice Aoz1 yz3.length coz1, .int .i64 ((rd_T41 l0 xz2).f2)] (fun _ => True) (fun k_ => some k_ = (.slice Aoz1 yz3.length coz1 : Value).ownBlock) rfl rfl ?aP (fun k_ hk_ => ((Kd.R_mono (ok' := fun k_ => ((fun _ => True)) k_ ∧ some k_ ≠ (u3 : Value).ownBlock) (Kd.R_apart' (HOz3.out) (Kd.S_typed HO_3.out) (by decide)) (fun k_ hk => ⟨trivial, hk.2⟩))).1 k_ hk_.symm) ?aF ?aO ?aB ?aS ?aL ?_
      (case aP => exact k41_mkM _ _ _ (⟨(rd_T41 l0 xz2).f0, yz3, (rd_T41 l0 xz2).f2⟩ : S41) (Kd.R_mono (Kd.R_tight rfl (Kd.R_mono (ok' := fun k_ => ((fun _ => True)) k_ ∧ some k_ ≠ (u3 : Value).ownBlock) (Kd.R_apart' (HOz3.out) (Kd.S_typed HO_3.out) (by decide)) (fun k_ hk => ⟨trivial, hk.2⟩))) (fun _ h_ => h_)))
      (case aB => exact be_)
      (case aF => exact (fun _ _ => trivial))
      (case aO => exact (lS_ (Kd.S_mono HO_3.out (fun k_ hk => ⟨trivial, fun e_ => hk.2 e_⟩))))
      (case aS => exact (below_size be_))
      (case aL => have := LMcz2.out; omega)
      intro vz4 wz5 ho hb hg hat
      rw [← Nyz4.out] at ho
      replace HB := Aside0.mk (hb)
      have HOz4 := Aside0.mk (ho)
      clear HO_3 HOz3 ho hb hg hat
      refine hK.out _ _ ⟨(cl_ HB hwz3), (cl_ HB hwz2), (cl_ HB hwz1), (cl_ HB hwz6), (cl_ HB hwz5), (cl_ HB hwz4), (cl_ HB hwz9), (cl_ HB hwz8), (cl_ HB hwz7)⟩ (fun hHeld => ?_)
      clear hK K
      refine nm_ 32 ?_
      refine pu_ HT_ 21 3 spec_l9Copy_bools22_ ?_
      refine done_ (done_of HT_.out (by kernel_rfl)) ?_
      try go_wp2
      go_roundg kz1
      case measure => have := HKz1.out; omega
      case rel => exact ⟨(yz4), (wrap64 (xz2 + 1)), rs_, H', ⟨by have := HKz1.out; omega⟩, ⟨lS_ HOz4.out⟩, ⟨be_⟩⟩

end Go.Proofs.YtpigbffaacilfaaDoor.P
