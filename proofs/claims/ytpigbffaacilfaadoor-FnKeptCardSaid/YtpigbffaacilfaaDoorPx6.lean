-- Printed by a program over the kit's print.py (mp.sh), several laws in one namespace.
import Derived.Test.YtpigbffaacilfaaDoorPx0
import Derived.Test.YtpigbffaacilfaaDoorS
import Derived.Test.YtpigbffaacilfaaDoorPx1
import Derived.Test.YtpigbffaacilfaaDoorPx3
import Derived.Test.YtpigbffaacilfaaDoorPx4
import Derived.Test.YtpigbffaacilfaaDoorPx5
namespace Go.Proofs.YtpigbffaacilfaaDoor.P
open Go.RowKit Go.Proofs.YtpigbffaacilfaaDoor.X Go.Proofs.YtpigbffaacilfaaDoorW.PrintWords Go.Proofs.YtpigbffaacilfaaDoorW.PrintLast Go.Proofs.YtpigbffaacilfaaDoorW.PrintMore
attribute [local go_sem] max2_int min2_int max_two min_two max_three min_three max_four min_four   -- for this text's walks alone
set_option linter.unusedVariables false
set_option linter.unusedSimpArgs false

mutual
def spec_SetKept.j0 : Nat → List (S41) → ByteArray → List Int → Int → Bool → Option ((List (S41)) × Bool)
  | 0, _, _, _, _, _ => none
  | k + 1, x0, x1, x2, x3, x31 => if x31 = true then ((spec_l9Copy.f k x0).bind fun t150 => (some (t150, false))) else ((some (([] : List Int) : List Int)).bind fun y156 => (if y156.length + x2.length < 140737488355328 then (spec_SetKept.l0 k x0 x1 (([] : List (S41))) ((x2.length : Int) == 0) 0 x1 (y156 ++ x2) x3) else (none)))
def spec_SetKept.l0 : Nat → List (S41) → ByteArray → List (S41) → Bool → Int → ByteArray → List Int → Int → Option ((List (S41)) × Bool)
  | 0, _, _, _, _, _, _, _, _ => none
  | k + 1, x0, x1, x10, x12, x13, x163000, x163001, x163002 => if x13 < (x0.length : Int) then (if x12 = true then (spec_SetKept.j2 k x0 x1 x10 x12 x13 false x163000 x163001 x163002) else (if 0 ≤ x13 then (spec_SetKept.j2 k x0 x1 x10 x12 x13 (!(Op.bytesLess (((rd_T41 x0 x13).f0).toList) x1.toList)) x163000 x163001 x163002) else (none))) else (if x12 = true then (spec_SetKept.j3 k x0 x10) else (if x10.length < 2932031007402 then (spec_SetKept.j3 k x0 (x10 ++ [(⟨x163000, x163001, x163002⟩ : S41)])) else (none)))
def spec_SetKept.j2 : Nat → List (S41) → ByteArray → List (S41) → Bool → Int → Bool → ByteArray → List Int → Int → Option ((List (S41)) × Bool)
  | 0, _, _, _, _, _, _, _, _, _ => none
  | k + 1, x0, x1, x10, x12, x13, x60, x163000, x163001, x163002 => if x60 = true then (if x10.length < 2932031007402 then ((some (x10 ++ [(⟨x163000, x163001, x163002⟩ : S41)] : List (S41))).bind fun y164 => (if 0 ≤ x13 then (if x13 < (x0.length : Int) then (if ((rd_T41 x0 x13).f0).toList = x1.toList then (spec_SetKept.l0 k x0 x1 y164 true (wrap64 (x13 + 1)) x163000 x163001 x163002) else (if y164.length < 2932031007402 then (spec_SetKept.l0 k x0 x1 (y164 ++ [(⟨(rd_T41 x0 x13).f0, (rd_T41 x0 x13).f1, (rd_T41 x0 x13).f2⟩ : S41)]) true (wrap64 (x13 + 1)) x163000 x163001 x163002) else (none))) else (none)) else (none))) else (none)) else (if 0 ≤ x13 then (if x13 < (x0.length : Int) then (if ((rd_T41 x0 x13).f0).toList = x1.toList then (spec_SetKept.l0 k x0 x1 x10 x12 (wrap64 (x13 + 1)) x163000 x163001 x163002) else (if x10.length < 2932031007402 then (spec_SetKept.l0 k x0 x1 (x10 ++ [(⟨(rd_T41 x0 x13).f0, (rd_T41 x0 x13).f1, (rd_T41 x0 x13).f2⟩ : S41)]) x12 (wrap64 (x13 + 1)) x163000 x163001 x163002) else (none))) else (none)) else (none))
def spec_SetKept.j3 : Nat → List (S41) → List (S41) → Option ((List (S41)) × Bool)
  | 0, _, _ => none
  | k + 1, x0, x10 => (spec_KeptOk.f k x10).bind fun t180 => (if t180 = true then ((spec_l9Copy.f k x10).bind fun t181 => (some (t181, true))) else ((spec_l9Copy.f k x0).bind fun t184 => (some (t184, false))))
end
def spec_SetKept.f (k : Nat) (l0 : List (S41)) (a1 : ByteArray) (l2 : List Int) (a3 : Int) : Option ((List (S41)) × Bool) := (spec_KeptOk.f k l0).bind fun t147 => (if t147 = true then ((spec_TopicOk.f k a1).bind fun t148 => (if t148 = true then (if (l2.length : Int) > 40 then (spec_SetKept.j0 k l0 a1 l2 a3 true) else ((spec_l1In.f a3 0 2).bind fun t149 => (spec_SetKept.j0 k l0 a1 l2 a3 (!t149)))) else (spec_SetKept.j0 k l0 a1 l2 a3 true))) else (spec_SetKept.j0 k l0 a1 l2 a3 true))
theorem spec_SetKept_zm {p : Prop} (h : p := by
      repeat' first
      | (with_reducible exact ih0 _ _ _ _ _)
      | (with_reducible exact ih1 _ _ _ _ _ _ _ _)
      | (with_reducible exact ih2 _ _ _ _ _ _ _ _ _)
      | (with_reducible exact ih3 _ _)
      | (with_reducible exact spec_KeptOk.mono _ _)
      | (with_reducible exact spec_TopicOk.mono _ _)
      | (with_reducible exact spec_l9Copy.mono _ _)
      | (with_reducible exact LeO.refl _)
      | (with_reducible exact LeO.none _)
      | (with_reducible refine LeO.ite ?_ ?_)
      | (with_reducible refine LeO.bind ?_ (fun _ => ?_))
      | exact ih0 _ _ _ _ _
      | exact ih1 _ _ _ _ _ _ _ _
      | exact ih2 _ _ _ _ _ _ _ _ _
      | exact ih3 _ _
      | exact spec_KeptOk.mono _ _
      | exact spec_TopicOk.mono _ _
      | exact spec_l9Copy.mono _ _
      | exact LeO.none _
      | refine LeO.ite ?_ ?_
      | refine LeO.bind ?_ (fun _ => ?_)
      ) : p := h
theorem spec_SetKept.mono_l : ∀ k, (∀ y0 y1 y2 y3 y4, LeO (spec_SetKept.j0 k y0 y1 y2 y3 y4) (spec_SetKept.j0 (k + 1) y0 y1 y2 y3 y4)) ∧ (∀ y0 y1 y2 y3 y4 y5 y6 y7, LeO (spec_SetKept.l0 k y0 y1 y2 y3 y4 y5 y6 y7) (spec_SetKept.l0 (k + 1) y0 y1 y2 y3 y4 y5 y6 y7)) ∧ (∀ y0 y1 y2 y3 y4 y5 y6 y7 y8, LeO (spec_SetKept.j2 k y0 y1 y2 y3 y4 y5 y6 y7 y8) (spec_SetKept.j2 (k + 1) y0 y1 y2 y3 y4 y5 y6 y7 y8)) ∧ (∀ y0 y1, LeO (spec_SetKept.j3 k y0 y1) (spec_SetKept.j3 (k + 1) y0 y1))
  | 0 => ⟨fun _ _ _ _ _ r h => by simp [spec_SetKept.j0] at h, fun _ _ _ _ _ _ _ _ r h => by simp [spec_SetKept.l0] at h, fun _ _ _ _ _ _ _ _ _ r h => by simp [spec_SetKept.j2] at h, fun _ _ r h => by simp [spec_SetKept.j3] at h⟩
  | k + 1 => by
    obtain ⟨ih0, ih1, ih2, ih3⟩ := spec_SetKept.mono_l k
    refine ⟨?_, ?_, ?_, ?_⟩
    · intro y0 y1 y2 y3 y4
      unfold spec_SetKept.j0
      exact spec_SetKept_zm
    · intro y0 y1 y2 y3 y4 y5 y6 y7
      unfold spec_SetKept.l0
      exact spec_SetKept_zm
    · intro y0 y1 y2 y3 y4 y5 y6 y7 y8
      unfold spec_SetKept.j2
      exact spec_SetKept_zm
    · intro y0 y1
      unfold spec_SetKept.j3
      exact spec_SetKept_zm
theorem spec_SetKept.mono : ∀ a0 a1 a2 a3 k, LeO (spec_SetKept.f k a0 a1 a2 a3) (spec_SetKept.f (k + 1) a0 a1 a2 a3) := by
  intro a0 a1 a2 a3 k
  obtain ⟨ih0, ih1, ih2, ih3⟩ := spec_SetKept.mono_l k
  unfold spec_SetKept.f
  repeat' first
      | (with_reducible exact ih0 _ _ _ _ _)
      | (with_reducible exact ih1 _ _ _ _ _ _ _ _)
      | (with_reducible exact ih2 _ _ _ _ _ _ _ _ _)
      | (with_reducible exact ih3 _ _)
      | (with_reducible exact spec_KeptOk.mono _ _)
      | (with_reducible exact spec_TopicOk.mono _ _)
      | (with_reducible exact spec_l9Copy.mono _ _)
      | (with_reducible exact LeO.refl _)
      | (with_reducible exact LeO.none _)
      | (with_reducible refine LeO.ite ?_ ?_)
      | (with_reducible refine LeO.bind ?_ (fun _ => ?_))
      | exact ih0 _ _ _ _ _
      | exact ih1 _ _ _ _ _ _ _ _
      | exact ih2 _ _ _ _ _ _ _ _ _
      | exact ih3 _ _
      | exact spec_KeptOk.mono _ _
      | exact spec_TopicOk.mono _ _
      | exact spec_l9Copy.mono _ _
      | exact LeO.none _
      | refine LeO.ite ?_ ?_
      | refine LeO.bind ?_ (fun _ => ?_)
set_option maxHeartbeats 8000000 in
set_option maxRecDepth 100000 in
theorem spec_SetKept.callsS (k : Nat) (P0_ : Nat → Prop) (A0 : Option Addr) (c0 : Nat) (l0 : List (S41)) (a1 : ByteArray) (A2 : Option Addr) (c2 : Nat) (l2 : List Int) (a3 : Int) (r1 : List (S41)) (r2 : Bool) (w : World) (hs0 : Kd.V k41 41 w w.heap.size (fun k_ => P0_ k_) (.slice A0 l0.length c0) l0) (hr2 : Kd.C (Kd.int .u8) w A2 l2.length l2) (hc2 : l2.length ≤ c2) (h : spec_SetKept.f k l0 a1 l2 a3 = some (r1, r2)) :
    Calls Tryd.prog 6 #[.slice A0 l0.length c0, .string a1, .slice A2 l2.length c2, .int .i64 a3] w fun e w' => ∃ v0_ : Value, e = .returned (.tuple #[v0_, .bool r2]) ∧ Kd.S k41 41 w' w.heap.size (fun _ => True) v0_ r1 ∧ Below w.heap.size w w' := by
  have hu41 := Tryd.underlying41
  have HO0 := Aside0.mk (show Kd.V k41 41 w w.heap.size (fun k_ => (P0_ k_ ∨ w.heap.size ≤ k_)) (.slice A0 l0.length c0) l0 from Kd.V_mono hs0 (fun k_ hk => .inl hk))
  have HR2 := Aside0.mk hr2
  have HC2 := Aside0.mk hc2
  clear hr2 hc2
  have HB := Aside0.mk (Below.refl w.heap.size w)
  have H : ((spec_KeptOk.f k l0).bind fun t147 => (if t147 = true then ((spec_TopicOk.f k a1).bind fun t148 => (if t148 = true then (if (l2.length : Int) > 40 then (spec_SetKept.j0 k l0 a1 l2 a3 true) else ((spec_l1In.f a3 0 2).bind fun t149 => (spec_SetKept.j0 k l0 a1 l2 a3 (!t149)))) else (spec_SetKept.j0 k l0 a1 l2 a3 true))) else (spec_SetKept.j0 k l0 a1 l2 a3 true))) = some (r1, r2) := h
  clear h
  have HC5 := Aside0.mk H
  clear H
  go_enter Tryd.func6, Tryd.ntmps6
  go_upto_region 1 with (fail)
  go_cut [31] (fun v31 wc => ∃ (kq : Nat) (x31_4 : Bool), v31 = .bool x31_4 ∧ Aside0 (spec_SetKept.j0 kq l0 a1 l2 a3 x31_4 = some (r1, r2)) ∧ Aside0 (kq ≤ k) ∧ Aside0 (Kd.V k41 41 wc w.heap.size (fun k_ => (P0_ k_ ∨ w.heap.size ≤ k_)) (.slice A0 l0.length c0) l0) ∧ Aside0 (Below w.heap.size w wc))
  case first =>
    have H := HC5.out
    clear HC5
    replace H := bo_ H
    obtain ⟨t147, A6, H⟩ := H
    (try dsimp only at H)
    by_cases c7 : t147 = true
    · subst c7
      replace H := bt_ H
      replace H := bo_ H
      obtain ⟨t148, A8, H⟩ := H
      (try dsimp only at H)
      by_cases c9 : t148 = true
      · subst c9
        replace H := bt_ H
        by_cases c10 : (l2.length : Int) > 40
        · rw [if_pos c10] at H
          have c10b0 : decide (40 < (l2.length : Int)) = true := decide_eq_true c10
          have c10b1 : decide (40 < l2.length) = true := decide_eq_true (by omega)
          clear c10
          (first | rw [c10b0] | (simp only [i64_w, i32_w]; rw [c10b0]) | skip)
          have H' := Aside0.mk H
          clear H
          go_wp2_with (first | ((with_reducible refine gate_callee (f := 18) rfl ?_); refine ca_ 15 Tryd.func18 #[.slice A0 l0.length c0] ?_; (with_reducible refine (spec_KeptOk.calls k _ _ l0 true _ ?side1 ?side2 A6.out).mono ?_); (case side1 => exact cV_ HO0); (case side2 => exact (Kd.V_reads' HO0.out).2.1); rintro e w11 ⟨rfl, hb⟩; refine ⟨_, rfl, ?_⟩; replace HO0 := bV_ HO0 hb; replace HB := bw_ hb; clear hb) | (go_at_call 23; (with_reducible refine (spec_TopicOk.calls k a1 true _ A8.out).mono ?_); rintro e w12 ⟨rfl, hb⟩; replace HO0 := bV_ HO0 hb; replace HB := bw_ hb; clear hb))
          go_meet
          case rel => exact ⟨_, (true), rs_, H', ⟨by first | omega | exact Nat.le_refl _⟩, ⟨lV_ HO0.out⟩, ⟨be_⟩⟩
        · rw [if_neg c10] at H
          have c10b0 : decide (40 < (l2.length : Int)) = false := decide_eq_false c10
          have c10b1 : decide (40 < l2.length) = false := decide_eq_false (by omega)
          clear c10
          (first | rw [c10b0] | (simp only [i64_w, i32_w]; rw [c10b0]) | skip)
          replace H := bo_ H
          obtain ⟨t149, A13, H⟩ := H
          (try dsimp only at H)
          have H' := Aside0.mk H
          clear H
          go_wp2_with (first | ((with_reducible refine gate_callee (f := 18) rfl ?_); refine ca_ 15 Tryd.func18 #[.slice A0 l0.length c0] ?_; (with_reducible refine (spec_KeptOk.calls k _ _ l0 true _ ?side1 ?side2 A6.out).mono ?_); (case side1 => exact cV_ HO0); (case side2 => exact (Kd.V_reads' HO0.out).2.1); rintro e w14 ⟨rfl, hb⟩; refine ⟨_, rfl, ?_⟩; replace HO0 := bV_ HO0 hb; replace HB := bw_ hb; clear hb) | (go_at_call 23; (with_reducible refine (spec_TopicOk.calls k a1 true _ A8.out).mono ?_); rintro e w15 ⟨rfl, hb⟩; replace HO0 := bV_ HO0 hb; replace HB := bw_ hb; clear hb) | (go_at_call 24; (with_reducible refine (spec_l1In.calls a3 0 2 t149 _ A13.out).mono ?_); rintro e w' ⟨rfl, ⟨nd, rfl⟩⟩))
          go_meet
          case rel => exact ⟨_, (!t149), rs_, H', ⟨by first | omega | exact Nat.le_refl _⟩, ⟨lV_ HO0.out⟩, ⟨be_⟩⟩
      · replace c9 := Bool.eq_false_iff.mpr c9
        subst c9
        replace H := bf_ H
        have H' := Aside0.mk H
        clear H
        go_wp2_with (first | ((with_reducible refine gate_callee (f := 18) rfl ?_); refine ca_ 15 Tryd.func18 #[.slice A0 l0.length c0] ?_; (with_reducible refine (spec_KeptOk.calls k _ _ l0 true _ ?side1 ?side2 A6.out).mono ?_); (case side1 => exact cV_ HO0); (case side2 => exact (Kd.V_reads' HO0.out).2.1); rintro e w16 ⟨rfl, hb⟩; refine ⟨_, rfl, ?_⟩; replace HO0 := bV_ HO0 hb; replace HB := bw_ hb; clear hb) | (go_at_call 23; (with_reducible refine (spec_TopicOk.calls k a1 false _ A8.out).mono ?_); rintro e w17 ⟨rfl, hb⟩; replace HO0 := bV_ HO0 hb; replace HB := bw_ hb; clear hb))
        go_meet
        case rel => exact ⟨_, (true), rs_, H', ⟨by first | omega | exact Nat.le_refl _⟩, ⟨lV_ HO0.out⟩, ⟨be_⟩⟩
    · replace c7 := Bool.eq_false_iff.mpr c7
      subst c7
      replace H := bf_ H
      have H' := Aside0.mk H
      clear H
      go_wp2_with (first | ((with_reducible refine gate_callee (f := 18) rfl ?_); refine ca_ 15 Tryd.func18 #[.slice A0 l0.length c0] ?_; (with_reducible refine (spec_KeptOk.calls k _ _ l0 false _ ?side1 ?side2 A6.out).mono ?_); (case side1 => exact cV_ HO0); (case side2 => exact (Kd.V_reads' HO0.out).2.1); rintro e w18 ⟨rfl, hb⟩; refine ⟨_, rfl, ?_⟩; replace HO0 := bV_ HO0 hb; replace HB := bw_ hb; clear hb))
      go_meet
      case rel => exact ⟨_, (true), rs_, H', ⟨by first | omega | exact Nat.le_refl _⟩, ⟨lV_ HO0.out⟩, ⟨be_⟩⟩
  case rest =>
    clear HC5
    try clear c1
    try clear c2
    try clear p2
    try clear c6
    try clear c7
    try clear c9
    try clear c10
    try clear c10b0
    try clear c10b1
    try clear c18
    obtain ⟨kq, x31_4, rfl, HA, HJ4, HO_0, HB⟩ := hcut
    cases kq with
    | zero => exact absurd HA.out (by simp [spec_SetKept.j0])
    | succ kj4 =>
      have H := HA.out
      clear HA
      simp only [spec_SetKept.j0] at H
      by_cases c19 : x31_4 = true
      · subst c19
        replace H := bt_ H
        replace H := bo_ H
        obtain ⟨t150, A20, H⟩ := H
        (try dsimp only at H)
        simp only [Option.some.injEq, Prod.mk.injEq] at H
        obtain ⟨rfl, rfl⟩ := H
        go_wp2_with (first | ((with_reducible refine gate_callee (f := 25) rfl ?_); refine ca_ 33 Tryd.func25 #[.slice A0 l0.length c0] ?_; (with_reducible refine (spec_l9Copy.calls kj4 _ _ l0 t150 _ ?side1 ?side2 A20.out).mono ?_); (case side1 => exact cV_ HO_0); (case side2 => exact (Kd.V_reads' HO_0.out).2.1); rintro e w21 ⟨v151, rfl, ho0, hb⟩; refine ⟨_, rfl, ?_⟩; replace HO_0 := eV_ HO_0 (Kd.N_base (Kd.S_N ho0)) hb; have HO152 := Aside0.mk (Kd.S_lower ho0 (below_size be_)); replace HB := bw_ hb; clear hb ho0))
        go_ret2
        exact ⟨_, er_, lS_ HO152.out, be_⟩
      · replace c19 := Bool.eq_false_iff.mpr c19
        subst c19
        replace H := bf_ H
        obtain ⟨y153, hy153⟩ : ∃ y_ : List (S41), y_ = (([] : List (S41))) := ⟨_, rfl⟩
        (first | (with_reducible replace H := ys_ hy153 H; (try dsimp only at H)) | rw [← hy153] at H | skip)
        have Ny153 := Aside0.mk hy153
        clear hy153
        obtain ⟨y156, hy156⟩ : ∃ y_ : List Int, y_ = (([] : List Int)) := ⟨_, rfl⟩
        (first | (with_reducible replace H := ys_ hy156 H; (try dsimp only at H)) | rw [← hy156] at H | skip)
        have Ny156 := Aside0.mk hy156
        clear hy156
        by_cases c22 : y156.length + l2.length < 140737488355328
        · rw [if_pos c22] at H
          have LMc22 := Aside0.mk c22
          clear c22
          obtain ⟨y159, hy159⟩ : ∃ y_ : List Int, y_ = (y156 ++ l2) := ⟨_, rfl⟩
          (first | (with_reducible replace H := ys_ hy159 H; (try dsimp only at H)) | rw [← hy159] at H | skip)
          have Ny159 := Aside0.mk hy159
          clear hy159
          have H' := Aside0.mk H
          clear H
          go_wp2_with (first | ((with_reducible refine gate_dst (N := 34) rfl ?_); (try (refine gate_guard (by rfl) ?_; dsimp only)); refine Kd.N_lit k41 _ 41 ?hg (N' := 34) ?hd (xs := ([] : List (S41))) (inner := []) (ok := (fun k_ => (P0_ k_ ∨ w.heap.size ≤ k_))) (okp := (fun k_ => (P0_ k_ ∨ w.heap.size ≤ k_))) ?hr ?hp (fun _ hk => hk) ((show ∀ k_, wc.heap.size ≤ k_ → (fun k_ => (P0_ k_ ∨ w.heap.size ≤ k_)) k_ from fun k_ hk => (.inr (Nat.le_trans (below_size be_) hk))) _ (Nat.le_refl _)) (Below.refl _ _) (Nat.le_refl _) (by simp) ?_; (case hd => rfl); (case hg => rfl); (case hr => first | (go_simp; done) | (go_simp; rfl)); (case hp => exact (Reps.none _ _)); intro v154 w23 ho24 hb hg_ hnew_; clear hg_ hnew_; (first | rw [← Ny153.out] at ho24 | (simp only [Int.reduceToNat] at ho24; rw [← Ny153.out] at ho24)); replace HO_0 := eV_ HO_0 (Kd.N_base ho24) hb; have HO155 := Aside0.mk (Kd.N_lower ho24 (below_size be_)); replace HB := bw_ hb; clear hb ho24) | ((with_reducible refine gate_dst (N := 36) rfl ?_); (try (refine gate_guard (by rfl) ?_; dsimp only)); refine Kd.R_lit (Kd.int .u8) _ 5 ?hg (N := 36) ?hd (xs := ([] : List Int)) (inner := []) (ok := fun _ => True) (okp := fun _ => True) ?hr ?hp (fun _ hk => hk) trivial (Below.refl _ _) (Nat.le_refl _) (by simp) ?_; (case hd => rfl); (case hg => rfl); (case hr => first | (go_simp; done) | (go_simp; rfl)); (case hp => exact (Reps.none _ _)); intro v157 w25 ho26 hb hg_ hnew_; clear hg_ hnew_; (first | rw [← Ny156.out] at ho26 | (simp only [Int.reduceToNat] at ho26; rw [← Ny156.out] at ho26)); replace HO_0 := eV_ HO_0 (Kd.R_base ho26) hb; replace HO155 := eN_ HO155 (Kd.R_base ho26) hb; have HO158 := Aside0.mk (Kd.R_lower (Kd.R_newM (M := fun k_ => (w.heap.size ≤ k_)) ho26 (below_size be_) (fun k_ h_ => h_)) (below_size be_)); replace HB := bw_ hb; clear hb ho26) | ((with_reducible refine gate_builtin (b := .append) (xs := #[.tmp 36, .tmp 37]) rfl ?_); (try (refine gate_guard (by rfl) ?_; dsimp only)); at_builtin; refine Kd.R_append_rows (Kd.int .u8) (w0 := w) w.heap.size rfl (.tmp 36) (.tmp 37) 23 5 (.int .u8 0) 1 rfl Tryd.underlying23 info5 rfl (by decide) (by omega) v157 y156 l2 _ _ _ (fun k_ => (w.heap.size ≤ k_)) (fun _ => False) rfl rfl ?aO ?aR (fun _ _ h => h) (fun _ h => h.elim) ?aF ?aB ?aS ?aL ?_; (case aR => exact Kd.C_below HR2.out be_); (case aB => exact be_); (case aF => exact (fun k_ hk => (Nat.le_trans (below_size be_) hk))); (case aO => exact (lR_ (Kd.R_mono HO158.out (fun _ hk => hk.1)))); (case aS => exact (below_size be_)); (case aL => have := LMc22.out; omega); intro v160 w27 ho hb hg hat; rw [← Ny159.out] at ho; replace HO_0 := Aside0.mk (Kd.V_afterv (ok := (fun k_ => (P0_ k_ ∨ w.heap.size ≤ k_) ∧ some k_ ≠ (v154 : Value).ownBlock)) (lV_ HO_0.out) hg hat); replace HO155 := Aside0.mk (Kd.N_afterv (ok := (fun k_ => (P0_ k_ ∨ w.heap.size ≤ k_))) (lN_ HO155.out) hg hat); replace HB := Aside0.mk (hb); have HO161 := Aside0.mk (ho); clear HO158 ho hb hg hat; obtain ⟨Ao28, co28, eo28⟩ := Kd.R_slice HO161.out; subst eo28) | ((with_reducible refine gate_dst (N := 11) rfl ?_); (try (refine gate_guard (by rfl) ?_; dsimp only)); refine box_event ?hg (N := 11) ?hd (cs := #[.string (⟨#[]⟩ : ByteArray), .slice none 0 0, .int .i64 0]) (t := 41) ?hr ?_; (case hd => rfl); (case hg => rfl); (case hr => first | (go_simp; done) | (go_simp; rfl)); intro gb162 hg w29 hbox hb; replace HO_0 := Aside0.mk (Kd.V_below (Kd.V_elderB (lV_ HO_0.out) gb162 (Nat.le_of_eq hg.symm)) hb); replace HO155 := Aside0.mk (Kd.N_below (Kd.N_elderB (lN_ HO155.out) gb162 (Nat.le_of_eq hg.symm)) hb); replace HO161 := bR_ HO161 hb; have BK162 := Aside0.mk (hbox); have GW162 := Aside0.mk ((sz_ : w.heap.size ≤ gb162)); have GE162 := Aside0.mk ((sz_ : w.heap.size ≤ gb162)); replace HB := bw_ hb; clear hb hbox hg; have hcz30_0 : w29.cell? ⟨gb162, 0, none⟩ = some (.string (⟨#[]⟩ : ByteArray)) := bc_ BK162 0; have hcz30_1 : w29.cell? ⟨gb162, 1, none⟩ = some (.slice none 0 0) := bc_ BK162 1; have hcz30_2 : w29.cell? ⟨gb162, 2, none⟩ = some (.int .i64 0) := bc_ BK162 2; have hfz30_0 := blk_frozen BK162.out 0; have hfz30_1 := blk_frozen BK162.out 1; have hfz30_2 := blk_frozen BK162.out 2))
          go_loopg [10, 12, 13] kj4 (fun kq v10 v12 v13 w' => ∃ (x10_2 : List (S41)) (x12_2 : Bool) (x13_2 : Int), v12 = .bool x12_2 ∧ v13 = .int .i64 x13_2 ∧ Aside0 (spec_SetKept.l0 kq l0 a1 x10_2 x12_2 x13_2 a1 y159 a3 = some (r1, r2)) ∧ Aside0 (kq ≤ kj4) ∧ Aside0 (Kd.V k41 41 w' w.heap.size (fun k_ => (P0_ k_ ∨ w.heap.size ≤ k_) ∧ some k_ ≠ (v10 : Value).ownBlock ∧ k_ ≠ gb162) (.slice A0 l0.length c0) l0) ∧ Aside0 (Kd.N k41 41 w' w.heap.size (fun k_ => (P0_ k_ ∨ w.heap.size ≤ k_) ∧ k_ ≠ gb162) v10 x10_2) ∧ Aside0 (Kd.R (Kd.int .u8) 5 w' w.heap.size (fun k_ => (w.heap.size ≤ k_)) (.slice Ao28 y159.length co28) y159) ∧ Aside0 (w'.heap[gb162]? = some (.cells #[.string a1, (.slice Ao28 y159.length co28), .int .i64 a3] 41 (0, 0))) ∧ Aside0 (Below w.heap.size w w'))
          case atStart => exact ⟨(y153), (((l2.length : Int) == 0)), (0), rs_, rs_, H', ⟨Nat.le_refl _⟩, ⟨lV_ (Kd.V_mono (Kd.V_far (p := ⟨gb162, 2, none⟩) (Kd.V_far (p := ⟨gb162, 1, none⟩) (Kd.V_far (p := ⟨gb162, 0, none⟩) (Kd.V_mono HO_0.out (fun k_ hk => (⟨hk, hk.2⟩ : _ ∧ k_ ≠ gb162))) (fun _ hk => hk.2) (.string a1)) (fun _ hk => hk.2) (.slice Ao28 y159.length co28)) (fun _ hk => hk.2) (.int .i64 a3)) (fun _ hk => ⟨hk.1.1.1.1, ⟨hk.1.1.1.2, hk.1.2⟩⟩))⟩, ⟨lN_ (Kd.N_mono (Kd.N_far (p := ⟨gb162, 2, none⟩) (Kd.N_far (p := ⟨gb162, 1, none⟩) (Kd.N_far (p := ⟨gb162, 0, none⟩) (Kd.N_mono HO155.out (fun k_ hk => (⟨hk, hk.2⟩ : _ ∧ k_ ≠ gb162))) (fun _ hk => hk.2) (.string a1)) (fun _ hk => hk.2) (.slice Ao28 y159.length co28)) (fun _ hk => hk.2) (.int .i64 a3)) (fun _ hk => ⟨hk.1.1.1, hk.1.2⟩))⟩, ⟨lR_ (Kd.R_mono (Kd.R_far (p := ⟨gb162, 2, none⟩) (Kd.R_far (p := ⟨gb162, 1, none⟩) (Kd.R_far (p := ⟨gb162, 0, none⟩) (Kd.R_types HO161.out BK162.out (by decide)) (fun _ hk => hk.2) (.string a1)) (fun _ hk => hk.2) (.slice Ao28 y159.length co28)) (fun _ hk => hk.2) (.int .i64 a3)) (fun _ hk => hk.1))⟩, ⟨by (with_reducible repeat (first | refine blk_drewN ?_ _ | refine blk_drew ?_ | refine blk_alloc ?_ _)); refine blk_put (cs := #[.string a1, .slice Ao28 y159.length co28, .int .i64 0]) ?_ 2 _ rfl; (with_reducible repeat (first | refine blk_drewN ?_ _ | refine blk_drew ?_ | refine blk_alloc ?_ _)); refine blk_put (cs := #[.string a1, .slice none 0 0, .int .i64 0]) ?_ 1 _ rfl; (with_reducible repeat (first | refine blk_drewN ?_ _ | refine blk_drew ?_ | refine blk_alloc ?_ _)); refine blk_put (cs := #[.string (⟨#[]⟩ : ByteArray), .slice none 0 0, .int .i64 0]) ?_ 0 _ rfl; (with_reducible repeat (first | refine blk_drewN ?_ _ | refine blk_drew ?_ | refine blk_alloc ?_ _)); exact BK162.out⟩, ⟨be_⟩⟩
          case round =>
            clear H'
            try clear c1
            try clear c2
            try clear p2
            try clear c6
            try clear c7
            try clear c9
            try clear c10
            try clear c10b0
            try clear c10b1
            try clear c18
            try clear c19
            try clear c22
            try clear c25
            try clear hcz30_0
            try clear hcz30_1
            try clear hcz30_2
            try clear hfz30_0
            try clear hfz30_1
            try clear hfz30_2
            try clear p2
            obtain ⟨x10_2, x12_2, x13_2, rfl, rfl, HA, HK2, HO_0, HO_10, HO_163001, BK162, HB⟩ := hrel
            cases gk with
            | zero => exact absurd HA.out (by simp [spec_SetKept.l0])
            | succ k2 =>
              have H := HA.out
              clear HA
              simp only [spec_SetKept.l0] at H
              by_cases c31 : x13_2 < (l0.length : Int)
              · rw [if_pos c31] at H
                have c31b0 : decide (x13_2 < (l0.length : Int)) = true := decide_eq_true c31
                clear c31
                have HC32 := Aside0.mk H
                clear H
                go_upto_region 9 with (fail)
                go_cut [60] (fun v60 wc => ∃ (kq : Nat) (x60_31 : Bool), v60 = .bool x60_31 ∧ Aside0 (spec_SetKept.j2 kq l0 a1 x10_2 x12_2 x13_2 x60_31 a1 y159 a3 = some (r1, r2)) ∧ Aside0 (kq ≤ k2) ∧ Aside0 (Kd.V k41 41 wc w.heap.size (fun k_ => (P0_ k_ ∨ w.heap.size ≤ k_) ∧ some k_ ≠ (u10 : Value).ownBlock ∧ k_ ≠ gb162) (.slice A0 l0.length c0) l0) ∧ Aside0 (Kd.N k41 41 wc w.heap.size (fun k_ => (P0_ k_ ∨ w.heap.size ≤ k_) ∧ k_ ≠ gb162) u10 x10_2) ∧ Aside0 (Kd.R (Kd.int .u8) 5 wc w.heap.size (fun k_ => (w.heap.size ≤ k_)) (.slice Ao28 y159.length co28) y159) ∧ Aside0 (wc.heap[gb162]? = some (.cells #[.string a1, (.slice Ao28 y159.length co28), .int .i64 a3] 41 (0, 0))) ∧ Aside0 (Below w.heap.size w wc))
                case first =>
                  have H := HC32.out
                  clear HC32
                  by_cases c33 : x12_2 = true
                  · subst c33
                    replace H := bt_ H
                    have H' := Aside0.mk H
                    clear H
                    go_wp2
                    go_meet
                    case rel => exact ⟨_, (false), rs_, H', ⟨by have := HJ4.out; have := HK2.out; first | omega | exact Nat.le_refl _⟩, ⟨lV_ HO_0.out⟩, ⟨lN_ HO_10.out⟩, ⟨lR_ HO_163001.out⟩, ⟨bk_⟩, ⟨be_⟩⟩
                  · replace c33 := Bool.eq_false_iff.mpr c33
                    subst c33
                    replace H := bf_ H
                    by_cases c34 : 0 ≤ x13_2
                    · rw [if_pos c34] at H
                      have c34b0 : decide (0 ≤ x13_2) = true := decide_eq_true c34
                      clear c34
                      (first | rw [c34b0] | (simp only [i64_w, i32_w]; rw [c34b0]) | skip)
                      have H' := Aside0.mk H
                      clear H
                      have p163 : 0 ≤ (x13_2 : Int) := dt_
                      have q163 : x13_2 < (l0.length : Int) := dt_
                      obtain ⟨ad163, A163_1, c163_1, e163, hx163_0, hx163_1, hx163_2, hl163_1, hi163_1⟩ := at_T41 (Kd.V_reads' HO_0.out).2.2 x13_2 p163 q163
                      cases e163
                      obtain ⟨ce163, hce163, hMe163, hcc163⟩ := Kd.V_get HO_0.out z41 x13_2 p163 (by first | exact q163 | exact dt_ | (have e_ := (Kd.V_reads' HO_0.out).1; omega))
                      obtain ⟨ua163_1, uc163_1, rfl, ul163_1, ge163_1⟩ := k41_openF hMe163
                      have hv163_1 := hcc163 1 _ rfl
                      rw [add_field _ _ 1 (by omega)] at hv163_1
                      replace hv163_1 := Option.some.inj (hv163_1.symm.trans hx163_1)
                      injection hv163_1 with hva_ hvn_ hvc_
                      rw [hva_] at ge163_1
                      rw [hvc_] at ul163_1
                      have HL163_1 := Aside0.mk (show Kd.V (Kd.int .u8) 5 _ w.heap.size _ _ ((rd_T41 l0 x13_2).f1) from Kd.V_mk ul163_1 ge163_1)
                      clear hva_ hvn_ hvc_ ge163_1 ul163_1 hcc163 hce163
                      have HR163_1 := Aside0.mk hi163_1
                      have HC163_1 := Aside0.mk hl163_1
                      clear hi163_1 hl163_1
                      replace p163 := eq_true p163
                      replace q163 := eq_true q163
                      go_wp2
                      go_meet
                      case rel => exact ⟨_, (!(Op.bytesLess (((rd_T41 l0 x13_2).f0).toList) a1.toList)), rs_, H', ⟨by have := HJ4.out; have := HK2.out; first | omega | exact Nat.le_refl _⟩, ⟨lV_ HO_0.out⟩, ⟨lN_ HO_10.out⟩, ⟨lR_ HO_163001.out⟩, ⟨bk_⟩, ⟨be_⟩⟩
                    · rw [if_neg c34] at H
                      exact absurd H (by simp)
                case rest =>
                  clear HC32
                  try clear c1
                  try clear p1
                  try clear q1
                  try clear hx1
                  try clear c2
                  try clear p2
                  try clear c3
                  try clear c6
                  try clear c7
                  try clear c9
                  try clear c10
                  try clear c10b0
                  try clear c10b1
                  try clear c16
                  try clear p16
                  try clear q16
                  try clear hx16
                  try clear c18
                  try clear c19
                  try clear c22
                  try clear c25
                  try clear c31
                  try clear c31b0
                  try clear c33
                  try clear c34
                  try clear c34b0
                  try clear hcz30_0
                  try clear hcz30_1
                  try clear hcz30_2
                  try clear hfz30_0
                  try clear hfz30_1
                  try clear hfz30_2
                  try clear hx163_0
                  try clear hx163_1
                  try clear hx163_2
                  try clear p163
                  try clear p2
                  try clear q163
                  obtain ⟨kq, x60_31, rfl, HA, HJ31, HO_0, HO_10, HO_163001, BK162, HB⟩ := hcut
                  cases kq with
                  | zero => exact absurd HA.out (by simp [spec_SetKept.j2])
                  | succ kj31 =>
                    have H := HA.out
                    clear HA
                    simp only [spec_SetKept.j2] at H
                    by_cases c35 : x60_31 = true
                    · subst c35
                      replace H := bt_ H
                      by_cases c36 : x10_2.length < 2932031007402
                      · rw [if_pos c36] at H
                        have LMc36 := Aside0.mk c36
                        clear c36
                        obtain ⟨y164, hy164⟩ : ∃ y_ : List (S41), y_ = (x10_2 ++ [(⟨a1, y159, a3⟩ : S41)]) := ⟨_, rfl⟩
                        (first | (with_reducible replace H := ys_ hy164 H; (try dsimp only at H)) | rw [← hy164] at H | skip)
                        have Ny164 := Aside0.mk hy164
                        clear hy164
                        by_cases c37 : 0 ≤ x13_2
                        · rw [if_pos c37] at H
                          have c37b0 : decide (0 ≤ x13_2) = true := decide_eq_true c37
                          clear c37
                          by_cases c38 : x13_2 < (l0.length : Int)
                          · rw [if_pos c38] at H
                            have c38b0 : decide (x13_2 < (l0.length : Int)) = true := decide_eq_true c38
                            clear c38
                            by_cases c39 : ((rd_T41 l0 x13_2).f0).toList = a1.toList
                            · rw [if_pos c39] at H
                              have c39b0 : (((rd_T41 l0 x13_2).f0).toList == a1.toList) = true := beq_iff_eq.mpr c39
                              have c39b1 : (((rd_T41 l0 x13_2).f0).toList != a1.toList) = false := bne_eq_false_iff_eq.mpr c39
                              clear c39
                              have H' := Aside0.mk H
                              clear H
                              have hcz40_0 : wc.cell? ⟨gb162, 0, none⟩ = some (.string a1) := bc_ BK162 0
                              have hcz40_1 : wc.cell? ⟨gb162, 1, none⟩ = some (.slice Ao28 y159.length co28) := bc_ BK162 1
                              have hcz40_2 : wc.cell? ⟨gb162, 2, none⟩ = some (.int .i64 a3) := bc_ BK162 2
                              have hfz40_0 := blk_frozen BK162.out 0
                              have hfz40_1 := blk_frozen BK162.out 1
                              have hfz40_2 := blk_frozen BK162.out 2
                              go_wp2_with (first | ((with_reducible refine gate_builtin (b := .append) (xs := #[.tmp 61, .tmp 63]) rfl ?_); (try (refine gate_guard (by rfl) ?_; dsimp only)); at_builtin; refine Kd.N_append k41 (w0 := w) w.heap.size rfl (.tmp 61) (.tmp 63) 25 41 (.agg #[(.string ⟨#[]⟩), (.slice none 0 0), (.int .i64 0)]) 48 rfl Tryd.underlying25 info41 rfl (by decide) (by omega) u10 x10_2 (⟨a1, y159, a3⟩ : S41) [.string a1, .slice Ao28 y159.length co28, .int .i64 a3] (fun k_ => (P0_ k_ ∨ w.heap.size ≤ k_) ∧ k_ ≠ gb162) (fun k_ => ((fun k_ => (P0_ k_ ∨ w.heap.size ≤ k_) ∧ k_ ≠ gb162)) k_ ∧ some k_ ≠ (u10 : Value).ownBlock) rfl rfl ?aP (fun _ hk => hk) ?aF ?aO ?aB ?aS ?aL ?_; (case aP => exact (k41_mkF _ _ (⟨a1, y159, a3⟩ : S41) (Kd.R_reads' (Kd.R_mono (ok' := (fun k_ => ((fun k_ => (P0_ k_ ∨ w.heap.size ≤ k_) ∧ k_ ≠ gb162)) k_ ∧ some k_ ≠ (u10 : Value).ownBlock)) (Kd.R_types (Kd.R_apart' (HO_163001.out) (Kd.N_typed HO_10.out) (by decide)) BK162.out (by decide)) (fun k_ hk => ⟨⟨(.inr (hk.1.1)), hk.2⟩, hk.1.2⟩))).2.1 (Kd.R_F (Kd.R_mono (ok' := (fun k_ => ((fun k_ => (P0_ k_ ∨ w.heap.size ≤ k_) ∧ k_ ≠ gb162)) k_ ∧ some k_ ≠ (u10 : Value).ownBlock)) (Kd.R_types (Kd.R_apart' (HO_163001.out) (Kd.N_typed HO_10.out) (by decide)) BK162.out (by decide)) (fun k_ hk => ⟨⟨(.inr (hk.1.1)), hk.2⟩, hk.1.2⟩))))); (case aB => exact be_); (case aF => exact (fun k_ hk => ⟨(.inr (Nat.le_trans (below_size be_) hk)), Kd.freshB (g := gb162) (o := .cells #[.string a1, .slice Ao28 y159.length co28, .int .i64 a3] 41 (0, 0)) bk_ k_ hk⟩)); (case aO => exact (lN_ HO_10.out)); (case aS => exact (below_size be_)); (case aL => have := LMc36.out; omega); intro v165 w41 ho hb hg hat; rw [← Ny164.out] at ho; replace HO_163001 := Aside0.mk (Kd.R_over' (lR_ HO_163001.out) (Kd.N_typed (lN_ HO_10.out)) (by decide) hg); have n0_ := Aside0.mk (Kd.V_afterv (ok := (fun k_ => (P0_ k_ ∨ w.heap.size ≤ k_) ∧ k_ ≠ gb162)) (lV_ (Kd.V_mono HO_0.out (fun _ hk => ⟨⟨hk.1, hk.2.2⟩, hk.2.1⟩))) hg hat); have n1_ := Aside0.mk (blk_grown (g := gb162) (o := .cells #[.string a1, .slice Ao28 y159.length co28, .int .i64 a3] 41 (0, 0)) bk_ hg (Kd.N_away HO_10.out (fun _ hk => hk.2))); have n2_ := Aside0.mk (hb); have n3_ := Aside0.mk (ho); clear HO_0 BK162 HB HO_10;  have HO_0 := n0_; have BK162 := n1_; have HB := n2_; have HO166 := n3_; clear n0_ n1_ n2_ n3_ ho hb hg hat; have p167 : 0 ≤ (x13_2 : Int) := dt_; have q167 : x13_2 < (l0.length : Int) := dt_; obtain ⟨ad167, A167_1, c167_1, e167, hx167_0, hx167_1, hx167_2, hl167_1, hi167_1⟩ := at_T41 (Kd.V_reads' HO_0.out).2.2 x13_2 p167 q167; cases e167; obtain ⟨ce167, hce167, hMe167, hcc167⟩ := Kd.V_get HO_0.out z41 x13_2 p167 (by first | exact q167 | exact dt_ | (have e_ := (Kd.V_reads' HO_0.out).1; omega)); obtain ⟨ua167_1, uc167_1, rfl, ul167_1, ge167_1⟩ := k41_openF hMe167; have hv167_1 := hcc167 1 _ rfl; rw [add_field _ _ 1 (by omega)] at hv167_1; replace hv167_1 := Option.some.inj (hv167_1.symm.trans hx167_1); injection hv167_1 with hva_ hvn_ hvc_; rw [hva_] at ge167_1; rw [hvc_] at ul167_1; have HL167_1 := Aside0.mk (show Kd.V (Kd.int .u8) 5 _ w.heap.size _ _ ((rd_T41 l0 x13_2).f1) from Kd.V_mk ul167_1 ge167_1); clear hva_ hvn_ hvc_ ge167_1 ul167_1 hcc167 hce167; have HR167_1 := Aside0.mk hi167_1; have HC167_1 := Aside0.mk hl167_1; clear hi167_1 hl167_1; replace p167 := eq_true p167; replace q167 := eq_true q167))
                              go_roundg kj31
                              case measure => have := HJ4.out; have := HK2.out; have := HJ31.out; omega
                              case rel => exact ⟨(y164), (true), (wrap64 (x13_2 + 1)), rs_, rs_, H', ⟨by have := HJ4.out; have := HK2.out; have := HJ31.out; omega⟩, ⟨lV_ (Kd.V_mono HO_0.out (fun _ hk => ⟨hk.1.1, ⟨hk.2, hk.1.2⟩⟩))⟩, ⟨lN_ HO166.out⟩, ⟨lR_ HO_163001.out⟩, ⟨bk_⟩, ⟨be_⟩⟩
                            · rw [if_neg c39] at H
                              have c39b0 : (((rd_T41 l0 x13_2).f0).toList == a1.toList) = false := beq_eq_false_iff_ne.mpr c39
                              have c39b1 : (((rd_T41 l0 x13_2).f0).toList != a1.toList) = true := bne_iff_ne.mpr c39
                              by_cases c42 : y164.length < 2932031007402
                              · rw [if_pos c42] at H
                                have LMc42 := Aside0.mk c42
                                clear c42
                                obtain ⟨y169, hy169⟩ : ∃ y_ : List (S41), y_ = (y164 ++ [(⟨(rd_T41 l0 x13_2).f0, (rd_T41 l0 x13_2).f1, (rd_T41 l0 x13_2).f2⟩ : S41)]) := ⟨_, rfl⟩
                                (first | (with_reducible replace H := ys_ hy169 H; (try dsimp only at H)) | rw [← hy169] at H | skip)
                                have Ny169 := Aside0.mk hy169
                                clear hy169
                                have H' := Aside0.mk H
                                clear H
                                have hcz43_0 : wc.cell? ⟨gb162, 0, none⟩ = some (.string a1) := bc_ BK162 0
                                have hcz43_1 : wc.cell? ⟨gb162, 1, none⟩ = some (.slice Ao28 y159.length co28) := bc_ BK162 1
                                have hcz43_2 : wc.cell? ⟨gb162, 2, none⟩ = some (.int .i64 a3) := bc_ BK162 2
                                have hfz43_0 := blk_frozen BK162.out 0
                                have hfz43_1 := blk_frozen BK162.out 1
                                have hfz43_2 := blk_frozen BK162.out 2
                                go_wp2_with (first | ((with_reducible refine gate_builtin (b := .append) (xs := #[.tmp 61, .tmp 63]) rfl ?_); (try (refine gate_guard (by rfl) ?_; dsimp only)); at_builtin; refine Kd.N_append k41 (w0 := w) w.heap.size rfl (.tmp 61) (.tmp 63) 25 41 (.agg #[(.string ⟨#[]⟩), (.slice none 0 0), (.int .i64 0)]) 48 rfl Tryd.underlying25 info41 rfl (by decide) (by omega) u10 x10_2 (⟨a1, y159, a3⟩ : S41) [.string a1, .slice Ao28 y159.length co28, .int .i64 a3] (fun k_ => (P0_ k_ ∨ w.heap.size ≤ k_) ∧ k_ ≠ gb162) (fun k_ => ((fun k_ => (P0_ k_ ∨ w.heap.size ≤ k_) ∧ k_ ≠ gb162)) k_ ∧ some k_ ≠ (u10 : Value).ownBlock) rfl rfl ?aP (fun _ hk => hk) ?aF ?aO ?aB ?aS ?aL ?_; (case aP => exact (k41_mkF _ _ (⟨a1, y159, a3⟩ : S41) (Kd.R_reads' (Kd.R_mono (ok' := (fun k_ => ((fun k_ => (P0_ k_ ∨ w.heap.size ≤ k_) ∧ k_ ≠ gb162)) k_ ∧ some k_ ≠ (u10 : Value).ownBlock)) (Kd.R_types (Kd.R_apart' (HO_163001.out) (Kd.N_typed HO_10.out) (by decide)) BK162.out (by decide)) (fun k_ hk => ⟨⟨(.inr (hk.1.1)), hk.2⟩, hk.1.2⟩))).2.1 (Kd.R_F (Kd.R_mono (ok' := (fun k_ => ((fun k_ => (P0_ k_ ∨ w.heap.size ≤ k_) ∧ k_ ≠ gb162)) k_ ∧ some k_ ≠ (u10 : Value).ownBlock)) (Kd.R_types (Kd.R_apart' (HO_163001.out) (Kd.N_typed HO_10.out) (by decide)) BK162.out (by decide)) (fun k_ hk => ⟨⟨(.inr (hk.1.1)), hk.2⟩, hk.1.2⟩))))); (case aB => exact be_); (case aF => exact (fun k_ hk => ⟨(.inr (Nat.le_trans (below_size be_) hk)), Kd.freshB (g := gb162) (o := .cells #[.string a1, .slice Ao28 y159.length co28, .int .i64 a3] 41 (0, 0)) bk_ k_ hk⟩)); (case aO => exact (lN_ HO_10.out)); (case aS => exact (below_size be_)); (case aL => have := LMc36.out; omega); intro v165 w44 ho hb hg hat; rw [← Ny164.out] at ho; replace HO_163001 := Aside0.mk (Kd.R_over' (lR_ HO_163001.out) (Kd.N_typed (lN_ HO_10.out)) (by decide) hg); have n0_ := Aside0.mk (Kd.V_afterv (ok := (fun k_ => (P0_ k_ ∨ w.heap.size ≤ k_) ∧ k_ ≠ gb162)) (lV_ (Kd.V_mono HO_0.out (fun _ hk => ⟨⟨hk.1, hk.2.2⟩, hk.2.1⟩))) hg hat); have n1_ := Aside0.mk (blk_grown (g := gb162) (o := .cells #[.string a1, .slice Ao28 y159.length co28, .int .i64 a3] 41 (0, 0)) bk_ hg (Kd.N_away HO_10.out (fun _ hk => hk.2))); have n2_ := Aside0.mk (hb); have n3_ := Aside0.mk (ho); clear HO_0 BK162 HB HO_10;  have HO_0 := n0_; have BK162 := n1_; have HB := n2_; have HO166 := n3_; clear n0_ n1_ n2_ n3_ ho hb hg hat; have p167 : 0 ≤ (x13_2 : Int) := dt_; have q167 : x13_2 < (l0.length : Int) := dt_; obtain ⟨ad167, A167_1, c167_1, e167, hx167_0, hx167_1, hx167_2, hl167_1, hi167_1⟩ := at_T41 (Kd.V_reads' HO_0.out).2.2 x13_2 p167 q167; cases e167; obtain ⟨ce167, hce167, hMe167, hcc167⟩ := Kd.V_get HO_0.out z41 x13_2 p167 (by first | exact q167 | exact dt_ | (have e_ := (Kd.V_reads' HO_0.out).1; omega)); obtain ⟨ua167_1, uc167_1, rfl, ul167_1, ge167_1⟩ := k41_openF hMe167; have hv167_1 := hcc167 1 _ rfl; rw [add_field _ _ 1 (by omega)] at hv167_1; replace hv167_1 := Option.some.inj (hv167_1.symm.trans hx167_1); injection hv167_1 with hva_ hvn_ hvc_; rw [hva_] at ge167_1; rw [hvc_] at ul167_1; have HL167_1 := Aside0.mk (show Kd.V (Kd.int .u8) 5 _ w.heap.size _ _ ((rd_T41 l0 x13_2).f1) from Kd.V_mk ul167_1 ge167_1); clear hva_ hvn_ hvc_ ge167_1 ul167_1 hcc167 hce167; have HR167_1 := Aside0.mk hi167_1; have HC167_1 := Aside0.mk hl167_1; clear hi167_1 hl167_1; replace p167 := eq_true p167; replace q167 := eq_true q167; have p168 : 0 ≤ (x13_2 : Int) := dt_; have q168 : x13_2 < (l0.length : Int) := dt_; obtain ⟨ad168, A168_1, c168_1, e168, hx168_0, hx168_1, hx168_2, hl168_1, hi168_1⟩ := at_T41 (Kd.V_reads' HO_0.out).2.2 x13_2 p168 q168; obtain rfl : ad167 = ad168 := (by injection e168); obtain ⟨ce168, hce168, hMe168, hcc168⟩ := Kd.V_get HO_0.out z41 x13_2 p168 (by first | exact q168 | exact dt_ | (have e_ := (Kd.V_reads' HO_0.out).1; omega)); obtain ⟨ua168_1, uc168_1, rfl, ul168_1, ge168_1⟩ := k41_openF hMe168; have hv168_1 := hcc168 1 _ rfl; rw [add_field _ _ 1 (by omega)] at hv168_1; replace hv168_1 := Option.some.inj (hv168_1.symm.trans hx168_1); injection hv168_1 with hva_ hvn_ hvc_; rw [hva_] at ge168_1; rw [hvc_] at ul168_1; have HL168_1 := Aside0.mk (show Kd.V (Kd.int .u8) 5 _ w.heap.size _ _ ((rd_T41 l0 x13_2).f1) from Kd.V_mk ul168_1 ge168_1); clear hva_ hvn_ hvc_ ge168_1 ul168_1 hcc168 hce168; have HR168_1 := Aside0.mk hi168_1; have HC168_1 := Aside0.mk hl168_1; clear hi168_1 hl168_1; replace p168 := eq_true p168; replace q168 := eq_true q168; have ea_ := Option.some.inj (hx167_1.symm.trans hx168_1); injection ea_ with ea_ en_ ec_; subst ea_; subst ec_; clear en_) | ((with_reducible refine gate_builtin (b := .append) (xs := #[.tmp 72, .tmp 77]) rfl ?_); (try (refine gate_guard (by rfl) ?_; dsimp only)); at_builtin; refine Kd.N_append k41 (w0 := w) w.heap.size rfl (.tmp 72) (.tmp 77) 25 41 (.agg #[(.string ⟨#[]⟩), (.slice none 0 0), (.int .i64 0)]) 48 rfl Tryd.underlying25 info41 rfl (by decide) (by omega) v165 y164 (⟨(rd_T41 l0 x13_2).f0, (rd_T41 l0 x13_2).f1, (rd_T41 l0 x13_2).f2⟩ : S41) [.string ((rd_T41 l0 x13_2).f0), .slice A167_1 ((rd_T41 l0 x13_2).f1).length c167_1, .int .i64 ((rd_T41 l0 x13_2).f2)] (fun k_ => (P0_ k_ ∨ w.heap.size ≤ k_) ∧ k_ ≠ gb162) (fun k_ => ((fun k_ => (P0_ k_ ∨ w.heap.size ≤ k_) ∧ k_ ≠ gb162)) k_ ∧ some k_ ≠ (v165 : Value).ownBlock) rfl rfl ?aP (fun _ hk => hk) ?aF ?aO ?aB ?aS ?aL ?_; (case aP => exact (k41_mkF _ _ (⟨(rd_T41 l0 x13_2).f0, (rd_T41 l0 x13_2).f1, (rd_T41 l0 x13_2).f2⟩ : S41) (Kd.V_reads' (Kd.V_mono (ok' := (fun k_ => ((fun k_ => (P0_ k_ ∨ w.heap.size ≤ k_) ∧ k_ ≠ gb162)) k_ ∧ some k_ ≠ (v165 : Value).ownBlock)) (HL168_1.out) (fun k_ hk => ⟨⟨hk.1.1, hk.1.2⟩, hk.2⟩))).2.1 (Kd.V_F (Kd.V_mono (ok' := (fun k_ => ((fun k_ => (P0_ k_ ∨ w.heap.size ≤ k_) ∧ k_ ≠ gb162)) k_ ∧ some k_ ≠ (v165 : Value).ownBlock)) (HL168_1.out) (fun k_ hk => ⟨⟨hk.1.1, hk.1.2⟩, hk.2⟩))))); (case aB => exact be_); (case aF => exact (fun k_ hk => ⟨(.inr (Nat.le_trans (below_size be_) hk)), Kd.freshB (g := gb162) (o := .cells #[.string a1, .slice Ao28 y159.length co28, .int .i64 a3] 41 (0, 0)) bk_ k_ hk⟩)); (case aO => exact (lN_ HO166.out)); (case aS => exact (below_size be_)); (case aL => have := LMc42.out; omega); intro v170 w45 ho hb hg hat; rw [← Ny169.out] at ho; replace HO_163001 := Aside0.mk (Kd.R_over' (lR_ HO_163001.out) (Kd.N_typed (lN_ HO166.out)) (by decide) hg); replace HO_0 := Aside0.mk (Kd.V_afterv (ok := (fun k_ => (P0_ k_ ∨ w.heap.size ≤ k_) ∧ k_ ≠ gb162)) (lV_ HO_0.out) hg hat); replace BK162 := Aside0.mk (blk_grown (g := gb162) (o := .cells #[.string a1, .slice Ao28 y159.length co28, .int .i64 a3] 41 (0, 0)) bk_ hg (Kd.N_away HO166.out (fun _ hk => hk.2))); replace HL167_1 := Aside0.mk (Kd.V_afterv (ok := (fun k_ => (P0_ k_ ∨ w.heap.size ≤ k_) ∧ k_ ≠ gb162)) (lV_ HL167_1.out) hg hat); replace HL168_1 := Aside0.mk (Kd.V_afterv (ok := (fun k_ => (P0_ k_ ∨ w.heap.size ≤ k_) ∧ k_ ≠ gb162)) (lV_ HL168_1.out) hg hat); replace HB := Aside0.mk (hb); have HO171 := Aside0.mk (ho); clear HO166 ho hb hg hat))
                                go_roundg kj31
                                case measure => have := HJ4.out; have := HK2.out; have := HJ31.out; omega
                                case rel => exact ⟨(y169), (true), (wrap64 (x13_2 + 1)), rs_, rs_, H', ⟨by have := HJ4.out; have := HK2.out; have := HJ31.out; omega⟩, ⟨lV_ (Kd.V_mono HO_0.out (fun _ hk => ⟨hk.1.1, ⟨hk.2, hk.1.2⟩⟩))⟩, ⟨lN_ HO171.out⟩, ⟨lR_ HO_163001.out⟩, ⟨bk_⟩, ⟨be_⟩⟩
                              · rw [if_neg c42] at H
                                exact absurd H (by simp)
                          · rw [if_neg c38] at H
                            exact absurd H (by simp)
                        · rw [if_neg c37] at H
                          exact absurd H (by simp)
                      · rw [if_neg c36] at H
                        exact absurd H (by simp)
                    · replace c35 := Bool.eq_false_iff.mpr c35
                      subst c35
                      replace H := bf_ H
                      by_cases c46 : 0 ≤ x13_2
                      · rw [if_pos c46] at H
                        have c46b0 : decide (0 ≤ x13_2) = true := decide_eq_true c46
                        clear c46
                        by_cases c47 : x13_2 < (l0.length : Int)
                        · rw [if_pos c47] at H
                          have c47b0 : decide (x13_2 < (l0.length : Int)) = true := decide_eq_true c47
                          clear c47
                          by_cases c48 : ((rd_T41 l0 x13_2).f0).toList = a1.toList
                          · rw [if_pos c48] at H
                            have c48b0 : (((rd_T41 l0 x13_2).f0).toList == a1.toList) = true := beq_iff_eq.mpr c48
                            have c48b1 : (((rd_T41 l0 x13_2).f0).toList != a1.toList) = false := bne_eq_false_iff_eq.mpr c48
                            clear c48
                            have H' := Aside0.mk H
                            clear H
                            have p172 : 0 ≤ (x13_2 : Int) := dt_
                            have q172 : x13_2 < (l0.length : Int) := dt_
                            obtain ⟨ad172, A172_1, c172_1, e172, hx172_0, hx172_1, hx172_2, hl172_1, hi172_1⟩ := at_T41 (Kd.V_reads' HO_0.out).2.2 x13_2 p172 q172
                            cases e172
                            obtain ⟨ce172, hce172, hMe172, hcc172⟩ := Kd.V_get HO_0.out z41 x13_2 p172 (by first | exact q172 | exact dt_ | (have e_ := (Kd.V_reads' HO_0.out).1; omega))
                            obtain ⟨ua172_1, uc172_1, rfl, ul172_1, ge172_1⟩ := k41_openF hMe172
                            have hv172_1 := hcc172 1 _ rfl
                            rw [add_field _ _ 1 (by omega)] at hv172_1
                            replace hv172_1 := Option.some.inj (hv172_1.symm.trans hx172_1)
                            injection hv172_1 with hva_ hvn_ hvc_
                            rw [hva_] at ge172_1
                            rw [hvc_] at ul172_1
                            have HL172_1 := Aside0.mk (show Kd.V (Kd.int .u8) 5 _ w.heap.size _ _ ((rd_T41 l0 x13_2).f1) from Kd.V_mk ul172_1 ge172_1)
                            clear hva_ hvn_ hvc_ ge172_1 ul172_1 hcc172 hce172
                            have HR172_1 := Aside0.mk hi172_1
                            have HC172_1 := Aside0.mk hl172_1
                            clear hi172_1 hl172_1
                            replace p172 := eq_true p172
                            replace q172 := eq_true q172
                            go_wp2
                            go_roundg kj31
                            case measure => have := HJ4.out; have := HK2.out; have := HJ31.out; omega
                            case rel => exact ⟨(x10_2), (x12_2), (wrap64 (x13_2 + 1)), rs_, rs_, H', ⟨by have := HJ4.out; have := HK2.out; have := HJ31.out; omega⟩, ⟨lV_ HO_0.out⟩, ⟨lN_ HO_10.out⟩, ⟨lR_ HO_163001.out⟩, ⟨bk_⟩, ⟨be_⟩⟩
                          · rw [if_neg c48] at H
                            have c48b0 : (((rd_T41 l0 x13_2).f0).toList == a1.toList) = false := beq_eq_false_iff_ne.mpr c48
                            have c48b1 : (((rd_T41 l0 x13_2).f0).toList != a1.toList) = true := bne_iff_ne.mpr c48
                            by_cases c49 : x10_2.length < 2932031007402
                            · rw [if_pos c49] at H
                              have LMc49 := Aside0.mk c49
                              clear c49
                              obtain ⟨y174, hy174⟩ : ∃ y_ : List (S41), y_ = (x10_2 ++ [(⟨(rd_T41 l0 x13_2).f0, (rd_T41 l0 x13_2).f1, (rd_T41 l0 x13_2).f2⟩ : S41)]) := ⟨_, rfl⟩
                              (first | (with_reducible replace H := ys_ hy174 H; (try dsimp only at H)) | rw [← hy174] at H | skip)
                              have Ny174 := Aside0.mk hy174
                              clear hy174
                              have H' := Aside0.mk H
                              clear H
                              have p172 : 0 ≤ (x13_2 : Int) := dt_
                              have q172 : x13_2 < (l0.length : Int) := dt_
                              obtain ⟨ad172, A172_1, c172_1, e172, hx172_0, hx172_1, hx172_2, hl172_1, hi172_1⟩ := at_T41 (Kd.V_reads' HO_0.out).2.2 x13_2 p172 q172
                              cases e172
                              obtain ⟨ce172, hce172, hMe172, hcc172⟩ := Kd.V_get HO_0.out z41 x13_2 p172 (by first | exact q172 | exact dt_ | (have e_ := (Kd.V_reads' HO_0.out).1; omega))
                              obtain ⟨ua172_1, uc172_1, rfl, ul172_1, ge172_1⟩ := k41_openF hMe172
                              have hv172_1 := hcc172 1 _ rfl
                              rw [add_field _ _ 1 (by omega)] at hv172_1
                              replace hv172_1 := Option.some.inj (hv172_1.symm.trans hx172_1)
                              injection hv172_1 with hva_ hvn_ hvc_
                              rw [hva_] at ge172_1
                              rw [hvc_] at ul172_1
                              have HL172_1 := Aside0.mk (show Kd.V (Kd.int .u8) 5 _ w.heap.size _ _ ((rd_T41 l0 x13_2).f1) from Kd.V_mk ul172_1 ge172_1)
                              clear hva_ hvn_ hvc_ ge172_1 ul172_1 hcc172 hce172
                              have HR172_1 := Aside0.mk hi172_1
                              have HC172_1 := Aside0.mk hl172_1
                              clear hi172_1 hl172_1
                              replace p172 := eq_true p172
                              replace q172 := eq_true q172
                              have p173 : 0 ≤ (x13_2 : Int) := dt_
                              have q173 : x13_2 < (l0.length : Int) := dt_
                              obtain ⟨ad173, A173_1, c173_1, e173, hx173_0, hx173_1, hx173_2, hl173_1, hi173_1⟩ := at_T41 (Kd.V_reads' HO_0.out).2.2 x13_2 p173 q173
                              obtain rfl : ad172 = ad173 := (by injection e173)
                              obtain ⟨ce173, hce173, hMe173, hcc173⟩ := Kd.V_get HO_0.out z41 x13_2 p173 (by first | exact q173 | exact dt_ | (have e_ := (Kd.V_reads' HO_0.out).1; omega))
                              obtain ⟨ua173_1, uc173_1, rfl, ul173_1, ge173_1⟩ := k41_openF hMe173
                              have hv173_1 := hcc173 1 _ rfl
                              rw [add_field _ _ 1 (by omega)] at hv173_1
                              replace hv173_1 := Option.some.inj (hv173_1.symm.trans hx173_1)
                              injection hv173_1 with hva_ hvn_ hvc_
                              rw [hva_] at ge173_1
                              rw [hvc_] at ul173_1
                              have HL173_1 := Aside0.mk (show Kd.V (Kd.int .u8) 5 _ w.heap.size _ _ ((rd_T41 l0 x13_2).f1) from Kd.V_mk ul173_1 ge173_1)
                              clear hva_ hvn_ hvc_ ge173_1 ul173_1 hcc173 hce173
                              have HR173_1 := Aside0.mk hi173_1
                              have HC173_1 := Aside0.mk hl173_1
                              clear hi173_1 hl173_1
                              replace p173 := eq_true p173
                              replace q173 := eq_true q173
                              have ea_ := Option.some.inj (hx172_1.symm.trans hx173_1)
                              injection ea_ with ea_ en_ ec_
                              subst ea_
                              subst ec_
                              clear en_
                              go_wp2_with (first | ((with_reducible refine gate_builtin (b := .append) (xs := #[.tmp 72, .tmp 77]) rfl ?_); (try (refine gate_guard (by rfl) ?_; dsimp only)); at_builtin; refine Kd.N_append k41 (w0 := w) w.heap.size rfl (.tmp 72) (.tmp 77) 25 41 (.agg #[(.string ⟨#[]⟩), (.slice none 0 0), (.int .i64 0)]) 48 rfl Tryd.underlying25 info41 rfl (by decide) (by omega) u10 x10_2 (⟨(rd_T41 l0 x13_2).f0, (rd_T41 l0 x13_2).f1, (rd_T41 l0 x13_2).f2⟩ : S41) [.string ((rd_T41 l0 x13_2).f0), .slice A172_1 ((rd_T41 l0 x13_2).f1).length c172_1, .int .i64 ((rd_T41 l0 x13_2).f2)] (fun k_ => (P0_ k_ ∨ w.heap.size ≤ k_) ∧ k_ ≠ gb162) (fun k_ => ((fun k_ => (P0_ k_ ∨ w.heap.size ≤ k_) ∧ k_ ≠ gb162)) k_ ∧ some k_ ≠ (u10 : Value).ownBlock) rfl rfl ?aP (fun _ hk => hk) ?aF ?aO ?aB ?aS ?aL ?_; (case aP => exact (k41_mkF _ _ (⟨(rd_T41 l0 x13_2).f0, (rd_T41 l0 x13_2).f1, (rd_T41 l0 x13_2).f2⟩ : S41) (Kd.V_reads' (Kd.V_mono (ok' := (fun k_ => ((fun k_ => (P0_ k_ ∨ w.heap.size ≤ k_) ∧ k_ ≠ gb162)) k_ ∧ some k_ ≠ (u10 : Value).ownBlock)) (HL173_1.out) (fun k_ hk => ⟨⟨hk.1, hk.2.2⟩, hk.2.1⟩))).2.1 (Kd.V_F (Kd.V_mono (ok' := (fun k_ => ((fun k_ => (P0_ k_ ∨ w.heap.size ≤ k_) ∧ k_ ≠ gb162)) k_ ∧ some k_ ≠ (u10 : Value).ownBlock)) (HL173_1.out) (fun k_ hk => ⟨⟨hk.1, hk.2.2⟩, hk.2.1⟩))))); (case aB => exact be_); (case aF => exact (fun k_ hk => ⟨(.inr (Nat.le_trans (below_size be_) hk)), Kd.freshB (g := gb162) (o := .cells #[.string a1, .slice Ao28 y159.length co28, .int .i64 a3] 41 (0, 0)) bk_ k_ hk⟩)); (case aO => exact (lN_ HO_10.out)); (case aS => exact (below_size be_)); (case aL => have := LMc49.out; omega); intro v175 w50 ho hb hg hat; rw [← Ny174.out] at ho; replace HO_0 := Aside0.mk (Kd.V_afterv (ok := (fun k_ => (P0_ k_ ∨ w.heap.size ≤ k_) ∧ k_ ≠ gb162)) (lV_ (Kd.V_mono HO_0.out (fun _ hk => ⟨⟨hk.1, hk.2.2⟩, hk.2.1⟩))) hg hat); replace HO_163001 := Aside0.mk (Kd.R_over' (lR_ HO_163001.out) (Kd.N_typed (lN_ HO_10.out)) (by decide) hg); replace BK162 := Aside0.mk (blk_grown (g := gb162) (o := .cells #[.string a1, .slice Ao28 y159.length co28, .int .i64 a3] 41 (0, 0)) bk_ hg (Kd.N_away HO_10.out (fun _ hk => hk.2))); replace HL172_1 := Aside0.mk (Kd.V_afterv (ok := (fun k_ => (P0_ k_ ∨ w.heap.size ≤ k_) ∧ k_ ≠ gb162)) (lV_ (Kd.V_mono HL172_1.out (fun _ hk => ⟨⟨hk.1, hk.2.2⟩, hk.2.1⟩))) hg hat); replace HL173_1 := Aside0.mk (Kd.V_afterv (ok := (fun k_ => (P0_ k_ ∨ w.heap.size ≤ k_) ∧ k_ ≠ gb162)) (lV_ (Kd.V_mono HL173_1.out (fun _ hk => ⟨⟨hk.1, hk.2.2⟩, hk.2.1⟩))) hg hat); replace HB := Aside0.mk (hb); have HO176 := Aside0.mk (ho); clear HO_10 ho hb hg hat))
                              go_roundg kj31
                              case measure => have := HJ4.out; have := HK2.out; have := HJ31.out; omega
                              case rel => exact ⟨(y174), (x12_2), (wrap64 (x13_2 + 1)), rs_, rs_, H', ⟨by have := HJ4.out; have := HK2.out; have := HJ31.out; omega⟩, ⟨lV_ (Kd.V_mono HO_0.out (fun _ hk => ⟨hk.1.1, ⟨hk.2, hk.1.2⟩⟩))⟩, ⟨lN_ HO176.out⟩, ⟨lR_ HO_163001.out⟩, ⟨bk_⟩, ⟨be_⟩⟩
                            · rw [if_neg c49] at H
                              exact absurd H (by simp)
                        · rw [if_neg c47] at H
                          exact absurd H (by simp)
                      · rw [if_neg c46] at H
                        exact absurd H (by simp)
              · rw [if_neg c31] at H
                have c31b0 : decide (x13_2 < (l0.length : Int)) = false := decide_eq_false c31
                clear c31
                have HC51 := Aside0.mk H
                clear H
                go_upto_if 80 with (fail)
                go_cut [10] (fun v10 wc => ∃ (kq : Nat) (x10_50 : List (S41)), Aside0 (spec_SetKept.j3 kq l0 x10_50 = some (r1, r2)) ∧ Aside0 (kq ≤ k2) ∧ Aside0 (Kd.V k41 41 wc w.heap.size (fun k_ => (P0_ k_ ∨ w.heap.size ≤ k_) ∧ some k_ ≠ (v10 : Value).ownBlock ∧ k_ ≠ gb162) (.slice A0 l0.length c0) l0) ∧ Aside0 (Kd.N k41 41 wc w.heap.size (fun k_ => (P0_ k_ ∨ w.heap.size ≤ k_) ∧ k_ ≠ gb162) v10 x10_50) ∧ Aside0 (Kd.R (Kd.int .u8) 5 wc w.heap.size (fun k_ => (w.heap.size ≤ k_)) (.slice Ao28 y159.length co28) y159) ∧ Aside0 (wc.heap[gb162]? = some (.cells #[.string a1, (.slice Ao28 y159.length co28), .int .i64 a3] 41 (0, 0))) ∧ Aside0 (Below w.heap.size w wc))
                case first =>
                  have H := HC51.out
                  clear HC51
                  by_cases c52 : x12_2 = true
                  · subst c52
                    replace H := bt_ H
                    have H' := Aside0.mk H
                    clear H
                    go_wp2
                    go_meet
                    case rel => exact ⟨_, (x10_2), H', ⟨by have := HJ4.out; have := HK2.out; first | omega | exact Nat.le_refl _⟩, ⟨lV_ HO_0.out⟩, ⟨lN_ HO_10.out⟩, ⟨lR_ HO_163001.out⟩, ⟨bk_⟩, ⟨be_⟩⟩
                  · replace c52 := Bool.eq_false_iff.mpr c52
                    subst c52
                    replace H := bf_ H
                    by_cases c53 : x10_2.length < 2932031007402
                    · rw [if_pos c53] at H
                      have LMc53 := Aside0.mk c53
                      clear c53
                      obtain ⟨y177, hy177⟩ : ∃ y_ : List (S41), y_ = (x10_2 ++ [(⟨a1, y159, a3⟩ : S41)]) := ⟨_, rfl⟩
                      (first | (with_reducible replace H := ys_ hy177 H; (try dsimp only at H)) | rw [← hy177] at H | skip)
                      have Ny177 := Aside0.mk hy177
                      clear hy177
                      have H' := Aside0.mk H
                      clear H
                      have hcz54_0 : wr.cell? ⟨gb162, 0, none⟩ = some (.string a1) := bc_ BK162 0
                      have hcz54_1 : wr.cell? ⟨gb162, 1, none⟩ = some (.slice Ao28 y159.length co28) := bc_ BK162 1
                      have hcz54_2 : wr.cell? ⟨gb162, 2, none⟩ = some (.int .i64 a3) := bc_ BK162 2
                      have hfz54_0 := blk_frozen BK162.out 0
                      have hfz54_1 := blk_frozen BK162.out 1
                      have hfz54_2 := blk_frozen BK162.out 2
                      go_wp2_with (first | ((with_reducible refine gate_builtin (b := .append) (xs := #[.tmp 81, .tmp 83]) rfl ?_); (try (refine gate_guard (by rfl) ?_; dsimp only)); at_builtin; refine Kd.N_append k41 (w0 := w) w.heap.size rfl (.tmp 81) (.tmp 83) 25 41 (.agg #[(.string ⟨#[]⟩), (.slice none 0 0), (.int .i64 0)]) 48 rfl Tryd.underlying25 info41 rfl (by decide) (by omega) u10 x10_2 (⟨a1, y159, a3⟩ : S41) [.string a1, .slice Ao28 y159.length co28, .int .i64 a3] (fun k_ => (P0_ k_ ∨ w.heap.size ≤ k_) ∧ k_ ≠ gb162) (fun k_ => ((fun k_ => (P0_ k_ ∨ w.heap.size ≤ k_) ∧ k_ ≠ gb162)) k_ ∧ some k_ ≠ (u10 : Value).ownBlock) rfl rfl ?aP (fun _ hk => hk) ?aF ?aO ?aB ?aS ?aL ?_; (case aP => exact (k41_mkF _ _ (⟨a1, y159, a3⟩ : S41) (Kd.R_reads' (Kd.R_mono (ok' := (fun k_ => ((fun k_ => (P0_ k_ ∨ w.heap.size ≤ k_) ∧ k_ ≠ gb162)) k_ ∧ some k_ ≠ (u10 : Value).ownBlock)) (Kd.R_types (Kd.R_apart' (HO_163001.out) (Kd.N_typed HO_10.out) (by decide)) BK162.out (by decide)) (fun k_ hk => ⟨⟨(.inr (hk.1.1)), hk.2⟩, hk.1.2⟩))).2.1 (Kd.R_F (Kd.R_mono (ok' := (fun k_ => ((fun k_ => (P0_ k_ ∨ w.heap.size ≤ k_) ∧ k_ ≠ gb162)) k_ ∧ some k_ ≠ (u10 : Value).ownBlock)) (Kd.R_types (Kd.R_apart' (HO_163001.out) (Kd.N_typed HO_10.out) (by decide)) BK162.out (by decide)) (fun k_ hk => ⟨⟨(.inr (hk.1.1)), hk.2⟩, hk.1.2⟩))))); (case aB => exact be_); (case aF => exact (fun k_ hk => ⟨(.inr (Nat.le_trans (below_size be_) hk)), Kd.freshB (g := gb162) (o := .cells #[.string a1, .slice Ao28 y159.length co28, .int .i64 a3] 41 (0, 0)) bk_ k_ hk⟩)); (case aO => exact (lN_ HO_10.out)); (case aS => exact (below_size be_)); (case aL => have := LMc53.out; omega); intro v178 w55 ho hb hg hat; rw [← Ny177.out] at ho; replace HO_163001 := Aside0.mk (Kd.R_over' (lR_ HO_163001.out) (Kd.N_typed (lN_ HO_10.out)) (by decide) hg); have n0_ := Aside0.mk (Kd.V_afterv (ok := (fun k_ => (P0_ k_ ∨ w.heap.size ≤ k_) ∧ k_ ≠ gb162)) (lV_ (Kd.V_mono HO_0.out (fun _ hk => ⟨⟨hk.1, hk.2.2⟩, hk.2.1⟩))) hg hat); have n1_ := Aside0.mk (blk_grown (g := gb162) (o := .cells #[.string a1, .slice Ao28 y159.length co28, .int .i64 a3] 41 (0, 0)) bk_ hg (Kd.N_away HO_10.out (fun _ hk => hk.2))); have n2_ := Aside0.mk (hb); have n3_ := Aside0.mk (ho); clear HO_0 BK162 HB HO_10;  have HO_0 := n0_; have BK162 := n1_; have HB := n2_; have HO179 := n3_; clear n0_ n1_ n2_ n3_ ho hb hg hat))
                      go_meet
                      case rel => exact ⟨_, (y177), H', ⟨by have := HJ4.out; have := HK2.out; first | omega | exact Nat.le_refl _⟩, ⟨lV_ (Kd.V_mono HO_0.out (fun _ hk => ⟨hk.1.1, ⟨hk.2, hk.1.2⟩⟩))⟩, ⟨lN_ HO179.out⟩, ⟨lR_ HO_163001.out⟩, ⟨bk_⟩, ⟨be_⟩⟩
                    · rw [if_neg c53] at H
                      exact absurd H (by simp)
                case rest =>
                  clear HC51
                  try clear c1
                  try clear p1
                  try clear q1
                  try clear hx1
                  try clear c2
                  try clear p2
                  try clear c3
                  try clear c4
                  try clear c5
                  try clear c6
                  try clear p6
                  try clear c7
                  try clear c9
                  try clear c10
                  try clear c10b0
                  try clear c10b1
                  try clear c16
                  try clear p16
                  try clear q16
                  try clear hx16
                  try clear c17
                  try clear p17
                  try clear q17
                  try clear hx17
                  try clear c18
                  try clear c19
                  try clear c22
                  try clear c25
                  try clear c31
                  try clear c31b0
                  try clear c33
                  try clear c34
                  try clear c34b0
                  try clear c35
                  try clear c36
                  try clear c37
                  try clear c37b0
                  try clear c38
                  try clear c38b0
                  try clear c39
                  try clear c39b0
                  try clear c39b1
                  try clear c42
                  try clear c46
                  try clear c46b0
                  try clear c47
                  try clear c47b0
                  try clear c48
                  try clear c48b0
                  try clear c48b1
                  try clear c49
                  try clear c52
                  try clear c53
                  try clear hcz30_0
                  try clear hcz30_1
                  try clear hcz30_2
                  try clear hcz40_0
                  try clear hcz40_1
                  try clear hcz40_2
                  try clear hcz43_0
                  try clear hcz43_1
                  try clear hcz43_2
                  try clear hcz54_0
                  try clear hcz54_1
                  try clear hcz54_2
                  try clear hfz30_0
                  try clear hfz30_1
                  try clear hfz30_2
                  try clear hfz40_0
                  try clear hfz40_1
                  try clear hfz40_2
                  try clear hfz43_0
                  try clear hfz43_1
                  try clear hfz43_2
                  try clear hfz54_0
                  try clear hfz54_1
                  try clear hfz54_2
                  try clear hx163_0
                  try clear hx163_1
                  try clear hx163_2
                  try clear hx167_0
                  try clear hx167_1
                  try clear hx167_2
                  try clear hx168_0
                  try clear hx168_1
                  try clear hx168_2
                  try clear hx172_0
                  try clear hx172_1
                  try clear hx172_2
                  try clear hx173_0
                  try clear hx173_1
                  try clear hx173_2
                  try clear p1
                  try clear p16
                  try clear p163
                  try clear p167
                  try clear p168
                  try clear p172
                  try clear p173
                  try clear p2
                  try clear q1
                  try clear q16
                  try clear q163
                  try clear q167
                  try clear q168
                  try clear q172
                  try clear q173
                  obtain ⟨kq, x10_50, HA, HJ50, HO_0, HO_10, HO_163001, BK162, HB⟩ := hcut
                  cases kq with
                  | zero => exact absurd HA.out (by simp [spec_SetKept.j3])
                  | succ kj50 =>
                    have H := HA.out
                    clear HA
                    simp only [spec_SetKept.j3] at H
                    replace H := bo_ H
                    obtain ⟨t180, A56, H⟩ := H
                    (try dsimp only at H)
                    by_cases c57 : t180 = true
                    · subst c57
                      replace H := bt_ H
                      replace H := bo_ H
                      obtain ⟨t181, A58, H⟩ := H
                      (try dsimp only at H)
                      simp only [Option.some.injEq, Prod.mk.injEq] at H
                      obtain ⟨rfl, rfl⟩ := H
                      obtain ⟨Ao59, co59, eo59⟩ := Kd.N_slice HO_10.out
                      subst eo59
                      go_wp2_with (first | ((with_reducible refine gate_callee (f := 18) rfl ?_); refine ca_ 86 Tryd.func18 #[.slice Ao59 x10_50.length co59] ?_; (with_reducible refine (spec_KeptOk.calls kj50 _ _ x10_50 true _ ?side1 ?side2 A56.out).mono ?_); (case side1 => exact cN_ HO_10); (case side2 => exact (Kd.N_reads' HO_10.out).2.1); rintro e w60 ⟨rfl, hb⟩; refine ⟨_, rfl, ?_⟩; replace HO_0 := bV_ HO_0 hb; replace HO_10 := bN_ HO_10 hb; replace HO_163001 := bR_ HO_163001 hb; replace HB := bw_ hb; replace BK162 := kb_ BK162 hb; clear hb) | ((with_reducible refine gate_callee (f := 25) rfl ?_); refine ca_ 91 Tryd.func25 #[.slice Ao59 x10_50.length co59] ?_; (with_reducible refine (spec_l9Copy.calls kj50 _ _ x10_50 t181 _ ?side1 ?side2 A58.out).mono ?_); (case side1 => exact cN_ HO_10); (case side2 => exact (Kd.N_reads' HO_10.out).2.1); rintro e w61 ⟨v182, rfl, ho0, hb⟩; refine ⟨_, rfl, ?_⟩; replace HO_0 := eV_ HO_0 (Kd.N_base (Kd.S_N ho0)) hb; replace HO_10 := eN_ HO_10 (Kd.N_base (Kd.S_N ho0)) hb; replace HO_163001 := bR_ HO_163001 hb; have HO183 := Aside0.mk (Kd.S_lower ho0 (below_size be_)); replace HB := bw_ hb; replace BK162 := kb_ BK162 hb; clear hb ho0))
                      go_ret2
                      exact ⟨_, er_, lS_ HO183.out, be_⟩
                    · replace c57 := Bool.eq_false_iff.mpr c57
                      subst c57
                      replace H := bf_ H
                      replace H := bo_ H
                      obtain ⟨t184, A62, H⟩ := H
                      (try dsimp only at H)
                      simp only [Option.some.injEq, Prod.mk.injEq] at H
                      obtain ⟨rfl, rfl⟩ := H
                      obtain ⟨Ao63, co63, eo63⟩ := Kd.N_slice HO_10.out
                      subst eo63
                      go_wp2_with (first | ((with_reducible refine gate_callee (f := 18) rfl ?_); refine ca_ 86 Tryd.func18 #[.slice Ao63 x10_50.length co63] ?_; (with_reducible refine (spec_KeptOk.calls kj50 _ _ x10_50 false _ ?side1 ?side2 A56.out).mono ?_); (case side1 => exact cN_ HO_10); (case side2 => exact (Kd.N_reads' HO_10.out).2.1); rintro e w64 ⟨rfl, hb⟩; refine ⟨_, rfl, ?_⟩; replace HO_0 := bV_ HO_0 hb; replace HO_10 := bN_ HO_10 hb; replace HO_163001 := bR_ HO_163001 hb; replace HB := bw_ hb; replace BK162 := kb_ BK162 hb; clear hb) | ((with_reducible refine gate_callee (f := 25) rfl ?_); refine ca_ 89 Tryd.func25 #[.slice A0 l0.length c0] ?_; (with_reducible refine (spec_l9Copy.calls kj50 _ _ l0 t184 _ ?side1 ?side2 A62.out).mono ?_); (case side1 => exact cV_ HO_0); (case side2 => exact (Kd.V_reads' HO_0.out).2.1); rintro e w65 ⟨v185, rfl, ho0, hb⟩; refine ⟨_, rfl, ?_⟩; replace HO_0 := eV_ HO_0 (Kd.N_base (Kd.S_N ho0)) hb; replace HO_10 := eN_ HO_10 (Kd.N_base (Kd.S_N ho0)) hb; replace HO_163001 := bR_ HO_163001 hb; have HO186 := Aside0.mk (Kd.S_lower ho0 (below_size be_)); replace HB := bw_ hb; replace BK162 := kb_ BK162 hb; clear hb ho0))
                      go_ret2
                      exact ⟨_, er_, lS_ HO186.out, be_⟩
        · rw [if_neg c22] at H
          exact absurd H (by simp)
theorem spec_SetKept.calls (k : Nat) (P0_ : Nat → Prop) (A0 : Option Addr) (c0 : Nat) (l0 : List (S41)) (a1 : ByteArray) (A2 : Option Addr) (c2 : Nat) (l2 : List Int) (a3 : Int) (r1 : List (S41)) (r2 : Bool) (w : World) (hs0 : Kd.V k41 41 w w.heap.size (fun k_ => P0_ k_) (.slice A0 l0.length c0) l0) (hr2 : Kd.C (Kd.int .u8) w A2 l2.length l2) (hc2 : l2.length ≤ c2) (h : spec_SetKept.f k l0 a1 l2 a3 = some (r1, r2)) :
    Calls Tryd.prog 6 #[.slice A0 l0.length c0, .string a1, .slice A2 l2.length c2, .int .i64 a3] w fun e w' => ∃ v0_ : Value, e = .returned (.tuple #[v0_, .bool r2]) ∧ Kd.N k41 41 w' w.heap.size (fun k_ => (P0_ k_ ∨ w.heap.size ≤ k_)) v0_ r1 ∧ Below w.heap.size w w' := by
  refine (spec_SetKept.callsS k P0_ A0 c0 l0 a1 A2 c2 l2 a3 r1 r2 w hs0 hr2 hc2 h).mono ?_
  rintro e w' ⟨v, he, hs, hb⟩
  exact ⟨v, he, Kd.N_mono (Kd.S_N (Kd.S_bound hs)) (fun k_ hk => .inr hk.2.1), hb⟩

end Go.Proofs.YtpigbffaacilfaaDoor.P
