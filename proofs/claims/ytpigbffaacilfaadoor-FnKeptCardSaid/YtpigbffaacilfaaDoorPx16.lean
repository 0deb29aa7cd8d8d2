-- Printed by a program over the kit's print.py (mp.sh), several laws in one namespace.
import Derived.Test.YtpigbffaacilfaaDoorPx0
import Derived.Test.YtpigbffaacilfaaDoorS
import Derived.Test.YtpigbffaacilfaaDoorPx6
import Derived.Test.YtpigbffaacilfaaDoorPx15
namespace Go.Proofs.YtpigbffaacilfaaDoor.P
open Go.RowKit Go.Proofs.YtpigbffaacilfaaDoor.X Go.Proofs.YtpigbffaacilfaaDoorW.PrintWords Go.Proofs.YtpigbffaacilfaaDoorW.PrintLast Go.Proofs.YtpigbffaacilfaaDoorW.PrintMore
attribute [local go_sem] max2_int min2_int max_two min_two max_three min_three max_four min_four   -- for this text's walks alone
set_option linter.unusedVariables false
set_option linter.unusedSimpArgs false

def spec_l1Bytes.l0 : Nat → Int → List Int → Int → List Int → Int → Int → Option (List Int × Int × Int)
  | 0, _, _, _, _, _, _ => none
  | k + 1, x1, x5, x6, x1000, x1001, x1002 => if x6 < x1 then ((spec_l1Byte.f x1000 x1001 x1002).bind fun bt352 => (if x5.length < 140737488355328 then (spec_l1Bytes.l0 k x1 (x5 ++ [(bt352.1) % 256]) (wrap64 (x6 + 1)) x1000 bt352.2.1 bt352.2.2) else (none))) else (some (x5, x1001, x1002))
def spec_l1Bytes.f (k : Nat) (s0_0 : List Int) (s0_1 : Int) (s0_2 : Int) (a1 : Int) : Option (List Int × Int × Int) := spec_l1Bytes.l0 k a1 (([] : List Int)) 0 s0_0 s0_1 s0_2
theorem spec_l1Bytes.mono_l : ∀ k, (∀ y0 y1 y2 y3 y4 y5, LeO (spec_l1Bytes.l0 k y0 y1 y2 y3 y4 y5) (spec_l1Bytes.l0 (k + 1) y0 y1 y2 y3 y4 y5))
  | 0 => fun _ _ _ _ _ _ r h => by simp [spec_l1Bytes.l0] at h
  | k + 1 => by
    have ih0 := spec_l1Bytes.mono_l k
    · intro y0 y1 y2 y3 y4 y5
      unfold spec_l1Bytes.l0
      repeat' first
      | (with_reducible exact ih0 _ _ _ _ _ _)
      | (with_reducible exact LeO.refl _)
      | (with_reducible exact LeO.none _)
      | (with_reducible refine LeO.ite ?_ ?_)
      | (with_reducible refine LeO.bind ?_ (fun _ => ?_))
      | exact ih0 _ _ _ _ _ _
      | exact LeO.none _
      | refine LeO.ite ?_ ?_
      | refine LeO.bind ?_ (fun _ => ?_)
theorem spec_l1Bytes.mono : ∀ a0 a1 a2 a3 k, LeO (spec_l1Bytes.f k a0 a1 a2 a3) (spec_l1Bytes.f (k + 1) a0 a1 a2 a3) := by
  intro a0 a1 a2 a3 k
  have ih0 := spec_l1Bytes.mono_l k
  unfold spec_l1Bytes.f
  repeat' first
      | (with_reducible exact ih0 _ _ _ _ _ _)
      | (with_reducible exact LeO.refl _)
      | (with_reducible exact LeO.none _)
      | (with_reducible refine LeO.ite ?_ ?_)
      | (with_reducible refine LeO.bind ?_ (fun _ => ?_))
      | exact ih0 _ _ _ _ _ _
      | exact LeO.none _
      | refine LeO.ite ?_ ?_
      | refine LeO.bind ?_ (fun _ => ?_)
set_option maxHeartbeats 8000000 in
set_option maxRecDepth 100000 in
theorem spec_l1Bytes.calls (k : Nat) (g : Nat) (s0_0 : List Int) (s0_1 : Int) (s0_2 : Int) (a1 : Int) (r1 : List Int) (r2 : Int) (r3 : Int) (w0 w : World) (hI : IsS71 w0 w g s0_0 s0_1 s0_2) (hB : Below w0.heap.size w0 w) (h : spec_l1Bytes.f k s0_0 s0_1 s0_2 a1 = some (r1, r2, r3)) :
    Calls Tryd.prog 42 #[.pointer (some ⟨g, 0, none⟩), .int .i64 a1] w fun e w' => ∃ v0_ : Value, e = .returned (v0_) ∧ Kd.R (Kd.int .u8) 5 w' w.heap.size (fun _ => True) v0_ r1 ∧ IsS71 w0 w' g s0_0 r2 r3 ∧ Below w0.heap.size w0 w' ∧ KeepBut w w' g none := by
  have HIz1 := Aside0.mk hI
  have HK := Aside0.mk (KeepBut.refl w g none)
  have HL := Aside0.mk hB.size
  clear hI
  have HWz1 := Aside0.mk hB.size
  have HB := Aside0.mk hB
  clear hB
  have H : (spec_l1Bytes.l0 k a1 (([] : List Int)) 0 s0_0 s0_1 s0_2) = some (r1, r2, r3) := h
  clear h
  obtain ⟨yz1, hyz1⟩ : ∃ y_ : List Int, y_ = (([] : List Int)) := ⟨_, rfl⟩
  (first | (with_reducible replace H := ys_ hyz1 H; (try dsimp only at H)) | rw [← hyz1] at H | skip)
  have Nyz1 := Aside0.mk hyz1
  clear hyz1
  have H' := Aside0.mk H
  clear H
  go_enter Tryd.func42, Tryd.ntmps42
  go_wp2_with (first | ((with_reducible refine gate_dst (N := 7) rfl ?_); refine Kd.R_lit (Kd.int .u8) _ 5 ?hg (N := 7) ?hd (xs := ([] : List Int)) (inner := []) (ok := fun _ => True) (okp := fun _ => True) ?hr ?hp (fun _ hk => hk) trivial (Below.refl _ _) (Nat.le_refl _) (by simp) ?_; (case hd => rfl); (case hg => rfl); (case hr => first | (go_simp; done) | (go_simp; rfl)); (case hp => exact (Reps.none _ _)); intro vz1 wz1 hoz1 hb hg_ hnew_; clear hg_ hnew_; (first | rw [← Nyz1.out] at hoz1 | (simp only [Int.reduceToNat] at hoz1; rw [← Nyz1.out] at hoz1)); have HOz1 := Aside0.mk (Kd.R_lower hoz1 (keep_size (w := w) (g := g) (row := none) kp_)); replace HK := Aside0.mk (KeepBut.trans kp_ (KeepBut.of_below hb g none) (.inl rfl)); replace HB := Aside0.mk (below_step (bx_ (IsS71.ge HIz1.out)) hb); replace HIz1 := Aside0.mk (IsS71.below (iss71_ HIz1.out) hb); clear hb hoz1))
  go_loopg [5, 6] k (fun kq v5 v6 w' => ∃ (x5_1 : List Int) (x6_1 : Int) (x1001_1 : Int) (x1002_1 : Int), v6 = .int .i64 x6_1 ∧ Aside0 (spec_l1Bytes.l0 kq a1 x5_1 x6_1 s0_0 x1001_1 x1002_1 = some (r1, r2, r3)) ∧ Aside0 (kq ≤ k) ∧ Aside0 (Kd.R (Kd.int .u8) 5 w' w.heap.size (fun _ => True) v5 x5_1) ∧ Aside0 (IsS71 w0 w' g s0_0 x1001_1 x1002_1) ∧ Aside0 (KeepBut w w' g none) ∧ Aside0 (Below w0.heap.size w0 w'))
  case atStart => exact ⟨(yz1), (0), (s0_1), (s0_2), rs_, H', ⟨Nat.le_refl _⟩, ⟨lR_ HOz1.out⟩, ⟨iss71_ HIz1.out⟩, ⟨kp_⟩, ⟨bx_ (IsS71.ge HIz1.out)⟩⟩
  case round =>
    clear H'
    try clear p2
    try clear c4
    obtain ⟨xz1, xz2, xz3, xz4, rfl, HA, HKz1, HO_5, HIz1, HK, HB⟩ := hrel
    cases gk with
    | zero => exact absurd HA.out (by simp [spec_l1Bytes.l0])
    | succ kz1 =>
      have H := HA.out
      clear HA
      simp only [spec_l1Bytes.l0] at H
      by_cases cz1 : xz2 < a1
      rotate_left
      · rw [if_neg cz1] at H
        have cz2 : decide (xz2 < a1) = false := decide_eq_false cz1
        clear cz1
        simp only [Option.some.injEq, Prod.mk.injEq] at H
        obtain ⟨rfl, rfl, rfl⟩ := H
        go_wp2
        go_ret
        exact ⟨_, er_, lR_ HO_5.out, iss71_ HIz1.out, bx_ (IsS71.ge HIz1.out), kp_⟩
      rw [if_pos cz1] at H
      have cz2 : decide (xz2 < a1) = true := decide_eq_true cz1
      clear cz1
      replace H := bo_ H
      obtain ⟨⟨tz1, tz2, tz3⟩, Az2, H⟩ := H
      (try dsimp only at H)
      by_cases cz3 : xz1.length < 140737488355328
      rotate_left
      · rw [if_neg cz3] at H
        exact absurd H (by simp)
      rw [if_pos cz3] at H
      have LMcz1 := Aside0.mk cz3
      clear cz3
      obtain ⟨yz2, hyz2⟩ : ∃ y_ : List Int, y_ = (xz1 ++ [(tz1) % 256]) := ⟨_, rfl⟩
      (first | (with_reducible replace H := ys_ hyz2 H; (try dsimp only at H)) | rw [← hyz2] at H | skip)
      have Nyz2 := Aside0.mk hyz2
      clear hyz2
      have H' := Aside0.mk H
      clear H
      go_wp2_with (first | ((with_reducible refine gate_callee (f := 60) rfl ?_); refine ca_ 15 Tryd.func60 #[.pointer (some ⟨g, 0, none⟩)] ?_; (with_reducible refine (spec_l1Byte.calls g s0_0 xz3 xz4 tz1 tz2 tz3 w0 _ ?side1 ?side2 Az2.out).mono ?_); (case side1 => exact iss71_ HIz1.out); (case side2 => exact bx_ (IsS71.ge HIz1.out)); rintro e wz2 ⟨rfl, hi, hb, hk⟩; refine ⟨_, rfl, ?_⟩; replace HO_5 := Aside0.mk (Kd.R_mono (Kd.R_keep (IsS71.apart (show IsS71 w0 _ g s0_0 xz3 xz4 from by repeat (first | (with_reducible first | exact HIz1.out | apply IsS71.alloc | apply IsS71.drewN | apply IsS71.drew | apply IsS71.set_1 | apply IsS71.set_2) | exact HIz1.out)) (lR_ HO_5.out) (by decide)) hk (fun _ h => h.2)) (fun _ h => h.1)); replace HK := Aside0.mk (KeepBut.trans kp_ hk (.inl rfl)); replace HB := Aside0.mk (hb); replace HIz1 := Aside0.mk (hi); clear hb hk hi) | ((with_reducible refine gate_builtin (b := .append) (xs := #[.tmp 13, .tmp 17]) rfl ?_); at_builtin; refine Kd.R_append (Kd.int .u8) w.heap.size rfl (.tmp 13) (.tmp 17) 23 5 (.int .u8 0) 1 rfl Tryd.underlying23 info5 rfl (by decide) (by omega) u5 xz1 ((tz1) % 256) [.int .u8 ((tz1) % 256)] (fun _ => True) (fun _ => False) rfl rfl ?aP (fun _ hk => hk.elim) ?aF ?aO (Below.refl _ _) ?aS ?aL ?_; (case aP => exact rfl); (case aF => exact (fun _ _ => trivial)); (case aO => exact (lR_ HO_5.out)); (case aS => exact (keep_size (w := w) (g := g) (row := none) kp_)); (case aL => have := LMcz1.out; omega); intro vz2 wz3 ho hb hg hat; rw [← Nyz2.out] at ho; replace HB := Aside0.mk (below_weaken (bx_ (IsS71.ge HIz1.out)) HL.out hb); replace HIz1 := Aside0.mk (IsS71.grown (iss71_ HIz1.out) hg (IsS71.own_ne HIz1.out HO_5.out (by decide))); replace HK := Aside0.mk (KeepBut.trans kp_ (KeepBut.of_grown hg g) (Kd.R_base2 HO_5.out)); have HOz2 := Aside0.mk (ho); clear HO_5 ho hb hg hat))
      go_roundg kz1
      case measure => have := HKz1.out; omega
      case rel => exact ⟨(yz2), (wrap64 (xz2 + 1)), (tz2), (tz3), rs_, H', ⟨by have := HKz1.out; omega⟩, ⟨lR_ HOz2.out⟩, ⟨iss71_ HIz1.out⟩, ⟨kp_⟩, ⟨bx_ (IsS71.ge HIz1.out)⟩⟩

def spec_l1Int.f (s0_0 : List Int) (s0_1 : Int) (s0_2 : Int) (l1 : List Int) : Option (Int × Int × Int) := (spec_l1Below.f s0_0 s0_1 s0_2 (l1.length : Int)).bind fun bt358 => (if 0 ≤ bt358.1 then (if bt358.1 < (l1.length : Int) then (some (rd l1 bt358.1, bt358.2.1, bt358.2.2)) else (none)) else (none))
set_option maxHeartbeats 8000000 in
set_option maxRecDepth 100000 in
theorem spec_l1Int.calls (g : Nat) (s0_0 : List Int) (s0_1 : Int) (s0_2 : Int) (A1 : Option Addr) (c1 : Nat) (l1 : List Int) (r1 : Int) (r2 : Int) (r3 : Int) (w0 w : World) (hI : IsS71 w0 w g s0_0 s0_1 s0_2) (hB : Below w0.heap.size w0 w) (hr1 : Kd.C (Kd.int .i64) w A1 l1.length l1) (hc1 : l1.length ≤ c1) (hf1 : ∀ ad, A1 = some ad → 0 < l1.length → ad.block ≠ g) (h : spec_l1Int.f s0_0 s0_1 s0_2 l1 = some (r1, r2, r3)) :
    Calls Tryd.prog 43 #[.pointer (some ⟨g, 0, none⟩), .slice A1 l1.length c1] w fun e w' => e = .returned (.int .i64 r1) ∧ IsS71 w0 w' g s0_0 r2 r3 ∧ Below w0.heap.size w0 w' ∧ KeepBut w w' g none := by
  have HRz1 := Aside0.mk hr1
  have HCz1 := Aside0.mk hc1
  clear hr1 hc1
  have HIz1 := Aside0.mk hI
  have HK := Aside0.mk (KeepBut.refl w g none)
  have HL := Aside0.mk hB.size
  clear hI
  have HWz1 := Aside0.mk hB.size
  have HB := Aside0.mk hB
  clear hB
  have H : ((spec_l1Below.f s0_0 s0_1 s0_2 (l1.length : Int)).bind fun bt358 => (if 0 ≤ bt358.1 then (if bt358.1 < (l1.length : Int) then (some (rd l1 bt358.1, bt358.2.1, bt358.2.2)) else (none)) else (none))) = some (r1, r2, r3) := h
  clear h
  replace H := bo_ H
  obtain ⟨⟨tz1, tz2, tz3⟩, Az2, H⟩ := H
  (try dsimp only at H)
  by_cases cz1 : 0 ≤ tz1
  rotate_left
  · rw [if_neg cz1] at H
    exact absurd H (by simp)
  rw [if_pos cz1] at H
  have cz2 : decide (0 ≤ tz1) = true := decide_eq_true cz1
  clear cz1
  by_cases cz3 : tz1 < (l1.length : Int)
  rotate_left
  · rw [if_neg cz3] at H
    exact absurd H (by simp)
  rw [if_pos cz3] at H
  have cz4 : decide (tz1 < (l1.length : Int)) = true := decide_eq_true cz3
  clear cz3
  simp only [Option.some.injEq, Prod.mk.injEq] at H
  obtain ⟨rfl, rfl, rfl⟩ := H
  go_enter Tryd.func43, Tryd.ntmps43
  go_wp2_with (first | ((with_reducible refine gate_callee (f := 57) rfl ?_); refine ca_ 9 Tryd.func57 #[.pointer (some ⟨g, 0, none⟩), .int .i64 (l1.length : Int)] ?_; (with_reducible refine (spec_l1Below.calls g s0_0 s0_1 s0_2 (l1.length : Int) tz1 tz2 tz3 w0 _ ?side1 ?side2 Az2.out).mono ?_); (case side1 => exact iss71_ HIz1.out); (case side2 => exact bx_ (IsS71.ge HIz1.out)); rintro e wz1 ⟨rfl, hi, hb, hk⟩; refine ⟨_, rfl, ?_⟩; replace HK := Aside0.mk (KeepBut.trans kp_ hk (.inl rfl)); replace HB := Aside0.mk (hb); replace HIz1 := Aside0.mk (hi); clear hb hk hi; have pz1 : 0 ≤ (tz1 : Int) := dt_; have qz1 : tz1 < (l1.length : Int) := dt_; obtain ⟨adz1, ez1, hxz1⟩ := Kd.at_int HRz1.out tz1 pz1 qz1; cases ez1; replace hxz1 := keep_cell HK.out hxz1 (by first | (rw [add_block]; exact hf1 _ rfl (by omega)) | exact hf1 _ rfl (by omega) | exact hf1 adz1 rfl (by omega)); replace pz1 := eq_true pz1; replace qz1 := eq_true qz1))
  go_ret
  exact ⟨er_, iss71_ HIz1.out, bx_ (IsS71.ge HIz1.out), kp_⟩

def spec_l9Draw.l0 : Nat → List (S41) → Int → List Int → Int → Int → Option ((List (S41)) × Int × Int)
  | 0, _, _, _, _, _ => none
  | k + 1, x5, x6, x1000, x1001, x1002 => if x6 > 0 then ((spec_l3Topic.f x1000 x1001 x1002).bind fun bt368 => ((spec_l1Below.f x1000 bt368.2.1 bt368.2.2 3).bind fun bt371 => ((spec_l1Bytes.f k x1000 bt371.2.1 bt371.2.2 (wrap64 (1 + bt371.1))).bind fun bt374 => ((spec_l1Below.f x1000 bt374.2.1 bt374.2.2 3).bind fun bt379 => ((spec_SetKept.f k x5 bt368.1 bt374.1 bt379.1).bind fun bt382 => (spec_l9Draw.l0 k bt382.1 (wrap64 (x6 - 1)) x1000 bt379.2.1 bt379.2.2)))))) else (some (x5, x1001, x1002))
def spec_l9Draw.f (k : Nat) (s0_0 : List Int) (s0_1 : Int) (s0_2 : Int) (a1 : Int) : Option ((List (S41)) × Int × Int) := (spec_l1Below.f s0_0 s0_1 s0_2 (wrap64 (a1 + 1))).bind fun bt365 => (spec_l9Draw.l0 k (([] : List (S41))) bt365.1 s0_0 bt365.2.1 bt365.2.2)
theorem spec_l9Draw.mono_l : ∀ k, (∀ y0 y1 y2 y3 y4, LeO (spec_l9Draw.l0 k y0 y1 y2 y3 y4) (spec_l9Draw.l0 (k + 1) y0 y1 y2 y3 y4))
  | 0 => fun _ _ _ _ _ r h => by simp [spec_l9Draw.l0] at h
  | k + 1 => by
    have ih0 := spec_l9Draw.mono_l k
    · intro y0 y1 y2 y3 y4
      unfold spec_l9Draw.l0
      repeat' first
      | (with_reducible exact ih0 _ _ _ _ _)
      | (with_reducible exact spec_SetKept.mono _ _ _ _ _)
      | (with_reducible exact spec_l1Bytes.mono _ _ _ _ _)
      | (with_reducible exact LeO.refl _)
      | (with_reducible exact LeO.none _)
      | (with_reducible refine LeO.ite ?_ ?_)
      | (with_reducible refine LeO.bind ?_ (fun _ => ?_))
      | exact ih0 _ _ _ _ _
      | exact spec_SetKept.mono _ _ _ _ _
      | exact spec_l1Bytes.mono _ _ _ _ _
      | exact LeO.none _
      | refine LeO.ite ?_ ?_
      | refine LeO.bind ?_ (fun _ => ?_)
theorem spec_l9Draw.mono : ∀ a0 a1 a2 a3 k, LeO (spec_l9Draw.f k a0 a1 a2 a3) (spec_l9Draw.f (k + 1) a0 a1 a2 a3) := by
  intro a0 a1 a2 a3 k
  have ih0 := spec_l9Draw.mono_l k
  unfold spec_l9Draw.f
  repeat' first
      | (with_reducible exact ih0 _ _ _ _ _)
      | (with_reducible exact spec_SetKept.mono _ _ _ _ _)
      | (with_reducible exact spec_l1Bytes.mono _ _ _ _ _)
      | (with_reducible exact LeO.refl _)
      | (with_reducible exact LeO.none _)
      | (with_reducible refine LeO.ite ?_ ?_)
      | (with_reducible refine LeO.bind ?_ (fun _ => ?_))
      | exact ih0 _ _ _ _ _
      | exact spec_SetKept.mono _ _ _ _ _
      | exact spec_l1Bytes.mono _ _ _ _ _
      | exact LeO.none _
      | refine LeO.ite ?_ ?_
      | refine LeO.bind ?_ (fun _ => ?_)
set_option maxHeartbeats 8000000 in
set_option maxRecDepth 100000 in
theorem spec_l9Draw.calls (k : Nat) (g : Nat) (s0_0 : List Int) (s0_1 : Int) (s0_2 : Int) (a1 : Int) (r1 : List (S41)) (r2 : Int) (r3 : Int) (w0 w : World) (hI : IsS71 w0 w g s0_0 s0_1 s0_2) (hB : Below w0.heap.size w0 w) (h : spec_l9Draw.f k s0_0 s0_1 s0_2 a1 = some (r1, r2, r3)) :
    Calls Tryd.prog 56 #[.pointer (some ⟨g, 0, none⟩), .int .i64 a1] w fun e w' => ∃ v0_ : Value, e = .returned (v0_) ∧ Kd.N k41 41 w' w.heap.size (fun k_ => (w.heap.size ≤ k_)) v0_ r1 ∧ IsS71 w0 w' g s0_0 r2 r3 ∧ Below w0.heap.size w0 w' ∧ KeepBut w w' g none := by
  have HIz1 := Aside0.mk hI
  have HK := Aside0.mk (KeepBut.refl w g none)
  have HL := Aside0.mk hB.size
  clear hI
  have HWz1 := Aside0.mk hB.size
  have HB := Aside0.mk hB
  clear hB
  have H : ((spec_l1Below.f s0_0 s0_1 s0_2 (wrap64 (a1 + 1))).bind fun bt365 => (spec_l9Draw.l0 k (([] : List (S41))) bt365.1 s0_0 bt365.2.1 bt365.2.2)) = some (r1, r2, r3) := h
  clear h
  obtain ⟨yz1, hyz1⟩ : ∃ y_ : List (S41), y_ = (([] : List (S41))) := ⟨_, rfl⟩
  (first | (with_reducible replace H := ys_ hyz1 H; (try dsimp only at H)) | rw [← hyz1] at H | skip)
  have Nyz1 := Aside0.mk hyz1
  clear hyz1
  replace H := bo_ H
  obtain ⟨⟨tz1, tz2, tz3⟩, Az2, H⟩ := H
  (try dsimp only at H)
  have H' := Aside0.mk H
  clear H
  go_enter Tryd.func56, Tryd.ntmps56
  go_wp2_with (first | ((with_reducible refine gate_dst (N := 8) rfl ?_); refine Kd.N_lit k41 _ 41 ?hg (N' := 8) ?hd (xs := ([] : List (S41))) (inner := []) (ok := (fun k_ => (w.heap.size ≤ k_) ∧ k_ ≠ g)) (okp := (fun k_ => (w.heap.size ≤ k_) ∧ k_ ≠ g)) ?hr ?hp (fun _ hk => hk) ((show ∀ k_, w.heap.size ≤ k_ → (fun k_ => (w.heap.size ≤ k_) ∧ k_ ≠ g) k_ from fun k_ hk => ⟨(Nat.le_trans (keep_size (w := w) (g := g) (row := none) kp_) hk), IsS71.fresh (iss71_ HIz1.out) k_ hk⟩) _ (Nat.le_refl _)) (Below.refl _ _) (Nat.le_refl _) (by simp) ?_; (case hd => rfl); (case hg => rfl); (case hr => first | (go_simp; done) | (go_simp; rfl)); (case hp => exact (Reps.none _ _)); intro vz1 wz1 hoz1 hb hg_ hnew_; clear hg_ hnew_; (first | rw [← Nyz1.out] at hoz1 | (simp only [Int.reduceToNat] at hoz1; rw [← Nyz1.out] at hoz1)); have HOz1 := Aside0.mk (Kd.N_lower hoz1 (keep_size (w := w) (g := g) (row := none) kp_)); replace HK := Aside0.mk (KeepBut.trans kp_ (KeepBut.of_below hb g none) (.inl rfl)); replace HB := Aside0.mk (below_step (bx_ (IsS71.ge HIz1.out)) hb); replace HIz1 := Aside0.mk (IsS71.below (iss71_ HIz1.out) hb); clear hb hoz1) | ((with_reducible refine gate_callee (f := 57) rfl ?_); refine ca_ 12 Tryd.func57 #[.pointer (some ⟨g, 0, none⟩), .int .i64 (wrap64 (a1 + 1))] ?_; (with_reducible refine (spec_l1Below.calls g s0_0 s0_1 s0_2 (wrap64 (a1 + 1)) tz1 tz2 tz3 w0 _ ?side1 ?side2 Az2.out).mono ?_); (case side1 => exact iss71_ HIz1.out); (case side2 => exact bx_ (IsS71.ge HIz1.out)); rintro e wz2 ⟨rfl, hi, hb, hk⟩; refine ⟨_, rfl, ?_⟩; replace HOz1 := Aside0.mk (Kd.N_mono (Kd.N_keep (Kd.N_mono (ok := fun k_ => (((w.heap.size ≤ k_)) ∧ k_ ≠ g)) (lN_ HOz1.out) (fun k_ hk_ => (⟨hk_, hk_.2⟩ : _ ∧ k_ ≠ g))) hk (fun _ h => h.2)) (fun _ h => h.1)); replace HK := Aside0.mk (KeepBut.trans kp_ hk (.inl rfl)); replace HB := Aside0.mk (hb); replace HIz1 := Aside0.mk (hi); clear hb hk hi))
  go_loopg [5, 6] k (fun kq v5 v6 w' => ∃ (x5_1 : List (S41)) (x6_1 : Int) (x1001_1 : Int) (x1002_1 : Int), v6 = .int .i64 x6_1 ∧ Aside0 (spec_l9Draw.l0 kq x5_1 x6_1 s0_0 x1001_1 x1002_1 = some (r1, r2, r3)) ∧ Aside0 (kq ≤ k) ∧ Aside0 (Kd.N k41 41 w' w.heap.size (fun k_ => (w.heap.size ≤ k_) ∧ k_ ≠ g) v5 x5_1) ∧ Aside0 (IsS71 w0 w' g s0_0 x1001_1 x1002_1) ∧ Aside0 (KeepBut w w' g none) ∧ Aside0 (Below w0.heap.size w0 w'))
  case atStart => exact ⟨(yz1), (tz1), (tz2), (tz3), rs_, H', ⟨Nat.le_refl _⟩, ⟨lN_ HOz1.out⟩, ⟨iss71_ HIz1.out⟩, ⟨kp_⟩, ⟨bx_ (IsS71.ge HIz1.out)⟩⟩
  case round =>
    clear H'
    try clear p2
    try clear c5
    try clear p6
    obtain ⟨xz1, xz2, xz3, xz4, rfl, HA, HKz1, HO_5, HIz1, HK, HB⟩ := hrel
    cases gk with
    | zero => exact absurd HA.out (by simp [spec_l9Draw.l0])
    | succ kz1 =>
      have H := HA.out
      clear HA
      simp only [spec_l9Draw.l0] at H
      by_cases cz1 : xz2 > 0
      rotate_left
      · rw [if_neg cz1] at H
        have cz2 : decide (0 < xz2) = false := decide_eq_false cz1
        clear cz1
        simp only [Option.some.injEq, Prod.mk.injEq] at H
        obtain ⟨rfl, rfl, rfl⟩ := H
        go_wp2
        go_ret
        exact ⟨_, er_, lN_ (Kd.N_mono HO_5.out (fun _ hk => hk.1)), iss71_ HIz1.out, bx_ (IsS71.ge HIz1.out), kp_⟩
      rw [if_pos cz1] at H
      have cz2 : decide (0 < xz2) = true := decide_eq_true cz1
      clear cz1
      replace H := bo_ H
      obtain ⟨⟨tz4, tz5, tz6⟩, Az4, H⟩ := H
      (try dsimp only at H)
      replace H := bo_ H
      obtain ⟨⟨tz7, tz8, tz9⟩, Az6, H⟩ := H
      (try dsimp only at H)
      replace H := bo_ H
      obtain ⟨⟨tz10, tz11, tz12⟩, Az8, H⟩ := H
      (try dsimp only at H)
      replace H := bo_ H
      obtain ⟨⟨tz13, tz14, tz15⟩, Az10, H⟩ := H
      (try dsimp only at H)
      replace H := bo_ H
      obtain ⟨⟨tz16, tz17⟩, Az12, H⟩ := H
      (try dsimp only at H)
      have H' := Aside0.mk H
      clear H
      go_wp2_with (first | ((with_reducible refine gate_callee (f := 39) rfl ?_); refine ca_ 18 Tryd.func39 #[.pointer (some ⟨g, 0, none⟩)] ?_; (with_reducible refine (spec_l3Topic.calls g s0_0 xz3 xz4 tz4 tz5 tz6 w0 _ ?side1 ?side2 Az4.out).mono ?_); (case side1 => exact iss71_ HIz1.out); (case side2 => exact bx_ (IsS71.ge HIz1.out)); rintro e wz3 ⟨rfl, hi, hb, hk⟩; refine ⟨_, rfl, ?_⟩; replace HO_5 := Aside0.mk (Kd.N_mono (Kd.N_keep (Kd.N_mono (ok := fun k_ => (((w.heap.size ≤ k_)) ∧ k_ ≠ g)) (lN_ HO_5.out) (fun k_ hk_ => (⟨hk_, hk_.2⟩ : _ ∧ k_ ≠ g))) hk (fun _ h => h.2)) (fun _ h => h.1)); replace HK := Aside0.mk (KeepBut.trans kp_ hk (.inl rfl)); replace HB := Aside0.mk (hb); replace HIz1 := Aside0.mk (hi); clear hb hk hi) | ((with_reducible refine gate_callee (f := 57) rfl ?_); refine ca_ 24 Tryd.func57 #[.pointer (some ⟨g, 0, none⟩), .int .i64 3] ?_; (with_reducible refine (spec_l1Below.calls g s0_0 tz5 tz6 3 tz7 tz8 tz9 w0 _ ?side1 ?side2 Az6.out).mono ?_); (case side1 => exact iss71_ HIz1.out); (case side2 => exact bx_ (IsS71.ge HIz1.out)); rintro e wz4 ⟨rfl, hi, hb, hk⟩; refine ⟨_, rfl, ?_⟩; replace HO_5 := Aside0.mk (Kd.N_mono (Kd.N_keep (Kd.N_mono (ok := fun k_ => (((w.heap.size ≤ k_)) ∧ k_ ≠ g)) (lN_ HO_5.out) (fun k_ hk_ => (⟨hk_, hk_.2⟩ : _ ∧ k_ ≠ g))) hk (fun _ h => h.2)) (fun _ h => h.1)); replace HK := Aside0.mk (KeepBut.trans kp_ hk (.inl rfl)); replace HB := Aside0.mk (hb); replace HIz1 := Aside0.mk (hi); clear hb hk hi) | ((with_reducible refine gate_callee (f := 42) rfl ?_); refine ca_ 26 Tryd.func42 #[.pointer (some ⟨g, 0, none⟩), .int .i64 (wrap64 (1 + tz7))] ?_; (with_reducible refine (spec_l1Bytes.calls kz1 g s0_0 tz8 tz9 (wrap64 (1 + tz7)) tz10 tz11 tz12 w0 _ ?side1 ?side2 Az8.out).mono ?_); (case side1 => exact iss71_ HIz1.out); (case side2 => exact bx_ (IsS71.ge HIz1.out)); rintro e wz5 ⟨vz2, rfl, hoz2, hi, hb, hk⟩; refine ⟨_, rfl, ?_⟩; replace HO_5 := Aside0.mk (Kd.N_mono (Kd.N_told (Kd.N_oldK (Kd.N_mono (ok := fun k_ => (((w.heap.size ≤ k_)) ∧ k_ ≠ g)) (lN_ HO_5.out) (fun k_ hk_ => (⟨hk_, hk_.2⟩ : _ ∧ k_ ≠ g))) hk) (Kd.R_base hoz2)) (fun _ h_ => h_.1)); have HOz2 := Aside0.mk (Kd.R_lower (Kd.R_newM (M := fun k_ => (w.heap.size ≤ k_)) hoz2 (keep_size (w := w) (g := g) (row := none) kp_) (fun k_ h_ => h_)) (keep_size (w := w) (g := g) (row := none) kp_)); replace HK := Aside0.mk (KeepBut.trans kp_ hk (.inl rfl)); replace HB := Aside0.mk (hb); replace HIz1 := Aside0.mk (hi); clear hb hk hi hoz2) | ((with_reducible refine gate_callee (f := 57) rfl ?_); refine ca_ 28 Tryd.func57 #[.pointer (some ⟨g, 0, none⟩), .int .i64 3] ?_; (with_reducible refine (spec_l1Below.calls g s0_0 tz11 tz12 3 tz13 tz14 tz15 w0 _ ?side1 ?side2 Az10.out).mono ?_); (case side1 => exact iss71_ HIz1.out); (case side2 => exact bx_ (IsS71.ge HIz1.out)); rintro e wz6 ⟨rfl, hi, hb, hk⟩; refine ⟨_, rfl, ?_⟩; replace HO_5 := Aside0.mk (Kd.N_mono (Kd.N_keep (Kd.N_mono (ok := fun k_ => ((((w.heap.size ≤ k_)) ∧ k_ ≠ g) ∧ some k_ ≠ (vz2 : Value).ownBlock)) (lN_ HO_5.out) (fun k_ hk_ => (⟨hk_, hk_.1.2⟩ : _ ∧ k_ ≠ g))) hk (fun _ h => h.2)) (fun _ h => h.1)); replace HOz2 := Aside0.mk (Kd.R_mono (Kd.R_keep (IsS71.apart (show IsS71 w0 _ g s0_0 tz11 tz12 from by repeat (first | (with_reducible first | exact HIz1.out | apply IsS71.alloc | apply IsS71.drewN | apply IsS71.drew | apply IsS71.set_1 | apply IsS71.set_2) | exact HIz1.out)) (lR_ HOz2.out) (by decide)) hk (fun _ h => h.2)) (fun _ h => h.1)); replace HK := Aside0.mk (KeepBut.trans kp_ hk (.inl rfl)); replace HB := Aside0.mk (hb); replace HIz1 := Aside0.mk (hi); clear hb hk hi; obtain ⟨Aoz1, coz1, eoz1⟩ := Kd.N_slice HO_5.out; subst eoz1; obtain ⟨Aoz2, coz2, eoz2⟩ := Kd.R_slice HOz2.out; subst eoz2) | ((with_reducible refine gate_callee (f := 6) rfl ?_); refine ca_ 29 Tryd.func6 #[.slice Aoz1 xz1.length coz1, .string tz4, .slice Aoz2 tz10.length coz2, .int .i64 tz13] ?_; (with_reducible refine (spec_SetKept.calls kz1 (fun k_ => (((w.heap.size ≤ k_) ∧ k_ ≠ g) ∧ some k_ ≠ (.slice Aoz2 tz10.length coz2 : Value).ownBlock)) _ _ xz1 tz4 _ _ tz10 tz13 tz16 tz17 _ ?side1 ?side2 ?side3 Az12.out).mono ?_); (case side1 => exact Kd.N_V (HO_5.out)); (case side2 => exact cR_ HOz2); (case side3 => exact (Kd.R_reads' HOz2.out).2.1); rintro e wz7 ⟨vz3, rfl, hoz2, hb⟩; refine ⟨_, rfl, ?_⟩; replace HO_5 := eN_ HO_5 (Kd.N_base hoz2) hb; have HOz3 := Aside0.mk (Kd.N_lower (Kd.N_mono (ok' := fun k_ => (w.heap.size ≤ k_) ∧ some k_ ≠ (.slice Aoz2 tz10.length coz2 : Value).ownBlock ∧ k_ ≠ g) hoz2 (fun k_ hk_ => ⟨Or.elim hk_ (fun hs_ => hs_.1.1) (fun hn_ => (Nat.le_trans (keep_size (w := w) (g := g) (row := none) kp_) hn_)), Or.elim hk_ (fun hs_ => hs_.2) (fun hn_ => (Kd.fresh' (Kd.R_lt (lR_ HOz2.out)) k_ hn_)), Or.elim hk_ (fun hs_ => hs_.1.2) (fun hn_ => (IsS71.fresh (iss71_ HIz1.out) k_ hn_))⟩)) (keep_size (w := w) (g := g) (row := none) kp_)); replace HOz2 := bR_ HOz2 hb; replace HK := Aside0.mk (KeepBut.trans kp_ (KeepBut.of_below hb g none) (.inl rfl)); replace HB := Aside0.mk (below_step (bx_ (IsS71.ge HIz1.out)) hb); replace HIz1 := Aside0.mk (IsS71.below (iss71_ HIz1.out) hb); clear hb hoz2))
      go_roundg kz1
      case measure => have := HKz1.out; omega
      case rel => exact ⟨(tz16), (wrap64 (xz2 - 1)), (tz14), (tz15), rs_, H', ⟨by have := HKz1.out; omega⟩, ⟨lN_ (Kd.N_mono HOz3.out (fun _ hk => ⟨hk.1, hk.2.2⟩))⟩, ⟨iss71_ HIz1.out⟩, ⟨kp_⟩, ⟨bx_ (IsS71.ge HIz1.out)⟩⟩

def spec_l9Any.f (k : Nat) (s0_0 : List Int) (s0_1 : Int) (s0_2 : Int) : Option ((List (S41)) × Int × Int) := (spec_l9Draw.f k s0_0 s0_1 s0_2 14).bind fun bt386 => (if (bt386.1.length : Int) = 0 then (some (bt386.1, bt386.2.1, bt386.2.2)) else ((spec_l1Below.f s0_0 bt386.2.1 bt386.2.2 (bt386.1.length : Int)).bind fun bt391 => ((spec_l1Below.f s0_0 bt391.2.1 bt391.2.2 10).bind fun bt394 => (if bt394.1 = 0 then ((spec_l3Any.f s0_0 bt394.2.1 bt394.2.2).bind fun bt397 => (if 0 ≤ bt391.1 then (if bt391.1 < (bt386.1.length : Int) then (some ((bt386.1.set (bt391.1 : Int).toNat (⟨bt397.1, (rd_T41 bt386.1 bt391.1).f1, (rd_T41 bt386.1 bt391.1).f2⟩ : S41)), bt397.2.1, bt397.2.2)) else (none)) else (none))) else (if bt394.1 = 1 then ((spec_l1Int.f s0_0 bt394.2.1 bt394.2.2 (([0, 40, 41] : List Int))).bind fun bt404 => ((spec_l1Bytes.f k s0_0 bt404.2.1 bt404.2.2 bt404.1).bind fun bt407 => (if 0 ≤ bt391.1 then (if bt391.1 < (bt386.1.length : Int) then (some ((bt386.1.set (bt391.1 : Int).toNat (⟨(rd_T41 bt386.1 bt391.1).f0, bt407.1, (rd_T41 bt386.1 bt391.1).f2⟩ : S41)), bt407.2.1, bt407.2.2)) else (none)) else (none)))) else (if bt394.1 = 2 then ((spec_l1Int.f s0_0 bt394.2.1 bt394.2.2 (([3, (-1)] : List Int))).bind fun bt416 => (if 0 ≤ bt391.1 then (if bt391.1 < (bt386.1.length : Int) then (some ((bt386.1.set (bt391.1 : Int).toNat (⟨(rd_T41 bt386.1 bt391.1).f0, (rd_T41 bt386.1 bt391.1).f1, bt416.1⟩ : S41)), bt416.2.1, bt416.2.2)) else (none)) else (none))) else (if bt394.1 = 3 then (if 0 ≤ bt391.1 then (if bt391.1 < (bt386.1.length : Int) then (if bt386.1.length < 2932031007402 then (some ((bt386.1 ++ [(⟨(rd_T41 bt386.1 bt391.1).f0, (rd_T41 bt386.1 bt391.1).f1, (rd_T41 bt386.1 bt391.1).f2⟩ : S41)]), bt394.2.1, bt394.2.2)) else (none)) else (none)) else (none)) else (some (bt386.1, bt394.2.1, bt394.2.2)))))))))
theorem spec_l9Any.mono : ∀ a0 a1 a2 k, LeO (spec_l9Any.f k a0 a1 a2) (spec_l9Any.f (k + 1) a0 a1 a2) := by
  intro a0 a1 a2 k
  unfold spec_l9Any.f
  repeat' first
      | (with_reducible exact spec_l1Bytes.mono _ _ _ _ _)
      | (with_reducible exact spec_l9Draw.mono _ _ _ _ _)
      | (with_reducible exact LeO.refl _)
      | (with_reducible exact LeO.none _)
      | (with_reducible refine LeO.ite ?_ ?_)
      | (with_reducible refine LeO.bind ?_ (fun _ => ?_))
      | exact spec_l1Bytes.mono _ _ _ _ _
      | exact spec_l9Draw.mono _ _ _ _ _
      | exact LeO.none _
      | refine LeO.ite ?_ ?_
      | refine LeO.bind ?_ (fun _ => ?_)
set_option maxHeartbeats 8000000 in
set_option maxRecDepth 100000 in
theorem spec_l9Any.calls (k : Nat) (g : Nat) (s0_0 : List Int) (s0_1 : Int) (s0_2 : Int) (r1 : List (S41)) (r2 : Int) (r3 : Int) (w0 w : World) (hI : IsS71 w0 w g s0_0 s0_1 s0_2) (hB : Below w0.heap.size w0 w) (h : spec_l9Any.f k s0_0 s0_1 s0_2 = some (r1, r2, r3)) :
    Calls Tryd.prog 38 #[.pointer (some ⟨g, 0, none⟩)] w fun e w' => ∃ v0_ : Value, e = .returned (v0_) ∧ Kd.N k41 41 w' w.heap.size (fun k_ => (w.heap.size ≤ k_)) v0_ r1 ∧ IsS71 w0 w' g s0_0 r2 r3 ∧ Below w0.heap.size w0 w' ∧ KeepBut w w' g none := by
  have huz1 := Tryd.underlying41
  have HIz1 := Aside0.mk hI
  have HK := Aside0.mk (KeepBut.refl w g none)
  have HL := Aside0.mk hB.size
  clear hI
  have HWz1 := Aside0.mk hB.size
  have HB := Aside0.mk hB
  clear hB
  have H : ((spec_l9Draw.f k s0_0 s0_1 s0_2 14).bind fun bt386 => (if (bt386.1.length : Int) = 0 then (some (bt386.1, bt386.2.1, bt386.2.2)) else ((spec_l1Below.f s0_0 bt386.2.1 bt386.2.2 (bt386.1.length : Int)).bind fun bt391 => ((spec_l1Below.f s0_0 bt391.2.1 bt391.2.2 10).bind fun bt394 => (if bt394.1 = 0 then ((spec_l3Any.f s0_0 bt394.2.1 bt394.2.2).bind fun bt397 => (if 0 ≤ bt391.1 then (if bt391.1 < (bt386.1.length : Int) then (some ((bt386.1.set (bt391.1 : Int).toNat (⟨bt397.1, (rd_T41 bt386.1 bt391.1).f1, (rd_T41 bt386.1 bt391.1).f2⟩ : S41)), bt397.2.1, bt397.2.2)) else (none)) else (none))) else (if bt394.1 = 1 then ((spec_l1Int.f s0_0 bt394.2.1 bt394.2.2 (([0, 40, 41] : List Int))).bind fun bt404 => ((spec_l1Bytes.f k s0_0 bt404.2.1 bt404.2.2 bt404.1).bind fun bt407 => (if 0 ≤ bt391.1 then (if bt391.1 < (bt386.1.length : Int) then (some ((bt386.1.set (bt391.1 : Int).toNat (⟨(rd_T41 bt386.1 bt391.1).f0, bt407.1, (rd_T41 bt386.1 bt391.1).f2⟩ : S41)), bt407.2.1, bt407.2.2)) else (none)) else (none)))) else (if bt394.1 = 2 then ((spec_l1Int.f s0_0 bt394.2.1 bt394.2.2 (([3, (-1)] : List Int))).bind fun bt416 => (if 0 ≤ bt391.1 then (if bt391.1 < (bt386.1.length : Int) then (some ((bt386.1.set (bt391.1 : Int).toNat (⟨(rd_T41 bt386.1 bt391.1).f0, (rd_T41 bt386.1 bt391.1).f1, bt416.1⟩ : S41)), bt416.2.1, bt416.2.2)) else (none)) else (none))) else (if bt394.1 = 3 then (if 0 ≤ bt391.1 then (if bt391.1 < (bt386.1.length : Int) then (if bt386.1.length < 2932031007402 then (some ((bt386.1 ++ [(⟨(rd_T41 bt386.1 bt391.1).f0, (rd_T41 bt386.1 bt391.1).f1, (rd_T41 bt386.1 bt391.1).f2⟩ : S41)]), bt394.2.1, bt394.2.2)) else (none)) else (none)) else (none)) else (some (bt386.1, bt394.2.1, bt394.2.2)))))))))) = some (r1, r2, r3) := h
  clear h
  replace H := bo_ H
  obtain ⟨⟨tz1, tz2, tz3⟩, Az2, H⟩ := H
  (try dsimp only at H)
  by_cases cz1 : (tz1.length : Int) = 0
  · rw [if_pos cz1] at H
    have cz2 : ((tz1.length : Int) == 0) = true := beq_iff_eq.mpr cz1
    have cz3 : ((tz1.length : Int) != 0) = false := bne_eq_false_iff_eq.mpr cz1
    clear cz1
    simp only [Option.some.injEq, Prod.mk.injEq] at H
    obtain ⟨rfl, rfl, rfl⟩ := H
    go_enter Tryd.func38, Tryd.ntmps38
    go_wp2_with (first | ((with_reducible refine gate_callee (f := 56) rfl ?_); refine ca_ 6 Tryd.func56 #[.pointer (some ⟨g, 0, none⟩), .int .i64 14] ?_; (with_reducible refine (spec_l9Draw.calls k g s0_0 s0_1 s0_2 14 tz1 tz2 tz3 w0 _ ?side1 ?side2 Az2.out).mono ?_); (case side1 => exact iss71_ HIz1.out); (case side2 => exact bx_ (IsS71.ge HIz1.out)); rintro e wz1 ⟨vz1, rfl, hoz1, hi, hb, hk⟩; refine ⟨_, rfl, ?_⟩; have HOz1 := Aside0.mk (Kd.N_lower (Kd.N_mono (ok' := fun k_ => (w.heap.size ≤ k_) ∧ k_ ≠ g) hoz1 (fun k_ hk_ => ⟨(Nat.le_trans (keep_size (w := w) (g := g) (row := none) kp_) hk_), (IsS71.fresh (iss71_ HIz1.out) k_ hk_)⟩)) (keep_size (w := w) (g := g) (row := none) kp_)); replace HK := Aside0.mk (KeepBut.trans kp_ hk (.inl rfl)); replace HB := Aside0.mk (hb); replace HIz1 := Aside0.mk (hi); clear hb hk hi hoz1; obtain ⟨Aoz1, coz1, eoz1⟩ := Kd.N_slice HOz1.out; subst eoz1))
    go_ret
    exact ⟨_, er_, lN_ (Kd.N_mono HOz1.out (fun _ hk => hk.1)), iss71_ HIz1.out, bx_ (IsS71.ge HIz1.out), kp_⟩
  rw [if_neg cz1] at H
  have cz2 : ((tz1.length : Int) == 0) = false := beq_eq_false_iff_ne.mpr cz1
  have cz3 : ((tz1.length : Int) != 0) = true := bne_iff_ne.mpr cz1
  have cz4 : ¬ (tz1 = []) := fun h_ => cz1 (by rw [h_]; rfl)
  replace H := bo_ H
  obtain ⟨⟨tz4, tz5, tz6⟩, Az4, H⟩ := H
  (try dsimp only at H)
  replace H := bo_ H
  obtain ⟨⟨tz7, tz8, tz9⟩, Az6, H⟩ := H
  (try dsimp only at H)
  by_cases cz5 : tz7 = 0
  · rw [if_pos cz5] at H
    have cz6 : (tz7 == 0) = true := beq_iff_eq.mpr cz5
    have cz7 : (tz7 != 0) = false := bne_eq_false_iff_eq.mpr cz5
    clear cz5
    replace H := bo_ H
    obtain ⟨⟨tz10, tz11, tz12⟩, Az8, H⟩ := H
    (try dsimp only at H)
    by_cases cz8 : 0 ≤ tz4
    rotate_left
    · rw [if_neg cz8] at H
      exact absurd H (by simp)
    rw [if_pos cz8] at H
    have cz9 : decide (0 ≤ tz4) = true := decide_eq_true cz8
    clear cz8
    by_cases cz10 : tz4 < (tz1.length : Int)
    rotate_left
    · rw [if_neg cz10] at H
      exact absurd H (by simp)
    rw [if_pos cz10] at H
    have cz11 : decide (tz4 < (tz1.length : Int)) = true := decide_eq_true cz10
    clear cz10
    obtain ⟨yz1, hyz1⟩ : ∃ y_ : List (S41), y_ = (tz1.set (tz4 : Int).toNat (⟨tz10, (rd_T41 tz1 tz4).f1, (rd_T41 tz1 tz4).f2⟩ : S41)) := ⟨_, rfl⟩
    (first | (with_reducible replace H := ys_ hyz1 H; (try dsimp only at H)) | rw [← hyz1] at H | skip)
    have Nyz1 := Aside0.mk hyz1
    clear hyz1
    simp only [Option.some.injEq, Prod.mk.injEq] at H
    obtain ⟨rfl, rfl, rfl⟩ := H
    go_enter Tryd.func38, Tryd.ntmps38
    go_wp2_with (first | ((with_reducible refine gate_callee (f := 56) rfl ?_); refine ca_ 6 Tryd.func56 #[.pointer (some ⟨g, 0, none⟩), .int .i64 14] ?_; (with_reducible refine (spec_l9Draw.calls k g s0_0 s0_1 s0_2 14 tz1 tz2 tz3 w0 _ ?side1 ?side2 Az2.out).mono ?_); (case side1 => exact iss71_ HIz1.out); (case side2 => exact bx_ (IsS71.ge HIz1.out)); rintro e wz1 ⟨vz1, rfl, hoz1, hi, hb, hk⟩; refine ⟨_, rfl, ?_⟩; have HOz1 := Aside0.mk (Kd.N_lower (Kd.N_mono (ok' := fun k_ => (w.heap.size ≤ k_) ∧ k_ ≠ g) hoz1 (fun k_ hk_ => ⟨(Nat.le_trans (keep_size (w := w) (g := g) (row := none) kp_) hk_), (IsS71.fresh (iss71_ HIz1.out) k_ hk_)⟩)) (keep_size (w := w) (g := g) (row := none) kp_)); replace HK := Aside0.mk (KeepBut.trans kp_ hk (.inl rfl)); replace HB := Aside0.mk (hb); replace HIz1 := Aside0.mk (hi); clear hb hk hi hoz1; obtain ⟨Aoz1, coz1, eoz1⟩ := Kd.N_slice HOz1.out; subst eoz1) | ((with_reducible refine gate_callee (f := 57) rfl ?_); refine ca_ 14 Tryd.func57 #[.pointer (some ⟨g, 0, none⟩), .int .i64 (tz1.length : Int)] ?_; (with_reducible refine (spec_l1Below.calls g s0_0 tz2 tz3 (tz1.length : Int) tz4 tz5 tz6 w0 _ ?side1 ?side2 Az4.out).mono ?_); (case side1 => exact iss71_ HIz1.out); (case side2 => exact bx_ (IsS71.ge HIz1.out)); rintro e wz2 ⟨rfl, hi, hb, hk⟩; refine ⟨_, rfl, ?_⟩; replace HOz1 := Aside0.mk (Kd.N_mono (Kd.N_keep (Kd.N_mono (ok := fun k_ => (((w.heap.size ≤ k_)) ∧ k_ ≠ g)) (lN_ HOz1.out) (fun k_ hk_ => (⟨hk_, hk_.2⟩ : _ ∧ k_ ≠ g))) hk (fun _ h => h.2)) (fun _ h => h.1)); replace HK := Aside0.mk (KeepBut.trans kp_ hk (.inl rfl)); replace HB := Aside0.mk (hb); replace HIz1 := Aside0.mk (hi); clear hb hk hi) | ((with_reducible refine gate_callee (f := 57) rfl ?_); refine ca_ 16 Tryd.func57 #[.pointer (some ⟨g, 0, none⟩), .int .i64 10] ?_; (with_reducible refine (spec_l1Below.calls g s0_0 tz5 tz6 10 tz7 tz8 tz9 w0 _ ?side1 ?side2 Az6.out).mono ?_); (case side1 => exact iss71_ HIz1.out); (case side2 => exact bx_ (IsS71.ge HIz1.out)); rintro e wz3 ⟨rfl, hi, hb, hk⟩; refine ⟨_, rfl, ?_⟩; replace HOz1 := Aside0.mk (Kd.N_mono (Kd.N_keep (Kd.N_mono (ok := fun k_ => (((w.heap.size ≤ k_)) ∧ k_ ≠ g)) (lN_ HOz1.out) (fun k_ hk_ => (⟨hk_, hk_.2⟩ : _ ∧ k_ ≠ g))) hk (fun _ h => h.2)) (fun _ h => h.1)); replace HK := Aside0.mk (KeepBut.trans kp_ hk (.inl rfl)); replace HB := Aside0.mk (hb); replace HIz1 := Aside0.mk (hi); clear hb hk hi) | ((with_reducible refine gate_callee (f := 41) rfl ?_); refine ca_ 22 Tryd.func41 #[.pointer (some ⟨g, 0, none⟩)] ?_; (with_reducible refine (spec_l3Any.calls g s0_0 tz8 tz9 tz10 tz11 tz12 w0 _ ?side1 ?side2 Az8.out).mono ?_); (case side1 => exact iss71_ HIz1.out); (case side2 => exact bx_ (IsS71.ge HIz1.out)); rintro e wz4 ⟨rfl, hi, hb, hk⟩; refine ⟨_, rfl, ?_⟩; replace HOz1 := Aside0.mk (Kd.N_mono (Kd.N_keep (Kd.N_mono (ok := fun k_ => (((w.heap.size ≤ k_)) ∧ k_ ≠ g)) (lN_ HOz1.out) (fun k_ hk_ => (⟨hk_, hk_.2⟩ : _ ∧ k_ ≠ g))) hk (fun _ h => h.2)) (fun _ h => h.1)); replace HK := Aside0.mk (KeepBut.trans kp_ hk (.inl rfl)); replace HB := Aside0.mk (hb); replace HIz1 := Aside0.mk (hi); clear hb hk hi; have pz1 : 0 ≤ (tz4 : Int) := dt_; have qz1 : (tz4 : Int) < ((tz1.length : Int) : Int) := dt_; obtain ⟨goz1, coz2, eoz2, gbz1, glz1, clz1, HGz1⟩ := Kd.N_form HOz1.out (by omega); (first | cases eoz2 | (injection eoz2 with ea_ en_ ec_; (first | subst ea_ | (injection ea_ with ea_; subst ea_)); subst ec_; clear en_)); have GBz1 := Aside0.mk gbz1; have GGz1 := Aside0.mk HGz1; clear gbz1 glz1 HGz1; obtain ⟨cez1, hclz1, hMz1, hccz1, hfrz1⟩ := Kd.N_elem HOz1.out z41 (tz4 : Int) pz1 qz1; obtain ⟨uaz1, ucz1, rfl, ulz1, gez1⟩ := k41_openF hMz1; have hxz1 : wz4.cell? ⟨goz1, (tz4 : Int).toNat * 3, none⟩ = some (.string ((rd_T41 tz1 tz4).f0)) := hccz1 0 _ rfl; have hxz2 : wz4.cell? ⟨goz1, (tz4 : Int).toNat * 3 + 1, none⟩ = some (.slice uaz1 ((rd_T41 tz1 tz4).f1).length ucz1) := hccz1 1 _ rfl; have hxz3 : wz4.cell? ⟨goz1, (tz4 : Int).toNat * 3 + 2, none⟩ = some (.int .i64 ((rd_T41 tz1 tz4).f2)) := hccz1 2 _ rfl; have hfz1 : wz4.frozen? ⟨goz1, (tz4 : Int).toNat * 3, none⟩ = false := hfrz1 0; have hfz2 : wz4.frozen? ⟨goz1, (tz4 : Int).toNat * 3 + 1, none⟩ = false := hfrz1 1; have hfz3 : wz4.frozen? ⟨goz1, (tz4 : Int).toNat * 3 + 2, none⟩ = false := hfrz1 2; clear hclz1 hccz1 hfrz1 hMz1; replace pz1 := eq_true pz1; replace qz1 := eq_true qz1; have HXz1 := Aside0.mk (show Kd.N k41 41 wz4 w.heap.size (fun k_ => (w.heap.size ≤ k_) ∧ k_ ≠ g) (.slice (some ⟨goz1, 0, none⟩) tz1.length coz1) tz1 from (lN_ HOz1.out)); obtain ⟨cez2, hclz2, hMz2, hccz2, hfrz2⟩ := Kd.N_elem HXz1.out z41 (tz4 : Int) (dt_) (by have h_ : (tz4 : Int) < ((tz1.length : Int) : Int) := dt_; first | exact h_ | (have e_ := (Kd.N_reads' HOz1.out).1; omega) | simpa using h_); obtain ⟨uaz2, ucz2, rfl, ulz2, gez2⟩ := k41_openF hMz2; have HPz1 := Kd.N_seg HXz1.out (tz4 : Int) (dt_) (by have h_ : (tz4 : Int) < ((tz1.length : Int) : Int) := dt_; first | exact h_ | (have e_ := (Kd.N_reads' HOz1.out).1; omega) | simpa using h_) (seg := [.string tz10]) (j := 0) hclz2 hccz2 (show 1 ≤ 3 from by decide) (x' := (⟨tz10, (rd_T41 tz1 tz4).f1, (rd_T41 tz1 tz4).f2⟩ : S41)) (k41_mkF _ _ (⟨tz10, (rd_T41 tz1 tz4).f1, (rd_T41 tz1 tz4).f2⟩ : S41) ulz2 gez2) (fun _ hk => hk); have hxz4 := hccz2 0 _ rfl; (try simp only [show (k41).sz = 3 from rfl, Nat.mul_one, Nat.add_zero] at hxz4); have hfz4 := hfrz2 0; (try simp only [show (k41).sz = 3 from rfl, Nat.mul_one, Nat.add_zero] at hfz4); clear hclz2 hccz2 hfrz2 hMz2) | ((with_reducible refine gate_store (t := 9) (p := 24) rfl ?_); refine store_event (t := 9) (p := 24) (v := ?vo_w19) (w1 := (wz4.setCell ⟨goz1, (tz4 : Int).toNat * 3, none⟩ (.string tz10))) ?hg ?ho ?hn ?hr ?_; (case ho => rfl); (case hg => rfl); (case hn => rfl); (case hr => first | (go_simp; done) | (go_simp; rfl)); intro wz5 hw; have hg : wz4.grownBy wz5 (some goz1) := (by rw [hw]; exact HPz1.2); have hp_ : Kd.N k41 41 wz5 w.heap.size (fun k_ => (w.heap.size ≤ k_) ∧ k_ ≠ g) (.slice (some ⟨goz1, 0, none⟩) tz1.length coz1) yz1 := (by rw [hw, Nyz1.out]; exact HPz1.1); clear HPz1; replace HIz1 := Aside0.mk (IsS71.grown (iss71_ HIz1.out) hg (IsS71.own_neN HIz1.out HOz1.out (by decide))); replace HB := Aside0.mk ((by rw [hw]; exact below_set (HB.out) (Nat.le_trans HL.out GBz1.out) : Below w0.heap.size w0 wz5)); replace HK := Aside0.mk (KeepBut.trans kp_ (KeepBut.of_grown hg g) (Kd.N_base2 HOz1.out)); replace HOz1 := Aside0.mk (hp_); clear hg hw hp_))
    go_ret
    exact ⟨_, er_, lN_ (Kd.N_mono HOz1.out (fun _ hk => hk.1)), iss71_ HIz1.out, bx_ (IsS71.ge HIz1.out), kp_⟩
  rw [if_neg cz5] at H
  have cz6 : (tz7 == 0) = false := beq_eq_false_iff_ne.mpr cz5
  have cz7 : (tz7 != 0) = true := bne_iff_ne.mpr cz5
  by_cases cz8 : tz7 = 1
  · rw [if_pos cz8] at H
    have cz9 : (tz7 == 1) = true := beq_iff_eq.mpr cz8
    have cz10 : (tz7 != 1) = false := bne_eq_false_iff_eq.mpr cz8
    clear cz8
    obtain ⟨yz1, hyz1⟩ : ∃ y_ : List Int, y_ = (([0, 40, 41] : List Int)) := ⟨_, rfl⟩
    (first | (with_reducible replace H := ys_ hyz1 H; (try dsimp only at H)) | rw [← hyz1] at H | skip)
    have Nyz1 := Aside0.mk hyz1
    clear hyz1
    replace H := bo_ H
    obtain ⟨⟨tz10, tz11, tz12⟩, Az8, H⟩ := H
    (try dsimp only at H)
    replace H := bo_ H
    obtain ⟨⟨tz13, tz14, tz15⟩, Az10, H⟩ := H
    (try dsimp only at H)
    by_cases cz11 : 0 ≤ tz4
    rotate_left
    · rw [if_neg cz11] at H
      exact absurd H (by simp)
    rw [if_pos cz11] at H
    have cz12 : decide (0 ≤ tz4) = true := decide_eq_true cz11
    clear cz11
    by_cases cz13 : tz4 < (tz1.length : Int)
    rotate_left
    · rw [if_neg cz13] at H
      exact absurd H (by simp)
    rw [if_pos cz13] at H
    have cz14 : decide (tz4 < (tz1.length : Int)) = true := decide_eq_true cz13
    clear cz13
    obtain ⟨yz2, hyz2⟩ : ∃ y_ : List (S41), y_ = (tz1.set (tz4 : Int).toNat (⟨(rd_T41 tz1 tz4).f0, tz13, (rd_T41 tz1 tz4).f2⟩ : S41)) := ⟨_, rfl⟩
    (first | (with_reducible replace H := ys_ hyz2 H; (try dsimp only at H)) | rw [← hyz2] at H | skip)
    have Nyz2 := Aside0.mk hyz2
    clear hyz2
    simp only [Option.some.injEq, Prod.mk.injEq] at H
    obtain ⟨rfl, rfl, rfl⟩ := H
    go_enter Tryd.func38, Tryd.ntmps38
    go_wp2_with (first | ((with_reducible refine gate_callee (f := 56) rfl ?_); refine ca_ 6 Tryd.func56 #[.pointer (some ⟨g, 0, none⟩), .int .i64 14] ?_; (with_reducible refine (spec_l9Draw.calls k g s0_0 s0_1 s0_2 14 tz1 tz2 tz3 w0 _ ?side1 ?side2 Az2.out).mono ?_); (case side1 => exact iss71_ HIz1.out); (case side2 => exact bx_ (IsS71.ge HIz1.out)); rintro e wz1 ⟨vz1, rfl, hoz1, hi, hb, hk⟩; refine ⟨_, rfl, ?_⟩; have HOz1 := Aside0.mk (Kd.N_lower (Kd.N_mono (ok' := fun k_ => (w.heap.size ≤ k_) ∧ k_ ≠ g) hoz1 (fun k_ hk_ => ⟨(Nat.le_trans (keep_size (w := w) (g := g) (row := none) kp_) hk_), (IsS71.fresh (iss71_ HIz1.out) k_ hk_)⟩)) (keep_size (w := w) (g := g) (row := none) kp_)); replace HK := Aside0.mk (KeepBut.trans kp_ hk (.inl rfl)); replace HB := Aside0.mk (hb); replace HIz1 := Aside0.mk (hi); clear hb hk hi hoz1; obtain ⟨Aoz1, coz1, eoz1⟩ := Kd.N_slice HOz1.out; subst eoz1) | ((with_reducible refine gate_callee (f := 57) rfl ?_); refine ca_ 14 Tryd.func57 #[.pointer (some ⟨g, 0, none⟩), .int .i64 (tz1.length : Int)] ?_; (with_reducible refine (spec_l1Below.calls g s0_0 tz2 tz3 (tz1.length : Int) tz4 tz5 tz6 w0 _ ?side1 ?side2 Az4.out).mono ?_); (case side1 => exact iss71_ HIz1.out); (case side2 => exact bx_ (IsS71.ge HIz1.out)); rintro e wz2 ⟨rfl, hi, hb, hk⟩; refine ⟨_, rfl, ?_⟩; replace HOz1 := Aside0.mk (Kd.N_mono (Kd.N_keep (Kd.N_mono (ok := fun k_ => (((w.heap.size ≤ k_)) ∧ k_ ≠ g)) (lN_ HOz1.out) (fun k_ hk_ => (⟨hk_, hk_.2⟩ : _ ∧ k_ ≠ g))) hk (fun _ h => h.2)) (fun _ h => h.1)); replace HK := Aside0.mk (KeepBut.trans kp_ hk (.inl rfl)); replace HB := Aside0.mk (hb); replace HIz1 := Aside0.mk (hi); clear hb hk hi) | ((with_reducible refine gate_callee (f := 57) rfl ?_); refine ca_ 16 Tryd.func57 #[.pointer (some ⟨g, 0, none⟩), .int .i64 10] ?_; (with_reducible refine (spec_l1Below.calls g s0_0 tz5 tz6 10 tz7 tz8 tz9 w0 _ ?side1 ?side2 Az6.out).mono ?_); (case side1 => exact iss71_ HIz1.out); (case side2 => exact bx_ (IsS71.ge HIz1.out)); rintro e wz3 ⟨rfl, hi, hb, hk⟩; refine ⟨_, rfl, ?_⟩; replace HOz1 := Aside0.mk (Kd.N_mono (Kd.N_keep (Kd.N_mono (ok := fun k_ => (((w.heap.size ≤ k_)) ∧ k_ ≠ g)) (lN_ HOz1.out) (fun k_ hk_ => (⟨hk_, hk_.2⟩ : _ ∧ k_ ≠ g))) hk (fun _ h => h.2)) (fun _ h => h.1)); replace HK := Aside0.mk (KeepBut.trans kp_ hk (.inl rfl)); replace HB := Aside0.mk (hb); replace HIz1 := Aside0.mk (hi); clear hb hk hi) | ((with_reducible refine gate_dst (N := 31) rfl ?_); refine Kd.R_lit (Kd.int .i64) _ 3 ?hg (N := 31) ?hd (xs := ([0, 40, 41] : List Int)) (inner := [.int .i64 0, .int .i64 40, .int .i64 41]) (ok := fun _ => True) (okp := fun _ => True) ?hr ?hp (fun _ hk => hk) trivial (Below.refl _ _) (Nat.le_refl _) (by simp) ?_; (case hd => rfl); (case hg => rfl); (case hr => first | (go_simp; done) | (go_simp; rfl)); (case hp => exact (Reps.one (show Kd.M (Kd.int .i64) _ _ _ 0 [.int .i64 0] from rfl) (Reps.one (show Kd.M (Kd.int .i64) _ _ _ 40 [.int .i64 40] from rfl) (Reps.one (show Kd.M (Kd.int .i64) _ _ _ 41 [.int .i64 41] from rfl) (Reps.none _ _))))); intro vz2 wz4 hoz2 hb hg_ hnew_; clear hg_ hnew_; (first | rw [← Nyz1.out] at hoz2 | (simp only [Int.reduceToNat] at hoz2; rw [← Nyz1.out] at hoz2)); replace HOz1 := eN_ HOz1 (Kd.R_base hoz2) hb; have HOz2 := Aside0.mk (Kd.R_lower (Kd.R_newM (M := fun k_ => (w.heap.size ≤ k_)) hoz2 (keep_size (w := w) (g := g) (row := none) kp_) (fun k_ h_ => h_)) (keep_size (w := w) (g := g) (row := none) kp_)); replace HK := Aside0.mk (KeepBut.trans kp_ (KeepBut.of_below hb g none) (.inl rfl)); replace HB := Aside0.mk (below_step (bx_ (IsS71.ge HIz1.out)) hb); replace HIz1 := Aside0.mk (IsS71.below (iss71_ HIz1.out) hb); clear hb hoz2; obtain ⟨Aoz2, coz2, eoz2⟩ := Kd.R_slice HOz2.out; subst eoz2) | ((with_reducible refine gate_callee (f := 43) rfl ?_); refine ca_ 32 Tryd.func43 #[.pointer (some ⟨g, 0, none⟩), .slice Aoz2 yz1.length coz2] ?_; (with_reducible refine (spec_l1Int.calls g s0_0 tz8 tz9 _ _ yz1 tz10 tz11 tz12 w0 _ ?side1 ?side2 ?side3 ?side4 ?side5 Az8.out).mono ?_); (case side1 => exact iss71_ HIz1.out); (case side2 => exact bx_ (IsS71.ge HIz1.out)); (case side3 => exact cR_ HOz2); (case side4 => exact (Kd.R_reads' HOz2.out).2.1); (case side5 => exact far_slice (IsS71.own_ne HIz1.out HOz2.out (by decide))); rintro e wz5 ⟨rfl, hi, hb, hk⟩; refine ⟨_, rfl, ?_⟩; replace HOz1 := Aside0.mk (Kd.N_mono (Kd.N_keep (Kd.N_mono (ok := fun k_ => ((((w.heap.size ≤ k_)) ∧ k_ ≠ g) ∧ some k_ ≠ (.slice Aoz2 yz1.length coz2 : Value).ownBlock)) (lN_ HOz1.out) (fun k_ hk_ => (⟨hk_, hk_.1.2⟩ : _ ∧ k_ ≠ g))) hk (fun _ h => h.2)) (fun _ h => h.1)); replace HOz2 := Aside0.mk (Kd.R_mono (Kd.R_keep (IsS71.apart (show IsS71 w0 _ g s0_0 tz8 tz9 from by repeat (first | (with_reducible first | exact HIz1.out | apply IsS71.alloc | apply IsS71.drewN | apply IsS71.drew | apply IsS71.set_1 | apply IsS71.set_2) | exact HIz1.out)) (lR_ HOz2.out) (by decide)) hk (fun _ h => h.2)) (fun _ h => h.1)); replace HK := Aside0.mk (KeepBut.trans kp_ hk (.inl rfl)); replace HB := Aside0.mk (hb); replace HIz1 := Aside0.mk (hi); clear hb hk hi) | ((with_reducible refine gate_callee (f := 42) rfl ?_); refine ca_ 33 Tryd.func42 #[.pointer (some ⟨g, 0, none⟩), .int .i64 tz10] ?_; (with_reducible refine (spec_l1Bytes.calls k g s0_0 tz11 tz12 tz10 tz13 tz14 tz15 w0 _ ?side1 ?side2 Az10.out).mono ?_); (case side1 => exact iss71_ HIz1.out); (case side2 => exact bx_ (IsS71.ge HIz1.out)); rintro e wz6 ⟨vz3, rfl, hoz1, hi, hb, hk⟩; refine ⟨_, rfl, ?_⟩; have one_v408 : vz3.oneCell' = true := (by first | (obtain ⟨_, _, e_⟩ := Kd.R_slice hoz1; rw [e_]; rfl) | (obtain ⟨_, _, e_⟩ := Kd.S_slice hoz1; rw [e_]; rfl) | (obtain ⟨_, _, e_⟩ := Kd.N_slice hoz1; rw [e_]; rfl)); replace HOz1 := Aside0.mk (Kd.N_mono (Kd.N_told (Kd.N_oldK (Kd.N_mono (ok := fun k_ => ((((w.heap.size ≤ k_)) ∧ k_ ≠ g) ∧ some k_ ≠ (.slice Aoz2 yz1.length coz2 : Value).ownBlock)) (lN_ HOz1.out) (fun k_ hk_ => (⟨hk_, hk_.1.2⟩ : _ ∧ k_ ≠ g))) hk) (Kd.R_base hoz1)) (fun _ h_ => h_.1)); replace HOz2 := Aside0.mk (Kd.R_mono (Kd.R_keep (IsS71.apart (show IsS71 w0 _ g s0_0 tz11 tz12 from by repeat (first | (with_reducible first | exact HIz1.out | apply IsS71.alloc | apply IsS71.drewN | apply IsS71.drew | apply IsS71.set_1 | apply IsS71.set_2) | exact HIz1.out)) (lR_ HOz2.out) (by decide)) hk (fun _ h => h.2)) (fun _ h => h.1)); have HOz3 := Aside0.mk (Kd.R_lower (Kd.R_newM (M := fun k_ => (w.heap.size ≤ k_)) hoz1 (keep_size (w := w) (g := g) (row := none) kp_) (fun k_ h_ => h_)) (keep_size (w := w) (g := g) (row := none) kp_)); replace HK := Aside0.mk (KeepBut.trans kp_ hk (.inl rfl)); replace HB := Aside0.mk (hb); replace HIz1 := Aside0.mk (hi); clear hb hk hi hoz1; have pz1 : 0 ≤ (tz4 : Int) := dt_; have qz1 : (tz4 : Int) < ((tz1.length : Int) : Int) := dt_; obtain ⟨goz1, coz3, eoz3, gbz1, glz1, clz1, HGz1⟩ := Kd.N_form HOz1.out (by omega); (first | cases eoz3 | (injection eoz3 with ea_ en_ ec_; (first | subst ea_ | (injection ea_ with ea_; subst ea_)); subst ec_; clear en_)); have GBz1 := Aside0.mk gbz1; have GGz1 := Aside0.mk HGz1; clear gbz1 glz1 HGz1; obtain ⟨cez1, hclz1, hMz1, hccz1, hfrz1⟩ := Kd.N_elem HOz1.out z41 (tz4 : Int) pz1 qz1; obtain ⟨uaz1, ucz1, rfl, ulz1, gez1⟩ := k41_openF hMz1; have hxz1 : wz6.cell? ⟨goz1, (tz4 : Int).toNat * 3, none⟩ = some (.string ((rd_T41 tz1 tz4).f0)) := hccz1 0 _ rfl; have hxz2 : wz6.cell? ⟨goz1, (tz4 : Int).toNat * 3 + 1, none⟩ = some (.slice uaz1 ((rd_T41 tz1 tz4).f1).length ucz1) := hccz1 1 _ rfl; have hxz3 : wz6.cell? ⟨goz1, (tz4 : Int).toNat * 3 + 2, none⟩ = some (.int .i64 ((rd_T41 tz1 tz4).f2)) := hccz1 2 _ rfl; have hfz1 : wz6.frozen? ⟨goz1, (tz4 : Int).toNat * 3, none⟩ = false := hfrz1 0; have hfz2 : wz6.frozen? ⟨goz1, (tz4 : Int).toNat * 3 + 1, none⟩ = false := hfrz1 1; have hfz3 : wz6.frozen? ⟨goz1, (tz4 : Int).toNat * 3 + 2, none⟩ = false := hfrz1 2; clear hclz1 hccz1 hfrz1 hMz1; replace pz1 := eq_true pz1; replace qz1 := eq_true qz1; have n_ := Aside0.mk (Kd.N_mono (ok' := (fun k_ => (w.heap.size ≤ k_) ∧ some k_ ≠ (.slice Aoz2 yz1.length coz2 : Value).ownBlock ∧ some k_ ≠ (vz3 : Value).ownBlock)) HOz1.out (fun k_ hk => ⟨hk.1.1.1, ⟨hk.1.2, hk.2⟩⟩)); clear HOz1; have HOz1 := n_; clear n_; have HXz1 := Aside0.mk (show Kd.N k41 41 wz6 w.heap.size (fun k_ => (w.heap.size ≤ k_) ∧ some k_ ≠ (.slice Aoz2 yz1.length coz2 : Value).ownBlock) (.slice (some ⟨goz1, 0, none⟩) tz1.length coz1) tz1 from (lN_ (Kd.N_mono HOz1.out (fun _ hk => ⟨hk.1, hk.2.1⟩)))); obtain ⟨cez2, hclz2, hMz2, hccz2, hfrz2⟩ := Kd.N_elem HXz1.out z41 (tz4 : Int) (dt_) (by have h_ : (tz4 : Int) < ((tz1.length : Int) : Int) := dt_; first | exact h_ | (have e_ := (Kd.N_reads' HOz1.out).1; omega) | simpa using h_); obtain ⟨uaz2, ucz2, rfl, ulz2, gez2⟩ := k41_openF hMz2; obtain ⟨Avvz3_, cvvz3_, ev_⟩ := Kd.R_slice HOz3.out; subst ev_; have HPz1 := Kd.N_seg HXz1.out (tz4 : Int) (dt_) (by have h_ : (tz4 : Int) < ((tz1.length : Int) : Int) := dt_; first | exact h_ | (have e_ := (Kd.N_reads' HOz1.out).1; omega) | simpa using h_) (seg := [(.slice Avvz3_ tz13.length cvvz3_ : Value)]) (j := 1) hclz2 hccz2 (show 2 ≤ 3 from by decide) (x' := (⟨(rd_T41 tz1 tz4).f0, tz13, (rd_T41 tz1 tz4).f2⟩ : S41)) (k41_mkF _ _ (⟨(rd_T41 tz1 tz4).f0, tz13, (rd_T41 tz1 tz4).f2⟩ : S41) (Kd.R_reads' (Kd.R_mono (ok' := (fun k_ => ((fun k_ => (w.heap.size ≤ k_) ∧ some k_ ≠ (.slice Aoz2 yz1.length coz2 : Value).ownBlock)) k_ ∧ k_ ≠ goz1)) (Kd.R_apart' (Kd.R_apart' (HOz3.out) (Kd.R_typed HOz2.out) (by decide)) (Kd.N_typed HOz1.out) (by decide)) (fun k_ hk => ⟨⟨hk.1.1.1, hk.1.2⟩, fun e_ => (hk.2) (by rw [e_]; rfl)⟩))).2.1 (Kd.R_F (Kd.R_mono (ok' := (fun k_ => ((fun k_ => (w.heap.size ≤ k_) ∧ some k_ ≠ (.slice Aoz2 yz1.length coz2 : Value).ownBlock)) k_ ∧ k_ ≠ goz1)) (Kd.R_apart' (Kd.R_apart' (HOz3.out) (Kd.R_typed HOz2.out) (by decide)) (Kd.N_typed HOz1.out) (by decide)) (fun k_ hk => ⟨⟨hk.1.1.1, hk.1.2⟩, fun e_ => (hk.2) (by rw [e_]; rfl)⟩)))) (fun _ hk => hk); have hxz4 := hccz2 1 _ rfl; (try simp only [show (k41).sz = 3 from rfl, Nat.mul_one, Nat.add_zero] at hxz4); have hfz4 := hfrz2 1; (try simp only [show (k41).sz = 3 from rfl, Nat.mul_one, Nat.add_zero] at hfz4); clear hclz2 hccz2 hfrz2 hMz2) | ((with_reducible refine gate_store (t := 23) (p := 35) rfl ?_); refine store_event (t := 23) (p := 35) (v := ?vo_w36) (w1 := (wz6.setCell ⟨goz1, (tz4 : Int).toNat * 3 + 1, none⟩ ((.slice Avvz3_ tz13.length cvvz3_ : Value)))) ?hg ?ho ?hn ?hr ?_; (case ho => rfl); (case hg => rfl); (case hn => rfl); (case hr => first | (have rs_v408 := fun W_ (a_ : Addr) => run_store Tryd.prog W_ a_ (.slice Avvz3_ tz13.length cvvz3_ : Value) .plain one_v408; go_simp; done) | (have rs_v408 := fun W_ (a_ : Addr) => run_store Tryd.prog W_ a_ (.slice Avvz3_ tz13.length cvvz3_ : Value) .plain one_v408; go_simp; rfl) | (go_simp; done) | (go_simp; rfl)); intro wz7 hw; have hg : wz6.grownBy wz7 (some goz1) := (by rw [hw]; exact HPz1.2); have hp_ : Kd.N k41 41 wz7 w.heap.size (fun k_ => (w.heap.size ≤ k_) ∧ some k_ ≠ (.slice Aoz2 yz1.length coz2 : Value).ownBlock) (.slice (some ⟨goz1, 0, none⟩) tz1.length coz1) yz2 := (by rw [hw, Nyz2.out]; exact HPz1.1); clear HPz1; replace HIz1 := Aside0.mk (IsS71.grown (iss71_ HIz1.out) hg (IsS71.own_neN HIz1.out HOz1.out (by decide))); replace HOz2 := Aside0.mk (Kd.R_over' (v := (.slice (some ⟨goz1, 0, none⟩) tz1.length coz1)) (lR_ HOz2.out) (Kd.N_typed HOz1.out) (by decide) hg); replace HB := Aside0.mk ((by rw [hw]; exact below_set (HB.out) (Nat.le_trans HL.out GBz1.out) : Below w0.heap.size w0 wz7)); replace HK := Aside0.mk (KeepBut.trans kp_ (KeepBut.of_grown hg g) (Kd.N_base2 HOz1.out)); replace HOz1 := Aside0.mk (hp_); clear HOz3 hg hw hp_))
    go_ret
    exact ⟨_, er_, lN_ (Kd.N_mono HOz1.out (fun _ hk => hk.1)), iss71_ HIz1.out, bx_ (IsS71.ge HIz1.out), kp_⟩
  rw [if_neg cz8] at H
  have cz9 : (tz7 == 1) = false := beq_eq_false_iff_ne.mpr cz8
  have cz10 : (tz7 != 1) = true := bne_iff_ne.mpr cz8
  by_cases cz11 : tz7 = 2
  · rw [if_pos cz11] at H
    have cz12 : (tz7 == 2) = true := beq_iff_eq.mpr cz11
    have cz13 : (tz7 != 2) = false := bne_eq_false_iff_eq.mpr cz11
    clear cz11
    obtain ⟨yz1, hyz1⟩ : ∃ y_ : List Int, y_ = (([3, (-1)] : List Int)) := ⟨_, rfl⟩
    (first | (with_reducible replace H := ys_ hyz1 H; (try dsimp only at H)) | rw [← hyz1] at H | skip)
    have Nyz1 := Aside0.mk hyz1
    clear hyz1
    replace H := bo_ H
    obtain ⟨⟨tz10, tz11, tz12⟩, Az8, H⟩ := H
    (try dsimp only at H)
    by_cases cz14 : 0 ≤ tz4
    rotate_left
    · rw [if_neg cz14] at H
      exact absurd H (by simp)
    rw [if_pos cz14] at H
    have cz15 : decide (0 ≤ tz4) = true := decide_eq_true cz14
    clear cz14
    by_cases cz16 : tz4 < (tz1.length : Int)
    rotate_left
    · rw [if_neg cz16] at H
      exact absurd H (by simp)
    rw [if_pos cz16] at H
    have cz17 : decide (tz4 < (tz1.length : Int)) = true := decide_eq_true cz16
    clear cz16
    obtain ⟨yz2, hyz2⟩ : ∃ y_ : List (S41), y_ = (tz1.set (tz4 : Int).toNat (⟨(rd_T41 tz1 tz4).f0, (rd_T41 tz1 tz4).f1, tz10⟩ : S41)) := ⟨_, rfl⟩
    (first | (with_reducible replace H := ys_ hyz2 H; (try dsimp only at H)) | rw [← hyz2] at H | skip)
    have Nyz2 := Aside0.mk hyz2
    clear hyz2
    simp only [Option.some.injEq, Prod.mk.injEq] at H
    obtain ⟨rfl, rfl, rfl⟩ := H
    go_enter Tryd.func38, Tryd.ntmps38
    go_wp2_with (first | ((with_reducible refine gate_callee (f := 56) rfl ?_); refine ca_ 6 Tryd.func56 #[.pointer (some ⟨g, 0, none⟩), .int .i64 14] ?_; (with_reducible refine (spec_l9Draw.calls k g s0_0 s0_1 s0_2 14 tz1 tz2 tz3 w0 _ ?side1 ?side2 Az2.out).mono ?_); (case side1 => exact iss71_ HIz1.out); (case side2 => exact bx_ (IsS71.ge HIz1.out)); rintro e wz1 ⟨vz1, rfl, hoz1, hi, hb, hk⟩; refine ⟨_, rfl, ?_⟩; have HOz1 := Aside0.mk (Kd.N_lower (Kd.N_mono (ok' := fun k_ => (w.heap.size ≤ k_) ∧ k_ ≠ g) hoz1 (fun k_ hk_ => ⟨(Nat.le_trans (keep_size (w := w) (g := g) (row := none) kp_) hk_), (IsS71.fresh (iss71_ HIz1.out) k_ hk_)⟩)) (keep_size (w := w) (g := g) (row := none) kp_)); replace HK := Aside0.mk (KeepBut.trans kp_ hk (.inl rfl)); replace HB := Aside0.mk (hb); replace HIz1 := Aside0.mk (hi); clear hb hk hi hoz1; obtain ⟨Aoz1, coz1, eoz1⟩ := Kd.N_slice HOz1.out; subst eoz1) | ((with_reducible refine gate_callee (f := 57) rfl ?_); refine ca_ 14 Tryd.func57 #[.pointer (some ⟨g, 0, none⟩), .int .i64 (tz1.length : Int)] ?_; (with_reducible refine (spec_l1Below.calls g s0_0 tz2 tz3 (tz1.length : Int) tz4 tz5 tz6 w0 _ ?side1 ?side2 Az4.out).mono ?_); (case side1 => exact iss71_ HIz1.out); (case side2 => exact bx_ (IsS71.ge HIz1.out)); rintro e wz2 ⟨rfl, hi, hb, hk⟩; refine ⟨_, rfl, ?_⟩; replace HOz1 := Aside0.mk (Kd.N_mono (Kd.N_keep (Kd.N_mono (ok := fun k_ => (((w.heap.size ≤ k_)) ∧ k_ ≠ g)) (lN_ HOz1.out) (fun k_ hk_ => (⟨hk_, hk_.2⟩ : _ ∧ k_ ≠ g))) hk (fun _ h => h.2)) (fun _ h => h.1)); replace HK := Aside0.mk (KeepBut.trans kp_ hk (.inl rfl)); replace HB := Aside0.mk (hb); replace HIz1 := Aside0.mk (hi); clear hb hk hi) | ((with_reducible refine gate_callee (f := 57) rfl ?_); refine ca_ 16 Tryd.func57 #[.pointer (some ⟨g, 0, none⟩), .int .i64 10] ?_; (with_reducible refine (spec_l1Below.calls g s0_0 tz5 tz6 10 tz7 tz8 tz9 w0 _ ?side1 ?side2 Az6.out).mono ?_); (case side1 => exact iss71_ HIz1.out); (case side2 => exact bx_ (IsS71.ge HIz1.out)); rintro e wz3 ⟨rfl, hi, hb, hk⟩; refine ⟨_, rfl, ?_⟩; replace HOz1 := Aside0.mk (Kd.N_mono (Kd.N_keep (Kd.N_mono (ok := fun k_ => (((w.heap.size ≤ k_)) ∧ k_ ≠ g)) (lN_ HOz1.out) (fun k_ hk_ => (⟨hk_, hk_.2⟩ : _ ∧ k_ ≠ g))) hk (fun _ h => h.2)) (fun _ h => h.1)); replace HK := Aside0.mk (KeepBut.trans kp_ hk (.inl rfl)); replace HB := Aside0.mk (hb); replace HIz1 := Aside0.mk (hi); clear hb hk hi) | ((with_reducible refine gate_dst (N := 41) rfl ?_); refine Kd.R_lit (Kd.int .i64) _ 3 ?hg (N := 41) ?hd (xs := ([3, (-1)] : List Int)) (inner := [.int .i64 3, .int .i64 (-1)]) (ok := fun _ => True) (okp := fun _ => True) ?hr ?hp (fun _ hk => hk) trivial (Below.refl _ _) (Nat.le_refl _) (by simp) ?_; (case hd => rfl); (case hg => rfl); (case hr => first | (go_simp; done) | (go_simp; rfl)); (case hp => exact (Reps.one (show Kd.M (Kd.int .i64) _ _ _ 3 [.int .i64 3] from rfl) (Reps.one (show Kd.M (Kd.int .i64) _ _ _ (-1) [.int .i64 (-1)] from rfl) (Reps.none _ _)))); intro vz2 wz4 hoz2 hb hg_ hnew_; clear hg_ hnew_; (first | rw [← Nyz1.out] at hoz2 | (simp only [Int.reduceToNat] at hoz2; rw [← Nyz1.out] at hoz2)); replace HOz1 := eN_ HOz1 (Kd.R_base hoz2) hb; have HOz2 := Aside0.mk (Kd.R_lower (Kd.R_newM (M := fun k_ => (w.heap.size ≤ k_)) hoz2 (keep_size (w := w) (g := g) (row := none) kp_) (fun k_ h_ => h_)) (keep_size (w := w) (g := g) (row := none) kp_)); replace HK := Aside0.mk (KeepBut.trans kp_ (KeepBut.of_below hb g none) (.inl rfl)); replace HB := Aside0.mk (below_step (bx_ (IsS71.ge HIz1.out)) hb); replace HIz1 := Aside0.mk (IsS71.below (iss71_ HIz1.out) hb); clear hb hoz2; obtain ⟨Aoz2, coz2, eoz2⟩ := Kd.R_slice HOz2.out; subst eoz2) | ((with_reducible refine gate_callee (f := 43) rfl ?_); refine ca_ 42 Tryd.func43 #[.pointer (some ⟨g, 0, none⟩), .slice Aoz2 yz1.length coz2] ?_; (with_reducible refine (spec_l1Int.calls g s0_0 tz8 tz9 _ _ yz1 tz10 tz11 tz12 w0 _ ?side1 ?side2 ?side3 ?side4 ?side5 Az8.out).mono ?_); (case side1 => exact iss71_ HIz1.out); (case side2 => exact bx_ (IsS71.ge HIz1.out)); (case side3 => exact cR_ HOz2); (case side4 => exact (Kd.R_reads' HOz2.out).2.1); (case side5 => exact far_slice (IsS71.own_ne HIz1.out HOz2.out (by decide))); rintro e wz5 ⟨rfl, hi, hb, hk⟩; refine ⟨_, rfl, ?_⟩; replace HOz1 := Aside0.mk (Kd.N_mono (Kd.N_keep (Kd.N_mono (ok := fun k_ => ((((w.heap.size ≤ k_)) ∧ k_ ≠ g) ∧ some k_ ≠ (.slice Aoz2 yz1.length coz2 : Value).ownBlock)) (lN_ HOz1.out) (fun k_ hk_ => (⟨hk_, hk_.1.2⟩ : _ ∧ k_ ≠ g))) hk (fun _ h => h.2)) (fun _ h => h.1)); replace HOz2 := Aside0.mk (Kd.R_mono (Kd.R_keep (IsS71.apart (show IsS71 w0 _ g s0_0 tz8 tz9 from by repeat (first | (with_reducible first | exact HIz1.out | apply IsS71.alloc | apply IsS71.drewN | apply IsS71.drew | apply IsS71.set_1 | apply IsS71.set_2) | exact HIz1.out)) (lR_ HOz2.out) (by decide)) hk (fun _ h => h.2)) (fun _ h => h.1)); replace HK := Aside0.mk (KeepBut.trans kp_ hk (.inl rfl)); replace HB := Aside0.mk (hb); replace HIz1 := Aside0.mk (hi); clear hb hk hi; have pz1 : 0 ≤ (tz4 : Int) := dt_; have qz1 : (tz4 : Int) < ((tz1.length : Int) : Int) := dt_; obtain ⟨goz1, coz3, eoz3, gbz1, glz1, clz1, HGz1⟩ := Kd.N_form HOz1.out (by omega); (first | cases eoz3 | (injection eoz3 with ea_ en_ ec_; (first | subst ea_ | (injection ea_ with ea_; subst ea_)); subst ec_; clear en_)); have GBz1 := Aside0.mk gbz1; have GGz1 := Aside0.mk HGz1; clear gbz1 glz1 HGz1; obtain ⟨cez1, hclz1, hMz1, hccz1, hfrz1⟩ := Kd.N_elem HOz1.out z41 (tz4 : Int) pz1 qz1; obtain ⟨uaz1, ucz1, rfl, ulz1, gez1⟩ := k41_openF hMz1; have hxz1 : wz5.cell? ⟨goz1, (tz4 : Int).toNat * 3, none⟩ = some (.string ((rd_T41 tz1 tz4).f0)) := hccz1 0 _ rfl; have hxz2 : wz5.cell? ⟨goz1, (tz4 : Int).toNat * 3 + 1, none⟩ = some (.slice uaz1 ((rd_T41 tz1 tz4).f1).length ucz1) := hccz1 1 _ rfl; have hxz3 : wz5.cell? ⟨goz1, (tz4 : Int).toNat * 3 + 2, none⟩ = some (.int .i64 ((rd_T41 tz1 tz4).f2)) := hccz1 2 _ rfl; have hfz1 : wz5.frozen? ⟨goz1, (tz4 : Int).toNat * 3, none⟩ = false := hfrz1 0; have hfz2 : wz5.frozen? ⟨goz1, (tz4 : Int).toNat * 3 + 1, none⟩ = false := hfrz1 1; have hfz3 : wz5.frozen? ⟨goz1, (tz4 : Int).toNat * 3 + 2, none⟩ = false := hfrz1 2; clear hclz1 hccz1 hfrz1 hMz1; replace pz1 := eq_true pz1; replace qz1 := eq_true qz1; have n_ := Aside0.mk (Kd.N_mono (ok' := (fun k_ => (w.heap.size ≤ k_) ∧ some k_ ≠ (.slice Aoz2 yz1.length coz2 : Value).ownBlock)) HOz1.out (fun k_ hk => ⟨hk.1.1, hk.2⟩)); clear HOz1; have HOz1 := n_; clear n_; have HXz1 := Aside0.mk (show Kd.N k41 41 wz5 w.heap.size (fun k_ => (w.heap.size ≤ k_) ∧ some k_ ≠ (.slice Aoz2 yz1.length coz2 : Value).ownBlock) (.slice (some ⟨goz1, 0, none⟩) tz1.length coz1) tz1 from (lN_ HOz1.out)); obtain ⟨cez2, hclz2, hMz2, hccz2, hfrz2⟩ := Kd.N_elem HXz1.out z41 (tz4 : Int) (dt_) (by have h_ : (tz4 : Int) < ((tz1.length : Int) : Int) := dt_; first | exact h_ | (have e_ := (Kd.N_reads' HOz1.out).1; omega) | simpa using h_); obtain ⟨uaz2, ucz2, rfl, ulz2, gez2⟩ := k41_openF hMz2; have HPz1 := Kd.N_seg HXz1.out (tz4 : Int) (dt_) (by have h_ : (tz4 : Int) < ((tz1.length : Int) : Int) := dt_; first | exact h_ | (have e_ := (Kd.N_reads' HOz1.out).1; omega) | simpa using h_) (seg := [.int .i64 tz10]) (j := 2) hclz2 hccz2 (show 3 ≤ 3 from by decide) (x' := (⟨(rd_T41 tz1 tz4).f0, (rd_T41 tz1 tz4).f1, tz10⟩ : S41)) (k41_mkF _ _ (⟨(rd_T41 tz1 tz4).f0, (rd_T41 tz1 tz4).f1, tz10⟩ : S41) ulz2 gez2) (fun _ hk => hk); have hxz4 := hccz2 2 _ rfl; (try simp only [show (k41).sz = 3 from rfl, Nat.mul_one, Nat.add_zero] at hxz4); have hfz4 := hfrz2 2; (try simp only [show (k41).sz = 3 from rfl, Nat.mul_one, Nat.add_zero] at hfz4); clear hclz2 hccz2 hfrz2 hMz2) | ((with_reducible refine gate_store (t := 3) (p := 44) rfl ?_); refine store_event (t := 3) (p := 44) (v := ?vo_w51) (w1 := (wz5.setCell ⟨goz1, (tz4 : Int).toNat * 3 + 2, none⟩ (.int .i64 tz10))) ?hg ?ho ?hn ?hr ?_; (case ho => rfl); (case hg => rfl); (case hn => rfl); (case hr => first | (go_simp; done) | (go_simp; rfl)); intro wz6 hw; have hg : wz5.grownBy wz6 (some goz1) := (by rw [hw]; exact HPz1.2); have hp_ : Kd.N k41 41 wz6 w.heap.size (fun k_ => (w.heap.size ≤ k_) ∧ some k_ ≠ (.slice Aoz2 yz1.length coz2 : Value).ownBlock) (.slice (some ⟨goz1, 0, none⟩) tz1.length coz1) yz2 := (by rw [hw, Nyz2.out]; exact HPz1.1); clear HPz1; replace HIz1 := Aside0.mk (IsS71.grown (iss71_ HIz1.out) hg (IsS71.own_neN HIz1.out HOz1.out (by decide))); replace HOz2 := Aside0.mk (Kd.R_over' (v := (.slice (some ⟨goz1, 0, none⟩) tz1.length coz1)) (lR_ HOz2.out) (Kd.N_typed HOz1.out) (by decide) hg); replace HB := Aside0.mk ((by rw [hw]; exact below_set (HB.out) (Nat.le_trans HL.out GBz1.out) : Below w0.heap.size w0 wz6)); replace HK := Aside0.mk (KeepBut.trans kp_ (KeepBut.of_grown hg g) (Kd.N_base2 HOz1.out)); replace HOz1 := Aside0.mk (hp_); clear hg hw hp_))
    go_ret
    exact ⟨_, er_, lN_ (Kd.N_mono HOz1.out (fun _ hk => hk.1)), iss71_ HIz1.out, bx_ (IsS71.ge HIz1.out), kp_⟩
  rw [if_neg cz11] at H
  have cz12 : (tz7 == 2) = false := beq_eq_false_iff_ne.mpr cz11
  have cz13 : (tz7 != 2) = true := bne_iff_ne.mpr cz11
  by_cases cz14 : tz7 = 3
  rotate_left
  · rw [if_neg cz14] at H
    have cz15 : (tz7 == 3) = false := beq_eq_false_iff_ne.mpr cz14
    have cz16 : (tz7 != 3) = true := bne_iff_ne.mpr cz14
    simp only [Option.some.injEq, Prod.mk.injEq] at H
    obtain ⟨rfl, rfl, rfl⟩ := H
    go_enter Tryd.func38, Tryd.ntmps38
    go_wp2_with (first | ((with_reducible refine gate_callee (f := 56) rfl ?_); refine ca_ 6 Tryd.func56 #[.pointer (some ⟨g, 0, none⟩), .int .i64 14] ?_; (with_reducible refine (spec_l9Draw.calls k g s0_0 s0_1 s0_2 14 tz1 tz2 tz3 w0 _ ?side1 ?side2 Az2.out).mono ?_); (case side1 => exact iss71_ HIz1.out); (case side2 => exact bx_ (IsS71.ge HIz1.out)); rintro e wz1 ⟨vz1, rfl, hoz1, hi, hb, hk⟩; refine ⟨_, rfl, ?_⟩; have HOz1 := Aside0.mk (Kd.N_lower (Kd.N_mono (ok' := fun k_ => (w.heap.size ≤ k_) ∧ k_ ≠ g) hoz1 (fun k_ hk_ => ⟨(Nat.le_trans (keep_size (w := w) (g := g) (row := none) kp_) hk_), (IsS71.fresh (iss71_ HIz1.out) k_ hk_)⟩)) (keep_size (w := w) (g := g) (row := none) kp_)); replace HK := Aside0.mk (KeepBut.trans kp_ hk (.inl rfl)); replace HB := Aside0.mk (hb); replace HIz1 := Aside0.mk (hi); clear hb hk hi hoz1; obtain ⟨Aoz1, coz1, eoz1⟩ := Kd.N_slice HOz1.out; subst eoz1) | ((with_reducible refine gate_callee (f := 57) rfl ?_); refine ca_ 14 Tryd.func57 #[.pointer (some ⟨g, 0, none⟩), .int .i64 (tz1.length : Int)] ?_; (with_reducible refine (spec_l1Below.calls g s0_0 tz2 tz3 (tz1.length : Int) tz4 tz5 tz6 w0 _ ?side1 ?side2 Az4.out).mono ?_); (case side1 => exact iss71_ HIz1.out); (case side2 => exact bx_ (IsS71.ge HIz1.out)); rintro e wz2 ⟨rfl, hi, hb, hk⟩; refine ⟨_, rfl, ?_⟩; replace HOz1 := Aside0.mk (Kd.N_mono (Kd.N_keep (Kd.N_mono (ok := fun k_ => (((w.heap.size ≤ k_)) ∧ k_ ≠ g)) (lN_ HOz1.out) (fun k_ hk_ => (⟨hk_, hk_.2⟩ : _ ∧ k_ ≠ g))) hk (fun _ h => h.2)) (fun _ h => h.1)); replace HK := Aside0.mk (KeepBut.trans kp_ hk (.inl rfl)); replace HB := Aside0.mk (hb); replace HIz1 := Aside0.mk (hi); clear hb hk hi) | ((with_reducible refine gate_callee (f := 57) rfl ?_); refine ca_ 16 Tryd.func57 #[.pointer (some ⟨g, 0, none⟩), .int .i64 10] ?_; (with_reducible refine (spec_l1Below.calls g s0_0 tz5 tz6 10 tz7 tz8 tz9 w0 _ ?side1 ?side2 Az6.out).mono ?_); (case side1 => exact iss71_ HIz1.out); (case side2 => exact bx_ (IsS71.ge HIz1.out)); rintro e wz3 ⟨rfl, hi, hb, hk⟩; refine ⟨_, rfl, ?_⟩; replace HOz1 := Aside0.mk (Kd.N_mono (Kd.N_keep (Kd.N_mono (ok := fun k_ => (((w.heap.size ≤ k_)) ∧ k_ ≠ g)) (lN_ HOz1.out) (fun k_ hk_ => (⟨hk_, hk_.2⟩ : _ ∧ k_ ≠ g))) hk (fun _ h => h.2)) (fun _ h => h.1)); replace HK := Aside0.mk (KeepBut.trans kp_ hk (.inl rfl)); replace HB := Aside0.mk (hb); replace HIz1 := Aside0.mk (hi); clear hb hk hi))
    go_ret
    exact ⟨_, er_, lN_ (Kd.N_mono HOz1.out (fun _ hk => hk.1)), iss71_ HIz1.out, bx_ (IsS71.ge HIz1.out), kp_⟩
  rw [if_pos cz14] at H
  have cz15 : (tz7 == 3) = true := beq_iff_eq.mpr cz14
  have cz16 : (tz7 != 3) = false := bne_eq_false_iff_eq.mpr cz14
  clear cz14
  by_cases cz17 : 0 ≤ tz4
  rotate_left
  · rw [if_neg cz17] at H
    exact absurd H (by simp)
  rw [if_pos cz17] at H
  have cz18 : decide (0 ≤ tz4) = true := decide_eq_true cz17
  clear cz17
  by_cases cz19 : tz4 < (tz1.length : Int)
  rotate_left
  · rw [if_neg cz19] at H
    exact absurd H (by simp)
  rw [if_pos cz19] at H
  have cz20 : decide (tz4 < (tz1.length : Int)) = true := decide_eq_true cz19
  clear cz19
  by_cases cz21 : tz1.length < 2932031007402
  rotate_left
  · rw [if_neg cz21] at H
    exact absurd H (by simp)
  rw [if_pos cz21] at H
  have LMcz1 := Aside0.mk cz21
  clear cz21
  obtain ⟨yz1, hyz1⟩ : ∃ y_ : List (S41), y_ = (tz1 ++ [(⟨(rd_T41 tz1 tz4).f0, (rd_T41 tz1 tz4).f1, (rd_T41 tz1 tz4).f2⟩ : S41)]) := ⟨_, rfl⟩
  (first | (with_reducible replace H := ys_ hyz1 H; (try dsimp only at H)) | rw [← hyz1] at H | skip)
  have Nyz1 := Aside0.mk hyz1
  clear hyz1
  simp only [Option.some.injEq, Prod.mk.injEq] at H
  obtain ⟨rfl, rfl, rfl⟩ := H
  go_enter Tryd.func38, Tryd.ntmps38
  go_wp2_with (first | ((with_reducible refine gate_callee (f := 56) rfl ?_); refine ca_ 6 Tryd.func56 #[.pointer (some ⟨g, 0, none⟩), .int .i64 14] ?_; (with_reducible refine (spec_l9Draw.calls k g s0_0 s0_1 s0_2 14 tz1 tz2 tz3 w0 _ ?side1 ?side2 Az2.out).mono ?_); (case side1 => exact iss71_ HIz1.out); (case side2 => exact bx_ (IsS71.ge HIz1.out)); rintro e wz1 ⟨vz1, rfl, hoz1, hi, hb, hk⟩; refine ⟨_, rfl, ?_⟩; have HOz1 := Aside0.mk (Kd.N_lower (Kd.N_mono (ok' := fun k_ => (w.heap.size ≤ k_) ∧ k_ ≠ g) hoz1 (fun k_ hk_ => ⟨(Nat.le_trans (keep_size (w := w) (g := g) (row := none) kp_) hk_), (IsS71.fresh (iss71_ HIz1.out) k_ hk_)⟩)) (keep_size (w := w) (g := g) (row := none) kp_)); replace HK := Aside0.mk (KeepBut.trans kp_ hk (.inl rfl)); replace HB := Aside0.mk (hb); replace HIz1 := Aside0.mk (hi); clear hb hk hi hoz1; obtain ⟨Aoz1, coz1, eoz1⟩ := Kd.N_slice HOz1.out; subst eoz1) | ((with_reducible refine gate_callee (f := 57) rfl ?_); refine ca_ 14 Tryd.func57 #[.pointer (some ⟨g, 0, none⟩), .int .i64 (tz1.length : Int)] ?_; (with_reducible refine (spec_l1Below.calls g s0_0 tz2 tz3 (tz1.length : Int) tz4 tz5 tz6 w0 _ ?side1 ?side2 Az4.out).mono ?_); (case side1 => exact iss71_ HIz1.out); (case side2 => exact bx_ (IsS71.ge HIz1.out)); rintro e wz2 ⟨rfl, hi, hb, hk⟩; refine ⟨_, rfl, ?_⟩; replace HOz1 := Aside0.mk (Kd.N_mono (Kd.N_keep (Kd.N_mono (ok := fun k_ => (((w.heap.size ≤ k_)) ∧ k_ ≠ g)) (lN_ HOz1.out) (fun k_ hk_ => (⟨hk_, hk_.2⟩ : _ ∧ k_ ≠ g))) hk (fun _ h => h.2)) (fun _ h => h.1)); replace HK := Aside0.mk (KeepBut.trans kp_ hk (.inl rfl)); replace HB := Aside0.mk (hb); replace HIz1 := Aside0.mk (hi); clear hb hk hi) | ((with_reducible refine gate_callee (f := 57) rfl ?_); refine ca_ 16 Tryd.func57 #[.pointer (some ⟨g, 0, none⟩), .int .i64 10] ?_; (with_reducible refine (spec_l1Below.calls g s0_0 tz5 tz6 10 tz7 tz8 tz9 w0 _ ?side1 ?side2 Az6.out).mono ?_); (case side1 => exact iss71_ HIz1.out); (case side2 => exact bx_ (IsS71.ge HIz1.out)); rintro e wz3 ⟨rfl, hi, hb, hk⟩; refine ⟨_, rfl, ?_⟩; replace HOz1 := Aside0.mk (Kd.N_mono (Kd.N_keep (Kd.N_mono (ok := fun k_ => (((w.heap.size ≤ k_)) ∧ k_ ≠ g)) (lN_ HOz1.out) (fun k_ hk_ => (⟨hk_, hk_.2⟩ : _ ∧ k_ ≠ g))) hk (fun _ h => h.2)) (fun _ h => h.1)); replace HK := Aside0.mk (KeepBut.trans kp_ hk (.inl rfl)); replace HB := Aside0.mk (hb); replace HIz1 := Aside0.mk (hi); clear hb hk hi; have pz1 : 0 ≤ (tz4 : Int) := dt_; have qz1 : tz4 < (tz1.length : Int) := dt_; obtain ⟨adz1, Az7, cz22, ez1, hxz1, hxz2, hxz3, hlz1, hiz1⟩ := at_T41 (Kd.N_reads' HOz1.out).2.2 tz4 pz1 qz1; cases ez1; obtain ⟨cez1, hcez1, hMez1, hccz1⟩ := Kd.N_get HOz1.out z41 tz4 pz1 (by first | exact qz1 | exact dt_ | (have e_ := (Kd.N_reads' HOz1.out).1; omega)); obtain ⟨uaz1, ucz1, rfl, ulz1, gez1⟩ := k41_openF hMez1; have hvz1 := hccz1 1 _ rfl; rw [add_field _ _ 1 (by omega)] at hvz1; replace hvz1 := Option.some.inj (hvz1.symm.trans hxz2); injection hvz1 with hva_ hvn_ hvc_; rw [hva_] at gez1; rw [hvc_] at ulz1; have HLz1 := Aside0.mk (show Kd.V (Kd.int .u8) 5 _ w.heap.size _ _ ((rd_T41 tz1 tz4).f1) from Kd.V_mk ulz1 gez1); clear hva_ hvn_ hvc_ gez1 ulz1 hccz1 hcez1; have HRz1 := Aside0.mk hiz1; have HCz1 := Aside0.mk hlz1; clear hiz1 hlz1; replace pz1 := eq_true pz1; replace qz1 := eq_true qz1) | ((with_reducible refine gate_builtin (b := .append) (xs := #[.tmp 47, .tmp 52]) rfl ?_); at_builtin; refine Kd.N_append k41 w.heap.size rfl (.tmp 47) (.tmp 52) 25 41 (.agg #[(.string ⟨#[]⟩), (.slice none 0 0), (.int .i64 0)]) 48 rfl Tryd.underlying25 info41 rfl (by decide) (by omega) (.slice (some adz1) tz1.length coz1) tz1 (⟨(rd_T41 tz1 tz4).f0, (rd_T41 tz1 tz4).f1, (rd_T41 tz1 tz4).f2⟩ : S41) [.string ((rd_T41 tz1 tz4).f0), .slice Az7 ((rd_T41 tz1 tz4).f1).length cz22, .int .i64 ((rd_T41 tz1 tz4).f2)] (fun k_ => (w.heap.size ≤ k_) ∧ k_ ≠ g) (fun k_ => ((fun k_ => (w.heap.size ≤ k_) ∧ k_ ≠ g)) k_ ∧ some k_ ≠ (.slice (some adz1) tz1.length coz1 : Value).ownBlock) rfl rfl ?aP (fun _ hk => hk) ?aF ?aO (Below.refl _ _) ?aS ?aL ?_; (case aP => exact (k41_mkF _ _ (⟨(rd_T41 tz1 tz4).f0, (rd_T41 tz1 tz4).f1, (rd_T41 tz1 tz4).f2⟩ : S41) (Kd.V_reads' (Kd.V_mono (ok' := (fun k_ => ((fun k_ => (w.heap.size ≤ k_) ∧ k_ ≠ g)) k_ ∧ some k_ ≠ (.slice (some adz1) tz1.length coz1 : Value).ownBlock)) (HLz1.out) (fun k_ hk => ⟨⟨hk.1.1, hk.1.2⟩, hk.2⟩))).2.1 (Kd.V_F (Kd.V_mono (ok' := (fun k_ => ((fun k_ => (w.heap.size ≤ k_) ∧ k_ ≠ g)) k_ ∧ some k_ ≠ (.slice (some adz1) tz1.length coz1 : Value).ownBlock)) (HLz1.out) (fun k_ hk => ⟨⟨hk.1.1, hk.1.2⟩, hk.2⟩))))); (case aF => exact (fun k_ hk => ⟨(Nat.le_trans (keep_size (w := w) (g := g) (row := none) kp_) hk), IsS71.fresh (iss71_ HIz1.out) k_ hk⟩)); (case aO => exact (lN_ HOz1.out)); (case aS => exact (keep_size (w := w) (g := g) (row := none) kp_)); (case aL => have := LMcz1.out; omega); intro vz2 wz4 ho hb hg hat; rw [← Nyz1.out] at ho; replace HLz1 := Aside0.mk (Kd.V_afterv (ok := (fun k_ => (w.heap.size ≤ k_) ∧ k_ ≠ g)) (lV_ HLz1.out) hg hat); replace HB := Aside0.mk (below_weaken (bx_ (IsS71.ge HIz1.out)) HL.out hb); replace HIz1 := Aside0.mk (IsS71.grown (iss71_ HIz1.out) hg (IsS71.own_neN HIz1.out HOz1.out (by decide))); replace HK := Aside0.mk (KeepBut.trans kp_ (KeepBut.of_grown hg g) (Kd.N_base2 HOz1.out)); have HOz2 := Aside0.mk (ho); clear HOz1 ho hb hg hat))
  go_ret
  exact ⟨_, er_, lN_ (Kd.N_mono HOz2.out (fun _ hk => hk.1)), iss71_ HIz1.out, bx_ (IsS71.ge HIz1.out), kp_⟩

end Go.Proofs.YtpigbffaacilfaaDoor.P
