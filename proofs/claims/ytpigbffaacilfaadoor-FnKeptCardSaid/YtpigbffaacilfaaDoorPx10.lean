-- Printed by a program over the kit's print.py (mp.sh), several laws in one namespace.
import Derived.Test.YtpigbffaacilfaaDoorPx0
import Derived.Test.YtpigbffaacilfaaDoorS
namespace Go.Proofs.YtpigbffaacilfaaDoor.P
open Go.RowKit Go.Proofs.YtpigbffaacilfaaDoor.X Go.Proofs.YtpigbffaacilfaaDoorW.PrintWords Go.Proofs.YtpigbffaacilfaaDoorW.PrintLast Go.Proofs.YtpigbffaacilfaaDoorW.PrintMore
attribute [local go_sem] max2_int min2_int max_two min_two max_three min_three max_four min_four   -- for this text's walks alone
set_option linter.unusedVariables false
set_option linter.unusedSimpArgs false

def impl_joined_bools0_ : Array Bool := bs_ 13 0
def impl_joined_bools1_ : Array Bool := bs_ 13 1
def impl_joined_bools2_ : Array Bool := bs_ 13 3
def impl_joined_bools3_ : Array Bool := bs_ 13 11
def impl_joined_bools4_ : Array Bool := bs_ 13 139
def impl_joined_bools5_ : Array Bool := bs_ 13 143
def impl_joined_bools6_ : Array Bool := bs_ 13 159
def impl_joined_bools7_ : Array Bool := bs_ 13 415
def impl_joined_bools8_ : Array Bool := bs_ 13 447
def impl_joined_bools9_ : Array Bool := bs_ 13 511
def impl_joined_bools10_ : Array Bool := bs_ 13 1023
def impl_joined_bools11_ : Array Bool := bs_ 13 2047
def impl_joined_bools12_ : Array Bool := bs_ 13 4095
def impl_joined_bools13_ : Array Bool := bs_ 13 8191
def impl_joined.l0 : Nat → List Int → List (List Int) → Int → Int → Option (List Int)
  | 0, _, _, _, _ => none
  | k + 1, x3, x7, x8, x9 => if x9 < x8 then (if 0 ≤ x9 then (if x9 < (x7.length : Int) then (if x3.length + (rd_L2 x7 x9).length < 140737488355328 then (impl_joined.l0 k (x3 ++ (rd_L2 x7 x9)) x7 x8 (wrap64 (x9 + 1))) else (none)) else (none)) else (none)) else (some x3)
def impl_joined.f (k : Nat) (l0 : List (List Int)) : Option (List Int) := impl_joined.l0 k (([] : List Int)) l0 (l0.length : Int) 0
theorem impl_joined.mono_l : ∀ k, (∀ y0 y1 y2 y3, LeO (impl_joined.l0 k y0 y1 y2 y3) (impl_joined.l0 (k + 1) y0 y1 y2 y3))
  | 0 => fun _ _ _ _ r h => by simp [impl_joined.l0] at h
  | k + 1 => by
    have ih0 := impl_joined.mono_l k
    · intro y0 y1 y2 y3
      unfold impl_joined.l0
      repeat' first
      | (with_reducible exact ih0 _ _ _ _)
      | (with_reducible exact LeO.refl _)
      | (with_reducible exact LeO.none _)
      | (with_reducible refine LeO.ite ?_ ?_)
      | (with_reducible refine LeO.bind ?_ (fun _ => ?_))
      | exact ih0 _ _ _ _
      | exact LeO.none _
      | refine LeO.ite ?_ ?_
      | refine LeO.bind ?_ (fun _ => ?_)
theorem impl_joined.mono : ∀ a0 k, LeO (impl_joined.f k a0) (impl_joined.f (k + 1) a0) := by
  intro a0 k
  have ih0 := impl_joined.mono_l k
  unfold impl_joined.f
  repeat' first
      | (with_reducible exact ih0 _ _ _ _)
      | (with_reducible exact LeO.refl _)
      | (with_reducible exact LeO.none _)
      | (with_reducible refine LeO.ite ?_ ?_)
      | (with_reducible refine LeO.bind ?_ (fun _ => ?_))
      | exact ih0 _ _ _ _
      | exact LeO.none _
      | refine LeO.ite ?_ ?_
      | refine LeO.bind ?_ (fun _ => ?_)
set_option maxHeartbeats 8000000 in
set_option maxRecDepth 100000 in
theorem impl_joined.calls (k : Nat) (A0 : Option Addr) (c0 : Nat) (l0 : List (List Int)) (r : List Int) (w : World) (hr0 : Kd.C (Kd.slice 5 (Kd.int .u8)) w A0 l0.length l0) (hc0 : l0.length ≤ c0) (h : impl_joined.f k l0 = some r) :
    Calls Tryd.prog 33 #[.slice A0 l0.length c0] w fun e w' => ∃ v0_ : Value, e = .returned (v0_) ∧ Kd.R (Kd.int .u8) 5 w' w.heap.size (fun _ => True) v0_ r ∧ Below w.heap.size w w' := by
  have HRz1 := Aside0.mk hr0
  have HCz1 := Aside0.mk hc0
  clear hr0 hc0
  have HB := Aside0.mk (Below.refl w.heap.size w)
  have H : (impl_joined.l0 k (([] : List Int)) l0 (l0.length : Int) 0) = some r := h
  clear h
  obtain ⟨yz1, hyz1⟩ : ∃ y_ : List Int, y_ = (([] : List Int)) := ⟨_, rfl⟩
  (first | (with_reducible replace H := ys_ hyz1 H; (try dsimp only at H)) | rw [← hyz1] at H | skip)
  have Nyz1 := Aside0.mk hyz1
  clear hyz1
  have H' := Aside0.mk H
  clear H
  go_enter Tryd.func33, Tryd.ntmps33
  go_wp2_with (first | ((with_reducible refine gate_dst (N := 6) rfl ?_); refine Kd.R_lit (Kd.int .u8) _ 5 ?hg (N := 6) ?hd (xs := ([] : List Int)) (inner := []) (ok := fun _ => True) (okp := fun _ => True) ?hr ?hp (fun _ hk => hk) trivial (Below.refl _ _) (Nat.le_refl _) (by simp) ?_; (case hd => rfl); (case hg => rfl); (case hr => first | (go_simp; done) | (go_simp; rfl)); (case hp => exact (Reps.none _ _)); intro vz1 wz1 hoz1 hb hg_ hnew_; clear hg_ hnew_; (first | rw [← Nyz1.out] at hoz1 | (simp only [Int.reduceToNat] at hoz1; rw [← Nyz1.out] at hoz1)); have HOz1 := Aside0.mk (Kd.R_lower hoz1 (below_size be_)); replace HB := bw_ hb; clear hb hoz1))
  go_loopg [3, 9] k (fun kq v3 v9 w' => ∃ (x3_1 : List Int) (x9_1 : Int), v9 = .int .i64 x9_1 ∧ Aside0 (impl_joined.l0 kq x3_1 l0 (l0.length : Int) x9_1 = some r) ∧ Aside0 (kq ≤ k) ∧ Aside0 (Kd.R (Kd.int .u8) 5 w' w.heap.size (fun _ => True) v3 x3_1) ∧ Aside0 (Below w.heap.size w w'))
  case atStart => exact ⟨(yz1), (0), rs_, H', ⟨Nat.le_refl _⟩, ⟨lR_ HOz1.out⟩, ⟨be_⟩⟩
  case round =>
    clear H'
    try clear p2
    try clear c3
    obtain ⟨xz1, xz2, rfl, HA, HKz1, HO_3, HB⟩ := hrel
    cases gk with
    | zero => exact absurd HA.out (by simp [impl_joined.l0])
    | succ kz1 =>
      have H := HA.out
      clear HA
      simp only [impl_joined.l0] at H
      by_cases cz1 : xz2 < (l0.length : Int)
      rotate_left
      · rw [if_neg cz1] at H
        have cz2 : decide (xz2 < (l0.length : Int)) = false := decide_eq_false cz1
        clear cz1
        obtain rfl := Option.some.inj H
        go_wp2
        go_ret
        exact ⟨_, er_, lR_ HO_3.out, be_⟩
      rw [if_pos cz1] at H
      have cz2 : decide (xz2 < (l0.length : Int)) = true := decide_eq_true cz1
      clear cz1
      by_cases cz3 : 0 ≤ xz2
      rotate_left
      · rw [if_neg cz3] at H
        exact absurd H (by simp)
      rw [if_pos cz3] at H
      have cz4 : decide (0 ≤ xz2) = true := decide_eq_true cz3
      clear cz3
      by_cases cz5 : xz2 < (l0.length : Int)
      rotate_left
      · rw [if_neg cz5] at H
        exact absurd H (by simp)
      rw [if_pos cz5] at H
      have cz6 : decide (xz2 < (l0.length : Int)) = true := decide_eq_true cz5
      clear cz5
      by_cases cz7 : xz1.length + (rd_L2 l0 xz2).length < 140737488355328
      rotate_left
      · rw [if_neg cz7] at H
        exact absurd H (by simp)
      rw [if_pos cz7] at H
      have LMcz1 := Aside0.mk cz7
      clear cz7
      obtain ⟨yz2, hyz2⟩ : ∃ y_ : List Int, y_ = (xz1 ++ (rd_L2 l0 xz2)) := ⟨_, rfl⟩
      (first | (with_reducible replace H := ys_ hyz2 H; (try dsimp only at H)) | rw [← hyz2] at H | skip)
      have Nyz2 := Aside0.mk hyz2
      clear hyz2
      have H' := Aside0.mk H
      clear H
      have pz1 : 0 ≤ (xz2 : Int) := dt_
      have qz1 : xz2 < (l0.length : Int) := dt_
      obtain ⟨adz1, Az1, cz8, ez1, hxz1, hlz1, hiz1⟩ := at_L2 HRz1.out xz2 pz1 qz1
      cases ez1
      replace hxz1 := cl_ HB hxz1
      have HRz2 := Aside0.mk hiz1
      have HCz2 := Aside0.mk hlz1
      clear hiz1 hlz1
      replace pz1 := eq_true pz1
      replace qz1 := eq_true qz1
      go_wp2_with (first | ((with_reducible refine gate_builtin (b := .append) (xs := #[.tmp 13, .tmp 14]) rfl ?_); at_builtin; refine Kd.R_append_rows (Kd.int .u8) (w0 := w) w.heap.size rfl (.tmp 13) (.tmp 14) 23 5 (.int .u8 0) 1 rfl Tryd.underlying23 info5 rfl (by decide) (by omega) u3 xz1 (rd_L2 l0 xz2) _ _ _ (fun _ => True) (fun _ => False) rfl rfl ?aO ?aR (fun _ _ h => h) (fun _ h => h.elim) ?aF ?aB ?aS ?aL ?_; (case aR => exact Kd.C_below HRz2.out be_); (case aB => exact be_); (case aF => exact (fun _ _ => trivial)); (case aO => exact (lR_ HO_3.out)); (case aS => exact (below_size be_)); (case aL => have := LMcz1.out; omega); intro vz2 wz2 ho hb hg hat; rw [← Nyz2.out] at ho; replace HB := Aside0.mk (hb); have HOz2 := Aside0.mk (ho); clear HO_3 ho hb hg hat))
      go_roundg kz1
      case measure => have := HKz1.out; omega
      case rel => exact ⟨(yz2), (wrap64 (xz2 + 1)), rs_, H', ⟨by have := HKz1.out; omega⟩, ⟨lR_ HOz2.out⟩, ⟨be_⟩⟩

def impl_copyKept.l0 : Nat → List (S41) → List (S41) → Int → Int → Option ((List (S41)))
  | 0, _, _, _, _ => none
  | k + 1, x3, x7, x8, x9 => if x9 < x8 then (if 0 ≤ x9 then (if x9 < (x7.length : Int) then ((impl_joined.f k (([(rd_T41 x7 x9).f1] : List (List Int)))).bind fun t238 => (if x3.length < 2932031007402 then (impl_copyKept.l0 k (x3 ++ [(⟨(rd_T41 x7 x9).f0, t238, (rd_T41 x7 x9).f2⟩ : S41)]) x7 x8 (wrap64 (x9 + 1))) else (none))) else (none)) else (none)) else (some x3)
def impl_copyKept.f (k : Nat) (l0 : List (S41)) : Option ((List (S41))) := impl_copyKept.l0 k (([] : List (S41))) l0 (l0.length : Int) 0
theorem impl_copyKept.mono_l : ∀ k, (∀ y0 y1 y2 y3, LeO (impl_copyKept.l0 k y0 y1 y2 y3) (impl_copyKept.l0 (k + 1) y0 y1 y2 y3))
  | 0 => fun _ _ _ _ r h => by simp [impl_copyKept.l0] at h
  | k + 1 => by
    have ih0 := impl_copyKept.mono_l k
    · intro y0 y1 y2 y3
      unfold impl_copyKept.l0
      repeat' first
      | (with_reducible exact ih0 _ _ _ _)
      | (with_reducible exact impl_joined.mono _ _)
      | (with_reducible exact LeO.refl _)
      | (with_reducible exact LeO.none _)
      | (with_reducible refine LeO.ite ?_ ?_)
      | (with_reducible refine LeO.bind ?_ (fun _ => ?_))
      | exact ih0 _ _ _ _
      | exact impl_joined.mono _ _
      | exact LeO.none _
      | refine LeO.ite ?_ ?_
      | refine LeO.bind ?_ (fun _ => ?_)
theorem impl_copyKept.mono : ∀ a0 k, LeO (impl_copyKept.f k a0) (impl_copyKept.f (k + 1) a0) := by
  intro a0 k
  have ih0 := impl_copyKept.mono_l k
  unfold impl_copyKept.f
  repeat' first
      | (with_reducible exact ih0 _ _ _ _)
      | (with_reducible exact impl_joined.mono _ _)
      | (with_reducible exact LeO.refl _)
      | (with_reducible exact LeO.none _)
      | (with_reducible refine LeO.ite ?_ ?_)
      | (with_reducible refine LeO.bind ?_ (fun _ => ?_))
      | exact ih0 _ _ _ _
      | exact impl_joined.mono _ _
      | exact LeO.none _
      | refine LeO.ite ?_ ?_
      | refine LeO.bind ?_ (fun _ => ?_)
def impl_copyKept.T5 : Bool × List (List Nat × List Nat) := (true, [([], []), ([], []), ([1], [1]), ([], []), ([3], [3]), ([4], [4]), ([5], [5]), ([], []), ([7], [7]), ([2, 6, 8], [2, 6, 8]), ([9], [9]), ([0, 10, 6], [0, 10]), ([11, 11, 0, 1, 2, 3, 4, 5, 6, 7, 8, 9, 10, 11], [0, 11])])
def impl_copyKept.B5 : List Nat := [0, 0, 2, 0, 8, 24, 56, 0, 128, 510, 1022, 2047, 4095]
theorem impl_copyKept.tab5 : rtab .any (opsOf Tryd.f29 5) = impl_copyKept.T5 := by kernel_rfl
theorem impl_copyKept.bits5 : waitsOk impl_copyKept.T5.2 impl_copyKept.B5 = true := by kernel_rfl
set_option maxHeartbeats 8000000 in
set_option maxRecDepth 100000 in
theorem impl_copyKept.callsS (k : Nat) (P0_ : Nat → Prop) (A0 : Option Addr) (c0 : Nat) (l0 : List (S41)) (r : List (S41)) (w : World) (hs0 : Kd.V k41 41 w w.heap.size (fun k_ => P0_ k_) (.slice A0 l0.length c0) l0) (h : impl_copyKept.f k l0 = some r) :
    Calls Tryd.prog 29 #[.slice A0 l0.length c0] w fun e w' => ∃ v0_ : Value, e = .returned (v0_) ∧ Kd.S k41 41 w' w.heap.size (fun _ => True) v0_ r ∧ Below w.heap.size w w' := by
  have hu41 := Tryd.underlying41
  have HO0 := Aside0.mk (show Kd.V k41 41 w w.heap.size (fun k_ => (P0_ k_ ∨ w.heap.size ≤ k_)) (.slice A0 l0.length c0) l0 from Kd.V_mono hs0 (fun k_ hk => .inl hk))
  have HB := Aside0.mk (Below.refl w.heap.size w)
  have H : (impl_copyKept.l0 k (([] : List (S41))) l0 (l0.length : Int) 0) = some r := h
  clear h
  obtain ⟨y230, hy230⟩ : ∃ y_ : List (S41), y_ = (([] : List (S41))) := ⟨_, rfl⟩
  (first | (with_reducible replace H := ys_ hy230 H; (try dsimp only at H)) | rw [← hy230] at H | skip)
  have Ny230 := Aside0.mk hy230
  clear hy230
  have H' := Aside0.mk H
  clear H
  go_enter Tryd.func29, Tryd.ntmps29
  go_wp2_with (first | ((with_reducible refine gate_dst (N := 6) rfl ?_); refine Kd.S_lit k41 _ 41 ?hg (N := 6) ?hd (xs := ([] : List (S41))) (inner := []) (ok := fun _ => True) (okp := fun _ => True) ?hr ?hp (fun _ hk => hk) trivial (Below.refl _ _) (Nat.le_refl _) (by simp) ?_; (case hd => rfl); (case hg => rfl); (case hr => first | (go_simp; done) | (go_simp; rfl)); (case hp => exact (Reps.none _ _)); intro v231 w2 ho3 hb hg_ hnew_; clear hg_ hnew_; (first | rw [← Ny230.out] at ho3 | (simp only [Int.reduceToNat] at ho3; rw [← Ny230.out] at ho3)); replace HO0 := eV_ HO0 (Kd.S_base ho3) hb; have HO232 := Aside0.mk (Kd.S_lower ho3 (below_size be_)); replace HB := bw_ hb; clear hb ho3))
  go_loopg [3, 9] k (fun kq v3 v9 w' => ∃ (x3_1 : List (S41)) (x9_1 : Int), v9 = .int .i64 x9_1 ∧ Aside0 (impl_copyKept.l0 kq x3_1 l0 (l0.length : Int) x9_1 = some r) ∧ Aside0 (kq ≤ k) ∧ Aside0 (Kd.S k41 41 w' w.heap.size (fun _ => True) v3 x3_1) ∧ Aside0 (Kd.V k41 41 w' w.heap.size (fun k_ => (P0_ k_ ∨ w.heap.size ≤ k_) ∧ some k_ ≠ (v3 : Value).ownBlock) (.slice A0 l0.length c0) l0) ∧ Aside0 (Below w.heap.size w w'))
  case atStart => exact ⟨(y230), (0), rs_, H', ⟨Nat.le_refl _⟩, ⟨lS_ HO232.out⟩, ⟨lV_ HO0.out⟩, ⟨be_⟩⟩
  case round =>
    clear H'
    try clear c2
    try clear p2
    obtain ⟨x3_1, x9_1, rfl, HA, HK1, HO_3, HO_7, HB⟩ := hrel
    cases gk with
    | zero => exact absurd HA.out (by simp [impl_copyKept.l0])
    | succ k1 =>
      have H := HA.out
      clear HA
      simp only [impl_copyKept.l0] at H
      by_cases c4 : x9_1 < (l0.length : Int)
      · rw [if_pos c4] at H
        have c4b0 : decide (x9_1 < (l0.length : Int)) = true := decide_eq_true c4
        clear c4
        by_cases c5 : 0 ≤ x9_1
        · rw [if_pos c5] at H
          have c5b0 : decide (0 ≤ x9_1) = true := decide_eq_true c5
          clear c5
          by_cases c6 : x9_1 < (l0.length : Int)
          · rw [if_pos c6] at H
            have c6b0 : decide (x9_1 < (l0.length : Int)) = true := decide_eq_true c6
            clear c6
            obtain ⟨y235, hy235⟩ : ∃ y_ : List (List Int), y_ = (([(rd_T41 l0 x9_1).f1] : List (List Int))) := ⟨_, rfl⟩
            (first | (with_reducible replace H := ys_ hy235 H; (try dsimp only at H)) | rw [← hy235] at H | skip)
            have Ny235 := Aside0.mk hy235
            clear hy235
            replace H := bo_ H
            obtain ⟨t238, A7, H⟩ := H
            (try dsimp only at H)
            by_cases c8 : x3_1.length < 2932031007402
            · rw [if_pos c8] at H
              have LMc8 := Aside0.mk c8
              clear c8
              obtain ⟨y241, hy241⟩ : ∃ y_ : List (S41), y_ = (x3_1 ++ [(⟨(rd_T41 l0 x9_1).f0, t238, (rd_T41 l0 x9_1).f2⟩ : S41)]) := ⟨_, rfl⟩
              (first | (with_reducible replace H := ys_ hy241 H; (try dsimp only at H)) | rw [← hy241] at H | skip)
              have Ny241 := Aside0.mk hy241
              clear hy241
              have H' := Aside0.mk H
              clear H
              have p233 : 0 ≤ (x9_1 : Int) := dt_
              have q233 : x9_1 < (l0.length : Int) := dt_
              obtain ⟨ad233, A233_1, c233_1, e233, hx233_0, hx233_1, hx233_2, hl233_1, hi233_1⟩ := at_T41 (Kd.V_reads' HO_7.out).2.2 x9_1 p233 q233
              cases e233
              obtain ⟨ce233, hce233, hMe233, hcc233⟩ := Kd.V_get HO_7.out z41 x9_1 p233 (by first | exact q233 | exact dt_ | (have e_ := (Kd.V_reads' HO_7.out).1; omega))
              obtain ⟨ua233_1, uc233_1, rfl, ul233_1, ge233_1⟩ := k41_openF hMe233
              have hv233_1 := hcc233 1 _ rfl
              rw [add_field _ _ 1 (by omega)] at hv233_1
              replace hv233_1 := Option.some.inj (hv233_1.symm.trans hx233_1)
              injection hv233_1 with hva_ hvn_ hvc_
              rw [hva_] at ge233_1
              rw [hvc_] at ul233_1
              have HL233_1 := Aside0.mk (show Kd.V (Kd.int .u8) 5 _ w.heap.size _ _ ((rd_T41 l0 x9_1).f1) from Kd.V_mk ul233_1 ge233_1)
              clear hva_ hvn_ hvc_ ge233_1 ul233_1 hcc233 hce233
              have HR233_1 := Aside0.mk hi233_1
              have HC233_1 := Aside0.mk hl233_1
              clear hi233_1 hl233_1
              replace p233 := eq_true p233
              replace q233 := eq_true q233
              try go_wp2_with (first | ((with_reducible refine gate_dst (N := 5) rfl ?_); refine box_event ?hg (N := 5) ?hd (cs := #[.string (⟨#[]⟩ : ByteArray), .slice none 0 0, .int .i64 0]) (t := 41) ?hr ?_; (case hd => rfl); (case hg => rfl); (case hr => first | (go_simp; done) | (go_simp; rfl)); intro gb234 hg w9 hbox hb; replace HO_3 := Aside0.mk (Kd.S_below (Kd.S_elderB (lS_ HO_3.out) gb234 (Nat.le_of_eq hg.symm)) hb); replace HO_7 := Aside0.mk (Kd.V_below (Kd.V_elderB (lV_ HO_7.out) gb234 (Nat.le_of_eq hg.symm)) hb); replace HL233_1 := Aside0.mk (Kd.V_below (Kd.V_elderB (lV_ HL233_1.out) gb234 (Nat.le_of_eq hg.symm)) hb); replace HR233_1 := Aside0.mk (Kd.C_below (by repeat (first | (with_reducible exact HR233_1.out) | (with_reducible refine Kd.C_alloc ?_ _) | (with_reducible refine Kd.C_drewN ?_ _) | (with_reducible refine Kd.C_drew ?_) | exact HR233_1.out)) hb); have BK234 := Aside0.mk (hbox); have GW234 := Aside0.mk ((sz_ : w.heap.size ≤ gb234)); have GE234 := Aside0.mk ((sz_ : w.heap.size ≤ gb234)); replace HB := bw_ hb; clear hb hbox hg; have hcz10_0 : w9.cell? ⟨gb234, 0, none⟩ = some (.string (⟨#[]⟩ : ByteArray)) := bc_ BK234 0; have hcz10_1 : w9.cell? ⟨gb234, 1, none⟩ = some (.slice none 0 0) := bc_ BK234 1; have hcz10_2 : w9.cell? ⟨gb234, 2, none⟩ = some (.int .i64 0) := bc_ BK234 2; have hfz10_0 := blk_frozen BK234.out 0; have hfz10_1 := blk_frozen BK234.out 1; have hfz10_2 := blk_frozen BK234.out 2))
              have n0_ : Aside0 (Kd.S k41 41 (((w9.setCell ⟨gb234, 0, none⟩ (.string ((rd_T41 l0 x9_1).f0))).setCell ⟨gb234, 1, none⟩ (.slice A233_1 ((rd_T41 l0 x9_1).f1).length c233_1)).setCell ⟨gb234, 2, none⟩ (.int .i64 ((rd_T41 l0 x9_1).f2))) w.heap.size (fun k_ => True ∧ k_ ≠ gb234) u3 x3_1) := ⟨lS_ (Kd.S_mono (Kd.S_far (p := ⟨gb234, 2, none⟩) (Kd.S_far (p := ⟨gb234, 1, none⟩) (Kd.S_far (p := ⟨gb234, 0, none⟩) (Kd.S_mono HO_3.out (fun k_ hk => (⟨hk, hk.2⟩ : _ ∧ k_ ≠ gb234))) (fun _ hk => hk.2) (.string ((rd_T41 l0 x9_1).f0))) (fun _ hk => hk.2) (.slice A233_1 ((rd_T41 l0 x9_1).f1).length c233_1)) (fun _ hk => hk.2) (.int .i64 ((rd_T41 l0 x9_1).f2))) (fun _ hk => ⟨hk.1.1, hk.1.2⟩))⟩
              have n1_ : Aside0 (Kd.V k41 41 (((w9.setCell ⟨gb234, 0, none⟩ (.string ((rd_T41 l0 x9_1).f0))).setCell ⟨gb234, 1, none⟩ (.slice A233_1 ((rd_T41 l0 x9_1).f1).length c233_1)).setCell ⟨gb234, 2, none⟩ (.int .i64 ((rd_T41 l0 x9_1).f2))) w.heap.size (fun k_ => (P0_ k_ ∨ w.heap.size ≤ k_) ∧ some k_ ≠ (u3 : Value).ownBlock ∧ k_ ≠ gb234) (.slice (some ad233) l0.length c0) l0) := ⟨lV_ (Kd.V_mono (Kd.V_far (p := ⟨gb234, 2, none⟩) (Kd.V_far (p := ⟨gb234, 1, none⟩) (Kd.V_far (p := ⟨gb234, 0, none⟩) (Kd.V_mono HO_7.out (fun k_ hk => (⟨hk, hk.2⟩ : _ ∧ k_ ≠ gb234))) (fun _ hk => hk.2) (.string ((rd_T41 l0 x9_1).f0))) (fun _ hk => hk.2) (.slice A233_1 ((rd_T41 l0 x9_1).f1).length c233_1)) (fun _ hk => hk.2) (.int .i64 ((rd_T41 l0 x9_1).f2))) (fun _ hk => ⟨hk.1.1.1, ⟨hk.1.1.2, hk.1.2⟩⟩))⟩
              have n2_ : Aside0 (Kd.V (Kd.int .u8) 5 (((w9.setCell ⟨gb234, 0, none⟩ (.string ((rd_T41 l0 x9_1).f0))).setCell ⟨gb234, 1, none⟩ (.slice A233_1 ((rd_T41 l0 x9_1).f1).length c233_1)).setCell ⟨gb234, 2, none⟩ (.int .i64 ((rd_T41 l0 x9_1).f2))) w.heap.size (fun k_ => (P0_ k_ ∨ w.heap.size ≤ k_) ∧ some k_ ≠ (u3 : Value).ownBlock ∧ k_ ≠ gb234) (.slice A233_1 ((rd_T41 l0 x9_1).f1).length c233_1) ((rd_T41 l0 x9_1).f1)) := ⟨lV_ (Kd.V_mono (Kd.V_far (p := ⟨gb234, 2, none⟩) (Kd.V_far (p := ⟨gb234, 1, none⟩) (Kd.V_far (p := ⟨gb234, 0, none⟩) (Kd.V_mono HL233_1.out (fun k_ hk => (⟨hk, hk.2⟩ : _ ∧ k_ ≠ gb234))) (fun _ hk => hk.2) (.string ((rd_T41 l0 x9_1).f0))) (fun _ hk => hk.2) (.slice A233_1 ((rd_T41 l0 x9_1).f1).length c233_1)) (fun _ hk => hk.2) (.int .i64 ((rd_T41 l0 x9_1).f2))) (fun _ hk => ⟨hk.1.1.1, ⟨hk.1.1.2, hk.1.2⟩⟩))⟩
              have n3_ : Aside0 ((((w9.setCell ⟨gb234, 0, none⟩ (.string ((rd_T41 l0 x9_1).f0))).setCell ⟨gb234, 1, none⟩ (.slice A233_1 ((rd_T41 l0 x9_1).f1).length c233_1)).setCell ⟨gb234, 2, none⟩ (.int .i64 ((rd_T41 l0 x9_1).f2))).heap[gb234]? = some (.cells #[.string ((rd_T41 l0 x9_1).f0), .slice A233_1 ((rd_T41 l0 x9_1).f1).length c233_1, .int .i64 ((rd_T41 l0 x9_1).f2)] 41 (0, 0))) := ⟨by (with_reducible repeat (first | refine blk_drewN ?_ _ | refine blk_drew ?_ | refine blk_alloc ?_ _)); refine blk_put (cs := #[.string ((rd_T41 l0 x9_1).f0), .slice A233_1 ((rd_T41 l0 x9_1).f1).length c233_1, .int .i64 0]) ?_ 2 _ rfl; (with_reducible repeat (first | refine blk_drewN ?_ _ | refine blk_drew ?_ | refine blk_alloc ?_ _)); refine blk_put (cs := #[.string ((rd_T41 l0 x9_1).f0), .slice none 0 0, .int .i64 0]) ?_ 1 _ rfl; (with_reducible repeat (first | refine blk_drewN ?_ _ | refine blk_drew ?_ | refine blk_alloc ?_ _)); refine blk_put (cs := #[.string (⟨#[]⟩ : ByteArray), .slice none 0 0, .int .i64 0]) ?_ 0 _ rfl; (with_reducible repeat (first | refine blk_drewN ?_ _ | refine blk_drew ?_ | refine blk_alloc ?_ _)); exact BK234.out⟩
              have n4_ : Aside0 (Below w.heap.size w (((w9.setCell ⟨gb234, 0, none⟩ (.string ((rd_T41 l0 x9_1).f0))).setCell ⟨gb234, 1, none⟩ (.slice A233_1 ((rd_T41 l0 x9_1).f1).length c233_1)).setCell ⟨gb234, 2, none⟩ (.int .i64 ((rd_T41 l0 x9_1).f2)))) := ⟨be_⟩
              clear HL233_1
              generalize (((w9.setCell ⟨gb234, 0, none⟩ (.string ((rd_T41 l0 x9_1).f0))).setCell ⟨gb234, 1, none⟩ (.slice A233_1 ((rd_T41 l0 x9_1).f1).length c233_1)).setCell ⟨gb234, 2, none⟩ (.int .i64 ((rd_T41 l0 x9_1).f2))) = w11 at n0_ n1_ n2_ n3_ n4_ ⊢
              have HO_3 := n0_
              have HO_7 := n1_
              have HL233_1 := n2_
              have BK234 := n3_
              have HB := n4_
              clear n0_ n1_ n2_ n3_ n4_
              replace HO_3 := Aside0.mk (Kd.S_drew HO_3.out)
              replace HO_7 := Aside0.mk (Kd.V_drew HO_7.out)
              replace HL233_1 := Aside0.mk (Kd.V_drew HL233_1.out)
              replace BK234 := Aside0.mk (blk_drew BK234.out)
              replace HB := Aside0.mk (below_drew1 HB.out)
              refine start_ (n := 13) (S := fun w' => w'.cell? ⟨gb234, 0, none⟩ = some (.string ((rd_T41 l0 x9_1).f0)) ∧ w'.cell? ⟨gb234, 1, none⟩ = some (.slice A233_1 ((rd_T41 l0 x9_1).f1).length c233_1) ∧ w'.cell? ⟨gb234, 2, none⟩ = some (.int .i64 ((rd_T41 l0 x9_1).f2))) (ds := []) impl_joined_bools0_ (by kernel_rfl) rfl (by kernel_rfl) ⟨bc_ BK234 0, bc_ BK234 1, bc_ BK234 2⟩ (fun hHeld => ?_); refine with_tabW impl_copyKept.tab5 impl_copyKept.bits5 (fun HT_ HW_ => ?_)
              generalize w11.drew = w12 at HO_3 HO_7 HL233_1 BK234 HB hHeld ⊢
              refine pu_ HT_ 0 13 impl_joined_bools1_ ?_
              refine pu_ HT_ 1 14 impl_joined_bools2_ ?_
              refine pu_ HT_ 3 16 impl_joined_bools3_ ?_
              refine pu_ HT_ 7 20 impl_joined_bools4_ ?_
              refine ta_ HT_ HW_ hHeld 2 15 impl_joined_bools5_ ?_
              refine ta_ HT_ HW_ hHeld 4 17 impl_joined_bools6_ ?_
              refine ta_ HT_ HW_ hHeld 8 21 impl_joined_bools7_ ?_
              refine on_ HT_ 5 18 impl_joined_bools8_ (fun K hK => ?_)
              refine Kd.N_lit_step (Kd.slice 5 (Kd.int .u8)) _ 23 ?hg (N' := 18) ?hd (xs := ([(rd_T41 l0 x9_1).f1] : List (List Int))) (inner := [.slice A233_1 ((rd_T41 l0 x9_1).f1).length c233_1]) (ok := (fun k_ => (P0_ k_ ∨ w.heap.size ≤ k_) ∧ some k_ ≠ (u3 : Value).ownBlock ∧ k_ ≠ gb234)) (okp := (fun k_ => (P0_ k_ ∨ w.heap.size ≤ k_) ∧ some k_ ≠ (u3 : Value).ownBlock ∧ k_ ≠ gb234)) ?hr ?hp (fun _ hk => hk) ((show ∀ k_, w12.heap.size ≤ k_ → (fun k_ => (P0_ k_ ∨ w.heap.size ≤ k_) ∧ some k_ ≠ (u3 : Value).ownBlock ∧ k_ ≠ gb234) k_ from fun k_ hk => ⟨(.inr (Nat.le_trans (below_size be_) hk)), Kd.fresh' (Kd.S_lt (lS_ HO_3.out)) k_ hk, Kd.freshB (g := gb234) (o := .cells #[.string ((rd_T41 l0 x9_1).f0), .slice A233_1 ((rd_T41 l0 x9_1).f1).length c233_1, .int .i64 ((rd_T41 l0 x9_1).f2)] 41 (0, 0)) bk_ k_ hk⟩) _ (Nat.le_refl _)) (Below.refl _ _) (Nat.le_refl _) (by simp) ?_; (case hd => rfl); (case hg => rfl); (case hr => first | (go_simp; done) | (go_simp; rfl)); (case hp => exact (Reps.one (show Kd.FK (Kd.slice 5 (Kd.int .u8)) _ _ ((rd_T41 l0 x9_1).f1) [.slice A233_1 ((rd_T41 l0 x9_1).f1).length c233_1] from (Kd.FK_slice_mk (Kd.V_reads' (Kd.V_mono (ok' := (fun k_ => (P0_ k_ ∨ w.heap.size ≤ k_) ∧ some k_ ≠ (u3 : Value).ownBlock ∧ k_ ≠ gb234)) (HL233_1.out) (fun k_ hk => ⟨hk.1, ⟨hk.2.1, hk.2.2⟩⟩))).2.1 (Kd.V_F (Kd.V_mono (ok' := (fun k_ => (P0_ k_ ∨ w.heap.size ≤ k_) ∧ some k_ ≠ (u3 : Value).ownBlock ∧ k_ ≠ gb234)) (HL233_1.out) (fun k_ hk => ⟨hk.1, ⟨hk.2.1, hk.2.2⟩⟩))))) (Reps.none _ _)))
              intro v236 w13 ho14 hb hg_ hnew_
              clear hg_ hnew_
              (first | rw [← Ny235.out] at ho14 | (simp only [Int.reduceToNat] at ho14; rw [← Ny235.out] at ho14))
              replace HO_3 := eS_ HO_3 (Kd.N_base ho14) hb
              replace HO_7 := eV_ HO_7 (Kd.N_base ho14) hb
              replace HL233_1 := eV_ HL233_1 (Kd.N_base ho14) hb
              have HO237 := Aside0.mk (Kd.N_lower ho14 (below_size be_))
              replace HB := bw_ hb
              replace BK234 := kb_ BK234 hb
              clear hb ho14
              obtain ⟨Ao15, co15, eo15⟩ := Kd.N_slice HO237.out
              (first | subst eo15 | (injection eo15 with f1_ f2_ f3_; have f4_ := f1_.symm; have f5_ := f3_.symm; clear f1_ f2_ f3_; subst f4_; subst f5_))
              refine hK.out _ _ ⟨bc_ BK234 0, bc_ BK234 1, bc_ BK234 2⟩ (fun hHeld => ?_)
              clear hK K
              refine nm_ 18 ?_
              refine on_ HT_ 6 19 impl_joined_bools9_ (fun K hK => ?_)
              refine goes_ Tryd.func33 (by kernel_rfl) rfl #[.slice Ao15 y235.length co15] (by rfl) rfl rfl ar_ ?_
              with_reducible refine (impl_joined.calls k1 _ _ y235 t238 _ ?side1 ?side2 A7.out).mono ?_
              (case side1 => exact cN_ HO237)
              (case side2 => exact (Kd.N_reads' HO237.out).2.1)
              rintro e w16 ⟨v239, rfl, ho0, hb⟩
              refine ⟨_, rfl, ?_⟩
              replace HO_3 := eS_ HO_3 (Kd.R_base ho0) hb
              replace HO_7 := eV_ HO_7 (Kd.R_base ho0) hb
              replace HL233_1 := eV_ HL233_1 (Kd.R_base ho0) hb
              replace HO237 := eN_ HO237 (Kd.R_base ho0) hb
              have HO240 := Aside0.mk (Kd.R_lower (Kd.R_newM (M := fun k_ => (w.heap.size ≤ k_)) ho0 (below_size be_) (fun k_ h_ => h_)) (below_size be_))
              replace HB := bw_ hb
              replace BK234 := kb_ BK234 hb
              clear hb ho0
              obtain ⟨Ao17, co17, eo17⟩ := Kd.R_slice HO240.out
              (first | subst eo17 | (injection eo17 with f1_ f2_ f3_; have f4_ := f1_.symm; have f5_ := f3_.symm; clear f1_ f2_ f3_; subst f4_; subst f5_))
              refine hK.out _ _ ⟨bc_ BK234 0, bc_ BK234 1, bc_ BK234 2⟩ (fun hHeld => ?_)
              clear hK K
              refine nm_ 19 ?_
              refine pu_ HT_ 9 22 impl_joined_bools10_ ?_
              refine on_ HT_ 10 23 impl_joined_bools11_ (fun K hK => ?_)
              refine value_ (w1 := ?_) (v := ?_) (by rfl) rfl ?_ ?_
              rotate_left 2
              · go_simp
                constructor
                · rfl
                · rfl
              refine hK.out _ _ ⟨(blk_cell (blk_alloc BK234.out _) 0).trans rfl, (blk_cell (blk_alloc BK234.out _) 1).trans rfl, (blk_cell (blk_alloc BK234.out _) 2).trans rfl⟩ (fun hHeld => ?_)
              clear hK K
              refine nm_ 23 ?_
              refine on_ HT_ 11 24 impl_joined_bools12_ (fun K hK => ?_)
              refine Kd.S_append_step k41 (w0 := w) w.heap.size (by rfl) (.tmp 13) (.tmp 23) 25 41 (.agg #[(.string ⟨#[]⟩), (.slice none 0 0), (.int .i64 0)]) 48 rfl Tryd.underlying25 info41 rfl (by decide) (by omega) u3 x3_1 (⟨(rd_T41 l0 x9_1).f0, t238, (rd_T41 l0 x9_1).f2⟩ : S41) [.string ((rd_T41 l0 x9_1).f0), .slice Ao17 t238.length co17, .int .i64 ((rd_T41 l0 x9_1).f2)] (fun _ => True) (fun k_ => some k_ = (.slice Ao17 t238.length co17 : Value).ownBlock) rfl rfl ?aP (fun k_ hk_ => ((Kd.R_mono (ok' := fun k_ => ((fun _ => True)) k_ ∧ some k_ ≠ (u3 : Value).ownBlock) (Kd.R_apart' (HO240.out) (Kd.S_typed HO_3.out) (by decide)) (fun k_ hk => ⟨trivial, hk.2⟩))).1 k_ hk_.symm) ?aF ?aO ?aB ?aS ?aL ?_
              (case aP => exact k41_mkM _ _ _ (⟨(rd_T41 l0 x9_1).f0, t238, (rd_T41 l0 x9_1).f2⟩ : S41) (Kd.R_mono (Kd.R_tight rfl (Kd.R_mono (ok' := fun k_ => ((fun _ => True)) k_ ∧ some k_ ≠ (u3 : Value).ownBlock) (Kd.R_apart' (HO240.out) (Kd.S_typed HO_3.out) (by decide)) (fun k_ hk => ⟨trivial, hk.2⟩))) (fun _ h_ => h_)))
              (case aB => exact be_)
              (case aF => exact (fun _ _ => trivial))
              (case aO => exact (lS_ (Kd.S_mono HO_3.out (fun k_ hk => ⟨trivial, fun e_ => hk.2 e_⟩))))
              (case aS => exact (below_size be_))
              (case aL => have := LMc8.out; omega)
              intro v242 w18 ho hb hg hat
              rw [← Ny241.out] at ho
              replace HO_7 := Aside0.mk (Kd.V_afterv (ok := (fun k_ => (P0_ k_ ∨ w.heap.size ≤ k_) ∧ some k_ ≠ (.slice Ao15 y235.length co15 : Value).ownBlock ∧ some k_ ≠ (.slice Ao17 t238.length co17 : Value).ownBlock ∧ k_ ≠ gb234)) (lV_ (Kd.V_mono HO_7.out (fun _ hk => ⟨⟨hk.1.1.1, ⟨hk.1.2, ⟨hk.2, hk.1.1.2.2⟩⟩⟩, hk.1.1.2.1⟩))) hg hat)
              replace HL233_1 := Aside0.mk (Kd.V_afterv (ok := (fun k_ => (P0_ k_ ∨ w.heap.size ≤ k_) ∧ some k_ ≠ (.slice Ao15 y235.length co15 : Value).ownBlock ∧ some k_ ≠ (.slice Ao17 t238.length co17 : Value).ownBlock ∧ k_ ≠ gb234)) (lV_ (Kd.V_mono HL233_1.out (fun _ hk => ⟨⟨hk.1.1.1, ⟨hk.1.2, ⟨hk.2, hk.1.1.2.2⟩⟩⟩, hk.1.1.2.1⟩))) hg hat)
              replace BK234 := Aside0.mk (blk_grown (g := gb234) (o := .cells #[.string ((rd_T41 l0 x9_1).f0), .slice A233_1 ((rd_T41 l0 x9_1).f1).length c233_1, .int .i64 ((rd_T41 l0 x9_1).f2)] 41 (0, 0)) bk_ hg (Kd.S_away HO_3.out (fun _ hk => hk.1.1.2)))
              replace HO237 := Aside0.mk (Kd.N_afterv (ok := (fun k_ => (P0_ k_ ∨ w.heap.size ≤ k_) ∧ some k_ ≠ (.slice Ao17 t238.length co17 : Value).ownBlock ∧ k_ ≠ gb234)) (lN_ (Kd.N_mono HO237.out (fun _ hk => ⟨⟨hk.1.1, ⟨hk.2, hk.1.2.2⟩⟩, hk.1.2.1⟩))) hg hat)
              replace HB := Aside0.mk (hb)
              have HO243 := Aside0.mk (ho)
              clear HO_3 HO240 ho hb hg hat
              refine hK.out _ _ ⟨bc_ BK234 0, bc_ BK234 1, bc_ BK234 2⟩ (fun hHeld => ?_)
              clear hK K
              refine nm_ 24 ?_
              refine pu_ HT_ 12 3 impl_joined_bools13_ ?_
              refine done_ (done_of HT_.out (by kernel_rfl)) ?_
              try go_wp2
              go_roundg k1
              case measure => have := HK1.out; omega
              case rel => exact ⟨(y241), (wrap64 (x9_1 + 1)), rs_, H', ⟨by have := HK1.out; omega⟩, ⟨lS_ HO243.out⟩, ⟨lV_ (Kd.V_mono HO_7.out (fun _ hk => ⟨hk.1.1, hk.2⟩))⟩, ⟨be_⟩⟩
            · rw [if_neg c8] at H
              exact absurd H (by simp)
          · rw [if_neg c6] at H
            exact absurd H (by simp)
        · rw [if_neg c5] at H
          exact absurd H (by simp)
      · rw [if_neg c4] at H
        have c4b0 : decide (x9_1 < (l0.length : Int)) = false := decide_eq_false c4
        clear c4
        obtain rfl := Option.some.inj H
        go_wp2
        go_ret
        exact ⟨_, er_, lS_ HO_3.out, be_⟩
theorem impl_copyKept.calls (k : Nat) (P0_ : Nat → Prop) (A0 : Option Addr) (c0 : Nat) (l0 : List (S41)) (r : List (S41)) (w : World) (hs0 : Kd.V k41 41 w w.heap.size (fun k_ => P0_ k_) (.slice A0 l0.length c0) l0) (h : impl_copyKept.f k l0 = some r) :
    Calls Tryd.prog 29 #[.slice A0 l0.length c0] w fun e w' => ∃ v0_ : Value, e = .returned (v0_) ∧ Kd.N k41 41 w' w.heap.size (fun k_ => (P0_ k_ ∨ w.heap.size ≤ k_)) v0_ r ∧ Below w.heap.size w w' := by
  refine (impl_copyKept.callsS k P0_ A0 c0 l0 r w hs0 h).mono ?_
  rintro e w' ⟨v, he, hs, hb⟩
  exact ⟨v, he, Kd.N_mono (Kd.S_N (Kd.S_bound hs)) (fun k_ hk => .inr hk.2.1), hb⟩

end Go.Proofs.YtpigbffaacilfaaDoor.P
