-- Printed by a program over the kit's print.py (mp.sh), several laws in one namespace.
import Derived.Test.YtpigbffaacilfaaDoorPx0
import Derived.Test.YtpigbffaacilfaaDoorS
namespace Go.Proofs.YtpigbffaacilfaaDoor.P
open Go.RowKit Go.Proofs.YtpigbffaacilfaaDoor.X Go.Proofs.YtpigbffaacilfaaDoorW.PrintWords Go.Proofs.YtpigbffaacilfaaDoorW.PrintLast Go.Proofs.YtpigbffaacilfaaDoorW.PrintMore
attribute [local go_sem] max2_int min2_int max_two min_two max_three min_three max_four min_four   -- for this text's walks alone
set_option linter.unusedVariables false
set_option linter.unusedSimpArgs false

def laws_markText.l0 : Nat → Int → ByteArray → Option (ByteArray)
  | 0, _, _ => none
  | k + 1, x0, x3 => if x0 > 0 then ((some (([(wrap64 (48 + (Int.tmod x0 10))) % 256] : List Int) : List Int)).bind fun y253 => (if (strOfNums y253).size + x3.size ≤ 9223372036854775807 then (laws_markText.l0 k (wrap64 (Int.tdiv x0 10)) ((strOfNums y253) ++ x3)) else (none))) else (if 1 + x3.size ≤ 9223372036854775807 then (some ((⟨#[109]⟩ : ByteArray) ++ x3)) else (none))
def laws_markText.f (k : Nat) (a0 : Int) : Option (ByteArray) := if a0 ≤ 0 then (some (⟨#[109, 48]⟩ : ByteArray)) else (laws_markText.l0 k a0 (⟨#[]⟩ : ByteArray))
theorem laws_markText.mono_l : ∀ k, (∀ y0 y1, LeO (laws_markText.l0 k y0 y1) (laws_markText.l0 (k + 1) y0 y1))
  | 0 => fun _ _ r h => by simp [laws_markText.l0] at h
  | k + 1 => by
    have ih0 := laws_markText.mono_l k
    · intro y0 y1
      unfold laws_markText.l0
      repeat' first
      | (with_reducible exact ih0 _ _)
      | (with_reducible exact LeO.refl _)
      | (with_reducible exact LeO.none _)
      | (with_reducible refine LeO.ite ?_ ?_)
      | (with_reducible refine LeO.bind ?_ (fun _ => ?_))
      | exact ih0 _ _
      | exact LeO.none _
      | refine LeO.ite ?_ ?_
      | refine LeO.bind ?_ (fun _ => ?_)
theorem laws_markText.mono : ∀ a0 k, LeO (laws_markText.f k a0) (laws_markText.f (k + 1) a0) := by
  intro a0 k
  have ih0 := laws_markText.mono_l k
  unfold laws_markText.f
  repeat' first
      | (with_reducible exact ih0 _ _)
      | (with_reducible exact LeO.refl _)
      | (with_reducible exact LeO.none _)
      | (with_reducible refine LeO.ite ?_ ?_)
      | (with_reducible refine LeO.bind ?_ (fun _ => ?_))
      | exact ih0 _ _
      | exact LeO.none _
      | refine LeO.ite ?_ ?_
      | refine LeO.bind ?_ (fun _ => ?_)
set_option maxHeartbeats 8000000 in
set_option maxRecDepth 100000 in
theorem laws_markText.calls (k : Nat) (a0 : Int) (r : ByteArray) (w : World) (h : laws_markText.f k a0 = some r) :
    Calls Tryd.prog 35 #[.int .i64 a0] w fun e w' => e = .returned (.string r) ∧ Below w.heap.size w w' := by
  have HB := Aside0.mk (Below.refl w.heap.size w)
  have H : (if a0 ≤ 0 then (some (⟨#[109, 48]⟩ : ByteArray)) else (laws_markText.l0 k a0 (⟨#[]⟩ : ByteArray))) = some r := h
  clear h
  by_cases cz1 : a0 ≤ 0
  · rw [if_pos cz1] at H
    have cz2 : decide (a0 ≤ 0) = true := decide_eq_true cz1
    clear cz1
    obtain rfl := Option.some.inj H
    go_enter Tryd.func35, Tryd.ntmps35
    go_wp2
    go_ret
    exact ⟨er_, be_⟩
  rw [if_neg cz1] at H
  have cz2 : decide (a0 ≤ 0) = false := decide_eq_false cz1
  clear cz1
  have H' := Aside0.mk H
  clear H
  go_enter Tryd.func35, Tryd.ntmps35
  go_wp2
  go_loopg [0, 3] k (fun kq v0 v3 w' => ∃ (x0_1 : Int) (x3_1 : ByteArray), v0 = .int .i64 x0_1 ∧ v3 = .string x3_1 ∧ Aside0 (laws_markText.l0 kq x0_1 x3_1 = some r) ∧ Aside0 (kq ≤ k) ∧ Aside0 (Below w.heap.size w w'))
  case atStart => exact ⟨(a0), ((⟨#[]⟩ : ByteArray)), rs_, rs_, H', ⟨Nat.le_refl _⟩, ⟨be_⟩⟩
  case round =>
    clear H'
    try clear cz1
    try clear cz2
    try clear p2
    obtain ⟨xz1, xz2, rfl, rfl, HA, HKz1, HB⟩ := hrel
    cases gk with
    | zero => exact absurd HA.out (by simp [laws_markText.l0])
    | succ kz1 =>
      have H := HA.out
      clear HA
      simp only [laws_markText.l0] at H
      by_cases cz3 : xz1 > 0
      rotate_left
      · rw [if_neg cz3] at H
        have cz4 : decide (0 < xz1) = false := decide_eq_false cz3
        clear cz3
        by_cases cz5 : 1 + xz2.size ≤ 9223372036854775807
        rotate_left
        · rw [if_neg cz5] at H
          exact absurd H (by simp)
        rw [if_pos cz5] at H
        have cz6 := eq_true cz5
        have cz7 : decide (1 + xz2.size ≤ 9223372036854775807) = true := decide_eq_true cz5
        try have cz8 : (9223372036854775807 < 1 + xz2.size) = False := eq_false (Nat.not_lt.2 cz5)
        obtain rfl := Option.some.inj H
        go_wp2
        go_ret
        exact ⟨er_, be_⟩
      rw [if_pos cz3] at H
      have cz4 : decide (0 < xz1) = true := decide_eq_true cz3
      clear cz3
      obtain ⟨yz1, hyz1⟩ : ∃ y_ : List Int, y_ = (([(wrap64 (48 + (Int.tmod xz1 10))) % 256] : List Int)) := ⟨_, rfl⟩
      (first | (with_reducible replace H := ys_ hyz1 H; (try dsimp only at H)) | rw [← hyz1] at H | skip)
      have Nyz1 := Aside0.mk hyz1
      clear hyz1
      by_cases cz5 : (strOfNums yz1).size + xz2.size ≤ 9223372036854775807
      rotate_left
      · rw [if_neg cz5] at H
        exact absurd H (by simp)
      rw [if_pos cz5] at H
      have cz6 := eq_true cz5
      have cz7 : decide ((strOfNums yz1).size + xz2.size ≤ 9223372036854775807) = true := decide_eq_true cz5
      try have cz8 : (9223372036854775807 < (strOfNums yz1).size + xz2.size) = False := eq_false (Nat.not_lt.2 cz5)
      have H' := Aside0.mk H
      clear H
      go_wp2_with (first | ((with_reducible refine gate_dst (N := 12) rfl ?_); refine Kd.R_lit (Kd.int .u8) _ 5 ?hg (N := 12) ?hd (xs := ([(wrap64 (48 + (Int.tmod xz1 10))) % 256] : List Int)) (inner := [.int .u8 ((wrap64 (48 + (Int.tmod xz1 10))) % 256)]) (ok := fun _ => True) (okp := fun _ => True) ?hr ?hp (fun _ hk => hk) trivial (Below.refl _ _) (Nat.le_refl _) (by simp) ?_; (case hd => rfl); (case hg => rfl); (case hr => first | (go_simp; done) | (go_simp; rfl)); (case hp => exact (Reps.one (show Kd.M (Kd.int .u8) _ _ _ ((wrap64 (48 + (Int.tmod xz1 10))) % 256) [.int .u8 ((wrap64 (48 + (Int.tmod xz1 10))) % 256)] from rfl) (Reps.none _ _))); intro vz1 wz1 hoz1 hb hg_ hnew_; clear hg_ hnew_; (first | rw [← Nyz1.out] at hoz1 | (simp only [Int.reduceToNat] at hoz1; rw [← Nyz1.out] at hoz1)); have HOz1 := Aside0.mk (Kd.R_lower hoz1 (below_size be_)); replace HB := bw_ hb; clear hb hoz1; have hcvz1 := own_string (P := Tryd.prog) Tryd.underlying23 Tryd.underlying5 Tryd.underlying9 (Kd.own_of_R HOz1.out)))
      go_roundg kz1
      case measure => have := HKz1.out; omega
      case rel => exact ⟨(wrap64 (Int.tdiv xz1 10)), ((strOfNums yz1) ++ xz2), rs_, rs_, H', ⟨by have := HKz1.out; omega⟩, ⟨be_⟩⟩

-- NOT PRINTED: function 12 (laws_markKeptS)

def laws_heldByteS.l0 : Nat → List Int → Int → Int → Option (Int)
  | 0, _, _, _ => none
  | k + 1, x0, x1, x5 => if x5 < (x0.length : Int) then (if 0 ≤ x5 then (if (rd x0 x5) = ((x1) % 256) then (laws_heldByteS.l0 k x0 (wrap64 (x1 + 1)) (wrap64 (x5 + 1))) else (some (-1))) else (none)) else (some x1)
def laws_heldByteS.f (k : Nat) (l0 : List Int) (a1 : Int) : Option (Int) := laws_heldByteS.l0 k l0 a1 0
theorem laws_heldByteS.mono_l : ∀ k, (∀ y0 y1 y2, LeO (laws_heldByteS.l0 k y0 y1 y2) (laws_heldByteS.l0 (k + 1) y0 y1 y2))
  | 0 => fun _ _ _ r h => by simp [laws_heldByteS.l0] at h
  | k + 1 => by
    have ih0 := laws_heldByteS.mono_l k
    · intro y0 y1 y2
      unfold laws_heldByteS.l0
      repeat' first
      | (with_reducible exact ih0 _ _ _)
      | (with_reducible exact LeO.refl _)
      | (with_reducible exact LeO.none _)
      | (with_reducible refine LeO.ite ?_ ?_)
      | (with_reducible refine LeO.bind ?_ (fun _ => ?_))
      | exact ih0 _ _ _
      | exact LeO.none _
      | refine LeO.ite ?_ ?_
      | refine LeO.bind ?_ (fun _ => ?_)
theorem laws_heldByteS.mono : ∀ a0 a1 k, LeO (laws_heldByteS.f k a0 a1) (laws_heldByteS.f (k + 1) a0 a1) := by
  intro a0 a1 k
  have ih0 := laws_heldByteS.mono_l k
  unfold laws_heldByteS.f
  repeat' first
      | (with_reducible exact ih0 _ _ _)
      | (with_reducible exact LeO.refl _)
      | (with_reducible exact LeO.none _)
      | (with_reducible refine LeO.ite ?_ ?_)
      | (with_reducible refine LeO.bind ?_ (fun _ => ?_))
      | exact ih0 _ _ _
      | exact LeO.none _
      | refine LeO.ite ?_ ?_
      | refine LeO.bind ?_ (fun _ => ?_)
set_option maxHeartbeats 8000000 in
set_option maxRecDepth 100000 in
theorem laws_heldByteS.calls (k : Nat) (A0 : Option Addr) (c0 : Nat) (l0 : List Int) (a1 : Int) (r : Int) (w : World) (hr0 : Kd.C (Kd.int .u8) w A0 l0.length l0) (hc0 : l0.length ≤ c0) (h : laws_heldByteS.f k l0 a1 = some r) :
    Calls Tryd.prog 36 #[.slice A0 l0.length c0, .int .i64 a1] w fun e w' => e = .returned (.int .i64 r) ∧ Drawn0 w w' := by
  have HRz1 := Aside0.mk hr0
  have HCz1 := Aside0.mk hc0
  clear hr0 hc0
  have H : (laws_heldByteS.l0 k l0 a1 0) = some r := h
  clear h
  have H' := Aside0.mk H
  clear H
  go_enter Tryd.func36, Tryd.ntmps36
  go_wp2
  go_loopg [1, 5] k (fun kq v1 v5 w' => ∃ (x1_1 : Int) (x5_1 : Int), v1 = .int .i64 x1_1 ∧ v5 = .int .i64 x5_1 ∧ Aside0 (laws_heldByteS.l0 kq l0 x1_1 x5_1 = some r) ∧ Aside0 (kq ≤ k) ∧ Drawn0 w w')
  case atStart => exact ⟨(a1), (0), rs_, rs_, H', ⟨Nat.le_refl _⟩, dr_⟩
  case round =>
    clear H'
    try clear p2
    obtain ⟨xz1, xz2, rfl, rfl, HA, HKz1, ⟨mz1, rfl⟩⟩ := hrel
    cases gk with
    | zero => exact absurd HA.out (by simp [laws_heldByteS.l0])
    | succ kz1 =>
      have H := HA.out
      clear HA
      simp only [laws_heldByteS.l0] at H
      by_cases cz1 : xz2 < (l0.length : Int)
      rotate_left
      · rw [if_neg cz1] at H
        have cz2 : decide (xz2 < (l0.length : Int)) = false := decide_eq_false cz1
        clear cz1
        obtain rfl := Option.some.inj H
        go_wp2
        go_ret
        exact ⟨rs_, dr_⟩
      rw [if_pos cz1] at H
      have cz2 : decide (xz2 < (l0.length : Int)) = true := decide_eq_true cz1
      clear cz1
      by_cases cz3 : 0 ≤ xz2
      rotate_left
      · rw [if_neg cz3] at H
        exact absurd H (by simp)
      rw [if_pos cz3] at H
      have cz4 : decide (0 ≤ xz2) = true := decide_eq_true cz3
      clear cz3
      by_cases cz5 : (rd l0 xz2) = ((xz1) % 256)
      rotate_left
      · rw [if_neg cz5] at H
        have cz6 : ((rd l0 xz2) == ((xz1) % 256)) = false := beq_eq_false_iff_ne.mpr cz5
        have cz7 : ((rd l0 xz2) != ((xz1) % 256)) = true := bne_iff_ne.mpr cz5
        obtain rfl := Option.some.inj H
        have pz1 : 0 ≤ (xz2 : Int) := dt_
        have qz1 : xz2 < (l0.length : Int) := dt_
        obtain ⟨adz1, ez1, hxz1⟩ := Kd.at_int HRz1.out xz2 pz1 qz1
        cases ez1
        replace pz1 := eq_true pz1
        replace qz1 := eq_true qz1
        go_wp2
        go_ret
        exact ⟨rs_, dr_⟩
      rw [if_pos cz5] at H
      have cz6 : ((rd l0 xz2) == ((xz1) % 256)) = true := beq_iff_eq.mpr cz5
      have cz7 : ((rd l0 xz2) != ((xz1) % 256)) = false := bne_eq_false_iff_eq.mpr cz5
      clear cz5
      have H' := Aside0.mk H
      clear H
      have pz1 : 0 ≤ (xz2 : Int) := dt_
      have qz1 : xz2 < (l0.length : Int) := dt_
      obtain ⟨adz1, ez1, hxz1⟩ := Kd.at_int HRz1.out xz2 pz1 qz1
      cases ez1
      replace pz1 := eq_true pz1
      replace qz1 := eq_true qz1
      go_wp2
      go_roundg kz1
      case measure => have := HKz1.out; omega
      case rel => exact ⟨(wrap64 (xz1 + 1)), (wrap64 (xz2 + 1)), rs_, rs_, H', ⟨by have := HKz1.out; omega⟩, dr_⟩

end Go.Proofs.YtpigbffaacilfaaDoor.P
