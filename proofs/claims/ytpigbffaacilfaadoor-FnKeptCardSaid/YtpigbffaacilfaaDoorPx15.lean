-- Printed by a program over the kit's print.py (mp.sh), several laws in one namespace.
import Derived.Test.YtpigbffaacilfaaDoorPx0
import Derived.Test.YtpigbffaacilfaaDoorS
namespace Go.Proofs.YtpigbffaacilfaaDoor.P
open Go.RowKit Go.Proofs.YtpigbffaacilfaaDoor.X Go.Proofs.YtpigbffaacilfaaDoorW.PrintWords Go.Proofs.YtpigbffaacilfaaDoorW.PrintLast Go.Proofs.YtpigbffaacilfaaDoorW.PrintMore
attribute [local go_sem] max2_int min2_int max_two min_two max_three min_three max_four min_four   -- for this text's walks alone
set_option linter.unusedVariables false
set_option linter.unusedSimpArgs false

/-- A state of type 71 at block g of W; what its slices lead to came in by w0. -/
def IsS71 (w0 W : World) (g : Nat) (f0 : List Int) (f1 : Int) (f2 : Int) : Prop := ∃ A0 c0, W.heap[g]? = some (.cells #[.slice A0 f0.length c0, .int .i64 f1, .int .i64 f2] 71 (0, 0)) ∧ w0.heap.size ≤ g ∧ Kd.C (Kd.int .u8) w0 A0 f0.length f0
theorem IsS71.grown {w0 W : World} {g : Nat} {f0 : List Int} {f1 : Int} {f2 : Int} {W1 : World} {row : Option Nat} (h : IsS71 w0 W g f0 f1 f2) (hw : W.grownBy W1 row) (hne : some g ≠ row) : IsS71 w0 W1 g f0 f1 f2 := by
  obtain ⟨A0, c0, hb, hg, hr0⟩ := h
  exact ⟨A0, c0, blk_grown hb hw hne, hg, hr0⟩
theorem IsS71.own_neN {w0 W : World} {g : Nat} {f0 : List Int} {f1 : Int} {f2 : Int} {α : Type} {d : Kd α} {e : Nat} {base : Nat} {ok : Nat → Prop} {v : Value} {xs : List α} (h : IsS71 w0 W g f0 f1 f2) (ho : Kd.N d e W base ok v xs) (ht : e ≠ 71) : some g ≠ v.ownBlock := by
  obtain ⟨A0, c0, hb, hg, hr0⟩ := h
  exact Kd.N_ne ho hb ht
theorem IsS71.fresh {w0 W : World} {g : Nat} {f0 : List Int} {f1 : Int} {f2 : Int} (h : IsS71 w0 W g f0 f1 f2) : ∀ k, W.heap.size ≤ k → k ≠ g := by
  obtain ⟨A0, c0, hb, hg, hr0⟩ := h
  exact Kd.freshB hb
theorem IsS71.kept {w0 W : World} {g : Nat} {f0 : List Int} {f1 : Int} {f2 : Int} {W1 : World} {S : Nat → Prop} (h : IsS71 w0 W g f0 f1 f2) (hk : Kept W W1 S) (hne : ¬ S g) : IsS71 w0 W1 g f0 f1 f2 := by
  obtain ⟨A0, c0, hb, hg, hr0⟩ := h
  exact ⟨A0, c0, blk_kept hb hk hne, hg, hr0⟩
theorem IsS71.below {w0 W : World} {g : Nat} {f0 : List Int} {f1 : Int} {f2 : Int} {W1 : World} (h : IsS71 w0 W g f0 f1 f2) (hw : Below W.heap.size W W1) : IsS71 w0 W1 g f0 f1 f2 := h.grown (grown_of_below hw none) (by simp)
theorem IsS71.alloc {w0 W : World} {g : Nat} {f0 : List Int} {f1 : Int} {f2 : Int} (h : IsS71 w0 W g f0 f1 f2) (o : Obj) : IsS71 w0 (W.alloc o) g f0 f1 f2 := h.below (below_alloc (Below.refl _ _) o)
theorem IsS71.drewN {w0 W : World} {g : Nat} {f0 : List Int} {f1 : Int} {f2 : Int} (h : IsS71 w0 W g f0 f1 f2) (m : Nat) : IsS71 w0 (W.drewN m) g f0 f1 f2 := h
theorem IsS71.drew {w0 W : World} {g : Nat} {f0 : List Int} {f1 : Int} {f2 : Int} (h : IsS71 w0 W g f0 f1 f2) : IsS71 w0 W.drew g f0 f1 f2 := h
theorem IsS71.at_ {w0 W : World} {g : Nat} {f0 : List Int} {f1 : Int} {f2 : Int} {w' : World} {m : Nat} (hq : W.drewN m = w') (h : IsS71 w0 W g f0 f1 f2) : IsS71 w0 w' g f0 f1 f2 := by subst hq; exact IsS71.drewN h m
theorem IsS71.apart {w0 W : World} {g : Nat} {f0 : List Int} {f1 : Int} {f2 : Int} {α : Type} {d : Kd α} {e : Nat} {base : Nat} {ok : Nat → Prop} {v : Value} {xs : List α} (h : IsS71 w0 W g f0 f1 f2) (ho : d.R e W base ok v xs) (ht : ∀ q, q ∈ e :: d.E → q ≠ 71) : d.R e W base (fun k => ok k ∧ k ≠ g) v xs := by
  obtain ⟨A0, c0, hb, hg, hr0⟩ := h
  exact Kd.R_types ho hb ht
theorem IsS71.own_ne {w0 W : World} {g : Nat} {f0 : List Int} {f1 : Int} {f2 : Int} {α : Type} {d : Kd α} {e : Nat} {base : Nat} {ok : Nat → Prop} {v : Value} {xs : List α} (h : IsS71 w0 W g f0 f1 f2) (ho : d.R e W base ok v xs) (ht : e ≠ 71) : some g ≠ v.ownBlock := by
  obtain ⟨A0, c0, hb, hg, hr0⟩ := h
  exact Kd.R_ne ho hb ht
theorem IsS71.apartQ {w0 W : World} {g : Nat} {f0 : List Int} {f1 : Int} {f2 : Int} {α : Type} {d : Kd α} {e : Nat} {base : Nat} {ok : Nat → Prop} {v : Value} {xs : List α} (h : IsS71 w0 W g f0 f1 f2) (ho : d.Q e W base ok v xs) (ht : ∀ q, q ∈ e :: d.E → q ≠ 71) : d.Q e W base (fun k => ok k ∧ k ≠ g) v xs := by
  obtain ⟨A0, c0, hb, hg, hr0⟩ := h
  exact Kd.Q_types ho hb ht
theorem IsS71.own_neQ {w0 W : World} {g : Nat} {f0 : List Int} {f1 : Int} {f2 : Int} {α : Type} {d : Kd α} {e : Nat} {base : Nat} {ok : Nat → Prop} {v : Value} {xs : List α} (h : IsS71 w0 W g f0 f1 f2) (ho : d.Q e W base ok v xs) (ht : e ≠ 71) : some g ≠ v.ownBlock := by
  obtain ⟨A0, c0, hb, hg, hr0⟩ := h
  exact Kd.Q_ne ho hb ht
theorem IsS71.apartS {w0 W : World} {g : Nat} {f0 : List Int} {f1 : Int} {f2 : Int} {α : Type} {d : Kd α} {e : Nat} {base : Nat} {ok : Nat → Prop} {v : Value} {xs : List α} (h : IsS71 w0 W g f0 f1 f2) (ho : d.S e W base ok v xs) (ht : ∀ q, q ∈ e :: d.E → q ≠ 71) : d.S e W base (fun k => ok k ∧ k ≠ g) v xs := by
  obtain ⟨A0, c0, hb, hg, hr0⟩ := h
  exact Kd.S_types ho hb ht
theorem IsS71.own_neS {w0 W : World} {g : Nat} {f0 : List Int} {f1 : Int} {f2 : Int} {α : Type} {d : Kd α} {e : Nat} {base : Nat} {ok : Nat → Prop} {v : Value} {xs : List α} (h : IsS71 w0 W g f0 f1 f2) (ho : d.S e W base ok v xs) (ht : e ≠ 71) : some g ≠ v.ownBlock := by
  obtain ⟨A0, c0, hb, hg, hr0⟩ := h
  exact Kd.S_ne ho hb ht
theorem IsS71.lt {w0 W : World} {g : Nat} {f0 : List Int} {f1 : Int} {f2 : Int} (h : IsS71 w0 W g f0 f1 f2) : g < W.heap.size := by
  obtain ⟨A0, c0, hb, hg, hr0⟩ := h
  exact blk_lt hb
theorem IsS71.ge {w0 W : World} {g : Nat} {f0 : List Int} {f1 : Int} {f2 : Int} (h : IsS71 w0 W g f0 f1 f2) : w0.heap.size ≤ g := by
  obtain ⟨A0, c0, hb, hg, hr0⟩ := h
  exact hg
theorem IsS71.ne_blk {w0 W : World} {g : Nat} {f0 : List Int} {f1 : Int} {f2 : Int} {a : Nat} {cs : Array Value} {t : TypeId} {fr : Nat × Nat} (h : IsS71 w0 W g f0 f1 f2) (hb2 : W.heap[a]? = some (.cells cs t fr)) (ht : t ≠ 71) : g ≠ a := by
  obtain ⟨A0, c0, hb, hg, hr0⟩ := h
  rintro rfl
  rw [hb] at hb2
  injection hb2 with hb2
  injection hb2 with _ ht2
  exact ht ht2.symm
theorem IsS71.far {w0 W : World} {g : Nat} {f0 : List Int} {f1 : Int} {f2 : Int} {p : Addr} (h : IsS71 w0 W g f0 f1 f2) (hne : g ≠ p.block) (u : Value) : IsS71 w0 (W.setCell p u) g f0 f1 f2 := by
  obtain ⟨A0, c0, hb, hg, hr0⟩ := h
  exact ⟨A0, c0, blk_far hb hne u, hg, hr0⟩
theorem cellS71_0 {W : World} {g : Nat} {A0 : Option Addr} {c0 : Nat} {f0 : List Int} {f1 : Int} {f2 : Int} (h : W.heap[g]? = some (.cells #[.slice A0 f0.length c0, .int .i64 f1, .int .i64 f2] 71 (0, 0))) : W.cell? ⟨g, 0, none⟩ = some (.slice A0 f0.length c0) := (blk_cell h 0).trans rfl
theorem cellS71_1 {W : World} {g : Nat} {A0 : Option Addr} {c0 : Nat} {f0 : List Int} {f1 : Int} {f2 : Int} (h : W.heap[g]? = some (.cells #[.slice A0 f0.length c0, .int .i64 f1, .int .i64 f2] 71 (0, 0))) : W.cell? ⟨g, 1, none⟩ = some (.int .i64 f1) := (blk_cell h 1).trans rfl
theorem IsS71.set_1 {w0 W : World} {g : Nat} {f0 : List Int} {f1 : Int} {f2 : Int} (h : IsS71 w0 W g f0 f1 f2) (x : Int) : IsS71 w0 (W.setCell ⟨g, 1, none⟩ (.int .i64 x)) g f0 x f2 := by
  obtain ⟨A0, c0, hb, hg, hr0⟩ := h
  exact ⟨A0, c0, by simpa using blk_set hb 1 (.int .i64 x), hg, hr0⟩
theorem cellS71_2 {W : World} {g : Nat} {A0 : Option Addr} {c0 : Nat} {f0 : List Int} {f1 : Int} {f2 : Int} (h : W.heap[g]? = some (.cells #[.slice A0 f0.length c0, .int .i64 f1, .int .i64 f2] 71 (0, 0))) : W.cell? ⟨g, 2, none⟩ = some (.int .i64 f2) := (blk_cell h 2).trans rfl
theorem IsS71.set_2 {w0 W : World} {g : Nat} {f0 : List Int} {f1 : Int} {f2 : Int} (h : IsS71 w0 W g f0 f1 f2) (x : Int) : IsS71 w0 (W.setCell ⟨g, 2, none⟩ (.int .i64 x)) g f0 f1 x := by
  obtain ⟨A0, c0, hb, hg, hr0⟩ := h
  exact ⟨A0, c0, by simpa using blk_set hb 2 (.int .i64 x), hg, hr0⟩
theorem IsS71.new (w0 W : World) (A0 : Option Addr) (c0 : Nat) (f0 : List Int) (f1 : Int) (f2 : Int) (hB : Below w0.heap.size w0 W) (hr0 : Kd.C (Kd.int .u8) w0 A0 f0.length f0) : IsS71 w0 (W.alloc (.cells #[.slice A0 f0.length c0, .int .i64 f1, .int .i64 f2] 71)) W.heap.size f0 f1 f2 := ⟨A0, c0, by simpa using heap_alloc_new W _, hB.size, hr0⟩
theorem iss71_ {p q : Prop} (E : p) (h : p → q := by (intro hE_; repeat (first | (with_reducible first | exact hE_ | apply IsS71.alloc | apply IsS71.drewN | apply IsS71.drew | apply IsS71.set_1 | apply IsS71.set_2) | exact hE_))) : q := h E

def spec_l1New.l0 : Nat → List Int → Int → Int → Option (List Int × Int × Int)
  | 0, _, _, _ => none
  | k + 1, x0, x3, x4 => if x4 < (x0.length : Int) then (if x4 < 4000 then (if 0 ≤ x4 then (spec_l1New.l0 k x0 (Go.bits .and .i64 (wrap64 ((wrap64 ((wrap64 (x3 * 137)) + (wrap64 (rd x0 x4)))) + 11)) 1073741823) (wrap64 (x4 + 1))) else (none)) else (some (x0, 0, x3))) else (some (x0, 0, x3))
def spec_l1New.f (k : Nat) (l0 : List Int) : Option (List Int × Int × Int) := spec_l1New.l0 k l0 (wrap64 (128361 + (l0.length : Int))) 0
theorem spec_l1New.mono_l : ∀ k, (∀ y0 y1 y2, LeO (spec_l1New.l0 k y0 y1 y2) (spec_l1New.l0 (k + 1) y0 y1 y2))
  | 0 => fun _ _ _ r h => by simp [spec_l1New.l0] at h
  | k + 1 => by
    have ih0 := spec_l1New.mono_l k
    · intro y0 y1 y2
      unfold spec_l1New.l0
      repeat' first
      | (with_reducible exact ih0 _ _ _)
      | (with_reducible exact LeO.refl _)
      | (with_reducible exact LeO.none _)
      | (with_reducible refine LeO.ite ?_ ?_)
      | (with_reducible refine LeO.bind ?_ (fun _ => ?_))
      | exact ih0 _ _ _
      | exact LeO.none _
      | refine LeO.ite ?_ ?_
      | refine LeO.bind ?_ (fun _ => ?_)
theorem spec_l1New.mono : ∀ a0 k, LeO (spec_l1New.f k a0) (spec_l1New.f (k + 1) a0) := by
  intro a0 k
  have ih0 := spec_l1New.mono_l k
  unfold spec_l1New.f
  repeat' first
      | (with_reducible exact ih0 _ _ _)
      | (with_reducible exact LeO.refl _)
      | (with_reducible exact LeO.none _)
      | (with_reducible refine LeO.ite ?_ ?_)
      | (with_reducible refine LeO.bind ?_ (fun _ => ?_))
      | exact ih0 _ _ _
      | exact LeO.none _
      | refine LeO.ite ?_ ?_
      | refine LeO.bind ?_ (fun _ => ?_)
theorem spec_l1New_z2 {p : Prop} (h : p := by
  go_wp2_with (first | ((with_reducible refine gate_dst (N := 31) rfl ?_); refine box_event ?hg (N := 31) ?hd (cs := #[.slice A0 l0.length c0, .int .i64 0, .int .i64 xz1]) (t := 71) ?hr ?_; (case hd => rfl); (case hg => rfl); (case hr => first | (go_simp; done) | (go_simp; rfl)); intro gbz1 hg wz1 hbox hb; replace HB := bw_ hb; have BKz1 := Aside0.mk (hbox); have GWz1 := Aside0.mk ((by rw [hg]; exact (below_size (by repeat (first | (with_reducible first | exact HBW.out | apply below_alloc | apply pw_below_drewN | apply below_drew1) | exact HBW.out))) : w.heap.size ≤ gbz1)); have GEz1 := Aside0.mk ((Nat.le_trans HWz1.out (by rw [hg]; exact (below_size (by repeat (first | (with_reducible first | exact HBW.out | apply below_alloc | apply pw_below_drewN | apply below_drew1) | exact HBW.out))) : w.heap.size ≤ gbz1) : w0.heap.size ≤ gbz1)); replace HBW := Aside0.mk (below_step HBW.out hb); clear hb hbox hg))
  go_ret
  exact ⟨_, rfl, (show IsS71 w0 _ gbz1 l0 0 xz1 from ⟨_, _, bk_, GEz1.out, HRz1.out⟩), be_, by repeat (first | (with_reducible first | exact HBW.out | apply below_alloc | apply pw_below_drewN | apply below_drew1 | refine below_set ?_ GWz1.out) | exact HBW.out)⟩) : p := h
theorem spec_l1New_z1 {p : Prop} (h : p := by
  obtain ⟨rfl, rfl, rfl⟩ := H
  exact spec_l1New_z2) : p := h
theorem spec_l1New_z0 {p : Prop} (h : p := by
  simp only [Option.some.injEq, Prod.mk.injEq] at H
  exact spec_l1New_z1) : p := h
set_option maxHeartbeats 8000000 in
set_option maxRecDepth 100000 in
theorem spec_l1New.calls (k : Nat) (A0 : Option Addr) (c0 : Nat) (l0 : List Int) (r1 : List Int) (r2 : Int) (r3 : Int) (w0 w : World) (hB : Below w0.heap.size w0 w) (hr0 : Kd.C (Kd.int .u8) w0 A0 l0.length l0) (hc0 : l0.length ≤ c0) (h : spec_l1New.f k l0 = some (r1, r2, r3)) :
    Calls Tryd.prog 37 #[.slice A0 l0.length c0] w fun e w' => ∃ g_ : Nat, e = .returned (.pointer (some ⟨g_, 0, none⟩)) ∧ IsS71 w0 w' g_ r1 r2 r3 ∧ Below w0.heap.size w0 w' ∧ Below w.heap.size w w' := by
  have huz1 := Tryd.underlying71
  have HRz1 := Aside0.mk hr0
  have HCz1 := Aside0.mk hc0
  clear hr0 hc0
  have HBW := Aside0.mk (Below.refl w.heap.size w)
  have HWz1 := Aside0.mk hB.size
  have HB := Aside0.mk hB
  clear hB
  have H : (spec_l1New.l0 k l0 (wrap64 (128361 + (l0.length : Int))) 0) = some (r1, r2, r3) := h
  clear h
  have H' := Aside0.mk H
  clear H
  go_enter Tryd.func37, Tryd.ntmps37
  go_wp2
  go_loopg [3, 4] k (fun kq v3 v4 w' => ∃ (x3_1 : Int) (x4_1 : Int), v3 = .int .i64 x3_1 ∧ v4 = .int .i64 x4_1 ∧ Aside0 (spec_l1New.l0 kq l0 x3_1 x4_1 = some (r1, r2, r3)) ∧ Aside0 (kq ≤ k) ∧ Aside0 (Below w.heap.size w w') ∧ Aside0 (Below w0.heap.size w0 w'))
  case atStart => exact ⟨(wrap64 (128361 + (l0.length : Int))), (0), rs_, rs_, H', ⟨Nat.le_refl _⟩, ⟨by repeat (first | (with_reducible first | exact HBW.out | apply below_alloc | apply pw_below_drewN | apply below_drew1) | exact HBW.out)⟩, ⟨be_⟩⟩
  case round =>
    clear H'
    obtain ⟨xz1, xz2, rfl, rfl, HA, HKz1, HBW, HB⟩ := hrel
    cases gk with
    | zero => exact absurd HA.out (by simp [spec_l1New.l0])
    | succ kz1 =>
      have H := HA.out
      clear HA
      simp only [spec_l1New.l0] at H
      by_cases cz1 : xz2 < (l0.length : Int)
      rotate_left
      · rw [if_neg cz1] at H
        have cz2 : decide (xz2 < (l0.length : Int)) = false := decide_eq_false cz1
        clear cz1
        exact spec_l1New_z0
      rw [if_pos cz1] at H
      have cz2 : decide (xz2 < (l0.length : Int)) = true := decide_eq_true cz1
      clear cz1
      by_cases cz3 : xz2 < 4000
      · rw [if_pos cz3] at H
        have cz4 : decide (xz2 < 4000) = true := decide_eq_true cz3
        clear cz3
        by_cases cz5 : 0 ≤ xz2
        rotate_left
        · rw [if_neg cz5] at H
          exact absurd H (by simp)
        rw [if_pos cz5] at H
        have cz6 : decide (0 ≤ xz2) = true := decide_eq_true cz5
        clear cz5
        have H' := Aside0.mk H
        clear H
        have pz1 : 0 ≤ (xz2 : Int) := dt_
        have qz1 : xz2 < (l0.length : Int) := dt_
        obtain ⟨adz1, ez1, hxz1⟩ := Kd.at_int HRz1.out xz2 pz1 qz1
        cases ez1
        replace hxz1 := pw_cell_below HB.out hxz1
        replace pz1 := eq_true pz1
        replace qz1 := eq_true qz1
        go_wp2
        go_roundg kz1
        case measure => have := HKz1.out; omega
        case rel => exact ⟨(Go.bits .and .i64 (wrap64 ((wrap64 ((wrap64 (xz1 * 137)) + (wrap64 (rd l0 xz2)))) + 11)) 1073741823), (wrap64 (xz2 + 1)), rs_, rs_, H', ⟨by have := HKz1.out; omega⟩, ⟨by repeat (first | (with_reducible first | exact HBW.out | apply below_alloc | apply pw_below_drewN | apply below_drew1) | exact HBW.out)⟩, ⟨be_⟩⟩
      rw [if_neg cz3] at H
      have cz4 : decide (xz2 < 4000) = false := decide_eq_false cz3
      clear cz3
      exact spec_l1New_z0

def spec_l1Byte.f (s0_0 : List Int) (s0_1 : Int) (s0_2 : Int) : Option (Int × Int × Int) := if s0_1 < (s0_0.length : Int) then (if 0 ≤ s0_1 then (some (Go.bits .and .i64 (wrap64 ((Go.bits .and .i64 (Go.bits .xor .i64 ((wrap64 ((wrap64 (s0_2 * 6364136223846793005)) + 1442695040888963407)) / 8589934592) ((wrap64 ((wrap64 (s0_2 * 6364136223846793005)) + 1442695040888963407)) / 140737488355328)) 255) + (wrap64 (rd s0_0 s0_1)))) 255, wrap64 (s0_1 + 1), wrap64 ((wrap64 (s0_2 * 6364136223846793005)) + 1442695040888963407))) else (none)) else (some (Go.bits .and .i64 (Go.bits .xor .i64 ((wrap64 ((wrap64 (s0_2 * 6364136223846793005)) + 1442695040888963407)) / 8589934592) ((wrap64 ((wrap64 (s0_2 * 6364136223846793005)) + 1442695040888963407)) / 140737488355328)) 255, s0_1, wrap64 ((wrap64 (s0_2 * 6364136223846793005)) + 1442695040888963407)))
theorem spec_l1Byte_z0 {p : Prop} (h : p := by
  go_enter Tryd.func60, Tryd.ntmps60
  go_wp2
  repeat (go_quiet (fail); try go_wp2)
  go_ret
  exact ⟨er_, iss71_ HIz1.out, bx_ (IsS71.ge HIz1.out), kp_⟩) : p := h
set_option maxHeartbeats 8000000 in
set_option maxRecDepth 100000 in
theorem spec_l1Byte.calls (g : Nat) (s0_0 : List Int) (s0_1 : Int) (s0_2 : Int) (r1 : Int) (r2 : Int) (r3 : Int) (w0 w : World) (hI : IsS71 w0 w g s0_0 s0_1 s0_2) (hB : Below w0.heap.size w0 w) (h : spec_l1Byte.f s0_0 s0_1 s0_2 = some (r1, r2, r3)) :
    Calls Tryd.prog 60 #[.pointer (some ⟨g, 0, none⟩)] w fun e w' => e = .returned (.int .i64 r1) ∧ IsS71 w0 w' g s0_0 r2 r3 ∧ Below w0.heap.size w0 w' ∧ KeepBut w w' g none := by
  have HIz1 := Aside0.mk hI
  have HK := Aside0.mk (KeepBut.refl w g none)
  have HL := Aside0.mk hB.size
  clear hI
  have HWz1 := Aside0.mk hB.size
  have HB := Aside0.mk hB
  clear hB
  have H : (if s0_1 < (s0_0.length : Int) then (if 0 ≤ s0_1 then (some (Go.bits .and .i64 (wrap64 ((Go.bits .and .i64 (Go.bits .xor .i64 ((wrap64 ((wrap64 (s0_2 * 6364136223846793005)) + 1442695040888963407)) / 8589934592) ((wrap64 ((wrap64 (s0_2 * 6364136223846793005)) + 1442695040888963407)) / 140737488355328)) 255) + (wrap64 (rd s0_0 s0_1)))) 255, wrap64 (s0_1 + 1), wrap64 ((wrap64 (s0_2 * 6364136223846793005)) + 1442695040888963407))) else (none)) else (some (Go.bits .and .i64 (Go.bits .xor .i64 ((wrap64 ((wrap64 (s0_2 * 6364136223846793005)) + 1442695040888963407)) / 8589934592) ((wrap64 ((wrap64 (s0_2 * 6364136223846793005)) + 1442695040888963407)) / 140737488355328)) 255, s0_1, wrap64 ((wrap64 (s0_2 * 6364136223846793005)) + 1442695040888963407)))) = some (r1, r2, r3) := h
  clear h
  by_cases cz1 : s0_1 < (s0_0.length : Int)
  rotate_left
  · rw [if_neg cz1] at H
    have cz2 : decide (s0_1 < (s0_0.length : Int)) = false := decide_eq_false cz1
    clear cz1
    simp only [Option.some.injEq, Prod.mk.injEq] at H
    obtain ⟨rfl, rfl, rfl⟩ := H
    obtain ⟨ASzz1, cSzz1, HGzz1, hgzz1, HSzz1⟩ := HIz1.out
    have hczz1 := cellS71_0 HGzz1
    have hczz2 := cellS71_1 HGzz1
    have hczz3 := cellS71_2 HGzz1
    have hfzz1 := blk_frozen HGzz1 1
    have hfzz2 := blk_frozen HGzz1 2
    clear HGzz1 hgzz1
    exact spec_l1Byte_z0
  rw [if_pos cz1] at H
  have cz2 : decide (s0_1 < (s0_0.length : Int)) = true := decide_eq_true cz1
  clear cz1
  by_cases cz3 : 0 ≤ s0_1
  rotate_left
  · rw [if_neg cz3] at H
    exact absurd H (by simp)
  rw [if_pos cz3] at H
  have cz4 : decide (0 ≤ s0_1) = true := decide_eq_true cz3
  clear cz3
  simp only [Option.some.injEq, Prod.mk.injEq] at H
  obtain ⟨rfl, rfl, rfl⟩ := H
  obtain ⟨ASzz1, cSzz1, HGzz1, hgzz1, HSzz1⟩ := HIz1.out
  have hczz1 := cellS71_0 HGzz1
  have hczz2 := cellS71_1 HGzz1
  have hczz3 := cellS71_2 HGzz1
  have hfzz1 := blk_frozen HGzz1 1
  have hfzz2 := blk_frozen HGzz1 2
  clear HGzz1 hgzz1
  have pz1 : 0 ≤ (s0_1 : Int) := dt_
  have qz1 : s0_1 < (s0_0.length : Int) := dt_
  obtain ⟨adz1, ez1, hxz1⟩ := Kd.at_int HSzz1 s0_1 pz1 qz1
  cases ez1
  have hnz1 : adz1.block ≠ g := Nat.ne_of_lt (Nat.lt_of_lt_of_le (by have := World.block_lt_of_cell? _ _ hxz1; first | rwa [add_block] at this | exact this) (IsS71.ge HIz1.out))
  replace hxz1 := pw_cell_below HB.out hxz1
  replace hxz1 := (cell_far (p := ⟨g, 2, none⟩) (by first | (rw [add_block]; exact hnz1) | (show (Addr.add _ _).block ≠ _; rw [add_block]; exact hnz1) | exact hnz1) (.int .i64 (wrap64 ((wrap64 (s0_2 * 6364136223846793005)) + 1442695040888963407)))).trans hxz1
  (try have hyz1 := fun (n_ : Nat) => (show (((w.drewN n_).setCell ⟨g, 2, none⟩ (.int .i64 (wrap64 ((wrap64 (s0_2 * 6364136223846793005)) + 1442695040888963407))))).cell? _ = some _ from hxz1))
  clear hnz1
  replace pz1 := eq_true pz1
  replace qz1 := eq_true qz1
  exact spec_l1Byte_z0

def spec_l1Below.f (s0_0 : List Int) (s0_1 : Int) (s0_2 : Int) (a1 : Int) : Option (Int × Int × Int) := if a1 ≤ 0 then (some (0, s0_1, s0_2)) else (if a1 ≤ 256 then ((spec_l1Byte.f s0_0 s0_1 s0_2).bind fun bt297 => (if a1 = 0 then (none) else (some (Int.tmod bt297.1 a1, bt297.2.1, bt297.2.2)))) else ((spec_l1Byte.f s0_0 s0_1 s0_2).bind fun bt300 => ((spec_l1Byte.f s0_0 bt300.2.1 bt300.2.2).bind fun bt303 => ((spec_l1Byte.f s0_0 bt303.2.1 bt303.2.2).bind fun bt306 => (if a1 = 0 then (none) else (some (Int.tmod (wrap64 ((wrap64 ((wrap64 (bt300.1 * 65536)) + (wrap64 (bt303.1 * 256)))) + bt306.1)) a1, bt306.2.1, bt306.2.2)))))))
set_option maxHeartbeats 8000000 in
set_option maxRecDepth 100000 in
theorem spec_l1Below.calls (g : Nat) (s0_0 : List Int) (s0_1 : Int) (s0_2 : Int) (a1 : Int) (r1 : Int) (r2 : Int) (r3 : Int) (w0 w : World) (hI : IsS71 w0 w g s0_0 s0_1 s0_2) (hB : Below w0.heap.size w0 w) (h : spec_l1Below.f s0_0 s0_1 s0_2 a1 = some (r1, r2, r3)) :
    Calls Tryd.prog 57 #[.pointer (some ⟨g, 0, none⟩), .int .i64 a1] w fun e w' => e = .returned (.int .i64 r1) ∧ IsS71 w0 w' g s0_0 r2 r3 ∧ Below w0.heap.size w0 w' ∧ KeepBut w w' g none := by
  have HIz1 := Aside0.mk hI
  have HK := Aside0.mk (KeepBut.refl w g none)
  have HL := Aside0.mk hB.size
  clear hI
  have HWz1 := Aside0.mk hB.size
  have HB := Aside0.mk hB
  clear hB
  have H : (if a1 ≤ 0 then (some (0, s0_1, s0_2)) else (if a1 ≤ 256 then ((spec_l1Byte.f s0_0 s0_1 s0_2).bind fun bt297 => (if a1 = 0 then (none) else (some (Int.tmod bt297.1 a1, bt297.2.1, bt297.2.2)))) else ((spec_l1Byte.f s0_0 s0_1 s0_2).bind fun bt300 => ((spec_l1Byte.f s0_0 bt300.2.1 bt300.2.2).bind fun bt303 => ((spec_l1Byte.f s0_0 bt303.2.1 bt303.2.2).bind fun bt306 => (if a1 = 0 then (none) else (some (Int.tmod (wrap64 ((wrap64 ((wrap64 (bt300.1 * 65536)) + (wrap64 (bt303.1 * 256)))) + bt306.1)) a1, bt306.2.1, bt306.2.2)))))))) = some (r1, r2, r3) := h
  clear h
  by_cases cz1 : a1 ≤ 0
  · rw [if_pos cz1] at H
    have cz2 : decide (a1 ≤ 0) = true := decide_eq_true cz1
    clear cz1
    simp only [Option.some.injEq, Prod.mk.injEq] at H
    obtain ⟨rfl, rfl, rfl⟩ := H
    go_enter Tryd.func57, Tryd.ntmps57
    go_wp2
    go_ret
    exact ⟨er_, iss71_ HIz1.out, bx_ (IsS71.ge HIz1.out), kp_⟩
  rw [if_neg cz1] at H
  have cz2 : decide (a1 ≤ 0) = false := decide_eq_false cz1
  clear cz1
  by_cases cz3 : a1 ≤ 256
  · rw [if_pos cz3] at H
    have cz4 : decide (a1 ≤ 256) = true := decide_eq_true cz3
    clear cz3
    replace H := bo_ H
    obtain ⟨⟨tz1, tz2, tz3⟩, Az2, H⟩ := H
    (try dsimp only at H)
    by_cases cz5 : a1 = 0
    · rw [if_pos cz5] at H
      exact absurd H (by simp)
    rw [if_neg cz5] at H
    have cz6 : (a1 == 0) = false := beq_eq_false_iff_ne.mpr cz5
    have cz7 : (a1 != 0) = true := bne_iff_ne.mpr cz5
    simp only [Option.some.injEq, Prod.mk.injEq] at H
    obtain ⟨rfl, rfl, rfl⟩ := H
    go_enter Tryd.func57, Tryd.ntmps57
    go_wp2_with (first | ((with_reducible refine gate_callee (f := 60) rfl ?_); refine ca_ 13 Tryd.func60 #[.pointer (some ⟨g, 0, none⟩)] ?_; (with_reducible refine (spec_l1Byte.calls g s0_0 s0_1 s0_2 tz1 tz2 tz3 w0 _ ?side1 ?side2 Az2.out).mono ?_); (case side1 => exact iss71_ HIz1.out); (case side2 => exact bx_ (IsS71.ge HIz1.out)); rintro e wz1 ⟨rfl, hi, hb, hk⟩; refine ⟨_, rfl, ?_⟩; replace HK := Aside0.mk (KeepBut.trans kp_ hk (.inl rfl)); replace HB := Aside0.mk (hb); replace HIz1 := Aside0.mk (hi); clear hb hk hi))
    go_ret
    exact ⟨er_, iss71_ HIz1.out, bx_ (IsS71.ge HIz1.out), kp_⟩
  rw [if_neg cz3] at H
  have cz4 : decide (a1 ≤ 256) = false := decide_eq_false cz3
  clear cz3
  replace H := bo_ H
  obtain ⟨⟨tz1, tz2, tz3⟩, Az2, H⟩ := H
  (try dsimp only at H)
  replace H := bo_ H
  obtain ⟨⟨tz4, tz5, tz6⟩, Az4, H⟩ := H
  (try dsimp only at H)
  replace H := bo_ H
  obtain ⟨⟨tz7, tz8, tz9⟩, Az6, H⟩ := H
  (try dsimp only at H)
  by_cases cz5 : a1 = 0
  · rw [if_pos cz5] at H
    exact absurd H (by simp)
  rw [if_neg cz5] at H
  have cz6 : (a1 == 0) = false := beq_eq_false_iff_ne.mpr cz5
  have cz7 : (a1 != 0) = true := bne_iff_ne.mpr cz5
  simp only [Option.some.injEq, Prod.mk.injEq] at H
  obtain ⟨rfl, rfl, rfl⟩ := H
  go_enter Tryd.func57, Tryd.ntmps57
  go_wp2_with (first | ((with_reducible refine gate_callee (f := 60) rfl ?_); refine ca_ 17 Tryd.func60 #[.pointer (some ⟨g, 0, none⟩)] ?_; (with_reducible refine (spec_l1Byte.calls g s0_0 s0_1 s0_2 tz1 tz2 tz3 w0 _ ?side1 ?side2 Az2.out).mono ?_); (case side1 => exact iss71_ HIz1.out); (case side2 => exact bx_ (IsS71.ge HIz1.out)); rintro e wz1 ⟨rfl, hi, hb, hk⟩; refine ⟨_, rfl, ?_⟩; replace HK := Aside0.mk (KeepBut.trans kp_ hk (.inl rfl)); replace HB := Aside0.mk (hb); replace HIz1 := Aside0.mk (hi); clear hb hk hi) | ((with_reducible refine gate_callee (f := 60) rfl ?_); refine ca_ 19 Tryd.func60 #[.pointer (some ⟨g, 0, none⟩)] ?_; (with_reducible refine (spec_l1Byte.calls g s0_0 tz2 tz3 tz4 tz5 tz6 w0 _ ?side1 ?side2 Az4.out).mono ?_); (case side1 => exact iss71_ HIz1.out); (case side2 => exact bx_ (IsS71.ge HIz1.out)); rintro e wz2 ⟨rfl, hi, hb, hk⟩; refine ⟨_, rfl, ?_⟩; replace HK := Aside0.mk (KeepBut.trans kp_ hk (.inl rfl)); replace HB := Aside0.mk (hb); replace HIz1 := Aside0.mk (hi); clear hb hk hi) | ((with_reducible refine gate_callee (f := 60) rfl ?_); refine ca_ 21 Tryd.func60 #[.pointer (some ⟨g, 0, none⟩)] ?_; (with_reducible refine (spec_l1Byte.calls g s0_0 tz5 tz6 tz7 tz8 tz9 w0 _ ?side1 ?side2 Az6.out).mono ?_); (case side1 => exact iss71_ HIz1.out); (case side2 => exact bx_ (IsS71.ge HIz1.out)); rintro e wz3 ⟨rfl, hi, hb, hk⟩; refine ⟨_, rfl, ?_⟩; replace HK := Aside0.mk (KeepBut.trans kp_ hk (.inl rfl)); replace HB := Aside0.mk (hb); replace HIz1 := Aside0.mk (hi); clear hb hk hi))
  go_ret
  exact ⟨er_, iss71_ HIz1.out, bx_ (IsS71.ge HIz1.out), kp_⟩

def spec_l1Str.f (s0_0 : List Int) (s0_1 : Int) (s0_2 : Int) (l1 : List ByteArray) : Option (ByteArray × Int × Int) := (spec_l1Below.f s0_0 s0_1 s0_2 (l1.length : Int)).bind fun bt309 => (if 0 ≤ bt309.1 then (if bt309.1 < (l1.length : Int) then (some (rdOf ByteArray.empty l1 bt309.1, bt309.2.1, bt309.2.2)) else (none)) else (none))
set_option maxHeartbeats 8000000 in
set_option maxRecDepth 100000 in
theorem spec_l1Str.calls (g : Nat) (s0_0 : List Int) (s0_1 : Int) (s0_2 : Int) (A1 : Option Addr) (c1 : Nat) (l1 : List ByteArray) (r1 : ByteArray) (r2 : Int) (r3 : Int) (w0 w : World) (hI : IsS71 w0 w g s0_0 s0_1 s0_2) (hB : Below w0.heap.size w0 w) (hr1 : Kd.C Kd.string w A1 l1.length l1) (hc1 : l1.length ≤ c1) (hf1 : ∀ ad, A1 = some ad → 0 < l1.length → ad.block ≠ g) (h : spec_l1Str.f s0_0 s0_1 s0_2 l1 = some (r1, r2, r3)) :
    Calls Tryd.prog 58 #[.pointer (some ⟨g, 0, none⟩), .slice A1 l1.length c1] w fun e w' => e = .returned (.string r1) ∧ IsS71 w0 w' g s0_0 r2 r3 ∧ Below w0.heap.size w0 w' ∧ KeepBut w w' g none := by
  have HRz1 := Aside0.mk hr1
  have HCz1 := Aside0.mk hc1
  clear hr1 hc1
  have HIz1 := Aside0.mk hI
  have HK := Aside0.mk (KeepBut.refl w g none)
  have HL := Aside0.mk hB.size
  clear hI
  have HWz1 := Aside0.mk hB.size
  have HB := Aside0.mk hB
  clear hB
  have H : ((spec_l1Below.f s0_0 s0_1 s0_2 (l1.length : Int)).bind fun bt309 => (if 0 ≤ bt309.1 then (if bt309.1 < (l1.length : Int) then (some (rdOf ByteArray.empty l1 bt309.1, bt309.2.1, bt309.2.2)) else (none)) else (none))) = some (r1, r2, r3) := h
  clear h
  replace H := bo_ H
  obtain ⟨⟨tz1, tz2, tz3⟩, Az2, H⟩ := H
  (try dsimp only at H)
  by_cases cz1 : 0 ≤ tz1
  rotate_left
  · rw [if_neg cz1] at H
    exact absurd H (by simp)
  rw [if_pos cz1] at H
  have cz2 : decide (0 ≤ tz1) = true := decide_eq_true cz1
  clear cz1
  by_cases cz3 : tz1 < (l1.length : Int)
  rotate_left
  · rw [if_neg cz3] at H
    exact absurd H (by simp)
  rw [if_pos cz3] at H
  have cz4 : decide (tz1 < (l1.length : Int)) = true := decide_eq_true cz3
  clear cz3
  simp only [Option.some.injEq, Prod.mk.injEq] at H
  obtain ⟨rfl, rfl, rfl⟩ := H
  go_enter Tryd.func58, Tryd.ntmps58
  go_wp2_with (first | ((with_reducible refine gate_callee (f := 57) rfl ?_); refine ca_ 9 Tryd.func57 #[.pointer (some ⟨g, 0, none⟩), .int .i64 (l1.length : Int)] ?_; (with_reducible refine (spec_l1Below.calls g s0_0 s0_1 s0_2 (l1.length : Int) tz1 tz2 tz3 w0 _ ?side1 ?side2 Az2.out).mono ?_); (case side1 => exact iss71_ HIz1.out); (case side2 => exact bx_ (IsS71.ge HIz1.out)); rintro e wz1 ⟨rfl, hi, hb, hk⟩; refine ⟨_, rfl, ?_⟩; replace HK := Aside0.mk (KeepBut.trans kp_ hk (.inl rfl)); replace HB := Aside0.mk (hb); replace HIz1 := Aside0.mk (hi); clear hb hk hi; have pz1 : 0 ≤ (tz1 : Int) := dt_; have qz1 : tz1 < (l1.length : Int) := dt_; obtain ⟨adz1, ez1, hxz1⟩ := Kd.at_string HRz1.out tz1 pz1 qz1; cases ez1; replace hxz1 := keep_cell HK.out hxz1 (by first | (rw [add_block]; exact hf1 _ rfl (by omega)) | exact hf1 _ rfl (by omega) | exact hf1 adz1 rfl (by omega)); replace pz1 := eq_true pz1; replace qz1 := eq_true qz1))
  go_ret
  exact ⟨er_, iss71_ HIz1.out, bx_ (IsS71.ge HIz1.out), kp_⟩

def spec_l3Topic.f (s0_0 : List Int) (s0_1 : Int) (s0_2 : Int) : Option (ByteArray × Int × Int) := (spec_l1Str.f s0_0 s0_1 s0_2 (([(⟨#[97]⟩ : ByteArray), (⟨#[98]⟩ : ByteArray), (⟨#[97, 47, 98]⟩ : ByteArray), (⟨#[97, 47, 99]⟩ : ByteArray), (⟨#[97, 47, 98, 47, 99]⟩ : ByteArray), (⟨#[97, 47, 98, 47, 99, 47, 100]⟩ : ByteArray), (⟨#[36, 115]⟩ : ByteArray), (⟨#[36, 115, 47, 97]⟩ : ByteArray), (⟨#[47]⟩ : ByteArray), (⟨#[97, 47]⟩ : ByteArray), (⟨#[47, 97]⟩ : ByteArray), (⟨#[98, 47, 98]⟩ : ByteArray), (⟨#[195, 169, 47, 97]⟩ : ByteArray)] : List ByteArray))).bind fun bt316 => (some (bt316.1, bt316.2.1, bt316.2.2))
set_option maxHeartbeats 8000000 in
set_option maxRecDepth 100000 in
theorem spec_l3Topic.calls (g : Nat) (s0_0 : List Int) (s0_1 : Int) (s0_2 : Int) (r1 : ByteArray) (r2 : Int) (r3 : Int) (w0 w : World) (hI : IsS71 w0 w g s0_0 s0_1 s0_2) (hB : Below w0.heap.size w0 w) (h : spec_l3Topic.f s0_0 s0_1 s0_2 = some (r1, r2, r3)) :
    Calls Tryd.prog 39 #[.pointer (some ⟨g, 0, none⟩)] w fun e w' => e = .returned (.string r1) ∧ IsS71 w0 w' g s0_0 r2 r3 ∧ Below w0.heap.size w0 w' ∧ KeepBut w w' g none := by
  have HIz1 := Aside0.mk hI
  have HK := Aside0.mk (KeepBut.refl w g none)
  have HL := Aside0.mk hB.size
  clear hI
  have HWz1 := Aside0.mk hB.size
  have HB := Aside0.mk hB
  clear hB
  have H : ((spec_l1Str.f s0_0 s0_1 s0_2 (([(⟨#[97]⟩ : ByteArray), (⟨#[98]⟩ : ByteArray), (⟨#[97, 47, 98]⟩ : ByteArray), (⟨#[97, 47, 99]⟩ : ByteArray), (⟨#[97, 47, 98, 47, 99]⟩ : ByteArray), (⟨#[97, 47, 98, 47, 99, 47, 100]⟩ : ByteArray), (⟨#[36, 115]⟩ : ByteArray), (⟨#[36, 115, 47, 97]⟩ : ByteArray), (⟨#[47]⟩ : ByteArray), (⟨#[97, 47]⟩ : ByteArray), (⟨#[47, 97]⟩ : ByteArray), (⟨#[98, 47, 98]⟩ : ByteArray), (⟨#[195, 169, 47, 97]⟩ : ByteArray)] : List ByteArray))).bind fun bt316 => (some (bt316.1, bt316.2.1, bt316.2.2))) = some (r1, r2, r3) := h
  clear h
  obtain ⟨yz1, hyz1⟩ : ∃ y_ : List ByteArray, y_ = (([(⟨#[97]⟩ : ByteArray), (⟨#[98]⟩ : ByteArray), (⟨#[97, 47, 98]⟩ : ByteArray), (⟨#[97, 47, 99]⟩ : ByteArray), (⟨#[97, 47, 98, 47, 99]⟩ : ByteArray), (⟨#[97, 47, 98, 47, 99, 47, 100]⟩ : ByteArray), (⟨#[36, 115]⟩ : ByteArray), (⟨#[36, 115, 47, 97]⟩ : ByteArray), (⟨#[47]⟩ : ByteArray), (⟨#[97, 47]⟩ : ByteArray), (⟨#[47, 97]⟩ : ByteArray), (⟨#[98, 47, 98]⟩ : ByteArray), (⟨#[195, 169, 47, 97]⟩ : ByteArray)] : List ByteArray)) := ⟨_, rfl⟩
  (first | (with_reducible replace H := ys_ hyz1 H; (try dsimp only at H)) | rw [← hyz1] at H | skip)
  have Nyz1 := Aside0.mk hyz1
  clear hyz1
  replace H := bo_ H
  obtain ⟨⟨tz1, tz2, tz3⟩, Az2, H⟩ := H
  (try dsimp only at H)
  simp only [Option.some.injEq, Prod.mk.injEq] at H
  obtain ⟨rfl, rfl, rfl⟩ := H
  go_enter Tryd.func39, Tryd.ntmps39
  go_wp2_with (first | ((with_reducible refine gate_dst (N := 4) rfl ?_); refine Kd.R_lit Kd.string _ 9 ?hg (N := 4) ?hd (xs := ([(⟨#[97]⟩ : ByteArray), (⟨#[98]⟩ : ByteArray), (⟨#[97, 47, 98]⟩ : ByteArray), (⟨#[97, 47, 99]⟩ : ByteArray), (⟨#[97, 47, 98, 47, 99]⟩ : ByteArray), (⟨#[97, 47, 98, 47, 99, 47, 100]⟩ : ByteArray), (⟨#[36, 115]⟩ : ByteArray), (⟨#[36, 115, 47, 97]⟩ : ByteArray), (⟨#[47]⟩ : ByteArray), (⟨#[97, 47]⟩ : ByteArray), (⟨#[47, 97]⟩ : ByteArray), (⟨#[98, 47, 98]⟩ : ByteArray), (⟨#[195, 169, 47, 97]⟩ : ByteArray)] : List ByteArray)) (inner := [.string (⟨#[97]⟩ : ByteArray), .string (⟨#[98]⟩ : ByteArray), .string (⟨#[97, 47, 98]⟩ : ByteArray), .string (⟨#[97, 47, 99]⟩ : ByteArray), .string (⟨#[97, 47, 98, 47, 99]⟩ : ByteArray), .string (⟨#[97, 47, 98, 47, 99, 47, 100]⟩ : ByteArray), .string (⟨#[36, 115]⟩ : ByteArray), .string (⟨#[36, 115, 47, 97]⟩ : ByteArray), .string (⟨#[47]⟩ : ByteArray), .string (⟨#[97, 47]⟩ : ByteArray), .string (⟨#[47, 97]⟩ : ByteArray), .string (⟨#[98, 47, 98]⟩ : ByteArray), .string (⟨#[195, 169, 47, 97]⟩ : ByteArray)]) (ok := fun _ => True) (okp := fun _ => True) ?hr ?hp (fun _ hk => hk) trivial (Below.refl _ _) (Nat.le_refl _) (by simp) ?_; (case hd => rfl); (case hg => rfl); (case hr => first | (go_simp; done) | (go_simp; rfl)); (case hp => exact (Reps.one (show Kd.M Kd.string _ _ _ (⟨#[97]⟩ : ByteArray) [.string (⟨#[97]⟩ : ByteArray)] from rfl) (Reps.one (show Kd.M Kd.string _ _ _ (⟨#[98]⟩ : ByteArray) [.string (⟨#[98]⟩ : ByteArray)] from rfl) (Reps.one (show Kd.M Kd.string _ _ _ (⟨#[97, 47, 98]⟩ : ByteArray) [.string (⟨#[97, 47, 98]⟩ : ByteArray)] from rfl) (Reps.one (show Kd.M Kd.string _ _ _ (⟨#[97, 47, 99]⟩ : ByteArray) [.string (⟨#[97, 47, 99]⟩ : ByteArray)] from rfl) (Reps.one (show Kd.M Kd.string _ _ _ (⟨#[97, 47, 98, 47, 99]⟩ : ByteArray) [.string (⟨#[97, 47, 98, 47, 99]⟩ : ByteArray)] from rfl) (Reps.one (show Kd.M Kd.string _ _ _ (⟨#[97, 47, 98, 47, 99, 47, 100]⟩ : ByteArray) [.string (⟨#[97, 47, 98, 47, 99, 47, 100]⟩ : ByteArray)] from rfl) (Reps.one (show Kd.M Kd.string _ _ _ (⟨#[36, 115]⟩ : ByteArray) [.string (⟨#[36, 115]⟩ : ByteArray)] from rfl) (Reps.one (show Kd.M Kd.string _ _ _ (⟨#[36, 115, 47, 97]⟩ : ByteArray) [.string (⟨#[36, 115, 47, 97]⟩ : ByteArray)] from rfl) (Reps.one (show Kd.M Kd.string _ _ _ (⟨#[47]⟩ : ByteArray) [.string (⟨#[47]⟩ : ByteArray)] from rfl) (Reps.one (show Kd.M Kd.string _ _ _ (⟨#[97, 47]⟩ : ByteArray) [.string (⟨#[97, 47]⟩ : ByteArray)] from rfl) (Reps.one (show Kd.M Kd.string _ _ _ (⟨#[47, 97]⟩ : ByteArray) [.string (⟨#[47, 97]⟩ : ByteArray)] from rfl) (Reps.one (show Kd.M Kd.string _ _ _ (⟨#[98, 47, 98]⟩ : ByteArray) [.string (⟨#[98, 47, 98]⟩ : ByteArray)] from rfl) (Reps.one (show Kd.M Kd.string _ _ _ (⟨#[195, 169, 47, 97]⟩ : ByteArray) [.string (⟨#[195, 169, 47, 97]⟩ : ByteArray)] from rfl) (Reps.none _ _))))))))))))))); intro vz1 wz1 hoz1 hb hg_ hnew_; clear hg_ hnew_; (first | rw [← Nyz1.out] at hoz1 | (simp only [Int.reduceToNat] at hoz1; rw [← Nyz1.out] at hoz1)); have HOz1 := Aside0.mk (Kd.R_lower hoz1 (keep_size (w := w) (g := g) (row := none) kp_)); replace HK := Aside0.mk (KeepBut.trans kp_ (KeepBut.of_below hb g none) (.inl rfl)); replace HB := Aside0.mk (below_step (bx_ (IsS71.ge HIz1.out)) hb); replace HIz1 := Aside0.mk (IsS71.below (iss71_ HIz1.out) hb); clear hb hoz1; obtain ⟨Aoz1, coz1, eoz1⟩ := Kd.R_slice HOz1.out; subst eoz1) | ((with_reducible refine gate_callee (f := 58) rfl ?_); refine ca_ 5 Tryd.func58 #[.pointer (some ⟨g, 0, none⟩), .slice Aoz1 yz1.length coz1] ?_; (with_reducible refine (spec_l1Str.calls g s0_0 s0_1 s0_2 _ _ yz1 tz1 tz2 tz3 w0 _ ?side1 ?side2 ?side3 ?side4 ?side5 Az2.out).mono ?_); (case side1 => exact iss71_ HIz1.out); (case side2 => exact bx_ (IsS71.ge HIz1.out)); (case side3 => exact cR_ HOz1); (case side4 => exact (Kd.R_reads' HOz1.out).2.1); (case side5 => exact far_slice (IsS71.own_ne HIz1.out HOz1.out (by decide))); rintro e wz2 ⟨rfl, hi, hb, hk⟩; refine ⟨_, rfl, ?_⟩; replace HOz1 := Aside0.mk (Kd.R_mono (Kd.R_keep (IsS71.apart (show IsS71 w0 _ g s0_0 s0_1 s0_2 from by repeat (first | (with_reducible first | exact HIz1.out | apply IsS71.alloc | apply IsS71.drewN | apply IsS71.drew | apply IsS71.set_1 | apply IsS71.set_2) | exact HIz1.out)) (lR_ HOz1.out) (by decide)) hk (fun _ h => h.2)) (fun _ h => h.1)); replace HK := Aside0.mk (KeepBut.trans kp_ hk (.inl rfl)); replace HB := Aside0.mk (hb); replace HIz1 := Aside0.mk (hi); clear hb hk hi))
  go_ret
  exact ⟨er_, iss71_ HIz1.out, bx_ (IsS71.ge HIz1.out), kp_⟩

def spec_l1Once.f (s0_0 : List Int) (s0_1 : Int) (s0_2 : Int) (a1 : Int) : Option (Bool × Int × Int) := (spec_l1Below.f s0_0 s0_1 s0_2 a1).bind fun bt319 => (some ((bt319.1 == 0), bt319.2.1, bt319.2.2))
set_option maxHeartbeats 8000000 in
set_option maxRecDepth 100000 in
theorem spec_l1Once.calls (g : Nat) (s0_0 : List Int) (s0_1 : Int) (s0_2 : Int) (a1 : Int) (r1 : Bool) (r2 : Int) (r3 : Int) (w0 w : World) (hI : IsS71 w0 w g s0_0 s0_1 s0_2) (hB : Below w0.heap.size w0 w) (h : spec_l1Once.f s0_0 s0_1 s0_2 a1 = some (r1, r2, r3)) :
    Calls Tryd.prog 40 #[.pointer (some ⟨g, 0, none⟩), .int .i64 a1] w fun e w' => e = .returned (.bool r1) ∧ IsS71 w0 w' g s0_0 r2 r3 ∧ Below w0.heap.size w0 w' ∧ KeepBut w w' g none := by
  have HIz1 := Aside0.mk hI
  have HK := Aside0.mk (KeepBut.refl w g none)
  have HL := Aside0.mk hB.size
  clear hI
  have HWz1 := Aside0.mk hB.size
  have HB := Aside0.mk hB
  clear hB
  have H : ((spec_l1Below.f s0_0 s0_1 s0_2 a1).bind fun bt319 => (some ((bt319.1 == 0), bt319.2.1, bt319.2.2))) = some (r1, r2, r3) := h
  clear h
  replace H := bo_ H
  obtain ⟨⟨tz1, tz2, tz3⟩, Az2, H⟩ := H
  (try dsimp only at H)
  simp only [Option.some.injEq, Prod.mk.injEq] at H
  obtain ⟨rfl, rfl, rfl⟩ := H
  go_enter Tryd.func40, Tryd.ntmps40
  go_wp2_with (first | ((with_reducible refine gate_callee (f := 57) rfl ?_); refine ca_ 7 Tryd.func57 #[.pointer (some ⟨g, 0, none⟩), .int .i64 a1] ?_; (with_reducible refine (spec_l1Below.calls g s0_0 s0_1 s0_2 a1 tz1 tz2 tz3 w0 _ ?side1 ?side2 Az2.out).mono ?_); (case side1 => exact iss71_ HIz1.out); (case side2 => exact bx_ (IsS71.ge HIz1.out)); rintro e wz1 ⟨rfl, hi, hb, hk⟩; refine ⟨_, rfl, ?_⟩; replace HK := Aside0.mk (KeepBut.trans kp_ hk (.inl rfl)); replace HB := Aside0.mk (hb); replace HIz1 := Aside0.mk (hi); clear hb hk hi))
  go_ret
  exact ⟨er_, iss71_ HIz1.out, bx_ (IsS71.ge HIz1.out), kp_⟩

def spec_l3Filter.f (s0_0 : List Int) (s0_1 : Int) (s0_2 : Int) : Option (ByteArray × Int × Int) := (spec_l1Once.f s0_0 s0_1 s0_2 3).bind fun bt322 => (if bt322.1 = true then ((spec_l3Topic.f s0_0 bt322.2.1 bt322.2.2).bind fun bt325 => (some (bt325.1, bt325.2.1, bt325.2.2))) else ((spec_l1Str.f s0_0 bt322.2.1 bt322.2.2 (([(⟨#[35]⟩ : ByteArray), (⟨#[43]⟩ : ByteArray), (⟨#[97, 47, 35]⟩ : ByteArray), (⟨#[97, 47, 43]⟩ : ByteArray), (⟨#[43, 47, 98]⟩ : ByteArray), (⟨#[43, 47, 43]⟩ : ByteArray), (⟨#[97, 47, 43, 47, 99]⟩ : ByteArray), (⟨#[97, 47, 98, 47, 35]⟩ : ByteArray), (⟨#[36, 115, 47, 35]⟩ : ByteArray), (⟨#[36, 115, 47, 43]⟩ : ByteArray), (⟨#[43, 47, 35]⟩ : ByteArray), (⟨#[47, 43]⟩ : ByteArray), (⟨#[47, 35]⟩ : ByteArray), (⟨#[97, 47, 43, 47, 35]⟩ : ByteArray), (⟨#[98, 47, 35]⟩ : ByteArray), (⟨#[43, 47, 98, 47, 43]⟩ : ByteArray)] : List ByteArray))).bind fun bt331 => (some (bt331.1, bt331.2.1, bt331.2.2))))
set_option maxHeartbeats 8000000 in
set_option maxRecDepth 100000 in
theorem spec_l3Filter.calls (g : Nat) (s0_0 : List Int) (s0_1 : Int) (s0_2 : Int) (r1 : ByteArray) (r2 : Int) (r3 : Int) (w0 w : World) (hI : IsS71 w0 w g s0_0 s0_1 s0_2) (hB : Below w0.heap.size w0 w) (h : spec_l3Filter.f s0_0 s0_1 s0_2 = some (r1, r2, r3)) :
    Calls Tryd.prog 59 #[.pointer (some ⟨g, 0, none⟩)] w fun e w' => e = .returned (.string r1) ∧ IsS71 w0 w' g s0_0 r2 r3 ∧ Below w0.heap.size w0 w' ∧ KeepBut w w' g none := by
  have HIz1 := Aside0.mk hI
  have HK := Aside0.mk (KeepBut.refl w g none)
  have HL := Aside0.mk hB.size
  clear hI
  have HWz1 := Aside0.mk hB.size
  have HB := Aside0.mk hB
  clear hB
  have H : ((spec_l1Once.f s0_0 s0_1 s0_2 3).bind fun bt322 => (if bt322.1 = true then ((spec_l3Topic.f s0_0 bt322.2.1 bt322.2.2).bind fun bt325 => (some (bt325.1, bt325.2.1, bt325.2.2))) else ((spec_l1Str.f s0_0 bt322.2.1 bt322.2.2 (([(⟨#[35]⟩ : ByteArray), (⟨#[43]⟩ : ByteArray), (⟨#[97, 47, 35]⟩ : ByteArray), (⟨#[97, 47, 43]⟩ : ByteArray), (⟨#[43, 47, 98]⟩ : ByteArray), (⟨#[43, 47, 43]⟩ : ByteArray), (⟨#[97, 47, 43, 47, 99]⟩ : ByteArray), (⟨#[97, 47, 98, 47, 35]⟩ : ByteArray), (⟨#[36, 115, 47, 35]⟩ : ByteArray), (⟨#[36, 115, 47, 43]⟩ : ByteArray), (⟨#[43, 47, 35]⟩ : ByteArray), (⟨#[47, 43]⟩ : ByteArray), (⟨#[47, 35]⟩ : ByteArray), (⟨#[97, 47, 43, 47, 35]⟩ : ByteArray), (⟨#[98, 47, 35]⟩ : ByteArray), (⟨#[43, 47, 98, 47, 43]⟩ : ByteArray)] : List ByteArray))).bind fun bt331 => (some (bt331.1, bt331.2.1, bt331.2.2))))) = some (r1, r2, r3) := h
  clear h
  replace H := bo_ H
  obtain ⟨⟨tz1, tz2, tz3⟩, Az2, H⟩ := H
  (try dsimp only at H)
  by_cases cz1 : tz1 = true
  · subst cz1
    replace H := bt_ H
    replace H := bo_ H
    obtain ⟨⟨tz4, tz5, tz6⟩, Az4, H⟩ := H
    (try dsimp only at H)
    simp only [Option.some.injEq, Prod.mk.injEq] at H
    obtain ⟨rfl, rfl, rfl⟩ := H
    go_enter Tryd.func59, Tryd.ntmps59
    go_wp2_with (first | ((with_reducible refine gate_callee (f := 40) rfl ?_); refine ca_ 4 Tryd.func40 #[.pointer (some ⟨g, 0, none⟩), .int .i64 3] ?_; (with_reducible refine (spec_l1Once.calls g s0_0 s0_1 s0_2 3 true tz2 tz3 w0 _ ?side1 ?side2 Az2.out).mono ?_); (case side1 => exact iss71_ HIz1.out); (case side2 => exact bx_ (IsS71.ge HIz1.out)); rintro e wz1 ⟨rfl, hi, hb, hk⟩; refine ⟨_, rfl, ?_⟩; replace HK := Aside0.mk (KeepBut.trans kp_ hk (.inl rfl)); replace HB := Aside0.mk (hb); replace HIz1 := Aside0.mk (hi); clear hb hk hi) | ((with_reducible refine gate_callee (f := 39) rfl ?_); refine ca_ 6 Tryd.func39 #[.pointer (some ⟨g, 0, none⟩)] ?_; (with_reducible refine (spec_l3Topic.calls g s0_0 tz2 tz3 tz4 tz5 tz6 w0 _ ?side1 ?side2 Az4.out).mono ?_); (case side1 => exact iss71_ HIz1.out); (case side2 => exact bx_ (IsS71.ge HIz1.out)); rintro e wz2 ⟨rfl, hi, hb, hk⟩; refine ⟨_, rfl, ?_⟩; replace HK := Aside0.mk (KeepBut.trans kp_ hk (.inl rfl)); replace HB := Aside0.mk (hb); replace HIz1 := Aside0.mk (hi); clear hb hk hi))
    go_ret
    exact ⟨er_, iss71_ HIz1.out, bx_ (IsS71.ge HIz1.out), kp_⟩
  replace cz1 := Bool.eq_false_iff.mpr cz1
  subst cz1
  replace H := bf_ H
  obtain ⟨yz1, hyz1⟩ : ∃ y_ : List ByteArray, y_ = (([(⟨#[35]⟩ : ByteArray), (⟨#[43]⟩ : ByteArray), (⟨#[97, 47, 35]⟩ : ByteArray), (⟨#[97, 47, 43]⟩ : ByteArray), (⟨#[43, 47, 98]⟩ : ByteArray), (⟨#[43, 47, 43]⟩ : ByteArray), (⟨#[97, 47, 43, 47, 99]⟩ : ByteArray), (⟨#[97, 47, 98, 47, 35]⟩ : ByteArray), (⟨#[36, 115, 47, 35]⟩ : ByteArray), (⟨#[36, 115, 47, 43]⟩ : ByteArray), (⟨#[43, 47, 35]⟩ : ByteArray), (⟨#[47, 43]⟩ : ByteArray), (⟨#[47, 35]⟩ : ByteArray), (⟨#[97, 47, 43, 47, 35]⟩ : ByteArray), (⟨#[98, 47, 35]⟩ : ByteArray), (⟨#[43, 47, 98, 47, 43]⟩ : ByteArray)] : List ByteArray)) := ⟨_, rfl⟩
  (first | (with_reducible replace H := ys_ hyz1 H; (try dsimp only at H)) | rw [← hyz1] at H | skip)
  have Nyz1 := Aside0.mk hyz1
  clear hyz1
  replace H := bo_ H
  obtain ⟨⟨tz4, tz5, tz6⟩, Az4, H⟩ := H
  (try dsimp only at H)
  simp only [Option.some.injEq, Prod.mk.injEq] at H
  obtain ⟨rfl, rfl, rfl⟩ := H
  go_enter Tryd.func59, Tryd.ntmps59
  go_wp2_with (first | ((with_reducible refine gate_callee (f := 40) rfl ?_); refine ca_ 4 Tryd.func40 #[.pointer (some ⟨g, 0, none⟩), .int .i64 3] ?_; (with_reducible refine (spec_l1Once.calls g s0_0 s0_1 s0_2 3 false tz2 tz3 w0 _ ?side1 ?side2 Az2.out).mono ?_); (case side1 => exact iss71_ HIz1.out); (case side2 => exact bx_ (IsS71.ge HIz1.out)); rintro e wz1 ⟨rfl, hi, hb, hk⟩; refine ⟨_, rfl, ?_⟩; replace HK := Aside0.mk (KeepBut.trans kp_ hk (.inl rfl)); replace HB := Aside0.mk (hb); replace HIz1 := Aside0.mk (hi); clear hb hk hi) | ((with_reducible refine gate_dst (N := 8) rfl ?_); refine Kd.R_lit Kd.string _ 9 ?hg (N := 8) ?hd (xs := ([(⟨#[35]⟩ : ByteArray), (⟨#[43]⟩ : ByteArray), (⟨#[97, 47, 35]⟩ : ByteArray), (⟨#[97, 47, 43]⟩ : ByteArray), (⟨#[43, 47, 98]⟩ : ByteArray), (⟨#[43, 47, 43]⟩ : ByteArray), (⟨#[97, 47, 43, 47, 99]⟩ : ByteArray), (⟨#[97, 47, 98, 47, 35]⟩ : ByteArray), (⟨#[36, 115, 47, 35]⟩ : ByteArray), (⟨#[36, 115, 47, 43]⟩ : ByteArray), (⟨#[43, 47, 35]⟩ : ByteArray), (⟨#[47, 43]⟩ : ByteArray), (⟨#[47, 35]⟩ : ByteArray), (⟨#[97, 47, 43, 47, 35]⟩ : ByteArray), (⟨#[98, 47, 35]⟩ : ByteArray), (⟨#[43, 47, 98, 47, 43]⟩ : ByteArray)] : List ByteArray)) (inner := [.string (⟨#[35]⟩ : ByteArray), .string (⟨#[43]⟩ : ByteArray), .string (⟨#[97, 47, 35]⟩ : ByteArray), .string (⟨#[97, 47, 43]⟩ : ByteArray), .string (⟨#[43, 47, 98]⟩ : ByteArray), .string (⟨#[43, 47, 43]⟩ : ByteArray), .string (⟨#[97, 47, 43, 47, 99]⟩ : ByteArray), .string (⟨#[97, 47, 98, 47, 35]⟩ : ByteArray), .string (⟨#[36, 115, 47, 35]⟩ : ByteArray), .string (⟨#[36, 115, 47, 43]⟩ : ByteArray), .string (⟨#[43, 47, 35]⟩ : ByteArray), .string (⟨#[47, 43]⟩ : ByteArray), .string (⟨#[47, 35]⟩ : ByteArray), .string (⟨#[97, 47, 43, 47, 35]⟩ : ByteArray), .string (⟨#[98, 47, 35]⟩ : ByteArray), .string (⟨#[43, 47, 98, 47, 43]⟩ : ByteArray)]) (ok := fun _ => True) (okp := fun _ => True) ?hr ?hp (fun _ hk => hk) trivial (Below.refl _ _) (Nat.le_refl _) (by simp) ?_; (case hd => rfl); (case hg => rfl); (case hr => first | (go_simp; done) | (go_simp; rfl)); (case hp => exact (Reps.one (show Kd.M Kd.string _ _ _ (⟨#[35]⟩ : ByteArray) [.string (⟨#[35]⟩ : ByteArray)] from rfl) (Reps.one (show Kd.M Kd.string _ _ _ (⟨#[43]⟩ : ByteArray) [.string (⟨#[43]⟩ : ByteArray)] from rfl) (Reps.one (show Kd.M Kd.string _ _ _ (⟨#[97, 47, 35]⟩ : ByteArray) [.string (⟨#[97, 47, 35]⟩ : ByteArray)] from rfl) (Reps.one (show Kd.M Kd.string _ _ _ (⟨#[97, 47, 43]⟩ : ByteArray) [.string (⟨#[97, 47, 43]⟩ : ByteArray)] from rfl) (Reps.one (show Kd.M Kd.string _ _ _ (⟨#[43, 47, 98]⟩ : ByteArray) [.string (⟨#[43, 47, 98]⟩ : ByteArray)] from rfl) (Reps.one (show Kd.M Kd.string _ _ _ (⟨#[43, 47, 43]⟩ : ByteArray) [.string (⟨#[43, 47, 43]⟩ : ByteArray)] from rfl) (Reps.one (show Kd.M Kd.string _ _ _ (⟨#[97, 47, 43, 47, 99]⟩ : ByteArray) [.string (⟨#[97, 47, 43, 47, 99]⟩ : ByteArray)] from rfl) (Reps.one (show Kd.M Kd.string _ _ _ (⟨#[97, 47, 98, 47, 35]⟩ : ByteArray) [.string (⟨#[97, 47, 98, 47, 35]⟩ : ByteArray)] from rfl) (Reps.one (show Kd.M Kd.string _ _ _ (⟨#[36, 115, 47, 35]⟩ : ByteArray) [.string (⟨#[36, 115, 47, 35]⟩ : ByteArray)] from rfl) (Reps.one (show Kd.M Kd.string _ _ _ (⟨#[36, 115, 47, 43]⟩ : ByteArray) [.string (⟨#[36, 115, 47, 43]⟩ : ByteArray)] from rfl) (Reps.one (show Kd.M Kd.string _ _ _ (⟨#[43, 47, 35]⟩ : ByteArray) [.string (⟨#[43, 47, 35]⟩ : ByteArray)] from rfl) (Reps.one (show Kd.M Kd.string _ _ _ (⟨#[47, 43]⟩ : ByteArray) [.string (⟨#[47, 43]⟩ : ByteArray)] from rfl) (Reps.one (show Kd.M Kd.string _ _ _ (⟨#[47, 35]⟩ : ByteArray) [.string (⟨#[47, 35]⟩ : ByteArray)] from rfl) (Reps.one (show Kd.M Kd.string _ _ _ (⟨#[97, 47, 43, 47, 35]⟩ : ByteArray) [.string (⟨#[97, 47, 43, 47, 35]⟩ : ByteArray)] from rfl) (Reps.one (show Kd.M Kd.string _ _ _ (⟨#[98, 47, 35]⟩ : ByteArray) [.string (⟨#[98, 47, 35]⟩ : ByteArray)] from rfl) (Reps.one (show Kd.M Kd.string _ _ _ (⟨#[43, 47, 98, 47, 43]⟩ : ByteArray) [.string (⟨#[43, 47, 98, 47, 43]⟩ : ByteArray)] from rfl) (Reps.none _ _)))))))))))))))))); intro vz1 wz2 hoz1 hb hg_ hnew_; clear hg_ hnew_; (first | rw [← Nyz1.out] at hoz1 | (simp only [Int.reduceToNat] at hoz1; rw [← Nyz1.out] at hoz1)); have HOz1 := Aside0.mk (Kd.R_lower hoz1 (keep_size (w := w) (g := g) (row := none) kp_)); replace HK := Aside0.mk (KeepBut.trans kp_ (KeepBut.of_below hb g none) (.inl rfl)); replace HB := Aside0.mk (below_step (bx_ (IsS71.ge HIz1.out)) hb); replace HIz1 := Aside0.mk (IsS71.below (iss71_ HIz1.out) hb); clear hb hoz1; obtain ⟨Aoz1, coz1, eoz1⟩ := Kd.R_slice HOz1.out; subst eoz1) | ((with_reducible refine gate_callee (f := 58) rfl ?_); refine ca_ 9 Tryd.func58 #[.pointer (some ⟨g, 0, none⟩), .slice Aoz1 yz1.length coz1] ?_; (with_reducible refine (spec_l1Str.calls g s0_0 tz2 tz3 _ _ yz1 tz4 tz5 tz6 w0 _ ?side1 ?side2 ?side3 ?side4 ?side5 Az4.out).mono ?_); (case side1 => exact iss71_ HIz1.out); (case side2 => exact bx_ (IsS71.ge HIz1.out)); (case side3 => exact cR_ HOz1); (case side4 => exact (Kd.R_reads' HOz1.out).2.1); (case side5 => exact far_slice (IsS71.own_ne HIz1.out HOz1.out (by decide))); rintro e wz3 ⟨rfl, hi, hb, hk⟩; refine ⟨_, rfl, ?_⟩; replace HOz1 := Aside0.mk (Kd.R_mono (Kd.R_keep (IsS71.apart (show IsS71 w0 _ g s0_0 tz2 tz3 from by repeat (first | (with_reducible first | exact HIz1.out | apply IsS71.alloc | apply IsS71.drewN | apply IsS71.drew | apply IsS71.set_1 | apply IsS71.set_2) | exact HIz1.out)) (lR_ HOz1.out) (by decide)) hk (fun _ h => h.2)) (fun _ h => h.1)); replace HK := Aside0.mk (KeepBut.trans kp_ hk (.inl rfl)); replace HB := Aside0.mk (hb); replace HIz1 := Aside0.mk (hi); clear hb hk hi))
  go_ret
  exact ⟨er_, iss71_ HIz1.out, bx_ (IsS71.ge HIz1.out), kp_⟩

def spec_l3Any.f (s0_0 : List Int) (s0_1 : Int) (s0_2 : Int) : Option (ByteArray × Int × Int) := (spec_l1Below.f s0_0 s0_1 s0_2 3).bind fun bt334 => (if bt334.1 = 0 then ((spec_l3Topic.f s0_0 bt334.2.1 bt334.2.2).bind fun bt337 => (some (bt337.1, bt337.2.1, bt337.2.2))) else (if bt334.1 = 1 then ((spec_l3Filter.f s0_0 bt334.2.1 bt334.2.2).bind fun bt340 => (some (bt340.1, bt340.2.1, bt340.2.2))) else ((spec_l1Str.f s0_0 bt334.2.1 bt334.2.2 (([(⟨#[]⟩ : ByteArray), (⟨#[97, 43]⟩ : ByteArray), (⟨#[97, 47, 98, 43]⟩ : ByteArray), (⟨#[43, 97]⟩ : ByteArray), (⟨#[35, 47, 97]⟩ : ByteArray), (⟨#[97, 35]⟩ : ByteArray), (⟨#[97, 47, 35, 47, 98]⟩ : ByteArray), (⟨#[35, 35]⟩ : ByteArray), (⟨#[43, 43]⟩ : ByteArray), (⟨#[97, 47, 98, 47, 99, 47, 100, 47, 101, 47, 102]⟩ : ByteArray), (⟨#[97, 47, 98, 47, 99, 47, 100, 47, 101, 47, 102, 47, 103]⟩ : ByteArray), (⟨#[47, 47, 47, 47, 47]⟩ : ByteArray), (⟨#[47, 47, 47, 47, 47, 47]⟩ : ByteArray), (⟨#[0]⟩ : ByteArray), (⟨#[255]⟩ : ByteArray), (⟨#[49, 50, 51, 52, 53, 54, 55, 56, 57, 48, 49, 50, 51, 52, 53, 54, 55, 56, 57, 48, 49, 50, 51, 52, 53, 54, 55, 56, 57, 48, 49, 50, 51, 52, 53, 54, 55, 56, 57, 48, 49, 50, 51, 52, 53, 54, 55, 56, 57, 48, 49, 50, 51, 52, 53, 54, 55, 56, 57, 48, 49]⟩ : ByteArray)] : List ByteArray))).bind fun bt346 => (some (bt346.1, bt346.2.1, bt346.2.2)))))
set_option maxHeartbeats 8000000 in
set_option maxRecDepth 100000 in
theorem spec_l3Any.calls (g : Nat) (s0_0 : List Int) (s0_1 : Int) (s0_2 : Int) (r1 : ByteArray) (r2 : Int) (r3 : Int) (w0 w : World) (hI : IsS71 w0 w g s0_0 s0_1 s0_2) (hB : Below w0.heap.size w0 w) (h : spec_l3Any.f s0_0 s0_1 s0_2 = some (r1, r2, r3)) :
    Calls Tryd.prog 41 #[.pointer (some ⟨g, 0, none⟩)] w fun e w' => e = .returned (.string r1) ∧ IsS71 w0 w' g s0_0 r2 r3 ∧ Below w0.heap.size w0 w' ∧ KeepBut w w' g none := by
  have HIz1 := Aside0.mk hI
  have HK := Aside0.mk (KeepBut.refl w g none)
  have HL := Aside0.mk hB.size
  clear hI
  have HWz1 := Aside0.mk hB.size
  have HB := Aside0.mk hB
  clear hB
  have H : ((spec_l1Below.f s0_0 s0_1 s0_2 3).bind fun bt334 => (if bt334.1 = 0 then ((spec_l3Topic.f s0_0 bt334.2.1 bt334.2.2).bind fun bt337 => (some (bt337.1, bt337.2.1, bt337.2.2))) else (if bt334.1 = 1 then ((spec_l3Filter.f s0_0 bt334.2.1 bt334.2.2).bind fun bt340 => (some (bt340.1, bt340.2.1, bt340.2.2))) else ((spec_l1Str.f s0_0 bt334.2.1 bt334.2.2 (([(⟨#[]⟩ : ByteArray), (⟨#[97, 43]⟩ : ByteArray), (⟨#[97, 47, 98, 43]⟩ : ByteArray), (⟨#[43, 97]⟩ : ByteArray), (⟨#[35, 47, 97]⟩ : ByteArray), (⟨#[97, 35]⟩ : ByteArray), (⟨#[97, 47, 35, 47, 98]⟩ : ByteArray), (⟨#[35, 35]⟩ : ByteArray), (⟨#[43, 43]⟩ : ByteArray), (⟨#[97, 47, 98, 47, 99, 47, 100, 47, 101, 47, 102]⟩ : ByteArray), (⟨#[97, 47, 98, 47, 99, 47, 100, 47, 101, 47, 102, 47, 103]⟩ : ByteArray), (⟨#[47, 47, 47, 47, 47]⟩ : ByteArray), (⟨#[47, 47, 47, 47, 47, 47]⟩ : ByteArray), (⟨#[0]⟩ : ByteArray), (⟨#[255]⟩ : ByteArray), (⟨#[49, 50, 51, 52, 53, 54, 55, 56, 57, 48, 49, 50, 51, 52, 53, 54, 55, 56, 57, 48, 49, 50, 51, 52, 53, 54, 55, 56, 57, 48, 49, 50, 51, 52, 53, 54, 55, 56, 57, 48, 49, 50, 51, 52, 53, 54, 55, 56, 57, 48, 49, 50, 51, 52, 53, 54, 55, 56, 57, 48, 49]⟩ : ByteArray)] : List ByteArray))).bind fun bt346 => (some (bt346.1, bt346.2.1, bt346.2.2)))))) = some (r1, r2, r3) := h
  clear h
  replace H := bo_ H
  obtain ⟨⟨tz1, tz2, tz3⟩, Az2, H⟩ := H
  (try dsimp only at H)
  by_cases cz1 : tz1 = 0
  · rw [if_pos cz1] at H
    have cz2 : (tz1 == 0) = true := beq_iff_eq.mpr cz1
    have cz3 : (tz1 != 0) = false := bne_eq_false_iff_eq.mpr cz1
    clear cz1
    replace H := bo_ H
    obtain ⟨⟨tz4, tz5, tz6⟩, Az4, H⟩ := H
    (try dsimp only at H)
    simp only [Option.some.injEq, Prod.mk.injEq] at H
    obtain ⟨rfl, rfl, rfl⟩ := H
    go_enter Tryd.func41, Tryd.ntmps41
    go_wp2_with (first | ((with_reducible refine gate_callee (f := 57) rfl ?_); refine ca_ 4 Tryd.func57 #[.pointer (some ⟨g, 0, none⟩), .int .i64 3] ?_; (with_reducible refine (spec_l1Below.calls g s0_0 s0_1 s0_2 3 tz1 tz2 tz3 w0 _ ?side1 ?side2 Az2.out).mono ?_); (case side1 => exact iss71_ HIz1.out); (case side2 => exact bx_ (IsS71.ge HIz1.out)); rintro e wz1 ⟨rfl, hi, hb, hk⟩; refine ⟨_, rfl, ?_⟩; replace HK := Aside0.mk (KeepBut.trans kp_ hk (.inl rfl)); replace HB := Aside0.mk (hb); replace HIz1 := Aside0.mk (hi); clear hb hk hi) | ((with_reducible refine gate_callee (f := 39) rfl ?_); refine ca_ 8 Tryd.func39 #[.pointer (some ⟨g, 0, none⟩)] ?_; (with_reducible refine (spec_l3Topic.calls g s0_0 tz2 tz3 tz4 tz5 tz6 w0 _ ?side1 ?side2 Az4.out).mono ?_); (case side1 => exact iss71_ HIz1.out); (case side2 => exact bx_ (IsS71.ge HIz1.out)); rintro e wz2 ⟨rfl, hi, hb, hk⟩; refine ⟨_, rfl, ?_⟩; replace HK := Aside0.mk (KeepBut.trans kp_ hk (.inl rfl)); replace HB := Aside0.mk (hb); replace HIz1 := Aside0.mk (hi); clear hb hk hi))
    go_ret
    exact ⟨er_, iss71_ HIz1.out, bx_ (IsS71.ge HIz1.out), kp_⟩
  rw [if_neg cz1] at H
  have cz2 : (tz1 == 0) = false := beq_eq_false_iff_ne.mpr cz1
  have cz3 : (tz1 != 0) = true := bne_iff_ne.mpr cz1
  by_cases cz4 : tz1 = 1
  · rw [if_pos cz4] at H
    have cz5 : (tz1 == 1) = true := beq_iff_eq.mpr cz4
    have cz6 : (tz1 != 1) = false := bne_eq_false_iff_eq.mpr cz4
    clear cz4
    replace H := bo_ H
    obtain ⟨⟨tz4, tz5, tz6⟩, Az4, H⟩ := H
    (try dsimp only at H)
    simp only [Option.some.injEq, Prod.mk.injEq] at H
    obtain ⟨rfl, rfl, rfl⟩ := H
    go_enter Tryd.func41, Tryd.ntmps41
    go_wp2_with (first | ((with_reducible refine gate_callee (f := 57) rfl ?_); refine ca_ 4 Tryd.func57 #[.pointer (some ⟨g, 0, none⟩), .int .i64 3] ?_; (with_reducible refine (spec_l1Below.calls g s0_0 s0_1 s0_2 3 tz1 tz2 tz3 w0 _ ?side1 ?side2 Az2.out).mono ?_); (case side1 => exact iss71_ HIz1.out); (case side2 => exact bx_ (IsS71.ge HIz1.out)); rintro e wz1 ⟨rfl, hi, hb, hk⟩; refine ⟨_, rfl, ?_⟩; replace HK := Aside0.mk (KeepBut.trans kp_ hk (.inl rfl)); replace HB := Aside0.mk (hb); replace HIz1 := Aside0.mk (hi); clear hb hk hi) | ((with_reducible refine gate_callee (f := 59) rfl ?_); refine ca_ 12 Tryd.func59 #[.pointer (some ⟨g, 0, none⟩)] ?_; (with_reducible refine (spec_l3Filter.calls g s0_0 tz2 tz3 tz4 tz5 tz6 w0 _ ?side1 ?side2 Az4.out).mono ?_); (case side1 => exact iss71_ HIz1.out); (case side2 => exact bx_ (IsS71.ge HIz1.out)); rintro e wz2 ⟨rfl, hi, hb, hk⟩; refine ⟨_, rfl, ?_⟩; replace HK := Aside0.mk (KeepBut.trans kp_ hk (.inl rfl)); replace HB := Aside0.mk (hb); replace HIz1 := Aside0.mk (hi); clear hb hk hi))
    go_ret
    exact ⟨er_, iss71_ HIz1.out, bx_ (IsS71.ge HIz1.out), kp_⟩
  rw [if_neg cz4] at H
  have cz5 : (tz1 == 1) = false := beq_eq_false_iff_ne.mpr cz4
  have cz6 : (tz1 != 1) = true := bne_iff_ne.mpr cz4
  obtain ⟨yz1, hyz1⟩ : ∃ y_ : List ByteArray, y_ = (([(⟨#[]⟩ : ByteArray), (⟨#[97, 43]⟩ : ByteArray), (⟨#[97, 47, 98, 43]⟩ : ByteArray), (⟨#[43, 97]⟩ : ByteArray), (⟨#[35, 47, 97]⟩ : ByteArray), (⟨#[97, 35]⟩ : ByteArray), (⟨#[97, 47, 35, 47, 98]⟩ : ByteArray), (⟨#[35, 35]⟩ : ByteArray), (⟨#[43, 43]⟩ : ByteArray), (⟨#[97, 47, 98, 47, 99, 47, 100, 47, 101, 47, 102]⟩ : ByteArray), (⟨#[97, 47, 98, 47, 99, 47, 100, 47, 101, 47, 102, 47, 103]⟩ : ByteArray), (⟨#[47, 47, 47, 47, 47]⟩ : ByteArray), (⟨#[47, 47, 47, 47, 47, 47]⟩ : ByteArray), (⟨#[0]⟩ : ByteArray), (⟨#[255]⟩ : ByteArray), (⟨#[49, 50, 51, 52, 53, 54, 55, 56, 57, 48, 49, 50, 51, 52, 53, 54, 55, 56, 57, 48, 49, 50, 51, 52, 53, 54, 55, 56, 57, 48, 49, 50, 51, 52, 53, 54, 55, 56, 57, 48, 49, 50, 51, 52, 53, 54, 55, 56, 57, 48, 49, 50, 51, 52, 53, 54, 55, 56, 57, 48, 49]⟩ : ByteArray)] : List ByteArray)) := ⟨_, rfl⟩
  (first | (with_reducible replace H := ys_ hyz1 H; (try dsimp only at H)) | rw [← hyz1] at H | skip)
  have Nyz1 := Aside0.mk hyz1
  clear hyz1
  replace H := bo_ H
  obtain ⟨⟨tz4, tz5, tz6⟩, Az4, H⟩ := H
  (try dsimp only at H)
  simp only [Option.some.injEq, Prod.mk.injEq] at H
  obtain ⟨rfl, rfl, rfl⟩ := H
  go_enter Tryd.func41, Tryd.ntmps41
  go_wp2_with (first | ((with_reducible refine gate_callee (f := 57) rfl ?_); refine ca_ 4 Tryd.func57 #[.pointer (some ⟨g, 0, none⟩), .int .i64 3] ?_; (with_reducible refine (spec_l1Below.calls g s0_0 s0_1 s0_2 3 tz1 tz2 tz3 w0 _ ?side1 ?side2 Az2.out).mono ?_); (case side1 => exact iss71_ HIz1.out); (case side2 => exact bx_ (IsS71.ge HIz1.out)); rintro e wz1 ⟨rfl, hi, hb, hk⟩; refine ⟨_, rfl, ?_⟩; replace HK := Aside0.mk (KeepBut.trans kp_ hk (.inl rfl)); replace HB := Aside0.mk (hb); replace HIz1 := Aside0.mk (hi); clear hb hk hi) | ((with_reducible refine gate_dst (N := 14) rfl ?_); refine Kd.R_lit Kd.string _ 9 ?hg (N := 14) ?hd (xs := ([(⟨#[]⟩ : ByteArray), (⟨#[97, 43]⟩ : ByteArray), (⟨#[97, 47, 98, 43]⟩ : ByteArray), (⟨#[43, 97]⟩ : ByteArray), (⟨#[35, 47, 97]⟩ : ByteArray), (⟨#[97, 35]⟩ : ByteArray), (⟨#[97, 47, 35, 47, 98]⟩ : ByteArray), (⟨#[35, 35]⟩ : ByteArray), (⟨#[43, 43]⟩ : ByteArray), (⟨#[97, 47, 98, 47, 99, 47, 100, 47, 101, 47, 102]⟩ : ByteArray), (⟨#[97, 47, 98, 47, 99, 47, 100, 47, 101, 47, 102, 47, 103]⟩ : ByteArray), (⟨#[47, 47, 47, 47, 47]⟩ : ByteArray), (⟨#[47, 47, 47, 47, 47, 47]⟩ : ByteArray), (⟨#[0]⟩ : ByteArray), (⟨#[255]⟩ : ByteArray), (⟨#[49, 50, 51, 52, 53, 54, 55, 56, 57, 48, 49, 50, 51, 52, 53, 54, 55, 56, 57, 48, 49, 50, 51, 52, 53, 54, 55, 56, 57, 48, 49, 50, 51, 52, 53, 54, 55, 56, 57, 48, 49, 50, 51, 52, 53, 54, 55, 56, 57, 48, 49, 50, 51, 52, 53, 54, 55, 56, 57, 48, 49]⟩ : ByteArray)] : List ByteArray)) (inner := [.string (⟨#[]⟩ : ByteArray), .string (⟨#[97, 43]⟩ : ByteArray), .string (⟨#[97, 47, 98, 43]⟩ : ByteArray), .string (⟨#[43, 97]⟩ : ByteArray), .string (⟨#[35, 47, 97]⟩ : ByteArray), .string (⟨#[97, 35]⟩ : ByteArray), .string (⟨#[97, 47, 35, 47, 98]⟩ : ByteArray), .string (⟨#[35, 35]⟩ : ByteArray), .string (⟨#[43, 43]⟩ : ByteArray), .string (⟨#[97, 47, 98, 47, 99, 47, 100, 47, 101, 47, 102]⟩ : ByteArray), .string (⟨#[97, 47, 98, 47, 99, 47, 100, 47, 101, 47, 102, 47, 103]⟩ : ByteArray), .string (⟨#[47, 47, 47, 47, 47]⟩ : ByteArray), .string (⟨#[47, 47, 47, 47, 47, 47]⟩ : ByteArray), .string (⟨#[0]⟩ : ByteArray), .string (⟨#[255]⟩ : ByteArray), .string (⟨#[49, 50, 51, 52, 53, 54, 55, 56, 57, 48, 49, 50, 51, 52, 53, 54, 55, 56, 57, 48, 49, 50, 51, 52, 53, 54, 55, 56, 57, 48, 49, 50, 51, 52, 53, 54, 55, 56, 57, 48, 49, 50, 51, 52, 53, 54, 55, 56, 57, 48, 49, 50, 51, 52, 53, 54, 55, 56, 57, 48, 49]⟩ : ByteArray)]) (ok := fun _ => True) (okp := fun _ => True) ?hr ?hp (fun _ hk => hk) trivial (Below.refl _ _) (Nat.le_refl _) (by simp) ?_; (case hd => rfl); (case hg => rfl); (case hr => first | (go_simp; done) | (go_simp; rfl)); (case hp => exact (Reps.one (show Kd.M Kd.string _ _ _ (⟨#[]⟩ : ByteArray) [.string (⟨#[]⟩ : ByteArray)] from rfl) (Reps.one (show Kd.M Kd.string _ _ _ (⟨#[97, 43]⟩ : ByteArray) [.string (⟨#[97, 43]⟩ : ByteArray)] from rfl) (Reps.one (show Kd.M Kd.string _ _ _ (⟨#[97, 47, 98, 43]⟩ : ByteArray) [.string (⟨#[97, 47, 98, 43]⟩ : ByteArray)] from rfl) (Reps.one (show Kd.M Kd.string _ _ _ (⟨#[43, 97]⟩ : ByteArray) [.string (⟨#[43, 97]⟩ : ByteArray)] from rfl) (Reps.one (show Kd.M Kd.string _ _ _ (⟨#[35, 47, 97]⟩ : ByteArray) [.string (⟨#[35, 47, 97]⟩ : ByteArray)] from rfl) (Reps.one (show Kd.M Kd.string _ _ _ (⟨#[97, 35]⟩ : ByteArray) [.string (⟨#[97, 35]⟩ : ByteArray)] from rfl) (Reps.one (show Kd.M Kd.string _ _ _ (⟨#[97, 47, 35, 47, 98]⟩ : ByteArray) [.string (⟨#[97, 47, 35, 47, 98]⟩ : ByteArray)] from rfl) (Reps.one (show Kd.M Kd.string _ _ _ (⟨#[35, 35]⟩ : ByteArray) [.string (⟨#[35, 35]⟩ : ByteArray)] from rfl) (Reps.one (show Kd.M Kd.string _ _ _ (⟨#[43, 43]⟩ : ByteArray) [.string (⟨#[43, 43]⟩ : ByteArray)] from rfl) (Reps.one (show Kd.M Kd.string _ _ _ (⟨#[97, 47, 98, 47, 99, 47, 100, 47, 101, 47, 102]⟩ : ByteArray) [.string (⟨#[97, 47, 98, 47, 99, 47, 100, 47, 101, 47, 102]⟩ : ByteArray)] from rfl) (Reps.one (show Kd.M Kd.string _ _ _ (⟨#[97, 47, 98, 47, 99, 47, 100, 47, 101, 47, 102, 47, 103]⟩ : ByteArray) [.string (⟨#[97, 47, 98, 47, 99, 47, 100, 47, 101, 47, 102, 47, 103]⟩ : ByteArray)] from rfl) (Reps.one (show Kd.M Kd.string _ _ _ (⟨#[47, 47, 47, 47, 47]⟩ : ByteArray) [.string (⟨#[47, 47, 47, 47, 47]⟩ : ByteArray)] from rfl) (Reps.one (show Kd.M Kd.string _ _ _ (⟨#[47, 47, 47, 47, 47, 47]⟩ : ByteArray) [.string (⟨#[47, 47, 47, 47, 47, 47]⟩ : ByteArray)] from rfl) (Reps.one (show Kd.M Kd.string _ _ _ (⟨#[0]⟩ : ByteArray) [.string (⟨#[0]⟩ : ByteArray)] from rfl) (Reps.one (show Kd.M Kd.string _ _ _ (⟨#[255]⟩ : ByteArray) [.string (⟨#[255]⟩ : ByteArray)] from rfl) (Reps.one (show Kd.M Kd.string _ _ _ (⟨#[49, 50, 51, 52, 53, 54, 55, 56, 57, 48, 49, 50, 51, 52, 53, 54, 55, 56, 57, 48, 49, 50, 51, 52, 53, 54, 55, 56, 57, 48, 49, 50, 51, 52, 53, 54, 55, 56, 57, 48, 49, 50, 51, 52, 53, 54, 55, 56, 57, 48, 49, 50, 51, 52, 53, 54, 55, 56, 57, 48, 49]⟩ : ByteArray) [.string (⟨#[49, 50, 51, 52, 53, 54, 55, 56, 57, 48, 49, 50, 51, 52, 53, 54, 55, 56, 57, 48, 49, 50, 51, 52, 53, 54, 55, 56, 57, 48, 49, 50, 51, 52, 53, 54, 55, 56, 57, 48, 49, 50, 51, 52, 53, 54, 55, 56, 57, 48, 49, 50, 51, 52, 53, 54, 55, 56, 57, 48, 49]⟩ : ByteArray)] from rfl) (Reps.none _ _)))))))))))))))))); intro vz1 wz2 hoz1 hb hg_ hnew_; clear hg_ hnew_; (first | rw [← Nyz1.out] at hoz1 | (simp only [Int.reduceToNat] at hoz1; rw [← Nyz1.out] at hoz1)); have HOz1 := Aside0.mk (Kd.R_lower hoz1 (keep_size (w := w) (g := g) (row := none) kp_)); replace HK := Aside0.mk (KeepBut.trans kp_ (KeepBut.of_below hb g none) (.inl rfl)); replace HB := Aside0.mk (below_step (bx_ (IsS71.ge HIz1.out)) hb); replace HIz1 := Aside0.mk (IsS71.below (iss71_ HIz1.out) hb); clear hb hoz1; obtain ⟨Aoz1, coz1, eoz1⟩ := Kd.R_slice HOz1.out; subst eoz1) | ((with_reducible refine gate_callee (f := 58) rfl ?_); refine ca_ 15 Tryd.func58 #[.pointer (some ⟨g, 0, none⟩), .slice Aoz1 yz1.length coz1] ?_; (with_reducible refine (spec_l1Str.calls g s0_0 tz2 tz3 _ _ yz1 tz4 tz5 tz6 w0 _ ?side1 ?side2 ?side3 ?side4 ?side5 Az4.out).mono ?_); (case side1 => exact iss71_ HIz1.out); (case side2 => exact bx_ (IsS71.ge HIz1.out)); (case side3 => exact cR_ HOz1); (case side4 => exact (Kd.R_reads' HOz1.out).2.1); (case side5 => exact far_slice (IsS71.own_ne HIz1.out HOz1.out (by decide))); rintro e wz3 ⟨rfl, hi, hb, hk⟩; refine ⟨_, rfl, ?_⟩; replace HOz1 := Aside0.mk (Kd.R_mono (Kd.R_keep (IsS71.apart (show IsS71 w0 _ g s0_0 tz2 tz3 from by repeat (first | (with_reducible first | exact HIz1.out | apply IsS71.alloc | apply IsS71.drewN | apply IsS71.drew | apply IsS71.set_1 | apply IsS71.set_2) | exact HIz1.out)) (lR_ HOz1.out) (by decide)) hk (fun _ h => h.2)) (fun _ h => h.1)); replace HK := Aside0.mk (KeepBut.trans kp_ hk (.inl rfl)); replace HB := Aside0.mk (hb); replace HIz1 := Aside0.mk (hi); clear hb hk hi))
  go_ret
  exact ⟨er_, iss71_ HIz1.out, bx_ (IsS71.ge HIz1.out), kp_⟩

end Go.Proofs.YtpigbffaacilfaaDoor.P
