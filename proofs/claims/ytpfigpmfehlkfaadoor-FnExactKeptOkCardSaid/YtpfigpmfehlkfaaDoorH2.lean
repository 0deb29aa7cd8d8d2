/- What is kept, in plain Lean: copies, sizes, comparisons of lists of kept texts; KeptOk. No program in sight. -/
import Derived.Test.YtpfigpmfehlkfaaDoorK
import Derived.Test.YtpfigpmfehlkfaaDoorH1
import Derived.Test.YtpfigpmfehlkfaaDoorK
import Derived.Test.YtpfigpmfehlkfaaDoorPx0
import Derived.Test.YtpfigpmfehlkfaaDoorPx1
import Derived.Test.YtpfigpmfehlkfaaDoorPx4
import Derived.Test.YtpfigpmfehlkfaaDoorPx6
import Derived.Test.YtpfigpmfehlkfaaDoorPx7
import Derived.Test.YtpfigpmfehlkfaaDoorT2
import Derived.Test.YtpfigpmfehlkfaaDoorH1
import Derived.Test.YtpfigpmfehlkfaaDoorK
import Derived.Test.YtpfigpmfehlkfaaDoorT2
namespace Go.Proofs.YtpfigpmfehlkfaaDoor.Pure
open Go.RowKit Go.Proofs.YtpfigpmfehlkfaaDoor.X Go.Proofs.YtpfigpmfehlkfaaDoor.P Go.Proofs.YtpfigpmfehlkfaaDoorW.PrintWords Go.Proofs.YtpfigpmfehlkfaaDoorW.PrintLast Go.Proofs.YtpfigpmfehlkfaaDoor.K
set_option linter.unusedVariables false
set_option linter.unusedSimpArgs false
theorem specIn_eq (a lo hi : Int) : spec_l1In.f a lo hi = some (decide (lo ≤ a) && decide (a ≤ hi)) := by
  unfold spec_l1In.f
  by_cases h : a ≥ lo
  · rw [if_pos h, decide_eq_true h, Bool.true_and]
  · rw [if_neg h, decide_eq_false h, Bool.false_and]
theorem implIn_eq (a lo hi : Int) : impl_within.f a lo hi = some (decide (lo ≤ a) && decide (a ≤ hi)) := by
  unfold impl_within.f
  by_cases h : a ≥ lo
  · rw [if_pos h, decide_eq_true h, Bool.true_and]
  · rw [if_neg h, decide_eq_false h, Bool.false_and]
theorem isQos_eq (a : Int) : impl_isQos.f a = some (decide (0 ≤ a) && decide (a ≤ 2)) := by
  unfold impl_isQos.f
  rw [implIn_eq]
  rfl
def okK (x : S43) : Bool := topicL x.f0 && ((decide (1 ≤ (x.f1.length : Int)) && decide ((x.f1.length : Int) ≤ 40)) && (decide (0 ≤ x.f2) && decide (x.f2 ≤ 2)))
def risesAt (l : List S43) (i : Nat) : Bool := decide (i = 0) || Op.bytesLess (rd_T43 l ((i : Int) - 1)).f0.toList (rd_T43 l (i : Int)).f0.toList
/-- From place i on all is right. -/
def keptFrom (l : List S43) : Nat → Nat → Bool
  | 0, _ => decide ((l.length : Int) ≤ 8)
  | d + 1, i => okK (rd_T43 l (i : Int)) && (risesAt l i && keptFrom l d (i + 1))
def keptL (l : List S43) : Bool := keptFrom l l.length 0
theorem specKept_l (l : List S43) (hl : l.length ≤ 1073741824) (hs : ∀ x ∈ l, x.f0.size ≤ 1073741824) : ∀ (d i : Nat), i + d = l.length → Ev (fun k => spec_KeptOk.l0 k l (i : Int)) (keptFrom l d i)
  | 0, i, hd => by
    refine Ev.step (fun k => by rw [spec_KeptOk.l0]) (ev_neg (by omega) (ev_some ?_))
    rfl
  | d + 1, i, hd => by
    have hi : i < l.length := by omega
    have ih := specKept_l l hl hs d (i + 1) (by omega)
    have hx := hs _ (List.getElem_mem hi)
    refine Ev.step (fun k => by rw [spec_KeptOk.l0]) (ev_pos (by omega) (ev_pos (by omega) ?_))
    rw [w64s (i := i) (n := l.length) hi (by omega), w64 (x := (i : Int) - 1) (by omega) (by omega), specIn_eq, specIn_eq]
    unfold keptFrom okK risesAt
    have hr := rdIK hi
    rw [← hr] at hx
    refine Ev.bind (specTopicOk_ev _ hx) (ev_ite (fun a => ?_) (fun a => ?_))
    · rw [a, Bool.true_and]
      refine ev_b rfl (ev_ite (fun b => ?_) (fun b => ?_))
      · rw [b, Bool.true_and]
        refine ev_b rfl (ev_ite (fun c => ?_) (fun c => ?_))
        · rw [c, Bool.true_and]
          by_cases z : i = 0
          · refine ev_neg (by omega) (ev_to ih ?_)
            rw [decide_eq_true z]; rfl
          · refine ev_pos (by omega) (ev_pos (by omega) (ev_pos (by omega) ?_))
            rw [decide_eq_false z, Bool.false_or]
            refine ev_ite (fun e => ?_) (fun e => ?_)
            · rw [e, Bool.true_and]; exact ih
            · rw [Bool.eq_false_iff.2 e]; exact Ev.now _
        · rw [Bool.eq_false_iff.2 c]; exact Ev.now _
      · rw [Bool.eq_false_iff.2 b]; exact Ev.now _
    · rw [Bool.eq_false_iff.2 a]; exact Ev.now _
theorem implKept_l (l : List S43) (hl : l.length ≤ 1073741824) (hs : ∀ x ∈ l, x.f0.size ≤ 1073741824) : ∀ (d i : Nat), i + d = l.length → Ev (fun k => impl_KeptOk.l0 k l l (l.length : Int) (i : Int)) (keptFrom l d i)
  | 0, i, hd => by
    refine Ev.step (fun k => by rw [impl_KeptOk.l0]) (ev_neg (by omega) (ev_some ?_))
    rfl
  | d + 1, i, hd => by
    have hi : i < l.length := by omega
    have ih := implKept_l l hl hs d (i + 1) (by omega)
    have hx := hs _ (List.getElem_mem hi)
    refine Ev.step (fun k => by rw [impl_KeptOk.l0]) (ev_pos (by omega) (ev_pos (by omega) (ev_pos (by omega) ?_)))
    rw [w64s (i := i) (n := l.length) hi (by omega), w64 (x := (i : Int) - 1) (by omega) (by omega), implIn_eq, isQos_eq]
    unfold keptFrom okK risesAt
    have hr := rdIK hi
    rw [← hr] at hx
    refine ev_b (implTopicOk_eq _ hx) (ev_ite (fun a => ?_) (fun a => ?_))
    · rw [a, Bool.true_and]
      refine ev_b rfl (ev_ite (fun b => ?_) (fun b => ?_))
      · rw [b, Bool.true_and]
        refine ev_b rfl (ev_ite (fun c => ?_) (fun c => ?_))
        · rw [c, Bool.true_and]
          by_cases z : i = 0
          · refine ev_neg (by omega) (ev_to ih ?_)
            rw [decide_eq_true z]; rfl
          · refine ev_pos (by omega) (ev_pos (by omega) (ev_pos (by omega) ?_))
            rw [decide_eq_false z, Bool.false_or]
            refine ev_ite (fun e => ?_) (fun e => ?_)
            · rw [e, Bool.true_and]; exact ih
            · rw [Bool.eq_false_iff.2 e]; exact Ev.now _
        · rw [Bool.eq_false_iff.2 c]; exact Ev.now _
      · rw [Bool.eq_false_iff.2 b]; exact Ev.now _
    · rw [Bool.eq_false_iff.2 a]; exact Ev.now _
theorem specKeptOk_ev (l : List S43) (hl : l.length ≤ 1073741824) (hs : ∀ x ∈ l, x.f0.size ≤ 1073741824) : Ev (fun k => spec_KeptOk.f k l) (keptL l) := by
  unfold spec_KeptOk.f
  exact specKept_l l hl hs l.length 0 (by omega)
theorem implKeptOk_ev (l : List S43) (hl : l.length ≤ 1073741824) (hs : ∀ x ∈ l, x.f0.size ≤ 1073741824) : Ev (fun k => impl_KeptOk.f k l) (keptL l) := by
  unfold impl_KeptOk.f
  exact implKept_l l hl hs l.length 0 (by omega)
end Go.Proofs.YtpfigpmfehlkfaaDoor.Pure
