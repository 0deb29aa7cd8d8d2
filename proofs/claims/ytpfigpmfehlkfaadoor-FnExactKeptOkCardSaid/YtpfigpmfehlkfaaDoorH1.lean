/- What is kept, in plain Lean: copies, sizes, comparisons of lists of kept texts; KeptOk. No program in sight. -/
import Derived.Test.YtpfigpmfehlkfaaDoorK
import Derived.Test.YtpfigpmfehlkfaaDoorA1
import Derived.Test.YtpfigpmfehlkfaaDoorK
import Derived.Test.YtpfigpmfehlkfaaDoorPx0
import Derived.Test.YtpfigpmfehlkfaaDoorPx1
import Derived.Test.YtpfigpmfehlkfaaDoorPx5
import Derived.Test.YtpfigpmfehlkfaaDoorPx8
import Derived.Test.YtpfigpmfehlkfaaDoorPx9
import Derived.Test.YtpfigpmfehlkfaaDoorA1
import Derived.Test.YtpfigpmfehlkfaaDoorK
namespace Go.Proofs.YtpfigpmfehlkfaaDoor.Pure
open Go.RowKit Go.Proofs.YtpfigpmfehlkfaaDoor.X Go.Proofs.YtpfigpmfehlkfaaDoor.P Go.Proofs.YtpfigpmfehlkfaaDoorW.PrintWords Go.Proofs.YtpfigpmfehlkfaaDoorW.PrintLast Go.Proofs.YtpfigpmfehlkfaaDoor.K
set_option linter.unusedVariables false
set_option linter.unusedSimpArgs false
def tk (y : S45) : S43 := ⟨y.f0, y.f1, y.f2⟩
theorem rdLK {l : List S45} {i : Nat} (h : i < l.length) : rd_T45 l (i : Int) = l[i] := getD_get h
theorem rdIK {l : List S43} {i : Nat} (h : i < l.length) : rd_T43 l (i : Int) = l[i] := getD_get h
theorem toKeptS_ev (l : List S45) (hl : l.length ≤ 1048576) (hb : ∀ x ∈ l, x.f1.length ≤ 1048576) : Ev (fun k => laws_toKeptS.f k l) (l.map tk) := by
  unfold laws_toKeptS.f
  refine ev_pos (by omega) (ev_pos (by omega) ?_)
  refine copy_loop (l.map tk) (fun k y i => laws_toKeptS.l0 k l y i) ?_ ?_ l.length 0 (List.replicate ((l.length : Int) : Int).toNat z43) (by simp) (by simp) (by simp)
  · intro i y r hi hy h
    rw [List.length_map] at hi hy
    have hx := hb _ (List.getElem_mem hi)
    refine Ev.step (fun k => by rw [laws_toKeptS.l0]) (ev_pos (by omega) (ev_pos (by omega) ?_))
    rw [rdLK hi, w64s (i := i) (n := l.length) hi (by omega)]
    have ht : Ev (fun k => laws_toKept.f k l[i].f0 l[i].f1 l[i].f2) (l[i].f0, l[i].f1, l[i].f2) := by
      unfold laws_toKept.f
      exact Ev.bind (toByteS_ev _ (by omega)) (Ev.now _)
    refine Ev.bind ht (ev_pos (by omega) ?_)
    rw [List.getElem_map] at h
    exact h
  · intro y hy
    rw [List.length_map] at hy ⊢
    exact Ev.step (fun k => by rw [laws_toKeptS.l0]) (ev_neg (by omega) (Ev.now _))
theorem szKept_eq (x : S45) (a : Int) (h0 : 0 ≤ a) (h1 : a ≤ 4611686018427387904) (hx : x.f0.size ≤ 140737488351232 ∧ x.f1.length ≤ 140737488351232) :
    ∃ r, laws_szKept.f x.f0 x.f1 x.f2 a = some r ∧ (¬ r < 0 → (x.f0.size : Int) ≤ a ∧ (x.f1.length : Int) ≤ a) ∧ r ≤ a := by
  unfold laws_szKept.f laws_szByteS.f
  rw [w64 (x := a - (x.f0.size : Int)) (by omega) (by omega), w64 (x := a - (x.f0.size : Int) - (x.f1.length : Int)) (by omega) (by omega)]
  by_cases q : a - (x.f0.size : Int) < 0
  · exact ⟨-1, by rw [if_pos q], fun h => absurd (by omega) h, by omega⟩
  · rw [if_neg q]
    by_cases q2 : a - (x.f0.size : Int) - (x.f1.length : Int) < 0
    · exact ⟨-1, by rw [if_pos q2]; rfl, fun h => absurd (by omega) h, by omega⟩
    · refine ⟨a - (x.f0.size : Int) - (x.f1.length : Int), ?_, fun _ => by omega, by omega⟩
      rw [if_neg q2]
      simp only [Option.bind_some]
      rw [if_neg q2]
theorem szKeptS_l (l : List S45) (hl : l.length ≤ 140737488351232) (hs : ∀ x ∈ l, x.f0.size ≤ 140737488351232 ∧ x.f1.length ≤ 140737488351232) : ∀ (d i : Nat) (a : Int), i + d = l.length → 0 ≤ a → a ≤ 4611686018427387904 →
    ∃ r, Ev (fun k => laws_szKeptS.l0 k l a (i : Int)) r ∧ (¬ r < 0 → ∀ x ∈ l.drop i, (x.f0.size : Int) ≤ a ∧ (x.f1.length : Int) ≤ a) ∧ r ≤ a
  | 0, i, a, hd, h0, h1 => by
    refine ⟨a, Ev.step (fun k => by rw [laws_szKeptS.l0]) (ev_neg (by omega) (Ev.now _)), fun _ x hx => ?_, by omega⟩
    rw [List.drop_of_length_le (by omega)] at hx
    cases hx
  | d + 1, i, a, hd, h0, h1 => by
    have hi : i < l.length := by omega
    obtain ⟨b, hb, hq, hle⟩ := szKept_eq l[i] a h0 h1 (hs _ (List.getElem_mem hi))
    by_cases q : b < 0
    · refine ⟨-1, Ev.step (fun k => by rw [laws_szKeptS.l0]) (ev_pos (by omega) (ev_pos (by omega) ?_)), fun h => absurd (by omega) h, by omega⟩
      rw [rdLK hi]
      exact ev_b hb (ev_pos q (Ev.now _))
    · obtain ⟨r, hr, hx, hle2⟩ := szKeptS_l l hl hs d (i + 1) b (by omega) (by omega) (by omega)
      refine ⟨r, Ev.step (fun k => by rw [laws_szKeptS.l0]) (ev_pos (by omega) (ev_pos (by omega) ?_)), fun h x hm => ?_, by omega⟩
      · rw [rdLK hi, w64s (i := i) (n := l.length) hi (by omega)]
        exact ev_b hb (ev_neg q hr)
      · rw [List.drop_eq_getElem_cons hi] at hm
        rcases List.mem_cons.1 hm with rfl | hm
        · exact hq q
        · have := hx h x hm
          omega
theorem szKeptS_ev (l : List S45) (a : Int) (h0 : 0 ≤ a) (h1 : a ≤ 4611686018427387904) (hl : l.length ≤ 140737488351232) (hs : ∀ x ∈ l, x.f0.size ≤ 140737488351232 ∧ x.f1.length ≤ 140737488351232) :
    ∃ r, Ev (fun k => laws_szKeptS.f k l a) r ∧ (¬ r < 0 → (l.length : Int) ≤ a ∧ ∀ x ∈ l, (x.f0.size : Int) ≤ a ∧ (x.f1.length : Int) ≤ a) ∧ r ≤ a := by
  unfold laws_szKeptS.f
  rw [w64 (x := a - (l.length : Int)) (by omega) (by omega)]
  by_cases q : a - (l.length : Int) < 0
  · exact ⟨-1, ev_pos q (Ev.now _), fun h => absurd (by omega) h, by omega⟩
  · obtain ⟨r, hr, hx, hle⟩ := szKeptS_l l hl hs l.length 0 (a - (l.length : Int)) (by omega) (by omega) (by omega)
    refine ⟨r, ev_neg q hr, fun h => ⟨by omega, fun x hm => ?_⟩, by omega⟩
    have := hx h x (by simpa using hm)
    omega
theorem eqKeptS_ev (l : List S43) (hl : l.length ≤ 1048576) (hb : ∀ x ∈ l, x.f1.length ≤ 1048576) : Ev (fun k => laws_eqKeptS.f k l l) true := by
  unfold laws_eqKeptS.f
  refine ev_pos rfl ?_
  suffices h : ∀ (d i : Nat), i + d = l.length → Ev (fun k => laws_eqKeptS.l0 k l l (i : Int)) true from h l.length 0 (by omega)
  intro d
  induction d with
  | zero =>
    intro i hi
    exact Ev.step (fun k => by rw [laws_eqKeptS.l0]) (ev_neg (by omega) (Ev.now _))
  | succ d ih =>
    intro i hi
    have hil : i < l.length := by omega
    have hx := hb _ (List.getElem_mem hil)
    refine Ev.step (fun k => by rw [laws_eqKeptS.l0]) (ev_pos (by omega) (ev_pos (by omega) (ev_pos (by omega) ?_)))
    rw [rdIK hil, w64s (i := i) (n := l.length) hil (by omega)]
    have he : Ev (fun k => laws_eqKept.f k l[i].f0 l[i].f1 l[i].f2 l[i].f0 l[i].f1 l[i].f2) true := by
      unfold laws_eqKept.f
      exact ev_pos rfl (Ev.bind (eqByteS_ev _ _ (by omega)) (ev_pos (by simp) (ev_pos rfl (Ev.now _))))
    exact Ev.bind he (ev_pos rfl (ih (i + 1) (by omega)))
end Go.Proofs.YtpfigpmfehlkfaaDoor.Pure
