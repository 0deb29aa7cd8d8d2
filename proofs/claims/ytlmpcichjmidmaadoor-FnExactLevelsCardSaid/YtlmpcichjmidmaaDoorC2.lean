/- The levels of a text: spec.Levels and strings.Split come to the same pieces; the marks of a list of texts are laid and found again. No program in sight. -/
import Derived.Test.YtlmpcichjmidmaaDoorK
import Derived.Test.YtlmpcichjmidmaaDoorK
import Derived.Test.YtlmpcichjmidmaaDoorPx0
import Derived.Test.YtlmpcichjmidmaaDoorPx20
import Derived.Test.YtlmpcichjmidmaaDoorPx21
import Derived.Test.YtlmpcichjmidmaaDoorX6
import Derived.Lib.Split
import Derived.Lib.SplitLaws
import Derived.Lib.CountLaws
import Derived.Lib.IndexBytes
import Derived.WideShapes
namespace Go.Proofs.YtlmpcichjmidmaaDoor.Pure
open Go.RowKit Go.Proofs.YtlmpcichjmidmaaDoor.X Go.Proofs.YtlmpcichjmidmaaDoor.P Go.Proofs.YtlmpcichjmidmaaDoorW.PrintWords Go.Proofs.YtlmpcichjmidmaaDoorW.PrintLast Go.Proofs.YtlmpcichjmidmaaDoor.K
set_option linter.unusedVariables false
set_option linter.unusedSimpArgs false
theorem eqStringS_ev (a b : List ByteArray) (ha : a.length ≤ 35184372088832) (e : a = b) : Ev (fun k => laws_eqStringS.f k a b) true := by
  subst e
  unfold laws_eqStringS.f
  refine ev_pos rfl ?_
  suffices h : ∀ (d i : Nat), i + d = a.length → Ev (fun k => laws_eqStringS.l0 k a a (i : Int)) true from h a.length 0 (by omega)
  intro d
  induction d with
  | zero =>
    intro i hi
    refine Ev.step (fun k => by rw [laws_eqStringS.l0]) ?_
    exact ev_neg (by omega) (Ev.now _)
  | succ d ih =>
    intro i hi
    refine Ev.step (fun k => by rw [laws_eqStringS.l0]) ?_
    rw [w64s (i := i) (n := a.length) (by omega) (by omega)]
    exact ev_pos (by omega) (ev_pos (by omega) (ev_pos (by omega) (ev_pos rfl (ih (i + 1) (by omega)))))
/-- The text that marks a number. -/
theorem markText_l : ∀ (b : Nat) (x : Int) (t : ByteArray), 0 ≤ x → x ≤ 9223372036854775807 → x.toNat ≤ b → t.size + b ≤ 9223372036854775800 → ∃ r, Ev (fun k => laws_markText.l0 k x t) r := by
  intro b
  induction b with
  | zero =>
    intro x t h0 h1 hb ht
    refine ⟨_, Ev.step (fun k => by rw [laws_markText.l0]) (ev_neg (by omega) (ev_pos (by omega) (Ev.now _)))⟩
  | succ b ih =>
    intro x t h0 h1 hb ht
    by_cases q : x > 0
    · have e : Int.tdiv x 10 = x / 10 := Int.tdiv_eq_ediv_of_nonneg h0
      obtain ⟨r, hr⟩ := ih (x / 10) (strOfNums [(wrap64 (48 + (Int.tmod x 10))) % 256] ++ t) (by omega) (by omega) (by omega) (by rw [ByteArray.size_append, strOfNums_size]; simp only [List.length_cons, List.length_nil]; omega)
      refine ⟨r, Ev.step (fun k => by rw [laws_markText.l0]) ?_⟩
      rw [e, w64 (x := x / 10) (by omega) (by omega)]
      exact ev_pos q (ev_b (a := [(wrap64 (48 + (Int.tmod x 10))) % 256]) rfl (ev_pos (by rw [strOfNums_size]; simp only [List.length_cons, List.length_nil]; omega) hr))
    · exact ⟨_, Ev.step (fun k => by rw [laws_markText.l0]) (ev_neg q (ev_pos (by omega) (Ev.now _)))⟩
theorem markText_ex (x : Int) (h0 : 0 ≤ x) (h1 : x ≤ 9223372036854775000) : ∃ r, Ev (fun k => laws_markText.f k x) r := by
  unfold laws_markText.f
  by_cases q : x ≤ 0
  · exact ⟨_, ev_pos q (Ev.now _)⟩
  · obtain ⟨r, hr⟩ := markText_l x.toNat x (⟨#[]⟩ : ByteArray) h0 (by omega) (Nat.le_refl _) (by show 0 + x.toNat ≤ _; omega)
    exact ⟨r, ev_neg q hr⟩
open Classical in
noncomputable def markT (x : Int) : ByteArray := if h : 0 ≤ x ∧ x ≤ 9223372036854775000 then (markText_ex x h.1 h.2).choose else ByteArray.empty
theorem markText_ev (x : Int) (h0 : 0 ≤ x) (h1 : x ≤ 9223372036854775000) : Ev (fun k => laws_markText.f k x) (markT x) := by
  unfold markT
  rw [dif_pos ⟨h0, h1⟩]
  exact (markText_ex x h0 h1).choose_spec
theorem markStringS_ev (l : List ByteArray) (c : Int) (h0 : 0 ≤ c) (h1 : c ≤ 4611686018427387904) (hl : l.length ≤ 35184372088832) : Ev (fun k => laws_markStringS.f k l c) (c + (l.length : Int), marks markT c l.length) := by
  unfold laws_markStringS.f
  refine ev_to (mark_loop markT l.length (fun k y c i => laws_markStringS.l0 k y c i) ?_ ?_ l.length 0 l c (by omega) rfl h0 (by omega)) (by simp)
  · intro i y c r hi hy h0 h1 hk
    refine Ev.step (fun k => by rw [laws_markStringS.l0]) ?_
    refine ev_pos (by omega) (Ev.bind (markText_ev c h0 (by omega)) (ev_pos (by omega) ?_))
    rw [w64 (x := c + 1) (by omega) (by omega), w64s (i := i) (n := l.length) (by omega) (by omega)]
    exact hk
  · intro y c hy
    refine Ev.step (fun k => by rw [laws_markStringS.l0]) ?_
    exact ev_neg (by omega) (Ev.now _)
theorem heldStringS_ev (c : Int) (n : Nat) (h0 : 0 ≤ c) (h1 : c ≤ 4611686018427387904) (hl : n ≤ 35184372088832) : Ev (fun k => laws_heldStringS.f k (marks markT c n) c) (c + (n : Int)) := by
  unfold laws_heldStringS.f
  have hn := marks_length markT c n
  obtain ⟨y, hy⟩ : ∃ y, y = marks markT c n := ⟨_, rfl⟩
  rw [← hy] at hn ⊢
  refine held_loop markT y (fun k c i => laws_heldStringS.l0 k y c i) ?_ ?_ n 0 c (by omega) h0 (by omega) (by rw [List.drop_zero, hy])
  · intro i c' r hi he h0 h1 hk
    refine Ev.step (fun k => by rw [laws_heldStringS.l0]) ?_
    refine ev_pos (by omega) (ev_pos (by omega) (Ev.bind (markText_ev c' h0 (by omega)) (ev_pos ?_ ?_)))
    · have e : rdOf ByteArray.empty y (i : Int) = markT c' := by
        unfold rdOf
        rw [getD_get hi, he]
      rw [e]
    · rw [w64 (x := c' + 1) (by omega) (by omega), w64s (i := i) (n := n) (by omega) (by omega)]
      exact hk
  · intro c'
    refine Ev.step (fun k => by rw [laws_heldStringS.l0]) ?_
    exact ev_neg (by omega) (Ev.now _)
end Go.Proofs.YtlmpcichjmidmaaDoor.Pure
