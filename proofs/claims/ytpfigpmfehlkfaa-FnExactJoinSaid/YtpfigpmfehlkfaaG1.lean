/- Lists of texts as a row holds them: how large they are, copied. No program in sight. -/
import Derived.Test.YtpfigpmfehlkfaaK
import Derived.Test.YtpfigpmfehlkfaaK
import Derived.Test.YtpfigpmfehlkfaaPx0
import Derived.Test.YtpfigpmfehlkfaaPx1
import Derived.Test.YtpfigpmfehlkfaaK
namespace Go.Proofs.Ytpfigpmfehlkfaa.Pure
open Go.RowKit Go.Proofs.Ytpfigpmfehlkfaa.P Go.Proofs.YtpfigpmfehlkfaaW.PrintWords Go.Proofs.YtpfigpmfehlkfaaW.PrintLast Go.Proofs.Ytpfigpmfehlkfaa.K
set_option linter.unusedVariables false
set_option linter.unusedSimpArgs false
theorem strAt {l : List ByteArray} {i : Nat} (h : i < l.length) : rdOf ByteArray.empty l (i : Int) = l[i] := getD_get h
theorem toStringS_ev (l : List ByteArray) (hl : l.length ≤ 17592186044416) : Ev (fun k => laws_toStringS.f k l) l := by
  unfold laws_toStringS.f
  refine ev_pos (by omega) (ev_pos (by omega) ?_)
  refine copy_loop l (fun k y i => laws_toStringS.l0 k l y i) ?_ ?_ l.length 0 (List.replicate ((l.length : Int) : Int).toNat (⟨#[]⟩ : ByteArray)) (by omega) (by simp) (by simp)
  · intro i y r hi hy h
    refine Ev.step (fun k => ?_) h
    simp only [laws_toStringS.l0]
    rw [if_pos (by omega), if_pos (by omega), if_pos (by omega), strAt hi, w64s hi (by omega)]
    rfl
  · intro y hy
    refine Ev.step (fun k => ?_) (Ev.now y)
    simp only [laws_toStringS.l0]
    rw [if_neg (by omega)]
theorem szStringS_l (l : List ByteArray) (hl : l.length ≤ 140737488351232) (hs : ∀ x ∈ l, x.size ≤ 140737488351232) : ∀ (d i : Nat) (a : Int), i + d = l.length → 0 ≤ a → a ≤ 4611686018427387904 →
    ∃ r, Ev (fun k => laws_szStringS.l0 k l a (i : Int)) r ∧ (¬ r < 0 → ∀ x ∈ l.drop i, (x.size : Int) ≤ a) ∧ r ≤ a
  | 0, i, a, hd, h0, h1 => by
    refine ⟨a, Ev.step (fun k => by rw [laws_szStringS.l0]) (ev_neg (by omega) (Ev.now _)), fun _ x hx => ?_, by omega⟩
    rw [List.drop_of_length_le (by omega)] at hx
    cases hx
  | d + 1, i, a, hd, h0, h1 => by
    have hi : i < l.length := by omega
    have hz := hs _ (List.getElem_mem hi)
    by_cases q : a - (l[i].size : Int) < 0
    · refine ⟨-1, Ev.step (fun k => by rw [laws_szStringS.l0]) (ev_pos (by omega) (ev_pos (by omega) ?_)), fun h => absurd (by omega) h, by omega⟩
      rw [strAt hi, w64 (by omega) (by omega)]
      exact ev_pos q (Ev.now _)
    · obtain ⟨r, hr, hx, hle⟩ := szStringS_l l hl hs d (i + 1) (a - (l[i].size : Int)) (by omega) (by omega) (by omega)
      refine ⟨r, Ev.step (fun k => by rw [laws_szStringS.l0]) (ev_pos (by omega) (ev_pos (by omega) ?_)), fun h x hm => ?_, by omega⟩
      · rw [strAt hi, w64 (x := a - (l[i].size : Int)) (by omega) (by omega), w64s (i := i) (n := l.length) hi (by omega)]
        exact ev_neg q hr
      · rw [List.drop_eq_getElem_cons hi] at hm
        rcases List.mem_cons.1 hm with rfl | hm
        · omega
        · have := hx h x hm
          omega
theorem szStringS_ev (l : List ByteArray) (a : Int) (h0 : 0 ≤ a) (h1 : a ≤ 4611686018427387904) (hl : l.length ≤ 140737488351232) (hs : ∀ x ∈ l, x.size ≤ 140737488351232) :
    ∃ r, Ev (fun k => laws_szStringS.f k l a) r ∧ (¬ r < 0 → (l.length : Int) ≤ a ∧ ∀ x ∈ l, (x.size : Int) ≤ a) ∧ r ≤ a := by
  unfold laws_szStringS.f
  rw [w64 (x := a - (l.length : Int)) (by omega) (by omega)]
  by_cases q : a - (l.length : Int) < 0
  · exact ⟨-1, ev_pos q (Ev.now _), fun h => absurd (by omega) h, by omega⟩
  · obtain ⟨r, hr, hx, hle⟩ := szStringS_l l hl hs l.length 0 (a - (l.length : Int)) (by omega) (by omega) (by omega)
    refine ⟨r, ev_neg q hr, fun h => ⟨by omega, fun x hm => ?_⟩, by omega⟩
    have := hx h x (by simpa using hm)
    omega
end Go.Proofs.Ytpfigpmfehlkfaa.Pure
