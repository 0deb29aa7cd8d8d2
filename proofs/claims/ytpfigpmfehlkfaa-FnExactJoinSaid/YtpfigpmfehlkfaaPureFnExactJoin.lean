/- The law FnExactJoin answers true of all lists of texts. -/
import Derived.Test.YtpfigpmfehlkfaaK
import Derived.Test.YtpfigpmfehlkfaaC2
import Derived.Test.YtpfigpmfehlkfaaG1
import Derived.Test.YtpfigpmfehlkfaaK
import Derived.Test.YtpfigpmfehlkfaaPx0
import Derived.Test.YtpfigpmfehlkfaaPx1
import Derived.Test.YtpfigpmfehlkfaaPx2
import Derived.Test.YtpfigpmfehlkfaaRkFnExactJoin
import Derived.Test.YtpfigpmfehlkfaaX13
import Derived.Test.YtpfigpmfehlkfaaC2
import Derived.Test.YtpfigpmfehlkfaaG1
import Derived.Test.YtpfigpmfehlkfaaK
import Derived.Test.YtpfigpmfehlkfaaRkFnExactJoin
import Derived.Test.YtpfigpmfehlkfaaX13
import Derived.Test.YtpfigpmfehlkfaaRkFnExactJoin
import Derived.Lib.Join
import Derived.WideShapes
import Derived.Lib.Strings
namespace Go.Proofs.Ytpfigpmfehlkfaa.Pure
open Go.RowKit Go.Proofs.Ytpfigpmfehlkfaa.X Go.Proofs.Ytpfigpmfehlkfaa.P Go.Proofs.YtpfigpmfehlkfaaW.PrintWords Go.Proofs.YtpfigpmfehlkfaaW.PrintLast Go.Proofs.Ytpfigpmfehlkfaa.K
set_option linter.unusedVariables false
abbrev dj (x : ByteArray) : List UInt8 := x.data.toList
theorem dj_len (x : ByteArray) : (dj x).length = x.size := by rw [Array.length_toList]; rfl
theorem dj_app (x y : ByteArray) : dj (x ++ y) = dj x ++ dj y := by
  unfold dj
  rw [ByteArray.data_append, Array.toList_append]
/-- Behind the first. -/
theorem specJoin_l (l : List ByteArray) (hl : l.length ≤ 1048576) (hs : ∀ x ∈ l, x.size ≤ 1048576) : ∀ (d i : Nat) (s : ByteArray), i + d = l.length → 0 < i → s.size ≤ i * 1048577 →
    ∃ r : ByteArray, Ev (fun k => spec_Join.l0 k l s (i : Int)) r ∧ dj r = dj s ++ Lib.joinTail [47] ((l.drop i).map dj)
  | 0, i, s, hd, h0, hz => by
    refine ⟨s, Ev.step (fun k => by rw [spec_Join.l0]) (ev_neg (by omega) (Ev.now _)), ?_⟩
    rw [List.drop_of_length_le (by omega)]
    exact (List.append_nil _).symm
  | d + 1, i, s, hd, h0, hz => by
    have hi : i < l.length := by omega
    have hx := hs _ (List.getElem_mem hi)
    have hz2 : i * 1048577 ≤ 1048576 * 1048577 := Nat.mul_le_mul_right _ (by omega)
    have hsz : (s ++ (⟨#[47]⟩ : ByteArray)).size = s.size + 1 := ByteArray.size_append
    have hsz2 : ((s ++ (⟨#[47]⟩ : ByteArray)) ++ l[i]).size = s.size + 1 + l[i].size := by rw [ByteArray.size_append, hsz]
    obtain ⟨r, hr, he⟩ := specJoin_l l hl hs d (i + 1) ((s ++ (⟨#[47]⟩ : ByteArray)) ++ l[i]) (by omega) (by omega) (by rw [hsz2, Nat.succ_mul]; omega)
    refine ⟨r, Ev.step (fun k => by rw [spec_Join.l0]) (ev_pos (by omega) (ev_pos (by omega) (ev_pos (by omega) (ev_pos (by omega) ?_)))), ?_⟩
    · rw [strAt hi, w64s (i := i) (n := l.length) hi (by omega)]
      exact ev_pos (by rw [hsz]; omega) hr
    · rw [he, dj_app, dj_app, List.drop_eq_getElem_cons hi]
      show dj s ++ [47] ++ dj l[i] ++ _ = dj s ++ Lib.joinTail [47] (dj l[i] :: _)
      simp [Lib.joinTail]
theorem specJoin_ev (l : List ByteArray) (hl : l.length ≤ 1048576) (hs : ∀ x ∈ l, x.size ≤ 1048576) : Ev (fun k => spec_Join.f k l) ⟨(Lib.join (l.map dj) [47]).toArray⟩ := by
  unfold spec_Join.f
  cases l with
  | nil =>
    refine Ev.step (fun k => by rw [spec_Join.l0]) (ev_neg (by simp) (ev_some ?_))
    rfl
  | cons x t =>
    have hx := hs x List.mem_cons_self
    have hz : ((⟨#[]⟩ : ByteArray) ++ x).size = x.size := by rw [ByteArray.size_append]; exact Nat.zero_add _
    have hz0 : (⟨#[]⟩ : ByteArray).size = 0 := rfl
    have hl' : t.length + 1 ≤ 1048576 := hl
    obtain ⟨r, hr, he⟩ := specJoin_l (x :: t) hl hs t.length 1 ((⟨#[]⟩ : ByteArray) ++ x) (by simp; omega) (by omega) (by rw [hz]; omega)
    have e : r = ⟨(Lib.join ((x :: t).map dj) [47]).toArray⟩ := by
      refine Go.WideShapes.bytes_inj ?_
      have h1 : dj r = Lib.join ((x :: t).map dj) [47] := by
        rw [he, dj_app, List.map_cons, Lib.join_cons]
        simp [dj]
      rw [show r.data.toList = dj r from rfl, h1]
    rw [← e]
    have hi : 0 < (x :: t).length := by simp
    have e0 : rdOf ByteArray.empty (x :: t) 0 = x := strAt (i := 0) hi
    refine Ev.step (fun k => by rw [spec_Join.l0]) (ev_pos (by simp only [List.length_cons]; omega) (ev_neg (by omega) (ev_pos (by omega) ?_)))
    rw [e0]
    refine ev_pos (by rw [hz0]; omega) ?_
    have e1 : wrap64 ((0 : Int) + 1) = ((1 : Nat) : Int) := by rw [w64 (by omega) (by omega)]; rfl
    rw [e1]
    exact hr
theorem lens_le (m : Nat) : ∀ l : List (List UInt8), (∀ x ∈ l, x.length ≤ m) → Lib.lens l ≤ l.length * m
  | [], _ => by simp [Lib.lens]
  | x :: r, h => by
    have ih := lens_le m r (fun y hy => h y (List.mem_cons_of_mem _ hy))
    have hx := h x List.mem_cons_self
    have e : Lib.lens (x :: r) = x.length + Lib.lens r := by simp [Lib.lens]
    rw [e, List.length_cons, Nat.succ_mul]
    omega
theorem join_le (l : List ByteArray) (hl : l.length ≤ 1048576) (hs : ∀ x ∈ l, x.size ≤ 1048576) : (Lib.join (l.map dj) [47]).length ≤ 140737488355328 := by
  cases l with
  | nil => simp [Lib.join_nil]
  | cons x t =>
    have h1 := lens_le 1048576 ((x :: t).map dj) (fun y hy => by
      obtain ⟨z, hz, rfl⟩ := List.mem_map.1 hy
      rw [dj_len]
      exact hs z hz)
    rw [List.map_cons] at h1 ⊢
    rw [Lib.join_length]
    simp only [List.length_map, List.length_cons, List.length_nil] at h1 hl ⊢
    have h2 : (t.length + 1) * 1048576 ≤ 1048576 * 1048576 := Nat.mul_le_mul_right _ hl
    omega
theorem FnExactJoin : laws_FnExactJoin.Pure := by
  intro l hl
  refine Ev.rounds ?_
  unfold laws_FnExactJoin.f
  obtain ⟨r, hr, hq, _⟩ := szStringS_ev l 1048576 (by omega) (by omega) hl.1 hl.2
  refine Ev.bind hr (ev_ite (fun _ => Ev.now _) (fun hn => ?_))
  obtain ⟨hlen, hsz⟩ := hq hn
  have hL : ∀ x ∈ l, x.size ≤ 1048576 := fun x hx => by have := hsz x hx; omega
  have ht := toStringS_ev l (by omega)
  have hi : impl_Join.f l = some ⟨(Lib.join (l.map dj) [47]).toArray⟩ := by
    unfold impl_Join.f strings_Join.f
    have e1 : (⟨#[47]⟩ : ByteArray).data.toList = [47] := rfl
    rw [e1, if_pos ⟨by omega, join_le l (by omega) hL⟩]
    rfl
  refine Ev.bind ht (Ev.bind (specJoin_ev l (by omega) hL) (Ev.bind ht (ev_b hi (ev_pos rfl (Ev.bind ht (Ev.bind (eqStringS_ev l l (by omega) rfl) (ev_pos rfl (Ev.now _))))))))
end Go.Proofs.Ytpfigpmfehlkfaa.Pure
