/- What is drawn of bytes: a place in them that never leaves them, numbers below a bound, bytes. No program in sight. -/
import Derived.Test.YtlmpcichjmidmaaK
import Derived.Test.YtlmpcichjmidmaaK
import Derived.Test.YtlmpcichjmidmaaPx0
import Derived.Test.YtlmpcichjmidmaaPx1
import Derived.Test.YtlmpcichjmidmaaPx2
import Derived.Test.YtlmpcichjmidmaaPx5
import Derived.Laws.BitsLemmas
namespace Go.Proofs.Ytlmpcichjmidmaa.Pure
open Go.RowKit Go.Proofs.Ytlmpcichjmidmaa.P Go.Proofs.YtlmpcichjmidmaaW.PrintWords Go.Proofs.YtlmpcichjmidmaaW.PrintLast Go.Proofs.YtlmpcichjmidmaaW.PrintMore Go.Proofs.Ytlmpcichjmidmaa.K
set_option linter.unusedVariables false
set_option linter.unusedSimpArgs false
theorem and255_any (x : Int) : 0 ≤ Go.bits .and .i64 x 255 ∧ Go.bits .and .i64 x 255 ≤ 255 := by
  have h : (BitVec.ofInt 64 x &&& BitVec.ofInt 64 255).toNat ≤ 255 := by
    rw [BitVec.toNat_and]
    exact Nat.le_trans Nat.and_le_right (by decide)
  show 0 ≤ IntKind.i64.wrap ((BitVec.ofInt 64 x &&& BitVec.ofInt 64 255).toNat : Int) ∧ IntKind.i64.wrap ((BitVec.ofInt 64 x &&& BitVec.ofInt 64 255).toNat : Int) ≤ 255
  rw [IntKind.wrap_i64]
  omega
/-- A place in the bytes. -/
def Pos (l : List Int) (a : Int) : Prop := 0 ≤ a ∧ a ≤ l.length ∧ l.length ≤ 1048576
theorem l1New_l (l : List Int) (hl : l.length ≤ 1048576) : ∀ (d i : Nat) (c : Int), i + d = l.length → ∃ z, Ev (fun k => spec_l1New.l0 k l c (i : Int)) (l, 0, z)
  | 0, i, c, hd => ⟨_, Ev.step (fun k => by rw [spec_l1New.l0]) (ev_neg (by omega) (Ev.now _))⟩
  | d + 1, i, c, hd => by
    by_cases h : (i : Int) < 4000
    · obtain ⟨z, hz⟩ := l1New_l l hl d (i + 1) (Go.bits .and .i64 (wrap64 ((wrap64 ((wrap64 (c * 137)) + (wrap64 (rd l (i : Int))))) + 11)) 1073741823) (by omega)
      refine ⟨z, Ev.step (fun k => by rw [spec_l1New.l0]) (ev_pos (by omega) (ev_pos h (ev_pos (by omega) ?_)))⟩
      rw [w64s (i := i) (n := l.length) (by omega) (by omega)]
      exact hz
    · exact ⟨_, Ev.step (fun k => by rw [spec_l1New.l0]) (ev_pos (by omega) (ev_neg h (Ev.now _)))⟩
theorem l1New_ev (l : List Int) (hl : l.length ≤ 1048576) : ∃ c, Ev (fun k => spec_l1New.f k l) (l, 0, c) := by
  unfold spec_l1New.f
  exact l1New_l l hl l.length 0 _ (by omega)
theorem l1Byte_eq (l : List Int) (a c : Int) (h : Pos l a) : ∃ v a' c', spec_l1Byte.f l a c = some (v, a', c') ∧ 0 ≤ v ∧ v ≤ 255 ∧ Pos l a' := by
  obtain ⟨h0, h1, h2⟩ := h
  unfold spec_l1Byte.f
  by_cases q : a < (l.length : Int)
  · rw [if_pos q, if_pos h0, w64 (x := a + 1) (by omega) (by omega)]
    exact ⟨_, _, _, rfl, (and255_any _).1, (and255_any _).2, by omega, by omega, h2⟩
  · rw [if_neg q]
    exact ⟨_, _, _, rfl, (and255_any _).1, (and255_any _).2, h0, h1, h2⟩
theorem l1Below_eq (l : List Int) (a c m : Int) (h : Pos l a) : ∃ v a' c', spec_l1Below.f l a c m = some (v, a', c') ∧ 0 ≤ v ∧ (0 < m → v < m) ∧ Pos l a' := by
  unfold spec_l1Below.f
  by_cases q : m ≤ 0
  · rw [if_pos q]
    exact ⟨_, _, _, rfl, by omega, by omega, h⟩
  rw [if_neg q]
  have hm : ∀ x : Int, 0 ≤ x → Int.tmod x m = x % m := fun x hx => Int.tmod_eq_emod_of_nonneg hx
  by_cases q2 : m ≤ 256
  · rw [if_pos q2]
    obtain ⟨v, a', c', e, h0, h1, hp⟩ := l1Byte_eq l a c h
    rw [e, Option.bind_some, if_neg (by omega), hm v h0]
    exact ⟨_, _, _, rfl, Int.emod_nonneg _ (by omega), fun _ => Int.emod_lt_of_pos _ (by omega), hp⟩
  · rw [if_neg q2]
    obtain ⟨v, a', c', e, h0, h1, hp⟩ := l1Byte_eq l a c h
    rw [e, Option.bind_some]
    obtain ⟨v2, a2, c2, e2, h02, h12, hp2⟩ := l1Byte_eq l a' c' hp
    rw [e2, Option.bind_some]
    obtain ⟨v3, a3, c3, e3, h03, h13, hp3⟩ := l1Byte_eq l a2 c2 hp2
    rw [e3, Option.bind_some, if_neg (by omega)]
    dsimp only
    rw [w64 (x := v * 65536) (by omega) (by omega), w64 (x := v2 * 256) (by omega) (by omega), w64 (x := v * 65536 + v2 * 256) (by omega) (by omega), w64 (by omega) (by omega), hm _ (by omega)]
    exact ⟨_, _, _, rfl, Int.emod_nonneg _ (by omega), fun _ => Int.emod_lt_of_pos _ (by omega), hp3⟩
theorem l1Once_eq (l : List Int) (a c m : Int) (h : Pos l a) : ∃ v a' c', spec_l1Once.f l a c m = some (v, a', c') ∧ Pos l a' := by
  unfold spec_l1Once.f
  obtain ⟨v, a', c', e, _, _, hp⟩ := l1Below_eq l a c m h
  rw [e, Option.bind_some]
  exact ⟨_, _, _, rfl, hp⟩
theorem l1Bytes_l (l : List Int) (n : Nat) (hn : n ≤ 1048576) : ∀ (d i : Nat) (acc : List Int) (a c : Int), i + d = n → Pos l a → acc.length = i → Bytes acc →
    ∃ r a' c', Ev (fun k => spec_l1Bytes.l0 k (n : Int) acc (i : Int) l a c) (r, a', c') ∧ r.length = n ∧ Bytes r ∧ Pos l a'
  | 0, i, acc, a, c, hd, hp, hl, hb => ⟨_, _, _, Ev.step (fun k => by rw [spec_l1Bytes.l0]) (ev_neg (by omega) (Ev.now _)), by omega, hb, hp⟩
  | d + 1, i, acc, a, c, hd, hp, hl, hb => by
    obtain ⟨v, a1, c1, e, h0, h1, hp1⟩ := l1Byte_eq l a c hp
    obtain ⟨r, a', c', hr, hrl, hrb, hp'⟩ := l1Bytes_l l n hn d (i + 1) (acc ++ [v % 256]) a1 c1 (by omega) hp1 (by simp [hl]) (by
      intro x hx
      rcases List.mem_append.1 hx with q | q
      · exact hb x q
      · obtain rfl := List.mem_singleton.1 q
        omega)
    refine ⟨r, a', c', ?_, hrl, hrb, hp'⟩
    refine Ev.step (fun k => by rw [spec_l1Bytes.l0]) ?_
    refine ev_pos (by omega) (ev_b e ?_)
    refine ev_pos (by omega) ?_
    rw [w64s (i := i) (n := n) (by omega) (by omega)]
    exact hr
theorem l1Bytes_ev (l : List Int) (a c n : Int) (h : Pos l a) (h0 : 0 ≤ n) (h1 : n ≤ 1048576) : ∃ r a' c', Ev (fun k => spec_l1Bytes.f k l a c n) (r, a', c') ∧ (r.length : Int) = n ∧ Bytes r ∧ Pos l a' := by
  obtain ⟨m, rfl⟩ := Int.eq_ofNat_of_zero_le h0
  unfold spec_l1Bytes.f
  obtain ⟨r, a', c', hr, hl, hb, hp⟩ := l1Bytes_l l m (by omega) m 0 [] a c (by omega) h rfl (fun x hx => by cases hx)
  exact ⟨r, a', c', hr, by omega, hb, hp⟩
theorem l1Int_eq (l : List Int) (a c : Int) (xs : List Int) (h : Pos l a) (hx : 0 < xs.length) : ∃ v a' c', spec_l1Int.f l a c xs = some (v, a', c') ∧ v ∈ xs ∧ Pos l a' := by
  unfold spec_l1Int.f
  obtain ⟨v, a', c', e, h0, h1, hp⟩ := l1Below_eq l a c (xs.length : Int) h
  have h2 := h1 (by omega)
  rw [e, Option.bind_some, if_pos h0, if_pos h2]
  refine ⟨_, _, _, rfl, ?_, hp⟩
  obtain ⟨m, rfl⟩ := Int.eq_ofNat_of_zero_le h0
  show rd xs (m : Int) ∈ xs
  rw [rd_get (by omega)]
  exact List.getElem_mem _
theorem l1Bend_eq (l : List Int) (a c : Int) (xs : List Int) (h : Pos l a) (hb : Bytes xs) (hx : xs.length ≤ 1048576) : ∃ r a' c', spec_l1Bend.f l a c xs = some (r, a', c') ∧ Bytes r ∧ r.length ≤ xs.length + 1 ∧ Pos l a' := by
  unfold spec_l1Bend.f
  rw [Option.bind_some, if_pos (by simp only [List.length_nil]; omega), List.nil_append, Option.bind_some]
  obtain ⟨v, a1, c1, e, h0, h1, hp⟩ := l1Below_eq l a c 8 h
  rw [e, Option.bind_some]
  dsimp only
  by_cases q0 : v = 0
  · rw [if_pos q0]
    by_cases p : (xs.length : Int) > 0
    · rw [if_pos p]
      obtain ⟨i, a2, c2, e2, hi0, hi1, hp2⟩ := l1Below_eq l a1 c1 (xs.length : Int) hp
      rw [e2, Option.bind_some, if_pos hi0, if_pos (hi1 p)]
      obtain ⟨j, a3, c3, e3, hj0, hj1, hp3⟩ := l1Below_eq l a2 c2 255 hp2
      rw [e3, Option.bind_some]
      refine ⟨_, _, _, rfl, ?_, by rw [List.length_set]; omega, hp3⟩
      intro x hxm
      rcases List.mem_or_eq_of_mem_set hxm with q | q
      · exact hb x q
      · subst q
        have hk : (BitVec.ofInt 8 (rd xs i) ^^^ BitVec.ofInt 8 ((wrap64 (1 + j)) % 256)).toNat < 256 := BitVec.isLt _
        show 0 ≤ IntKind.u8.wrap ((BitVec.ofInt 8 (rd xs i) ^^^ BitVec.ofInt 8 ((wrap64 (1 + j)) % 256)).toNat : Int) ∧ IntKind.u8.wrap ((BitVec.ofInt 8 (rd xs i) ^^^ BitVec.ofInt 8 ((wrap64 (1 + j)) % 256)).toNat : Int) ≤ 255
        rw [IntKind.wrap_u8]
        omega
    · rw [if_neg p]
      exact ⟨_, _, _, rfl, hb, by omega, hp⟩
  rw [if_neg q0]
  by_cases q1 : v = 1
  · rw [if_pos q1]
    by_cases p : (xs.length : Int) > 0
    · rw [if_pos p]
      obtain ⟨i, a2, c2, e2, hi0, hi1, hp2⟩ := l1Below_eq l a1 c1 (xs.length : Int) hp
      have := hi1 p
      rw [e2, Option.bind_some, if_pos hi0, if_pos (by omega)]
      exact ⟨_, _, _, rfl, fun x hxm => hb x (List.mem_of_mem_take hxm), by rw [List.length_take]; omega, hp2⟩
    · rw [if_neg p]
      exact ⟨_, _, _, rfl, hb, by omega, hp⟩
  rw [if_neg q1]
  by_cases q2 : v = 2
  · rw [if_pos q2]
    obtain ⟨j, a3, c3, e3, hj0, hj1, hp3⟩ := l1Byte_eq l a1 c1 hp
    rw [e3, Option.bind_some, if_pos (by omega)]
    refine ⟨_, _, _, rfl, ?_, by simp, hp3⟩
    intro x hxm
    rcases List.mem_append.1 hxm with q | q
    · exact hb x q
    · obtain rfl := List.mem_singleton.1 q
      show 0 ≤ j % 256 ∧ j % 256 ≤ 255
      omega
  · rw [if_neg q2]
    exact ⟨_, _, _, rfl, hb, by omega, hp⟩
theorem l2Num_eq (l : List Int) (a c : Int) (h : Pos l a) : ∃ v a' c', spec_l2Num.f l a c = some (v, a', c') ∧ -1 ≤ v ∧ v ≤ 268435456 ∧ Pos l a' := by
  unfold spec_l2Num.f
  obtain ⟨v, a', c', e, hv, hp⟩ := l1Int_eq l a c [0, 1, 127, 128, 129, 300, 16383, 16384, 2097151, 2097152, 268435455, 268435456, (-1), 5000] h (by decide)
  rw [e, Option.bind_some]
  refine ⟨_, _, _, rfl, ?_, ?_, hp⟩
  · simp only [List.mem_cons, List.not_mem_nil, or_false] at hv
    show -1 ≤ v
    omega
  · simp only [List.mem_cons, List.not_mem_nil, or_false] at hv
    show v ≤ 268435456
    omega
end Go.Proofs.Ytlmpcichjmidmaa.Pure
