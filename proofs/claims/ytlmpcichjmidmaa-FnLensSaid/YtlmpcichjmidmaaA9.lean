/- What the small functions of the laws and of the program come to: copies, comparisons, marks of bytes and numbers; joined; PutWord, GetWord, PutBytes, GetBytes, PutLen. No program in sight. -/
import Derived.Test.YtlmpcichjmidmaaK
import Derived.Test.YtlmpcichjmidmaaA3
import Derived.Test.YtlmpcichjmidmaaA4
import Derived.Test.YtlmpcichjmidmaaK
import Derived.Test.YtlmpcichjmidmaaPx0
import Derived.Test.YtlmpcichjmidmaaPx3
import Derived.Test.YtlmpcichjmidmaaPx6
namespace Go.Proofs.Ytlmpcichjmidmaa.Pure
open Go.RowKit Go.Proofs.Ytlmpcichjmidmaa.P Go.Proofs.YtlmpcichjmidmaaW.PrintWords Go.Proofs.YtlmpcichjmidmaaW.PrintLast Go.Proofs.Ytlmpcichjmidmaa.K
set_option linter.unusedVariables false
set_option linter.unusedSimpArgs false

/-- A length's bytes. -/
def lenBytes (n : Int) : List Int :=
  if n ≤ 127 then [n] else if n ≤ 16383 then [n % 128 + 128, n / 128] else if n ≤ 2097151 then [n % 128 + 128, n / 128 % 128 + 128, n / 16384]
  else [n % 128 + 128, n / 128 % 128 + 128, n / 16384 % 128 + 128, n / 2097152]
theorem lenBytes_length (n : Int) : 1 ≤ (lenBytes n).length ∧ (lenBytes n).length ≤ 4 := by
  unfold lenBytes
  split
  · simp
  split
  · simp
  split <;> simp
/-- A loop that lays a length's bytes. -/
theorem len_loop (L : Nat → Int → List Int → Option (List Int))
    (hi : ∀ (n : Int) (acc : List Int) (r : List Int), 127 < n → n ≤ 268435455 → acc.length < 140737488355328 → Ev (fun k => L k (n / 128) (acc ++ [n % 128 + 128])) r → Ev (fun k => L k n acc) r)
    (lo : ∀ (n : Int) (acc : List Int), 0 ≤ n → n ≤ 127 → acc.length < 140737488355328 → Ev (fun k => L k n acc) (acc ++ [n]))
    (n : Int) (acc : List Int) (h0 : 0 ≤ n) (h1 : n ≤ 268435455) (hl : acc.length < 140737488350000) : Ev (fun k => L k n acc) (acc ++ lenBytes n) := by
  unfold lenBytes
  by_cases a1 : n ≤ 127
  · rw [if_pos a1]
    exact lo n acc h0 a1 (by omega)
  rw [if_neg a1]
  refine hi n acc _ (by omega) h1 (by omega) ?_
  by_cases a2 : n ≤ 16383
  · rw [if_pos a2]
    exact ev_to (lo (n / 128) _ (by omega) (by omega) (by simp; omega)) (by simp)
  rw [if_neg a2]
  refine hi (n / 128) _ _ (by omega) (by omega) (by simp; omega) ?_
  have e2 : n / 128 / 128 = n / 16384 := by omega
  rw [e2]
  by_cases a3 : n ≤ 2097151
  · rw [if_pos a3]
    exact ev_to (lo (n / 16384) _ (by omega) (by omega) (by simp; omega)) (by simp)
  rw [if_neg a3]
  refine hi (n / 16384) _ _ (by omega) (by omega) (by simp; omega) ?_
  have e3 : n / 16384 / 128 = n / 2097152 := by omega
  rw [e3]
  exact ev_to (lo (n / 2097152) _ (by omega) (by omega) (by simp; omega)) (by simp)
def putLenP (b : List Int) (n : Int) : List Int := if 0 ≤ n ∧ n ≤ 268435455 then b ++ lenBytes n else b
theorem specPutLen_ev (b : List Int) (n : Int) (hb : b.length ≤ 1073741824) : Ev (fun k => spec_PutLen.f k b n) (putLenP b n) := by
  unfold spec_PutLen.f putLenP
  simp only [Option.bind_some, List.nil_append, List.length_nil]
  refine ev_pos (by omega) (ev_b (l1In_eq n 0 268435455) ?_)
  by_cases h : 0 ≤ n ∧ n ≤ 268435455
  · rw [if_pos h]
    refine ev_pos (by simpa using h) (len_loop (fun k n acc => spec_PutLen.l0 k n acc) ?_ ?_ n b h.1 h.2 (by omega))
    · intro n acc r h1 h2 hl k
      refine Ev.step (fun j => ?_) k
      simp only [spec_PutLen.l0]
      rw [if_pos (by omega), if_pos hl, Int.tdiv_eq_ediv_of_nonneg (by omega), Int.tmod_eq_emod_of_nonneg (by omega), w64 (x := n / 128) (by omega) (by omega), w64 (x := 128 + n % 128) (by omega) (by omega)]
      rw [show (128 + n % 128) % 256 = n % 128 + 128 by omega]
    · intro n acc h0 h1 hl
      refine Ev.step (fun j => ?_) (Ev.now _)
      simp only [spec_PutLen.l0]
      rw [if_neg (by omega), if_pos hl, show n % 256 = n by omega]
  · rw [if_neg h]
    exact ev_neg (by simpa using h) (Ev.now _)
theorem putLen_ev (b : List Int) (n : Int) (hb : b.length ≤ 1073741824) : Ev (fun k => impl_PutLen.f k b n) (putLenP b n) := by
  unfold impl_PutLen.f putLenP
  refine Ev.bind (joined1_ev b (by omega)) (ev_b (within_eq n 0 268435455) ?_)
  by_cases h : 0 ≤ n ∧ n ≤ 268435455
  · rw [if_pos h]
    refine ev_pos (by simpa using h) (len_loop (fun k n acc => impl_PutLen.l0 k n acc) ?_ ?_ n b h.1 h.2 (by omega))
    · intro n acc r h1 h2 hl k
      refine Ev.step (fun j => ?_) k
      simp only [impl_PutLen.l0]
      rw [if_pos (by omega), if_pos hl, Int.tdiv_eq_ediv_of_nonneg (by omega), Int.tmod_eq_emod_of_nonneg (by omega), w64 (x := n / 128) (by omega) (by omega), w64 (x := n % 128 + 128) (by omega) (by omega)]
      rw [show (n % 128 + 128) % 256 = n % 128 + 128 by omega]
    · intro n acc h0 h1 hl
      refine Ev.step (fun j => ?_) (Ev.now _)
      simp only [impl_PutLen.l0]
      rw [if_neg (by omega), if_pos hl, show n % 256 = n by omega]
  · rw [if_neg h]
    exact ev_neg (by simpa using h) (Ev.now _)
theorem lenSize_ev (n : Int) : Ev (fun k => impl_LenSize.f k n) ((putLenP [] n).length : Int) := by
  unfold impl_LenSize.f
  exact Ev.bind (putLen_ev [] n (by simp)) (Ev.now _)
end Go.Proofs.Ytlmpcichjmidmaa.Pure
