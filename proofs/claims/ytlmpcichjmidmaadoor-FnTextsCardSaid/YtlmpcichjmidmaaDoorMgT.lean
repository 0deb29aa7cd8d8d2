/- Plain lemmas of several texts in one (a claim holds at most 60 files). -/
import Derived.Test.YtlmpcichjmidmaaDoorK
import Derived.Test.YtlmpcichjmidmaaDoorPx0
import Derived.Test.YtlmpcichjmidmaaDoorPx7
import Derived.Test.YtlmpcichjmidmaaDoorPx13
import Derived.Test.YtlmpcichjmidmaaDoorPx17
import Derived.Test.YtlmpcichjmidmaaDoorPx10
import Derived.Test.YtlmpcichjmidmaaDoorX9
import Derived.Test.YtlmpcichjmidmaaDoorPx1
import Derived.Test.YtlmpcichjmidmaaDoorPx2
import Derived.Lib.DecodeN
import Derived.Lib.TrimUEq
import Derived.Lib.ValidLaws
import Derived.Lib.RuneCount
import Derived.Lib.FieldsU
import Derived.Laws.BytesArg
import Derived.Test.YtlmpcichjmidmaaDoorPx5
import Derived.Test.YtlmpcichjmidmaaDoorX1
import Derived.Test.YtlmpcichjmidmaaDoorX2
import Derived.Test.YtlmpcichjmidmaaDoorPx3
import Derived.Test.YtlmpcichjmidmaaDoorX4
import Derived.Test.YtlmpcichjmidmaaDoorX5
import Derived.Test.YtlmpcichjmidmaaDoorX7
import Derived.Test.YtlmpcichjmidmaaDoorX8
import Derived.Test.YtlmpcichjmidmaaDoorPx11
import Derived.Test.YtlmpcichjmidmaaDoorPx12
import Derived.Laws.BitsLemmas
import Derived.Test.YtlmpcichjmidmaaDoorPx14
import Derived.Test.YtlmpcichjmidmaaDoorPx15
section
/- What the small functions of the laws and of the program come to: copies, comparisons, marks of bytes and numbers; joined; PutWord, GetWord, PutBytes, GetBytes, PutLen. No program in sight. -/
namespace Go.Proofs.YtlmpcichjmidmaaDoor.Pure
open Go.RowKit Go.Proofs.YtlmpcichjmidmaaDoor.P Go.Proofs.YtlmpcichjmidmaaDoorW.PrintWords Go.Proofs.YtlmpcichjmidmaaDoorW.PrintLast Go.Proofs.YtlmpcichjmidmaaDoor.K
set_option linter.unusedVariables false
set_option linter.unusedSimpArgs false

theorem joined_l (xs : List (List Int)) (hn : xs.length ≤ 4611686018427387904) : ∀ (d i : Nat) (acc : List Int), i + d = xs.length → acc.length + (xs.drop i).flatten.length < 140737488355328 → Ev (fun k => impl_joined.l0 k acc xs (xs.length : Int) (i : Int)) (acc ++ (xs.drop i).flatten)
  | 0, i, acc, hd, hl => by
    have hi : i = xs.length := by omega
    subst hi
    refine ev_to (Ev.step (fun k => ?_) (Ev.now acc)) (by simp)
    simp only [impl_joined.l0]
    rw [if_neg (by omega)]
  | d + 1, i, acc, hd, hl => by
    have hi : i < xs.length := by omega
    rw [List.drop_eq_getElem_cons hi, List.flatten_cons] at hl ⊢
    simp only [List.length_append] at hl
    have hr : rd_L1 xs (i : Int) = xs[i] := by unfold rd_L1; exact getD_get hi
    refine ev_to (Ev.step (fun k => ?_) (joined_l xs hn d (i + 1) (acc ++ xs[i]) (by omega) (by simp only [List.length_append]; omega))) (by simp)
    simp only [impl_joined.l0]
    rw [if_pos (by omega), if_pos (by omega), if_pos (by omega), hr, if_pos (by omega), w64s hi (by omega)]
theorem joined_ev (xs : List (List Int)) (hn : xs.length ≤ 4611686018427387904) (hl : xs.flatten.length < 140737488355328) : Ev (fun k => impl_joined.f k xs) xs.flatten := by
  unfold impl_joined.f
  have h := joined_l xs hn xs.length 0 [] (by omega) (by simpa using hl)
  simpa using h
theorem joined1_ev (a : List Int) (hl : a.length < 140737488355328) : Ev (fun k => impl_joined.f k [a]) a :=
  ev_to (joined_ev [a] (by simp) (by simpa using hl)) (by simp)
theorem joined2_ev (a b : List Int) (hl : a.length + b.length < 140737488355328) : Ev (fun k => impl_joined.f k [a, b]) (a ++ b) :=
  ev_to (joined_ev [a, b] (by simp) (by simpa using hl)) (by simp)
end Go.Proofs.YtlmpcichjmidmaaDoor.Pure
end
section
/- What the small functions of the laws and of the program come to: copies, comparisons, marks of bytes and numbers; joined; PutWord, GetWord, PutBytes, GetBytes, PutLen. No program in sight. -/
namespace Go.Proofs.YtlmpcichjmidmaaDoor.Pure
open Go.RowKit Go.Proofs.YtlmpcichjmidmaaDoor.P Go.Proofs.YtlmpcichjmidmaaDoorW.PrintWords Go.Proofs.YtlmpcichjmidmaaDoorW.PrintLast Go.Proofs.YtlmpcichjmidmaaDoor.K
set_option linter.unusedVariables false
set_option linter.unusedSimpArgs false

/-- A word's two bytes. -/
def word2 (n : Int) : List Int := [(Go.bits .and .i64 (n / 256) 255) % 256, (Go.bits .and .i64 n 255) % 256]
theorem word2_length (n : Int) : (word2 n).length = 2 := rfl
theorem specPutWord_eq (b : List Int) (n : Int) (hb : b.length ≤ 1073741824) : spec_PutWord.f b n = some (b ++ word2 n) := by
  unfold spec_PutWord.f
  simp only [Option.bind_some, List.nil_append, List.length_nil]
  rw [if_pos (by omega), if_pos (by simp; omega)]
  rfl
theorem putWord_ev (b : List Int) (n : Int) (hb : b.length ≤ 1073741824) : Ev (fun k => impl_PutWord.f k b n) (b ++ word2 n) := by
  unfold impl_PutWord.f
  exact Ev.bind (joined2_ev b (word2 n) (by rw [word2_length]; omega)) (Ev.now _)
end Go.Proofs.YtlmpcichjmidmaaDoor.Pure
end
section
/- What the small functions of the laws and of the program come to: copies, comparisons, marks of bytes and numbers; joined; PutWord, GetWord, PutBytes, GetBytes, PutLen. No program in sight. -/
namespace Go.Proofs.YtlmpcichjmidmaaDoor.Pure
open Go.RowKit Go.Proofs.YtlmpcichjmidmaaDoor.P Go.Proofs.YtlmpcichjmidmaaDoorW.PrintWords Go.Proofs.YtlmpcichjmidmaaDoorW.PrintLast Go.Proofs.YtlmpcichjmidmaaDoor.K
set_option linter.unusedVariables false
set_option linter.unusedSimpArgs false

def putBytesP (b x : List Int) : List Int := if x.length ≤ 60 then b ++ word2 (x.length : Int) ++ x else b
theorem specPutBytes_eq (b x : List Int) (hb : b.length ≤ 1073741824) : spec_PutBytes.f b x = some (putBytesP b x) := by
  unfold spec_PutBytes.f putBytesP
  by_cases h : x.length ≤ 60
  · rw [if_neg (by omega), if_pos h, specPutWord_eq b _ hb]
    simp only [Option.bind_some]
    rw [if_pos (by simp [word2_length]; omega)]
  · rw [if_pos (by omega), if_neg h]
    simp only [Option.bind_some, List.nil_append, List.length_nil]
    rw [if_pos (by omega)]
theorem putBytes_ev (b x : List Int) (hb : b.length ≤ 1073741824) : Ev (fun k => impl_PutBytes.f k b x) (putBytesP b x) := by
  unfold impl_PutBytes.f putBytesP
  by_cases h : x.length ≤ 60
  · rw [if_pos h]
    refine ev_neg (by omega) (Ev.bind (putWord_ev b _ hb) (Ev.bind (joined2_ev _ _ ?_) (Ev.now _)))
    simp [word2_length]; omega
  · rw [if_neg h]
    exact ev_pos (by omega) (Ev.bind (joined1_ev b (by omega)) (Ev.now _))
end Go.Proofs.YtlmpcichjmidmaaDoor.Pure
end
section
/- What the small functions of the laws and of the program come to: copies, comparisons, marks of bytes and numbers; joined; PutWord, GetWord, PutBytes, GetBytes, PutLen. No program in sight. -/
namespace Go.Proofs.YtlmpcichjmidmaaDoor.Pure
open Go.RowKit Go.Proofs.YtlmpcichjmidmaaDoor.P Go.Proofs.YtlmpcichjmidmaaDoorW.PrintWords Go.Proofs.YtlmpcichjmidmaaDoorW.PrintLast Go.Proofs.YtlmpcichjmidmaaDoor.K
set_option linter.unusedVariables false
set_option linter.unusedSimpArgs false

/-- What GetWord comes to. -/
def getWordP (l : List Int) (a : Int) : Int × Int × Bool := if 0 ≤ a ∧ a ≤ (l.length : Int) - 2 then (rd l a * 256 + rd l (a + 1), a + 2, true) else (0, 0, false)
theorem specGetWord_eq (l : List Int) (a : Int) (hb : Bytes l) (hl : l.length ≤ 35184372088832) : spec_GetWord.f l a = some (getWordP l a) := by
  unfold spec_GetWord.f getWordP
  by_cases h0 : a < 0
  · rw [if_pos h0, if_neg (by omega)]
  rw [if_neg h0, w64 (x := (l.length : Int) - 2) (by omega) (by omega)]
  by_cases h1 : a > (l.length : Int) - 2
  · rw [if_pos h1, if_neg (by omega)]
  have b1 := bytes_rd hb a
  have b2 := bytes_rd hb (a + 1)
  rw [if_neg h1, w64 (x := a + 1) (by omega) (by omega), if_pos (by omega), if_pos (by omega), if_pos (by omega), if_pos (by omega), if_pos (by omega)]
  rw [w64 (x := a + 2) (by omega) (by omega), w64 (x := rd l a) (by omega) (by omega), w64 (x := rd l (a + 1)) (by omega) (by omega), w64 (x := rd l a * 256) (by omega) (by omega), w64 (by omega) (by omega)]
theorem implGetWord_eq (l : List Int) (a : Int) (hb : Bytes l) (hl : l.length ≤ 35184372088832) : impl_GetWord.f l a = some (getWordP l a) := by
  unfold impl_GetWord.f getWordP
  by_cases h0 : a < 0
  · rw [if_pos h0, if_neg (by omega)]
  rw [if_neg h0, w64 (x := (l.length : Int) - 2) (by omega) (by omega)]
  by_cases h1 : a > (l.length : Int) - 2
  · rw [if_pos h1, if_neg (by omega)]
  have b1 := bytes_rd hb a
  have b2 := bytes_rd hb (a + 1)
  rw [if_neg h1, w64 (x := a + 1) (by omega) (by omega), if_pos (by omega), if_pos (by omega), if_pos (by omega), if_pos (by omega), if_pos (by omega)]
  rw [w64 (x := a + 2) (by omega) (by omega), w64 (x := rd l a) (by omega) (by omega), w64 (x := rd l (a + 1)) (by omega) (by omega), w64 (x := rd l a * 256) (by omega) (by omega)]
  rw [bits_join .i64 63 (by decide) wraps_i64 8 (rd l a * 256) (rd l (a + 1)) (by omega) (by omega) (by omega) (by omega) (by omega) (by omega)]
end Go.Proofs.YtlmpcichjmidmaaDoor.Pure
end
section
/- What the small functions of the laws and of the program come to: copies, comparisons, marks of bytes and numbers; joined; PutWord, GetWord, PutBytes, GetBytes, PutLen. No program in sight. -/
namespace Go.Proofs.YtlmpcichjmidmaaDoor.Pure
open Go.RowKit Go.Proofs.YtlmpcichjmidmaaDoor.P Go.Proofs.YtlmpcichjmidmaaDoorW.PrintWords Go.Proofs.YtlmpcichjmidmaaDoorW.PrintLast Go.Proofs.YtlmpcichjmidmaaDoor.K
set_option linter.unusedVariables false
set_option linter.unusedSimpArgs false

open Go.Proofs.YtlmpcichjmidmaaDoor.X
def getBytesP (l : List Int) (a : Int) : List Int × Int × Bool :=
  if (getWordP l a).2.2 = true ∧ (getWordP l a).1 ≤ 60 ∧ (getWordP l a).1 ≤ (l.length : Int) - (getWordP l a).2.1 then
    ((l.take ((getWordP l a).2.1 + (getWordP l a).1).toNat).drop ((getWordP l a).2.1).toNat, (getWordP l a).2.1 + (getWordP l a).1, true) else ([], 0, false)
theorem getWordP_bd (l : List Int) (a : Int) (hb : Bytes l) : 0 ≤ (getWordP l a).1 ∧ (getWordP l a).1 ≤ 65535 ∧ 0 ≤ (getWordP l a).2.1 ∧ ((getWordP l a).2.2 = true → (getWordP l a).2.1 ≤ l.length) := by
  unfold getWordP
  have b1 := bytes_rd hb a
  have b2 := bytes_rd hb (a + 1)
  split
  · refine ⟨?_, ?_, ?_, fun _ => ?_⟩ <;> simp only <;> omega
  · simp
theorem specGetBytes_eq (l : List Int) (a : Int) (hb : Bytes l) (hl : l.length ≤ 35184372088832) : spec_GetBytes.f l a = some (getBytesP l a) := by
  unfold spec_GetBytes.f getBytesP
  rw [specGetWord_eq l a hb hl]
  have hbd := getWordP_bd l a hb
  generalize getWordP l a = g at hbd ⊢
  obtain ⟨g1, g2, g3⟩ := g
  simp only at hbd ⊢
  simp only [Option.bind_some]
  cases g3 with
  | false => simp
  | true =>
    have h3 := hbd.2.2.2 rfl
    simp only [if_true, true_and]
    by_cases h1 : g1 > 60
    · rw [if_pos h1, if_neg (by omega)]
    rw [if_neg h1, w64 (x := (l.length : Int) - g2) (by omega) (by omega)]
    by_cases h2 : g1 > (l.length : Int) - g2
    · rw [if_pos h2, if_neg (by omega)]
    rw [if_neg h2, w64 (x := g2 + g1) (by omega) (by omega), if_pos (by omega), if_pos (by omega), if_pos (by omega), if_pos (by simp; omega), if_pos (by omega)]
    simp
theorem getBytes_ev (l : List Int) (a : Int) (hb : Bytes l) (hl : l.length ≤ 35184372088832) : Ev (fun k => impl_GetBytes.f k l a) (getBytesP l a) := by
  unfold impl_GetBytes.f getBytesP
  have hbd := getWordP_bd l a hb
  refine ev_b (implGetWord_eq l a hb hl) ?_
  generalize getWordP l a = g at hbd ⊢
  obtain ⟨g1, g2, g3⟩ := g
  simp only at hbd ⊢
  cases g3 with
  | false => exact Ev.now _
  | true =>
    have h3 := hbd.2.2.2 rfl
    simp only [if_true, true_and]
    by_cases h1 : g1 > 60
    · rw [if_neg (by omega)]
      exact ev_pos h1 (Ev.now _)
    refine ev_neg h1 ?_
    rw [w64 (x := (l.length : Int) - g2) (by omega) (by omega)]
    by_cases h2 : g1 > (l.length : Int) - g2
    · rw [if_neg (by omega)]
      exact ev_pos h2 (Ev.now _)
    rw [if_pos (by omega), w64 (x := g2 + g1) (by omega) (by omega)]
    refine ev_neg h2 (ev_pos (by omega) (ev_pos (by omega) (ev_pos (by omega) (Ev.bind (joined1_ev _ ?_) (Ev.now _)))))
    simp
    omega
end Go.Proofs.YtlmpcichjmidmaaDoor.Pure
end
section
/- What the small functions of the laws and of the program come to: copies, comparisons, marks of bytes and numbers; joined; PutWord, GetWord, PutBytes, GetBytes, PutLen. No program in sight. -/
namespace Go.Proofs.YtlmpcichjmidmaaDoor.Pure
open Go.RowKit Go.Proofs.YtlmpcichjmidmaaDoor.P Go.Proofs.YtlmpcichjmidmaaDoorW.PrintWords Go.Proofs.YtlmpcichjmidmaaDoorW.PrintLast Go.Proofs.YtlmpcichjmidmaaDoor.K
set_option linter.unusedVariables false
set_option linter.unusedSimpArgs false

theorem l1In_eq (a b c : Int) : spec_l1In.f a b c = some (decide (b ≤ a ∧ a ≤ c)) := by
  unfold spec_l1In.f
  by_cases h : a ≥ b
  · rw [if_pos h]; congr 1; simp; omega
  · rw [if_neg h]; congr 1; symm; simp; omega
end Go.Proofs.YtlmpcichjmidmaaDoor.Pure
end
section
/- The signs of bytes: what spec.RuneAt and impl.RuneAt, spec.CountRunes, TextOk of the program and of the reference come to, all in the words of the model's own decoder. No program in sight. -/
namespace Go.Proofs.YtlmpcichjmidmaaDoor.Pure
open Go.RowKit Go.Proofs.YtlmpcichjmidmaaDoor.X Go.Proofs.YtlmpcichjmidmaaDoor.P Go.Proofs.YtlmpcichjmidmaaDoorW.PrintWords Go.Proofs.YtlmpcichjmidmaaDoorW.PrintLast Go.Proofs.YtlmpcichjmidmaaDoor.K
set_option linter.unusedVariables false
set_option linter.unusedSimpArgs false
theorem i64_and31 {x : Int} (h0 : 0 ≤ x) (h1 : x < 9223372036854775808) : Go.bits .and .i64 x 31 = x % 32 :=
  bits_mask .i64 63 (by decide) wraps_i64 5 (by decide) x h0 h1
theorem i64_and15 {x : Int} (h0 : 0 ≤ x) (h1 : x < 9223372036854775808) : Go.bits .and .i64 x 15 = x % 16 :=
  bits_mask .i64 63 (by decide) wraps_i64 4 (by decide) x h0 h1
theorem i64_and7 {x : Int} (h0 : 0 ≤ x) (h1 : x < 9223372036854775808) : Go.bits .and .i64 x 7 = x % 8 :=
  bits_mask .i64 63 (by decide) wraps_i64 3 (by decide) x h0 h1
/-- The sign at a place, by the model's own decoder. -/
def dec (l : List Int) (a : Nat) : Nat × Nat := Lib.decodeN (l.length - a) (l.getD a 0).toNat (l.getD (a + 1) 0).toNat (l.getD (a + 2) 0).toNat (l.getD (a + 3) 0).toNat
def runeAtP (l : List Int) (a : Int) : Int × Int × Bool :=
  if 0 ≤ a ∧ a < l.length then (if (dec l a.toNat).1 = 65533 ∧ (dec l a.toNat).2 = 1 then (0, 0, false) else (((dec l a.toNat).1 : Int), a + ((dec l a.toNat).2 : Int), true)) else (0, 0, false)
theorem runeAt_end (l : List Int) (a x8 x9 v i : Int) (r : Int × Int × Bool) (h : x8 < i) (ha : -1 ≤ a) (ha1 : a ≤ 35184372088832) (h8 : 0 ≤ x8) (h81 : x8 ≤ 3)
    (hr : r = if v < x9 ∨ 1114111 < v ∨ (55296 ≤ v ∧ v ≤ 57343) then (0, 0, false) else (v, a + 1 + x8, true)) : Ev (fun k => spec_RuneAt.l0 k l a x8 x9 v i) r := by
  refine Ev.step (fun k => by rw [spec_RuneAt.l0]) ?_
  refine ev_neg (by omega) ?_
  by_cases h1 : v < x9
  · rw [if_pos (.inl h1)] at hr
    exact ev_pos h1 (ev_some hr.symm)
  refine ev_neg h1 ?_
  by_cases h2 : v > 1114111
  · rw [if_pos (.inr (.inl h2))] at hr
    exact ev_pos h2 (ev_some hr.symm)
  refine ev_neg h2 (ev_b (l1In_eq v 55296 57343) ?_)
  by_cases h3 : 55296 ≤ v ∧ v ≤ 57343
  · rw [if_pos (.inr (.inr h3))] at hr
    exact ev_pos (by simpa using h3) (ev_some hr.symm)
  · rw [if_neg (by omega)] at hr
    refine ev_neg (by simpa using h3) (ev_some ?_)
    rw [hr, w64 (x := a + 1) (by omega) (by omega), w64 (by omega) (by omega)]
theorem runeAt_more (l : List Int) (a x8 x9 v i : Int) (r : Int × Int × Bool) (hb : Bytes l) (h : i ≤ x8) (ha : 0 ≤ a) (h0 : 1 ≤ i) (h8 : x8 ≤ 3) (hlt : a + i < l.length) (hl : l.length ≤ 35184372088832) (hv : 0 ≤ v) (hv1 : v ≤ 1073741824)
    (hbad : rd l (a + i) / 64 ≠ 2 → r = (0, 0, false)) (hok : rd l (a + i) / 64 = 2 → Ev (fun k => spec_RuneAt.l0 k l a x8 x9 (v * 64 + rd l (a + i) % 64) (i + 1)) r) : Ev (fun k => spec_RuneAt.l0 k l a x8 x9 v i) r := by
  have hy := bytes_rd hb (a + i)
  refine Ev.step (fun k => by rw [spec_RuneAt.l0]) ?_
  rw [w64 (x := a + i) (by omega) (by omega), w64 (x := rd l (a + i)) (by omega) (by omega)]
  refine ev_pos h (ev_pos (by omega) (ev_pos hlt ?_))
  by_cases h1 : rd l (a + i) < 128
  · exact ev_pos h1 (ev_some (hbad (by omega)).symm)
  refine ev_neg h1 ?_
  by_cases h2 : rd l (a + i) > 191
  · exact ev_pos h2 (ev_some (hbad (by omega)).symm)
  refine ev_neg h2 ?_
  rw [w64 (x := v * 64) (by omega) (by omega), w64 (x := v * 64 + rd l (a + i)) (by omega) (by omega), w64 (x := v * 64 + rd l (a + i) - 128) (by omega) (by omega), w64 (x := i + 1) (by omega) (by omega)]
  have e : v * 64 + rd l (a + i) - 128 = v * 64 + rd l (a + i) % 64 := by omega
  rw [e]
  exact hok (by omega)
/-- A number of the list and its Nat. -/
theorem rd_nat {l : List Int} (hb : Bytes l) (a : Int) (ha : 0 ≤ a) (j : Nat) : rd l (a + (j : Int)) = ((l.getD (a.toNat + j) 0).toNat : Int) ∧ (l.getD (a.toNat + j) 0).toNat ≤ 255 := by
  have h := bytes_rd hb (a + (j : Int))
  have e : (a + (j : Int)).toNat = a.toNat + j := by omega
  unfold rd at h ⊢
  rw [e] at h ⊢
  omega
set_option maxHeartbeats 1000000 in
theorem specRuneAt_ev (l : List Int) (a : Int) (hb : Bytes l) (hl : l.length ≤ 35184372088832) : Ev (fun k => spec_RuneAt.f k l a) (runeAtP l a) := by
  unfold spec_RuneAt.f runeAtP
  by_cases h0 : a < 0
  · rw [if_neg (by omega)]
    refine ev_pos h0 (Ev.step (fun k => by rw [spec_RuneAt.j0]) (ev_pos rfl (Ev.now _)))
  refine ev_neg h0 (Ev.step (fun k => by rw [spec_RuneAt.j0]) ?_)
  by_cases h1 : a ≥ (l.length : Int)
  · rw [if_neg (by omega)]
    exact ev_pos (by simpa using h1) (Ev.now _)
  rw [if_pos (by omega)]
  have d0 := rd_nat hb a (by omega) 0
  have d1 := rd_nat hb a (by omega) 1
  have d2 := rd_nat hb a (by omega) 2
  have d3 := rd_nat hb a (by omega) 3
  unfold dec
  simp only [Nat.add_zero, Int.natCast_zero, Int.add_zero] at d0
  generalize hg0 : (l.getD a.toNat 0).toNat = b0 at d0 ⊢
  generalize hg1 : (l.getD (a.toNat + 1) 0).toNat = b1 at d1 ⊢
  generalize hg2 : (l.getD (a.toNat + 2) 0).toNat = b2 at d2 ⊢
  generalize hg3 : (l.getD (a.toNat + 3) 0).toNat = b3 at d3 ⊢
  clear hg0 hg1 hg2 hg3
  generalize hn : l.length - a.toNat = n
  have e0 : wrap64 (rd l a) = rd l a := w64 (by omega) (by omega)
  rw [e0, d0.1]
  refine ev_neg (by simp; omega) (ev_pos (by omega) (ev_pos (by omega) ?_))
  by_cases c0 : b0 < 128
  · refine ev_pos (by omega) (ev_some ?_)
    rw [w64 (x := a + 1) (by omega) (by omega)]
    unfold Lib.decodeN
    rw [if_pos c0]
    rw [if_neg (by simp only; omega)]
    rfl
  refine ev_neg (by omega) ?_
  obtain ⟨R, hR⟩ : ∃ R : Int × Int × Bool, R = if (Lib.decodeN n b0 b1 b2 b3).1 = 65533 ∧ (Lib.decodeN n b0 b1 b2 b3).2 = 1 then (0, 0, false) else (((Lib.decodeN n b0 b1 b2 b3).1 : Int), a + ((Lib.decodeN n b0 b1 b2 b3).2 : Int), true) := ⟨_, rfl⟩
  rw [← hR]
  have bad : Lib.decodeN n b0 b1 b2 b3 = (65533, 1) → R = (0, 0, false) := fun h => by rw [hR, h]; rfl
  have good : ∀ c k, k ≠ 1 → Lib.decodeN n b0 b1 b2 b3 = (c, k) → R = ((c : Int), a + (k : Int), true) := fun c k hk h => by
    rw [hR, h, if_neg (fun q => hk q.2)]
  clear hR
  have hc0 : b0 ≤ 255 := by omega
  have nA : ∀ h : b0 < 192 ∨ 248 ≤ b0, Lib.decodeN n b0 b1 b2 b3 = (65533, 1) := fun h => by
    unfold Lib.decodeN
    rw [if_neg (by omega), if_neg (by omega), if_neg (by omega), if_neg (by omega)]
  by_cases c1 : b0 < 192
  · refine ev_neg (by omega) (Ev.step (fun k => by rw [spec_RuneAt.j1]) (ev_neg (by simp) (ev_neg (by omega) ?_)))
    exact Ev.step (fun k => by rw [spec_RuneAt.j2]) (ev_neg (by simp) (ev_neg (by omega) (ev_some (bad (nA (.inl c1))).symm)))
  refine ev_pos (by omega) (Ev.step (fun k => by rw [spec_RuneAt.j1]) ?_)
  have el : wrap64 ((l.length : Int) - 1) = (l.length : Int) - 1 := w64 (by omega) (by omega)
  by_cases c2 : b0 < 224
  · refine ev_pos (by simp; omega) (Ev.step (fun k => by rw [spec_RuneAt.j3]) ?_)
    rw [el, w64 (x := (l.length : Int) - 1 - 1) (by omega) (by omega), i64_and31 (by omega) (by omega)]
    by_cases n1 : 1 < n
    · refine ev_neg (by omega) (runeAt_more l a 1 128 _ 1 R hb (by omega) (by omega) (by omega) (by omega) (by omega) hl (by omega) (by omega) (fun h => bad ?_) (fun h => ?_))
      · have := d1.1
        simp only [Int.natCast_one] at this
        unfold Lib.decodeN
        rw [if_neg (by omega), if_neg (by omega), if_neg (by omega), if_neg (by omega)]
      · have h1 := d1.1
        simp only [Int.natCast_one] at h1
        rw [h1]
        rw [h1] at h
        refine runeAt_end l a 1 128 _ _ R (by omega) (by omega) (by omega) (by omega) (by omega) ?_
        by_cases q : b0 % 32 * 64 + b1 % 64 ≥ 128
        · rw [if_neg (by omega), good (b0 % 32 * 64 + b1 % 64) 2 (by omega) (by unfold Lib.decodeN; rw [if_neg (by omega), if_pos (by omega), if_pos q])]
          simp only [Prod.mk.injEq, and_true]
          omega
        · rw [if_pos (by omega), bad (by unfold Lib.decodeN; rw [if_neg (by omega), if_pos (by omega), if_neg q])]
    · refine ev_pos (by omega) (ev_some (bad ?_).symm)
      unfold Lib.decodeN
      rw [if_neg (by omega), if_neg (by omega), if_neg (by omega), if_neg (by omega)]
  refine ev_neg (by simp; omega) (ev_pos (by omega) (Ev.step (fun k => by rw [spec_RuneAt.j2]) ?_))
  by_cases c3 : b0 < 240
  · refine ev_pos (by simp; omega) (Ev.step (fun k => by rw [spec_RuneAt.j3]) ?_)
    rw [el, w64 (x := (l.length : Int) - 1 - 2) (by omega) (by omega), i64_and15 (by omega) (by omega)]
    by_cases n2 : 2 < n
    · refine ev_neg (by omega) (runeAt_more l a 2 2048 _ 1 R hb (by omega) (by omega) (by omega) (by omega) (by omega) hl (by omega) (by omega) (fun h => bad ?_) (fun h => ?_))
      · have := d1.1
        simp only [Int.natCast_one] at this
        unfold Lib.decodeN
        rw [if_neg (by omega), if_neg (by omega), if_neg (by omega), if_neg (by omega)]
      · have h1 := d1.1
        simp only [Int.natCast_one] at h1
        rw [h1]
        rw [h1] at h
        have h2 := d2.1
        have e2 : ((2 : Nat) : Int) = 1 + 1 := rfl
        rw [e2] at h2
        refine runeAt_more l a 2 2048 _ (1 + 1) R hb (by omega) (by omega) (by omega) (by omega) (by omega) hl (by omega) (by omega) (fun g => bad ?_) (fun g => ?_)
        · unfold Lib.decodeN
          rw [if_neg (by omega), if_neg (by omega), if_neg (by omega), if_neg (by omega)]
        · rw [h2]
          rw [h2] at g
          refine runeAt_end l a 2 2048 _ _ R (by omega) (by omega) (by omega) (by omega) (by omega) ?_
          have ec : ((b0 : Int) % 16 * 64 + (b1 : Int) % 64) * 64 + (b2 : Int) % 64 = ((b0 % 16 * 4096 + b1 % 64 * 64 + b2 % 64 : Nat) : Int) := by omega
          rw [ec]
          generalize hc : b0 % 16 * 4096 + b1 % 64 * 64 + b2 % 64 = c
          by_cases q : c ≥ 2048 ∧ (c < 55296 ∨ (57344 ≤ c ∧ c ≤ 1114111))
          · rw [if_neg (by omega), good c 3 (by omega) (by unfold Lib.decodeN; rw [if_neg (by omega), if_neg (by omega), if_pos (by omega), hc, if_pos q])]
            simp only [Prod.mk.injEq, and_true, true_and]
            omega
          · rw [if_pos (by omega), bad (by unfold Lib.decodeN; rw [if_neg (by omega), if_neg (by omega), if_pos (by omega), hc, if_neg q])]
    · refine ev_pos (by omega) (ev_some (bad ?_).symm)
      unfold Lib.decodeN
      rw [if_neg (by omega), if_neg (by omega), if_neg (by omega), if_neg (by omega)]
  refine ev_neg (by simp; omega) (ev_pos (by omega) ?_)
  by_cases c4 : b0 < 248
  · refine ev_pos (by omega) (Ev.step (fun k => by rw [spec_RuneAt.j3]) ?_)
    rw [el, w64 (x := (l.length : Int) - 1 - 3) (by omega) (by omega), i64_and7 (by omega) (by omega)]
    by_cases n3 : 3 < n
    · refine ev_neg (by omega) (runeAt_more l a 3 65536 _ 1 R hb (by omega) (by omega) (by omega) (by omega) (by omega) hl (by omega) (by omega) (fun h => bad ?_) (fun h => ?_))
      · have := d1.1
        simp only [Int.natCast_one] at this
        unfold Lib.decodeN
        rw [if_neg (by omega), if_neg (by omega), if_neg (by omega), if_neg (by omega)]
      · have h1 := d1.1
        simp only [Int.natCast_one] at h1
        rw [h1]
        rw [h1] at h
        have h2 := d2.1
        have e2 : ((2 : Nat) : Int) = 1 + 1 := rfl
        rw [e2] at h2
        refine runeAt_more l a 3 65536 _ (1 + 1) R hb (by omega) (by omega) (by omega) (by omega) (by omega) hl (by omega) (by omega) (fun g => bad ?_) (fun g => ?_)
        · unfold Lib.decodeN
          rw [if_neg (by omega), if_neg (by omega), if_neg (by omega), if_neg (by omega)]
        · rw [h2]
          rw [h2] at g
          have h3 := d3.1
          have e3 : ((3 : Nat) : Int) = 1 + 1 + 1 := rfl
          rw [e3] at h3
          refine runeAt_more l a 3 65536 _ (1 + 1 + 1) R hb (by omega) (by omega) (by omega) (by omega) (by omega) hl (by omega) (by omega) (fun f => bad ?_) (fun f => ?_)
          · unfold Lib.decodeN
            rw [if_neg (by omega), if_neg (by omega), if_neg (by omega), if_neg (by omega)]
          · rw [h3]
            rw [h3] at f
            refine runeAt_end l a 3 65536 _ _ R (by omega) (by omega) (by omega) (by omega) (by omega) ?_
            have ec : (((b0 : Int) % 8 * 64 + (b1 : Int) % 64) * 64 + (b2 : Int) % 64) * 64 + (b3 : Int) % 64 = ((b0 % 8 * 262144 + b1 % 64 * 4096 + b2 % 64 * 64 + b3 % 64 : Nat) : Int) := by omega
            rw [ec]
            generalize hc : b0 % 8 * 262144 + b1 % 64 * 4096 + b2 % 64 * 64 + b3 % 64 = c
            by_cases q : c ≥ 65536 ∧ (c < 55296 ∨ (57344 ≤ c ∧ c ≤ 1114111))
            · rw [if_neg (by omega), good c 4 (by omega) (by unfold Lib.decodeN; rw [if_neg (by omega), if_neg (by omega), if_neg (by omega), if_pos (by omega), hc, if_pos q])]
              simp only [Prod.mk.injEq, and_true, true_and]
              omega
            · rw [if_pos (by omega), bad (by unfold Lib.decodeN; rw [if_neg (by omega), if_neg (by omega), if_neg (by omega), if_pos (by omega), hc, if_neg q])]
    · refine ev_pos (by omega) (ev_some (bad ?_).symm)
      unfold Lib.decodeN
      rw [if_neg (by omega), if_neg (by omega), if_neg (by omega), if_neg (by omega)]
  · exact ev_neg (by omega) (ev_some (bad (nA (.inr (by omega)))).symm)
end Go.Proofs.YtlmpcichjmidmaaDoor.Pure
end
section
/- The signs of bytes: what spec.RuneAt and impl.RuneAt, spec.CountRunes, TextOk of the program and of the reference come to, all in the words of the model's own decoder. No program in sight. -/
namespace Go.Proofs.YtlmpcichjmidmaaDoor.Pure
open Go.RowKit Go.Proofs.YtlmpcichjmidmaaDoor.X Go.Proofs.YtlmpcichjmidmaaDoor.P Go.Proofs.YtlmpcichjmidmaaDoorW.PrintWords Go.Proofs.YtlmpcichjmidmaaDoorW.PrintLast Go.Proofs.YtlmpcichjmidmaaDoor.K
set_option linter.unusedVariables false
set_option linter.unusedSimpArgs false
theorem dec_ge1 (l : List Int) (a : Nat) : 1 ≤ (dec l a).2 := Lib.decodeN_ge1 _ _ _ _ _
theorem dec_rune (l : List Int) (a : Nat) (hb : Bytes l) : (dec l a).1 ≤ 1114111 := by
  have h := rd_nat hb (a : Int) (by omega) 0
  simp only [Int.toNat_natCast, Nat.add_zero] at h
  exact Lib.decodeN_rune_le _ _ _ _ _ (by omega)
theorem dec_width (l : List Int) (a : Nat) (h : a < l.length) : (dec l a).2 ≤ l.length - a := Lib.decodeN_le_n' _ _ _ _ _ (by omega)
theorem areBytes_of {l : List Int} (hb : Bytes l) : areBytes l = true := List.all_eq_true.2 fun x hx => decide_eq_true (hb x hx)
theorem bytes_drop {l : List Int} (hb : Bytes l) (n : Nat) : Bytes (l.drop n) := fun x hx => hb x (List.mem_of_mem_drop hx)
theorem bytes_take {l : List Int} (hb : Bytes l) (n : Nat) : Bytes (l.take n) := fun x hx => hb x (List.mem_of_mem_take hx)
theorem baOf_getD {l : List Int} (hb : Bytes l) (j : Nat) : ((baOf l).data.toList.getD j 0).toNat = (l.getD j 0).toNat := by
  unfold baOf
  simp only [List.getD_eq_getElem?_getD, List.getElem?_map]
  by_cases h : j < l.length
  · rw [List.getElem?_eq_getElem h]
    have := hb l[j] (List.getElem_mem h)
    simp only [Option.map_some, Option.getD_some]
    simp
    omega
  · rw [List.getElem?_eq_none (by omega)]
    simp
theorem decodeGo_eq (l : List Int) (a : Nat) (hb : Bytes l) (h : a < l.length) : Lib.decodeGo (baOf (l.drop a)) = dec l a := by
  have hs : (baOf (l.drop a)).size = l.length - a := by rw [baOf_size, List.length_drop]
  unfold Lib.decodeGo
  rw [if_neg (by omega), Lib.decode_N]
  have hl : (baOf (l.drop a)).data.toList.length = l.length - a := by rw [Array.length_toList]; exact hs
  rw [hl, baOf_getD (bytes_drop hb a), baOf_getD (bytes_drop hb a), baOf_getD (bytes_drop hb a), baOf_getD (bytes_drop hb a)]
  unfold dec
  have g : ∀ j, (l.drop a).getD j 0 = l.getD (a + j) 0 := fun j => by simp [List.getD_eq_getElem?_getD, List.getElem?_drop]
  rw [g, g, g, g]
  rfl
theorem implRuneAt_ev (l : List Int) (a : Int) (hb : Bytes l) (hl : l.length ≤ 35184372088832) : Ev (fun k => impl_RuneAt.f k l a) (runeAtP l a) := by
  unfold impl_RuneAt.f runeAtP
  by_cases h0 : a < 0
  · rw [if_neg (show ¬ (0 ≤ a ∧ a < (l.length : Int)) by omega)]
    exact ev_pos h0 (Ev.step (fun k => by rw [impl_RuneAt.j0]) (ev_pos rfl (Ev.now _)))
  refine ev_neg h0 (Ev.step (fun k => by rw [impl_RuneAt.j0]) ?_)
  by_cases h1 : a ≥ (l.length : Int)
  · rw [if_neg (show ¬ (0 ≤ a ∧ a < (l.length : Int)) by omega)]
    exact ev_pos (by simpa using h1) (Ev.now _)
  rw [if_pos (show 0 ≤ a ∧ a < (l.length : Int) by omega)]
  refine ev_neg (by simp; omega) (ev_pos (by omega) (ev_pos (by omega) ?_))
  have hd := decodeGo_eq l a.toNat hb (by omega)
  have g1 := dec_ge1 l a.toNat
  have g2 := dec_rune l a.toNat hb
  have g3 := dec_width l a.toNat (by omega)
  refine ev_b (a := (((dec l a.toNat).1 : Int), ((dec l a.toNat).2 : Int))) (by unfold utf8_DecodeRune.f; rw [if_pos (areBytes_of (bytes_drop hb _)), hd]) ?_
  generalize dec l a.toNat = d at g1 g2 g3
  obtain ⟨R, hR⟩ : ∃ R : Int × Int × Bool, R = if d.1 = 65533 ∧ d.2 = 1 then (0, 0, false) else ((d.1 : Int), a + (d.2 : Int), true) := ⟨_, rfl⟩
  rw [← hR]
  have e3 : wrap64 (d.1 : Int) = (d.1 : Int) := w64 (by omega) (by omega)
  have e4 : wrap64 (a + (d.2 : Int)) = a + (d.2 : Int) := w64 (by omega) (by omega)
  dsimp only
  rw [e3, e4]
  by_cases e : d.1 = 65533
  · refine ev_pos (by omega) ?_
    by_cases e2 : d.2 = 1
    · rw [if_pos ⟨e, e2⟩] at hR
      exact ev_pos (by omega) (ev_some hR.symm)
    · rw [if_neg (fun q => e2 q.2)] at hR
      exact ev_neg (by omega) (ev_some hR.symm)
  · rw [if_neg (fun q => e q.1)] at hR
    exact ev_neg (by omega) (ev_some hR.symm)
end Go.Proofs.YtlmpcichjmidmaaDoor.Pure
end
section
/- The signs of bytes: what spec.RuneAt and impl.RuneAt, spec.CountRunes, TextOk of the program and of the reference come to, all in the words of the model's own decoder. No program in sight. -/
namespace Go.Proofs.YtlmpcichjmidmaaDoor.Pure
open Go.RowKit Go.Proofs.YtlmpcichjmidmaaDoor.X Go.Proofs.YtlmpcichjmidmaaDoor.P Go.Proofs.YtlmpcichjmidmaaDoorW.PrintWords Go.Proofs.YtlmpcichjmidmaaDoorW.PrintLast Go.Proofs.YtlmpcichjmidmaaDoor.K
set_option linter.unusedVariables false
set_option linter.unusedSimpArgs false
theorem bytesOf_bytes (s : ByteArray) : Bytes (bytesOf s) := by
  intro x hx
  unfold bytesOf at hx
  obtain ⟨b, _, rfl⟩ := List.mem_map.1 hx
  have := b.toNat_lt
  omega
theorem bytesOf_at (s : ByteArray) (j : Nat) : ((bytesOf s).getD j 0).toNat = (s.data.toList.getD j 0).toNat := by
  unfold bytesOf
  simp only [List.getD_eq_getElem?_getD, List.getElem?_map]
  cases s.data.toList[j]? <;> simp
theorem dec_bytesOf (s : ByteArray) (pos : Nat) : dec (bytesOf s) pos = Utf8.decode s pos := by
  rw [Lib.decode_N]
  unfold dec
  rw [bytesOf_at, bytesOf_at, bytesOf_at, bytesOf_at]
  have : (bytesOf s).length = s.data.toList.length := by unfold bytesOf; rw [List.length_map]
  rw [this]
/-- From pos on all is valid. -/
def validFrom (s : ByteArray) (pos : Nat) : Bool := Lib.validD (s.data.toList.drop pos)
theorem len_data (s : ByteArray) : s.data.toList.length = s.size := by rw [Array.length_toList]; rfl
theorem validFrom_end (s : ByteArray) (pos : Nat) (h : ¬ pos < s.size) : validFrom s pos = true := by
  unfold validFrom
  rw [List.drop_of_length_le (by rw [len_data]; omega)]
  rfl
theorem validFrom_step (s : ByteArray) (pos : Nat) (h : pos < s.size) : validFrom s pos = if (Utf8.decode s pos).1 = 65533 ∧ (Utf8.decode s pos).2 = 1 then false else validFrom s (pos + (Utf8.decode s pos).2) := by
  unfold validFrom
  have hne : s.data.toList.drop pos ≠ [] := by
    intro e
    have := congrArg List.length e
    rw [List.length_drop, len_data] at this
    simp at this
    omega
  rw [Lib.validD_step _ hne, Lib.decodeL_drop, List.drop_drop]
theorem count_l (s : ByteArray) (hs : s.size ≤ 1048576) : ∀ (b pos n : Nat), s.size ≤ pos + b → pos ≤ s.size + 4 → n ≤ pos →
    Ev (fun k => spec_CountRunes.l0 k (bytesOf s) (n : Int) (pos : Int)) (cond (noZero s b pos && validFrom s pos) ((n + Lib.runeCountFrom s b pos : Nat) : Int) (-1))
  | 0, pos, n, hb, hp, hn => by
    have hpos : ¬ pos < s.size := by omega
    rw [validFrom_end s pos hpos]
    refine ev_to (Ev.step (fun k => ?_) (Ev.now (n : Int))) (by simp [noZero, Lib.runeCountFrom])
    simp only [spec_CountRunes.l0]
    rw [bytesOf_length, if_neg (by omega)]
  | b + 1, pos, n, hb, hp, hn => by
    by_cases hpos : pos < s.size
    · have hl := bytesOf_length s
      have hr := specRuneAt_ev (bytesOf s) (pos : Int) (bytesOf_bytes s) (by omega)
      refine Ev.step (f := fun k => (spec_RuneAt.f k (bytesOf s) (pos : Int)).bind fun t => (if t.2.2 = true then (if t.1 = 0 then some (-1) else spec_CountRunes.l0 k (bytesOf s) (wrap64 ((n : Int) + 1)) t.2.1) else some (-1))) (fun k => ?_) (Ev.bind hr ?_)
      · simp only [spec_CountRunes.l0]
        rw [if_pos (by omega)]
      · unfold runeAtP
        rw [if_pos (by omega), Int.toNat_natCast, dec_bytesOf, validFrom_step s pos hpos]
        simp only [noZero, Lib.runeCountFrom]
        rw [if_pos hpos, if_pos hpos]
        have hw := dec_width (bytesOf s) pos (by omega)
        have hg := dec_ge1 (bytesOf s) pos
        rw [dec_bytesOf] at hw hg
        by_cases e : (Utf8.decode s pos).1 = 65533 ∧ (Utf8.decode s pos).2 = 1
        · rw [if_pos e, if_pos e]
          refine ev_neg (by simp) (ev_some ?_)
          simp
        · rw [if_neg e, if_neg e]
          refine ev_pos rfl ?_
          by_cases z : (Utf8.decode s pos).1 = 0
          · refine ev_pos (by simp only; omega) (ev_some ?_)
            rw [if_pos z]
            simp
          · refine ev_neg (by simp only; omega) ?_
            rw [if_neg z]
            have e1 : wrap64 ((n : Int) + 1) = ((n + 1 : Nat) : Int) := w64s (show n < n + 1 by omega) (by omega)
            have e2 : (pos : Int) + ((Utf8.decode s pos).2 : Int) = ((pos + (Utf8.decode s pos).2 : Nat) : Int) := by omega
            rw [e1, e2]
            refine ev_to (count_l s hs b (pos + (Utf8.decode s pos).2) (n + 1) (by omega) (by omega) (by omega)) ?_
            have e3 : n + 1 + Lib.runeCountFrom s b (pos + (Utf8.decode s pos).2) = n + (1 + Lib.runeCountFrom s b (pos + (Utf8.decode s pos).2)) := by omega
            rw [e3]
    · rw [validFrom_end s pos hpos]
      refine ev_to (Ev.step (fun k => ?_) (Ev.now (n : Int))) (by simp [noZero, Lib.runeCountFrom, hpos])
      simp only [spec_CountRunes.l0]
      rw [bytesOf_length, if_neg (by omega)]
/-- How many signs (-1: it is no text). -/
def countP (s : ByteArray) : Int := if textOkP s = true then (Lib.runeCount s : Int) else -1
theorem specCountRunes_ev (s : ByteArray) : Ev (fun k => spec_CountRunes.f k s) (countP s) := by
  unfold spec_CountRunes.f countP textOkP
  by_cases h : (s.size : Int) > 60
  · refine ev_pos h (ev_some ?_)
    rw [decide_eq_false (by omega)]
    simp
  · refine ev_neg h (ev_to (count_l s (by omega) s.size 0 0 (by omega) (by omega) (by omega)) ?_)
    rw [decide_eq_true (by omega)]
    unfold validFrom Lib.runeCount
    simp only [List.drop_zero, Bool.and_true, Nat.zero_add]
    cases (noZero s s.size 0 && Lib.validD s.data.toList) <;> rfl
theorem implTextOk_eq (s : ByteArray) (hs : s.size ≤ 140737488351232) : impl_TextOk.f s = some (textOkP s) := by
  unfold impl_TextOk.f
  rw [if_pos (by omega)]
theorem implCountRunes_eq (s : ByteArray) (hs : s.size ≤ 140737488351232) : impl_CountRunes.f s = some (countP s) := by
  unfold impl_CountRunes.f countP
  rw [implTextOk_eq s hs]
  simp only [Option.bind_some]
  by_cases h : textOkP s = true
  · rw [if_pos h, if_pos h]
    unfold utf8_RuneCountInString.f
    rw [if_pos (by omega)]
    rfl
  · rw [if_neg h, if_neg h]
theorem specTextOk_ev (s : ByteArray) : Ev (fun k => spec_TextOk.f k s) (textOkP s) := by
  unfold spec_TextOk.f
  refine Ev.bind (specCountRunes_ev s) (ev_some ?_)
  unfold countP
  by_cases h : textOkP s = true
  · rw [if_pos h, h]
    exact decide_eq_true (by omega)
  · rw [if_neg h]
    have h' : textOkP s = false := by simpa using h
    rw [h']
    rfl
theorem textOkP_size {s : ByteArray} (h : textOkP s = true) : s.size ≤ 60 := by
  unfold textOkP at h
  simp only [Bool.and_eq_true, decide_eq_true_eq] at h
  exact h.2.2
end Go.Proofs.YtlmpcichjmidmaaDoor.Pure
end
section
/- The signs of bytes: what spec.RuneAt and impl.RuneAt, spec.CountRunes, TextOk of the program and of the reference come to, all in the words of the model's own decoder. No program in sight. -/
namespace Go.Proofs.YtlmpcichjmidmaaDoor.Pure
open Go.RowKit Go.Proofs.YtlmpcichjmidmaaDoor.X Go.Proofs.YtlmpcichjmidmaaDoor.P Go.Proofs.YtlmpcichjmidmaaDoorW.PrintWords Go.Proofs.YtlmpcichjmidmaaDoorW.PrintLast Go.Proofs.YtlmpcichjmidmaaDoor.K
set_option linter.unusedVariables false
set_option linter.unusedSimpArgs false
def putTextP (b : List Int) (s : ByteArray) : List Int := if textOkP s = true then b ++ word2 (s.size : Int) ++ bytesOf s else b
theorem putTextP_length (b : List Int) (s : ByteArray) : (putTextP b s).length ≤ b.length + 62 := by
  unfold putTextP
  split
  · rename_i h
    have := textOkP_size h
    simp only [List.length_append, word2_length, bytesOf_length]
    omega
  · omega
theorem specPutText_ev (b : List Int) (s : ByteArray) (hb : b.length ≤ 1073741824) : Ev (fun k => spec_PutText.f k b s) (putTextP b s) := by
  obtain ⟨R, hR⟩ : ∃ R, R = putTextP b s := ⟨_, rfl⟩
  rw [← hR]
  unfold putTextP at hR
  unfold spec_PutText.f
  refine Ev.bind (specTextOk_ev s) ?_
  by_cases h : textOkP s = true
  · rw [if_pos h] at hR
    have hs := textOkP_size h
    refine ev_pos h (ev_b (specPutWord_eq b (s.size : Int) hb) (ev_pos ?_ (ev_some hR.symm)))
    simp only [List.length_append, word2_length]
    omega
  · rw [if_neg h] at hR
    refine ev_neg h (ev_b (a := ([] : List Int)) rfl (ev_pos ?_ (ev_some ?_)))
    · simp only [List.length_nil]
      omega
    · rw [hR, List.nil_append]
theorem putText_ev (b : List Int) (s : ByteArray) (hb : b.length ≤ 1073741824) (hs : s.size ≤ 140737488351232) : Ev (fun k => impl_PutText.f k b s) (putTextP b s) := by
  have hR : putTextP b s = if textOkP s = true then b ++ word2 (s.size : Int) ++ bytesOf s else b := rfl
  unfold impl_PutText.f
  refine ev_b (implTextOk_eq s hs) ?_
  by_cases h : textOkP s = true
  · rw [if_pos h] at hR
    have hz := textOkP_size h
    rw [hR]
    refine ev_pos h (Ev.bind (putWord_ev b (s.size : Int) hb) (joined2_ev _ _ ?_))
    simp only [List.length_append, word2_length, bytesOf_length]
    omega
  · rw [if_neg h] at hR
    rw [hR]
    exact ev_neg h (joined1_ev b (by omega))
end Go.Proofs.YtlmpcichjmidmaaDoor.Pure
end
section
/- The signs of bytes: what spec.RuneAt and impl.RuneAt, spec.CountRunes, TextOk of the program and of the reference come to, all in the words of the model's own decoder. No program in sight. -/
namespace Go.Proofs.YtlmpcichjmidmaaDoor.Pure
open Go.RowKit Go.Proofs.YtlmpcichjmidmaaDoor.X Go.Proofs.YtlmpcichjmidmaaDoor.P Go.Proofs.YtlmpcichjmidmaaDoorW.PrintWords Go.Proofs.YtlmpcichjmidmaaDoorW.PrintLast Go.Proofs.YtlmpcichjmidmaaDoor.K
set_option linter.unusedVariables false
set_option linter.unusedSimpArgs false
def getTextP (l : List Int) (a : Int) : ByteArray × Int × Bool :=
  if (getBytesP l a).2.2 = true ∧ textOkP (strOfNums (getBytesP l a).1) = true then (strOfNums (getBytesP l a).1, (getBytesP l a).2.1, true) else ((⟨#[]⟩ : ByteArray), 0, false)
theorem getBytesP_len (l : List Int) (a : Int) : (getBytesP l a).1.length ≤ l.length := by
  unfold getBytesP
  split
  · simp
    omega
  · simp
theorem getTextP_ev (l : List Int) (a : Int) (f : Nat → ByteArray → Option Bool) (hf : Ev (fun k => f k (strOfNums (getBytesP l a).1)) (textOkP (strOfNums (getBytesP l a).1))) :
    Ev (fun k => if (getBytesP l a).2.2 = true then ((f k (strOfNums (getBytesP l a).1)).bind fun t => (if t = true then (some (strOfNums (getBytesP l a).1, (getBytesP l a).2.1, true)) else (some ((⟨#[]⟩ : ByteArray), 0, false)))) else (some ((⟨#[]⟩ : ByteArray), 0, false))) (getTextP l a) := by
  obtain ⟨R, hR⟩ : ∃ R, R = getTextP l a := ⟨_, rfl⟩
  rw [← hR]
  unfold getTextP at hR
  by_cases h : (getBytesP l a).2.2 = true
  · refine ev_pos h (Ev.bind hf ?_)
    by_cases q : textOkP (strOfNums (getBytesP l a).1) = true
    · rw [if_pos ⟨h, q⟩] at hR
      exact ev_pos q (ev_some hR.symm)
    · rw [if_neg (fun e => q e.2)] at hR
      exact ev_neg q (ev_some hR.symm)
  · rw [if_neg (fun e => h e.1)] at hR
    exact ev_neg h (ev_some hR.symm)
theorem specGetText_ev (l : List Int) (a : Int) (hb : Bytes l) (hl : l.length ≤ 35184372088832) : Ev (fun k => spec_GetText.f k l a) (getTextP l a) := by
  unfold spec_GetText.f
  exact ev_b (specGetBytes_eq l a hb hl) (getTextP_ev l a (fun k s => spec_TextOk.f k s) (specTextOk_ev _))
theorem getText_ev (l : List Int) (a : Int) (hb : Bytes l) (hl : l.length ≤ 35184372088832) : Ev (fun k => impl_GetText.f k l a) (getTextP l a) := by
  unfold impl_GetText.f
  have hz := getBytesP_len l a
  exact Ev.bind (getBytes_ev l a hb hl) (getTextP_ev l a (fun _ s => impl_TextOk.f s) (ev_of_eq (implTextOk_eq _ (by rw [strOfNums_size]; omega))))
end Go.Proofs.YtlmpcichjmidmaaDoor.Pure
end
section
/- What is drawn of bytes: a place in them that never leaves them, numbers below a bound, bytes. No program in sight. -/
namespace Go.Proofs.YtlmpcichjmidmaaDoor.Pure
open Go.RowKit Go.Proofs.YtlmpcichjmidmaaDoor.P Go.Proofs.YtlmpcichjmidmaaDoorW.PrintWords Go.Proofs.YtlmpcichjmidmaaDoorW.PrintLast Go.Proofs.YtlmpcichjmidmaaDoorW.PrintMore Go.Proofs.YtlmpcichjmidmaaDoor.K
set_option linter.unusedVariables false
set_option linter.unusedSimpArgs false
theorem and255_any (x : Int) : 0 ≤ Go.bits .and .i64 x 255 ∧ Go.bits .and .i64 x 255 ≤ 255 := by
  have h : (BitVec.ofInt 64 x &&& BitVec.ofInt 64 255).toNat ≤ 255 := by
    rw [BitVec.toNat_and]
    exact Nat.le_trans Nat.and_le_right (by decide)
  show 0 ≤ IntKind.i64.wrap ((BitVec.ofInt 64 x &&& BitVec.ofInt 64 255).toNat : Int) ∧ IntKind.i64.wrap ((BitVec.ofInt 64 x &&& BitVec.ofInt 64 255).toNat : Int) ≤ 255
  rw [IntKind.wrap_i64]
  omega
/-- A place in the bytes. -/
def Pos (l : List Int) (a : Int) : Prop := 0 ≤ a ∧ a ≤ l.length ∧ l.length ≤ 1048576
theorem l1New_l (l : List Int) (hl : l.length ≤ 1048576) : ∀ (d i : Nat) (c : Int), i + d = l.length → ∃ z, Ev (fun k => spec_l1New.l0 k l c (i : Int)) (l, 0, z)
  | 0, i, c, hd => ⟨_, Ev.step (fun k => by rw [spec_l1New.l0]) (ev_neg (by omega) (Ev.now _))⟩
  | d + 1, i, c, hd => by
    by_cases h : (i : Int) < 4000
    · obtain ⟨z, hz⟩ := l1New_l l hl d (i + 1) (Go.bits .and .i64 (wrap64 ((wrap64 ((wrap64 (c * 137)) + (wrap64 (rd l (i : Int))))) + 11)) 1073741823) (by omega)
      refine ⟨z, Ev.step (fun k => by rw [spec_l1New.l0]) (ev_pos (by omega) (ev_pos h (ev_pos (by omega) ?_)))⟩
      rw [w64s (i := i) (n := l.length) (by omega) (by omega)]
      exact hz
    · exact ⟨_, Ev.step (fun k => by rw [spec_l1New.l0]) (ev_pos (by omega) (ev_neg h (Ev.now _)))⟩
theorem l1New_ev (l : List Int) (hl : l.length ≤ 1048576) : ∃ c, Ev (fun k => spec_l1New.f k l) (l, 0, c) := by
  unfold spec_l1New.f
  exact l1New_l l hl l.length 0 _ (by omega)
theorem l1Byte_eq (l : List Int) (a c : Int) (h : Pos l a) : ∃ v a' c', spec_l1Byte.f l a c = some (v, a', c') ∧ 0 ≤ v ∧ v ≤ 255 ∧ Pos l a' := by
  obtain ⟨h0, h1, h2⟩ := h
  unfold spec_l1Byte.f
  by_cases q : a < (l.length : Int)
  · rw [if_pos q, if_pos h0, w64 (x := a + 1) (by omega) (by omega)]
    exact ⟨_, _, _, rfl, (and255_any _).1, (and255_any _).2, by omega, by omega, h2⟩
  · rw [if_neg q]
    exact ⟨_, _, _, rfl, (and255_any _).1, (and255_any _).2, h0, h1, h2⟩
theorem l1Below_eq (l : List Int) (a c m : Int) (h : Pos l a) : ∃ v a' c', spec_l1Below.f l a c m = some (v, a', c') ∧ 0 ≤ v ∧ (0 < m → v < m) ∧ Pos l a' := by
  unfold spec_l1Below.f
  by_cases q : m ≤ 0
  · rw [if_pos q]
    exact ⟨_, _, _, rfl, by omega, by omega, h⟩
  rw [if_neg q]
  have hm : ∀ x : Int, 0 ≤ x → Int.tmod x m = x % m := fun x hx => Int.tmod_eq_emod_of_nonneg hx
  by_cases q2 : m ≤ 256
  · rw [if_pos q2]
    obtain ⟨v, a', c', e, h0, h1, hp⟩ := l1Byte_eq l a c h
    rw [e, Option.bind_some, if_neg (by omega), hm v h0]
    exact ⟨_, _, _, rfl, Int.emod_nonneg _ (by omega), fun _ => Int.emod_lt_of_pos _ (by omega), hp⟩
  · rw [if_neg q2]
    obtain ⟨v, a', c', e, h0, h1, hp⟩ := l1Byte_eq l a c h
    rw [e, Option.bind_some]
    obtain ⟨v2, a2, c2, e2, h02, h12, hp2⟩ := l1Byte_eq l a' c' hp
    rw [e2, Option.bind_some]
    obtain ⟨v3, a3, c3, e3, h03, h13, hp3⟩ := l1Byte_eq l a2 c2 hp2
    rw [e3, Option.bind_some, if_neg (by omega)]
    dsimp only
    rw [w64 (x := v * 65536) (by omega) (by omega), w64 (x := v2 * 256) (by omega) (by omega), w64 (x := v * 65536 + v2 * 256) (by omega) (by omega), w64 (by omega) (by omega), hm _ (by omega)]
    exact ⟨_, _, _, rfl, Int.emod_nonneg _ (by omega), fun _ => Int.emod_lt_of_pos _ (by omega), hp3⟩
theorem l1Once_eq (l : List Int) (a c m : Int) (h : Pos l a) : ∃ v a' c', spec_l1Once.f l a c m = some (v, a', c') ∧ Pos l a' := by
  unfold spec_l1Once.f
  obtain ⟨v, a', c', e, _, _, hp⟩ := l1Below_eq l a c m h
  rw [e, Option.bind_some]
  exact ⟨_, _, _, rfl, hp⟩
theorem l1Bytes_l (l : List Int) (n : Nat) (hn : n ≤ 1048576) : ∀ (d i : Nat) (acc : List Int) (a c : Int), i + d = n → Pos l a → acc.length = i → Bytes acc →
    ∃ r a' c', Ev (fun k => spec_l1Bytes.l0 k (n : Int) acc (i : Int) l a c) (r, a', c') ∧ r.length = n ∧ Bytes r ∧ Pos l a'
  | 0, i, acc, a, c, hd, hp, hl, hb => ⟨_, _, _, Ev.step (fun k => by rw [spec_l1Bytes.l0]) (ev_neg (by omega) (Ev.now _)), by omega, hb, hp⟩
  | d + 1, i, acc, a, c, hd, hp, hl, hb => by
    obtain ⟨v, a1, c1, e, h0, h1, hp1⟩ := l1Byte_eq l a c hp
    obtain ⟨r, a', c', hr, hrl, hrb, hp'⟩ := l1Bytes_l l n hn d (i + 1) (acc ++ [v % 256]) a1 c1 (by omega) hp1 (by simp [hl]) (by
      intro x hx
      rcases List.mem_append.1 hx with q | q
      · exact hb x q
      · obtain rfl := List.mem_singleton.1 q
        omega)
    refine ⟨r, a', c', ?_, hrl, hrb, hp'⟩
    refine Ev.step (fun k => by rw [spec_l1Bytes.l0]) ?_
    refine ev_pos (by omega) (ev_b e ?_)
    refine ev_pos (by omega) ?_
    rw [w64s (i := i) (n := n) (by omega) (by omega)]
    exact hr
theorem l1Bytes_ev (l : List Int) (a c n : Int) (h : Pos l a) (h0 : 0 ≤ n) (h1 : n ≤ 1048576) : ∃ r a' c', Ev (fun k => spec_l1Bytes.f k l a c n) (r, a', c') ∧ (r.length : Int) = n ∧ Bytes r ∧ Pos l a' := by
  obtain ⟨m, rfl⟩ := Int.eq_ofNat_of_zero_le h0
  unfold spec_l1Bytes.f
  obtain ⟨r, a', c', hr, hl, hb, hp⟩ := l1Bytes_l l m (by omega) m 0 [] a c (by omega) h rfl (fun x hx => by cases hx)
  exact ⟨r, a', c', hr, by omega, hb, hp⟩
theorem l1Int_eq (l : List Int) (a c : Int) (xs : List Int) (h : Pos l a) (hx : 0 < xs.length) : ∃ v a' c', spec_l1Int.f l a c xs = some (v, a', c') ∧ v ∈ xs ∧ Pos l a' := by
  unfold spec_l1Int.f
  obtain ⟨v, a', c', e, h0, h1, hp⟩ := l1Below_eq l a c (xs.length : Int) h
  have h2 := h1 (by omega)
  rw [e, Option.bind_some, if_pos h0, if_pos h2]
  refine ⟨_, _, _, rfl, ?_, hp⟩
  obtain ⟨m, rfl⟩ := Int.eq_ofNat_of_zero_le h0
  show rd xs (m : Int) ∈ xs
  rw [rd_get (by omega)]
  exact List.getElem_mem _
end Go.Proofs.YtlmpcichjmidmaaDoor.Pure
end
section
/- What is drawn of bytes: a place in them that never leaves them, numbers below a bound, bytes. No program in sight. -/
namespace Go.Proofs.YtlmpcichjmidmaaDoor.Pure
open Go.RowKit Go.Proofs.YtlmpcichjmidmaaDoor.P Go.Proofs.YtlmpcichjmidmaaDoorW.PrintWords Go.Proofs.YtlmpcichjmidmaaDoorW.PrintLast Go.Proofs.YtlmpcichjmidmaaDoorW.PrintMore Go.Proofs.YtlmpcichjmidmaaDoor.K
set_option linter.unusedVariables false
set_option linter.unusedSimpArgs false
theorem same_eq (a b : List Int) (h : a = b) : laws_same.f a b = some true := by
  subst h
  unfold laws_same.f
  rw [beq_self_eq_true]
theorem big_ev (l : List Int) (f : Nat → Bool → Option Bool) (hs : l.length ≤ 1048576 → Ev (fun k => f k false) true) (hb : Ev (fun k => f k true) true) : Ev (fun k => (laws_big.f l).bind (f k)) true := by
  unfold laws_big.f
  by_cases q : (l.length : Int) > 1048576
  · refine ev_b (a := true) (by rw [decide_eq_true q]) hb
  · refine ev_b (a := false) (by rw [decide_eq_false q]) (hs (by omega))
end Go.Proofs.YtlmpcichjmidmaaDoor.Pure
end
section
/- What is read of bytes has these bytes; what is drawn of bytes and texts. No program in sight. -/
namespace Go.Proofs.YtlmpcichjmidmaaDoor.Pure
open Go.RowKit Go.Proofs.YtlmpcichjmidmaaDoor.X Go.Proofs.YtlmpcichjmidmaaDoor.P Go.Proofs.YtlmpcichjmidmaaDoorW.PrintWords Go.Proofs.YtlmpcichjmidmaaDoorW.PrintLast Go.Proofs.YtlmpcichjmidmaaDoorW.PrintMore Go.Proofs.YtlmpcichjmidmaaDoor.K
set_option linter.unusedVariables false
set_option linter.unusedSimpArgs false
theorem bytesOf_strOfNums {l : List Int} (hb : Bytes l) : bytesOf (strOfNums l) = l := by
  unfold bytesOf strOfNums
  simp only [List.map_map]
  refine (List.map_congr_left fun x hx => ?_).trans (List.map_id l)
  have := hb x hx
  simp only [Function.comp, id]
  rw [UInt8.toNat_ofNat']
  omega
theorem word2_bytes (n : Int) : Bytes (word2 n) := by
  intro x hx
  unfold word2 at hx
  simp only [List.mem_cons, List.not_mem_nil, or_false] at hx
  rcases hx with rfl | rfl <;> omega
theorem getBytesP_bytes (x : List Int) (p : Int) (hb : Bytes x) : Bytes (getBytesP x p).1 := by
  unfold getBytesP
  split
  · intro y hy
    exact hb y (List.mem_of_mem_take (List.mem_of_mem_drop hy))
  · intro y hy
    cases hy
theorem getBytesP_back (x : List Int) (p : Int) (hb : Bytes x) (h : (getBytesP x p).2.2 = true) :
    0 ≤ p ∧ p ≤ (getBytesP x p).2.1 ∧ (getBytesP x p).2.1 ≤ x.length ∧ (getBytesP x p).1.length ≤ 60 ∧
    word2 ((getBytesP x p).1.length : Int) ++ (getBytesP x p).1 = (x.take ((getBytesP x p).2.1).toNat).drop p.toNat := by
  unfold getBytesP at h ⊢
  by_cases c : (getWordP x p).2.2 = true ∧ (getWordP x p).1 ≤ 60 ∧ (getWordP x p).1 ≤ (x.length : Int) - (getWordP x p).2.1
  · rw [if_pos c] at h ⊢
    clear h
    obtain ⟨c1, c2, c3⟩ := c
    unfold getWordP at c1 c2 c3 ⊢
    by_cases d : 0 ≤ p ∧ p ≤ (x.length : Int) - 2
    · rw [if_pos d] at c1 c2 c3 ⊢
      dsimp only at c1 c2 c3 ⊢
      obtain ⟨n, rfl⟩ := Int.eq_ofNat_of_zero_le d.1
      have hn : n + 2 ≤ x.length := by omega
      have r0 : rd x ((n : Nat) : Int) = x[n] := rd_get (by omega)
      have r1 : rd x (((n : Nat) : Int) + 1) = x[n + 1] := by
        rw [show ((n : Nat) : Int) + 1 = ((n + 1 : Nat) : Int) by omega]
        exact rd_get (by omega)
      have b0 := hb x[n] (List.getElem_mem _)
      have b1 := hb x[n + 1] (List.getElem_mem _)
      rw [r0, r1] at c2 c3 ⊢
      revert c2 c3
      obtain ⟨T, hT⟩ : ∃ T : Nat, ((n : Int) + 2 + (x[n] * 256 + x[n + 1])).toNat = T := ⟨_, rfl⟩
      rw [hT]
      intro c2 c3
      have ht : (x.take T).length = T := by rw [List.length_take]; omega
      have e2 : ((n : Int) + 2).toNat = n + 2 := by omega
      have e3 : ((n : Nat) : Int).toNat = n := by omega
      have hd : (x.take T).drop n = x[n] :: x[n + 1] :: (x.take T).drop (n + 2) := by
        rw [List.drop_eq_getElem_cons (by omega : n < (x.take T).length), List.drop_eq_getElem_cons (by omega : n + 1 < (x.take T).length), List.getElem_take, List.getElem_take]
      rw [e2, e3, hd, List.length_drop, ht]
      refine ⟨by omega, by omega, by omega, by omega, ?_⟩
      have e4 : ((T - (n + 2) : Nat) : Int) = x[n] * 256 + x[n + 1] := by omega
      unfold word2
      rw [e4, Go.Proofs.YtlmpcichjmidmaaDoor.K.i64_and255 (by omega) (by omega), Go.Proofs.YtlmpcichjmidmaaDoor.K.i64_and255 (by omega) (by omega)]
      simp only [List.cons_append, List.nil_append, List.cons.injEq, and_true]
      omega
    · rw [if_neg d] at c1
      cases c1
  · rw [if_neg c] at h
    cases h
theorem l1Str_eq (l : List Int) (a c : Int) (xs : List ByteArray) (h : Pos l a) (hx : 0 < xs.length) : ∃ v a' c', spec_l1Str.f l a c xs = some (v, a', c') ∧ v ∈ xs ∧ Pos l a' := by
  unfold spec_l1Str.f
  obtain ⟨v, a', c', e, h0, h1, hp⟩ := l1Below_eq l a c (xs.length : Int) h
  have h2 := h1 (by omega)
  rw [e, Option.bind_some, if_pos h0, if_pos h2]
  refine ⟨_, _, _, rfl, ?_, hp⟩
  obtain ⟨m, rfl⟩ := Int.eq_ofNat_of_zero_le h0
  show rdOf ByteArray.empty xs (m : Int) ∈ xs
  unfold rdOf
  rw [getD_get (by omega)]
  exact List.getElem_mem _
theorem l1Text_eq (l : List Int) (a c : Int) (h : Pos l a) : ∃ s a' c', spec_l1Text.f l a c = some (s, a', c') ∧ s.size ≤ 61 ∧ Pos l a' := by
  unfold spec_l1Text.f
  generalize hxs : ([(⟨#[]⟩ : ByteArray), _, _, _, _, _, _, _, _, _, _, _, _, _, _, _] : List ByteArray) = xs
  have hs : ∀ s ∈ xs, s.size ≤ 61 := by subst hxs; decide
  have hl : 0 < xs.length := by subst hxs; decide
  obtain ⟨s, a', c', e, hm, hp⟩ := l1Str_eq l a c xs h hl
  rw [e, Option.bind_some]
  exact ⟨s, a', c', rfl, hs s hm, hp⟩
end Go.Proofs.YtlmpcichjmidmaaDoor.Pure
end
section
/- What is put into bytes comes back of them; cut it does not. No program in sight. -/
namespace Go.Proofs.YtlmpcichjmidmaaDoor.Pure
open Go.RowKit Go.Proofs.YtlmpcichjmidmaaDoor.X Go.Proofs.YtlmpcichjmidmaaDoor.P Go.Proofs.YtlmpcichjmidmaaDoorW.PrintWords Go.Proofs.YtlmpcichjmidmaaDoorW.PrintLast Go.Proofs.YtlmpcichjmidmaaDoorW.PrintMore Go.Proofs.YtlmpcichjmidmaaDoor.K
set_option linter.unusedVariables false
set_option linter.unusedSimpArgs false
theorem and_mod (n : Int) (k : Nat) (hk : k ≤ 63) : Go.bits .and .i64 n ((2 : Int) ^ k - 1) = n % 2 ^ k := by
  have ha : ∀ a : Nat, a &&& (2 ^ k - 1) = a % 2 ^ k := fun a => Nat.and_two_pow_sub_one_eq_mod a k
  have hp : 0 < 2 ^ k := Nat.two_pow_pos k
  have hle : 2 ^ k ≤ 9223372036854775808 := Nat.le_trans (Nat.pow_le_pow_right (by decide) hk) (by decide)
  have hdv : 2 ^ k ∣ 18446744073709551616 := Nat.dvd_trans (Nat.pow_dvd_pow 2 (show k ≤ 64 by omega)) (by decide)
  have hK : (2 : Int) ^ k = ((2 ^ k : Nat) : Int) := by rw [Int.natCast_pow]; rfl
  rw [hK]
  clear hK hk
  generalize 2 ^ k = K at *
  have hc : ((K : Int) - 1) = ((K - 1 : Nat) : Int) := by omega
  rw [hc]
  show IntKind.i64.wrap ((BitVec.ofInt 64 n &&& BitVec.ofInt 64 ((K - 1 : Nat) : Int)).toNat : Int) = n % (K : Int)
  have h0 : 0 ≤ n % 18446744073709551616 := Int.emod_nonneg _ (by decide)
  obtain ⟨m, hm⟩ := Int.eq_ofNat_of_zero_le h0
  have hmn : (m : Int) % (K : Int) = n % (K : Int) := by
    rw [← hm]
    exact Int.emod_emod_of_dvd n (Int.natCast_dvd_natCast.2 hdv)
  have e : (BitVec.ofInt 64 n).toNat = m := by
    rw [BitVec.toNat_ofInt]
    show (n % 18446744073709551616).toNat = m
    omega
  rw [BitVec.toNat_and, BitVec.ofInt_natCast, BitVec.toNat_ofNat, Nat.mod_eq_of_lt (show K - 1 < 2 ^ 64 by omega), ha, e, Int.natCast_emod, hmn, IntKind.wrap_i64]
  have h1 : 0 ≤ n % (K : Int) := Int.emod_nonneg _ (by omega)
  have h2 : n % (K : Int) < K := Int.emod_lt_of_pos _ (by omega)
  omega
theorem and255_mod (n : Int) : Go.bits .and .i64 n 255 = n % 256 := and_mod n 8 (by decide)
theorem and65535_mod (n : Int) : Go.bits .and .i64 n 65535 = n % 65536 := and_mod n 16 (by decide)
theorem word2_eq (n : Int) : word2 n = [n / 256 % 256, n % 256] := by
  unfold word2
  rw [and255_mod, and255_mod, Int.emod_emod_of_dvd _ (Int.dvd_refl _), Int.emod_emod_of_dvd _ (Int.dvd_refl _)]
theorem rd_at (c : List Int) (y : List Int) (j : Nat) (h : j < y.length) : rd (c ++ y) ((c.length : Int) + (j : Int)) = y[j] := by
  rw [show (c.length : Int) + (j : Int) = ((c.length + j : Nat) : Int) by omega, rd_get (by rw [List.length_append]; omega)]
  rw [List.getElem_append_right (by omega)]
  congr 1
  omega
theorem getWordP_put (c rest : List Int) (n : Int) : getWordP (c ++ (word2 n ++ rest)) (c.length : Int) = (n % 65536, (c.length : Int) + 2, true) := by
  unfold getWordP
  have hl : (c ++ (word2 n ++ rest)).length = c.length + 2 + rest.length := by
    simp only [List.length_append, word2_length]; omega
  have h0 := rd_at c (word2 n ++ rest) 0 (by rw [List.length_append, word2_length]; omega)
  have h1 := rd_at c (word2 n ++ rest) 1 (by rw [List.length_append, word2_length]; omega)
  rw [if_pos (by rw [hl]; omega)]
  have e0 : rd (c ++ (word2 n ++ rest)) (c.length : Int) = n / 256 % 256 := by
    have := h0
    simp only [word2_eq] at this ⊢
    simpa using this
  have e1 : rd (c ++ (word2 n ++ rest)) ((c.length : Int) + 1) = n % 256 := by
    have := h1
    simp only [word2_eq] at this ⊢
    simpa using this
  rw [e0, e1]
  have : n / 256 % 256 * 256 + n % 256 = n % 65536 := by omega
  rw [this]
theorem getBytesP_put (c x : List Int) (hx : x.length ≤ 60) : getBytesP (c ++ (word2 (x.length : Int) ++ x)) (c.length : Int) = (x, ((c ++ (word2 (x.length : Int) ++ x)).length : Int), true) := by
  have hl : (c ++ (word2 (x.length : Int) ++ x)).length = c.length + 2 + x.length := by
    simp only [List.length_append, word2_length]; omega
  have hm : (x.length : Int) % 65536 = (x.length : Int) := by omega
  unfold getBytesP
  rw [getWordP_put, hm, hl]
  dsimp only
  rw [if_pos ⟨rfl, by omega, by omega⟩]
  have e1 : ((c.length : Int) + 2 + (x.length : Int)).toNat = c.length + 2 + x.length := by omega
  have e2 : ((c.length : Int) + 2).toNat = c.length + 2 := by omega
  rw [e1, e2, List.take_of_length_le (by omega)]
  have e3 : (c ++ (word2 (x.length : Int) ++ x)).drop (c.length + 2) = x := by
    rw [← List.drop_drop, List.drop_left]
    exact List.drop_left' (word2_length _)
  rw [e3]
  congr 2
theorem getBytesP_cut (c x : List Int) (hx : x.length ≤ 60) : (getBytesP ((c ++ (word2 (x.length : Int) ++ x)).take (c.length + 2 + x.length - 1)) (c.length : Int)).2.2 = false := by
  rcases List.eq_nil_or_concat x with rfl | ⟨y, z, rfl⟩
  · unfold getBytesP
    have hg : getWordP ((c ++ (word2 (([] : List Int).length : Int) ++ [])).take (c.length + 2 + ([] : List Int).length - 1)) (c.length : Int) = (0, 0, false) := by
      unfold getWordP
      rw [if_neg]
      intro h
      have := h.2
      rw [List.length_take] at this
      simp only [List.length_nil] at this
      omega
    rw [hg, if_neg (fun h => by cases h.1)]
  · rw [List.concat_eq_append]
    have hl : (y ++ [z]).length = y.length + 1 := by simp
    obtain ⟨L, hL⟩ : ∃ L : Int, L = ((y ++ [z]).length : Int) := ⟨_, rfl⟩
    rw [← hL]
    rw [List.concat_eq_append, hl] at hx
    have e : (c ++ (word2 L ++ (y ++ [z]))).take (c.length + 2 + (y ++ [z]).length - 1) = c ++ (word2 L ++ y) := by
      rw [hl, show c.length + 2 + (y.length + 1) - 1 = c.length + ((word2 L).length + y.length) by rw [word2_length]; omega, List.take_length_add_append, List.take_length_add_append, List.take_left]
    rw [e]
    unfold getBytesP
    have hm : L % 65536 = L := by omega
    have hl2 : (c ++ (word2 L ++ y)).length = c.length + 2 + y.length := by
      simp only [List.length_append, word2_length]; omega
    rw [getWordP_put, hl2, hm, if_neg]
    rintro ⟨-, -, h3⟩
    dsimp only at h3
    omega
end Go.Proofs.YtlmpcichjmidmaaDoor.Pure
end
section
/- The law FnTexts answers true of all bytes. -/
namespace Go.Proofs.YtlmpcichjmidmaaDoor.Pure
open Go.RowKit Go.Proofs.YtlmpcichjmidmaaDoor.X Go.Proofs.YtlmpcichjmidmaaDoor.P Go.Proofs.YtlmpcichjmidmaaDoorW.PrintWords Go.Proofs.YtlmpcichjmidmaaDoorW.PrintLast Go.Proofs.YtlmpcichjmidmaaDoor.K
set_option linter.unusedVariables false
theorem drawPutText_ev (l : List Int) (hl : l.length ≤ 1048576) : ∃ b s, Ev (fun k => spec_DrawPutText.f k l) (b, s) ∧ Bytes b ∧ b.length ≤ 2 ∧ s.size ≤ 61 := by
  unfold spec_DrawPutText.f
  obtain ⟨c0, h0⟩ := l1New_ev l hl
  obtain ⟨n, a1, c1, h1, hn0, hn1, hp1⟩ := l1Below_eq l 0 c0 3 ⟨by omega, by omega, hl⟩
  have hn2 := hn1 (by omega)
  obtain ⟨b, a2, c2, h2, hbl, hbb, hp2⟩ := l1Bytes_ev l a1 c1 n hp1 hn0 (by omega)
  obtain ⟨s, a3, c3, h3, hs, hp3⟩ := l1Text_eq l a2 c2 hp2
  exact ⟨b, s, Ev.bind h0 (ev_b h1 (Ev.bind h2 (ev_b h3 (Ev.now _)))), hbb, by omega, hs⟩
theorem drawPutBytes_ev (l : List Int) (hl : l.length ≤ 1048576) : ∃ b x, Ev (fun k => spec_DrawPutBytes.f k l) (b, x) ∧ Bytes b ∧ b.length ≤ 2 ∧ Bytes x ∧ x.length ≤ 61 := by
  unfold spec_DrawPutBytes.f
  obtain ⟨c0, h0⟩ := l1New_ev l hl
  obtain ⟨n, a1, c1, h1, hn0, hn1, hp1⟩ := l1Below_eq l 0 c0 3 ⟨by omega, by omega, hl⟩
  have hn2 := hn1 (by omega)
  obtain ⟨b, a2, c2, h2, hbl, hbb, hp2⟩ := l1Bytes_ev l a1 c1 n hp1 hn0 (by omega)
  obtain ⟨m, a3, c3, h3, hm, hp3⟩ := l1Int_eq l a2 c2 [0, 1, 5, 60, 61] hp2 (by decide)
  have hm2 : 0 ≤ m ∧ m ≤ 61 := by
    simp only [List.mem_cons, List.not_mem_nil, or_false] at hm
    omega
  obtain ⟨x, a4, c4, h4, hxl, hxb, hp4⟩ := l1Bytes_ev l a3 c3 m hp3 hm2.1 (by omega)
  exact ⟨b, x, Ev.bind h0 (ev_b h1 (Ev.bind h2 (ev_b h3 (Ev.bind h4 (Ev.now _))))), hbb, by omega, hxb, by omega⟩
theorem drawPutWord_ev (l : List Int) (hl : l.length ≤ 1048576) : ∃ b n, Ev (fun k => spec_DrawPutWord.f k l) (b, n) ∧ Bytes b ∧ b.length ≤ 2 := by
  unfold spec_DrawPutWord.f
  obtain ⟨c0, h0⟩ := l1New_ev l hl
  obtain ⟨n, a1, c1, h1, hn0, hn1, hp1⟩ := l1Below_eq l 0 c0 3 ⟨by omega, by omega, hl⟩
  have hn2 := hn1 (by omega)
  obtain ⟨b, a2, c2, h2, hbl, hbb, hp2⟩ := l1Bytes_ev l a1 c1 n hp1 hn0 (by omega)
  obtain ⟨o, a3, c3, h3, hp3⟩ := l1Once_eq l a2 c2 3 hp2
  cases o with
  | true =>
    obtain ⟨m, a4, c4, h4, hm, hp4⟩ := l1Int_eq l a3 c3 [(-1), 0, 1, 2, 255, 256, 65535, 2147483647, 2147483648, 4294967295, 4294967296, (-2147483648), 9223372036854775807, (-9223372036854775808)] hp3 (by decide)
    have h5 : spec_l1Odd.f l a3 c3 = some (m, a4, c4) := by
      unfold spec_l1Odd.f
      rw [h4]
      rfl
    refine ⟨b, m, Ev.bind h0 (ev_b h1 (Ev.bind h2 (ev_b h3 ?_))), hbb, by omega⟩
    exact ev_pos rfl (ev_b h5 (Ev.now _))
  | false =>
    obtain ⟨m, a4, c4, h4, hm0, hm1, hp4⟩ := l1Below_eq l a3 c3 65536 hp3
    refine ⟨b, m, Ev.bind h0 (ev_b h1 (Ev.bind h2 (ev_b h3 ?_))), hbb, by omega⟩
    exact ev_neg (by simp) (ev_b h4 (Ev.now _))
theorem strOfNums_bytesOf (s : ByteArray) : strOfNums (bytesOf s) = s := by
  refine Go.WideShapes.bytes_inj ?_
  unfold strOfNums bytesOf
  simp only [List.map_map]
  refine (List.map_congr_left fun b _ => ?_).trans (List.map_id _)
  simp only [Function.comp, id]
  exact UInt8.ofNat_toNat
theorem texts_j1 (c x : List Int) (hc : Bytes c) (hx : Bytes x) (hcl : c.length ≤ 2) (hxl : x.length ≤ 61) : Ev (fun k => laws_FnTexts.j1 k c x (putBytesP c x)) true := by
  refine Ev.step (fun k => by rw [laws_FnTexts.j1]) ?_
  by_cases h : (x.length : Int) > 60
  · have e : putBytesP c x = c := by
      unfold putBytesP
      rw [if_neg (by omega)]
    rw [e]
    exact ev_pos h (ev_b (same_eq c c rfl) (Ev.now _))
  · have e : putBytesP c x = c ++ (word2 (x.length : Int) ++ x) := by
      unfold putBytesP
      rw [if_pos (by omega), List.append_assoc]
    have hg := getBytesP_put c x (by omega)
    have hk := getBytesP_cut c x (by omega)
    have hl : (c ++ (word2 (x.length : Int) ++ x)).length = c.length + 2 + x.length := by
      simp only [List.length_append, word2_length]; omega
    have hb : Bytes (c ++ (word2 (x.length : Int) ++ x)) := fun y hy => (List.mem_append.1 hy).elim (hc y) (fun q => (List.mem_append.1 q).elim (word2_bytes _ y) (hx y))
    rw [e]
    revert hg hk hl hb
    generalize c ++ (word2 (x.length : Int) ++ x) = q
    intro hg hk hl hb
    have hw : wrap64 ((q.length : Int) - 1) = ((c.length + 2 + x.length - 1 : Nat) : Int) := by
      rw [w64 (by omega) (by omega)]
      omega
    refine ev_neg h (Ev.bind (getBytes_ev q (c.length : Int) hb (by omega)) ?_)
    rw [hw, Int.toNat_natCast]
    refine ev_pos (by omega) (ev_pos (by omega) (Ev.bind (getBytes_ev (q.take (c.length + 2 + x.length - 1)) (c.length : Int) (fun y hy => hb y (List.mem_of_mem_take hy)) (by rw [List.length_take]; omega)) ?_))
    rw [hg]
    refine ev_pos rfl (ev_b (same_eq x x rfl) (ev_pos rfl (ev_pos rfl (ev_some ?_))))
    rw [hk]
    rfl
theorem FnTexts : laws_FnTexts.Pure := by
  intro l _ _ hb
  refine Ev.rounds ?_
  unfold laws_FnTexts.f
  refine big_ev l _ (fun hl => ?_) (ev_pos rfl (Ev.now _))
  refine ev_neg (by simp) ?_
  obtain ⟨b, s, h1, hbb, hbl, hs⟩ := drawPutText_ev l hl
  obtain ⟨c, x, h2, hcb, hcl, hxb, hxl⟩ := drawPutBytes_ev l hl
  obtain ⟨d, n, h3, hdb, hdl⟩ := drawPutWord_ev l hl
  refine Ev.bind h1 (Ev.bind (putText_ev b s (by omega) (by omega)) (Ev.bind h2 (Ev.bind (putBytes_ev c x (by omega)) (Ev.bind h3 (Ev.bind (putWord_ev d n (by omega)) ?_)))))
  have hdw : (d ++ word2 n).length = d.length + 2 := by rw [List.length_append, word2_length]
  have hg : getWordP (d ++ word2 n) (d.length : Int) = (n % 65536, (d.length : Int) + 2, true) := by
    have := getWordP_put d [] n
    rwa [List.append_nil] at this
  refine ev_b (implGetWord_eq (d ++ word2 n) (d.length : Int) (fun y hy => (List.mem_append.1 hy).elim (hdb y) (word2_bytes _ y)) (by omega)) ?_
  rw [hg]
  refine ev_pos rfl (ev_pos (by show (d.length : Int) + 2 = _; omega) (ev_pos (and65535_mod n).symm ?_))
  refine ev_b (implTextOk_eq s (by omega)) (Ev.bind (specTextOk_ev s) ?_)
  have hne : (textOkP s != textOkP s) = false := by simp
  rw [hne]
  refine Ev.step (fun k => by rw [laws_FnTexts.j0]) ?_
  refine ev_neg (by simp) (ev_b (implTextOk_eq s (by omega)) ?_)
  by_cases ht : textOkP s = true
  · refine ev_pos ht ?_
    have hz := textOkP_size ht
    have hx60 : (bytesOf s).length ≤ 60 := by rw [bytesOf_length]; exact hz
    have e : putTextP b s = b ++ (word2 ((bytesOf s).length : Int) ++ bytesOf s) := by
      unfold putTextP
      rw [if_pos ht, bytesOf_length, List.append_assoc]
    have hgb := getBytesP_put b (bytesOf s) hx60
    have hcut := getBytesP_cut b (bytesOf s) hx60
    have hql : (b ++ (word2 ((bytesOf s).length : Int) ++ bytesOf s)).length = b.length + 2 + (bytesOf s).length := by
      simp only [List.length_append, word2_length]; omega
    have hqb : Bytes (b ++ (word2 ((bytesOf s).length : Int) ++ bytesOf s)) := fun y hy => (List.mem_append.1 hy).elim (hbb y) (fun q => (List.mem_append.1 q).elim (word2_bytes _ y) (bytesOf_bytes s y))
    rw [e]
    revert hgb hcut hql hqb
    generalize b ++ (word2 ((bytesOf s).length : Int) ++ bytesOf s) = q
    intro hgb hcut hql hqb
    have hw : wrap64 ((q.length : Int) - 1) = ((b.length + 2 + (bytesOf s).length - 1 : Nat) : Int) := by
      rw [w64 (by omega) (by omega)]
      omega
    have ht1 : getTextP q (b.length : Int) = (s, (q.length : Int), true) := by
      unfold getTextP
      rw [hgb, strOfNums_bytesOf, if_pos ⟨rfl, ht⟩]
    have ht2 : (getTextP (q.take (b.length + 2 + (bytesOf s).length - 1)) (b.length : Int)).2.2 = false := by
      unfold getTextP
      rw [if_neg]
      intro h
      rw [hcut] at h
      cases h.1
    refine Ev.bind (getText_ev q (b.length : Int) hqb (by omega)) ?_
    rw [hw, Int.toNat_natCast, ht1]
    refine ev_pos (by omega) (ev_pos (by omega) (Ev.bind (getText_ev (q.take (b.length + 2 + (bytesOf s).length - 1)) (b.length : Int) (fun y hy => hqb y (List.mem_of_mem_take hy)) (by rw [List.length_take]; omega)) ?_))
    refine ev_pos rfl (ev_pos rfl (ev_pos rfl (ev_neg (by rw [ht2]; simp) ?_)))
    exact texts_j1 c x hcb hxb hcl hxl
  · have e : putTextP b s = b := by
      unfold putTextP
      rw [if_neg ht]
    rw [e]
    exact ev_neg ht (ev_b (same_eq b b rfl) (ev_pos rfl (texts_j1 c x hcb hxb hcl hxl)))
end Go.Proofs.YtlmpcichjmidmaaDoor.Pure
end
