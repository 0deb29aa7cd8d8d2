/- What the small functions of the laws and of the program come to: copies, comparisons, marks of bytes and numbers; joined; PutWord, GetWord, PutBytes, GetBytes, PutLen. No program in sight. -/
import Derived.Test.YtkeacohngljhaaaK
import Derived.Test.YtkeacohngljhaaaPx0
import Derived.Test.YtkeacohngljhaaaPx1
import Derived.Test.YtkeacohngljhaaaPx2
import Derived.Test.YtkeacohngljhaaaPx3
import Derived.Test.YtkeacohngljhaaaPx4
import Derived.Test.YtkeacohngljhaaaPx5
import Derived.Test.YtkeacohngljhaaaPx6
import Derived.Test.YtkeacohngljhaaaPx7
import Derived.Test.YtkeacohngljhaaaPx8
namespace Go.Proofs.Ytkeacohngljhaaa.Pure
open Go.RowKit Go.Proofs.Ytkeacohngljhaaa.P Go.Proofs.YtkeacohngljhaaaW.PrintWords Go.Proofs.YtkeacohngljhaaaW.PrintLast Go.Proofs.Ytkeacohngljhaaa.K

theorem toByteS_ev (l : List Int) (hl : l.length ≤ 35184372088832) : Ev (fun k => laws_toByteS.f k l) l := by
  unfold laws_toByteS.f
  refine ev_pos (by omega) (ev_pos (by omega) ?_)
  refine copy_loop l (fun k y i => laws_toByteS.l0 k l y i) ?_ ?_ l.length 0 (List.replicate ((l.length : Int) : Int).toNat 0) (by omega) (by simp) (by simp)
  · intro i y r hi hy h
    refine Ev.step (fun k => ?_) h
    simp only [laws_toByteS.l0]
    rw [if_pos (by omega), if_pos (by omega), if_pos (by omega), rd_get hi, w64s hi (by omega)]
    rfl
  · intro y hy
    refine Ev.step (fun k => ?_) (Ev.now y)
    simp only [laws_toByteS.l0]
    rw [if_neg (by omega)]
theorem eqByteS_ev (a b : List Int) (ha : a.length ≤ 35184372088832) : Ev (fun k => laws_eqByteS.f k a b) (decide (a = b)) := by
  unfold laws_eqByteS.f
  refine ev_ite (fun e => ?_) (fun e => ev_some ?_)
  · have hl : a.length = b.length := by omega
    refine eq_loop a b hl (fun k i => laws_eqByteS.l0 k a b i) ?_ ?_ ?_ a.length 0 (by omega)
    · intro i r hi hx h
      refine Ev.step (fun k => ?_) h
      simp only [laws_eqByteS.l0]
      rw [if_pos (by omega), if_pos (by omega), if_pos (by omega), rd_get hi, rd_get (hl ▸ hi), if_pos hx, w64s hi (by omega)]
    · intro i hi hx
      refine Ev.step (fun k => ?_) (Ev.now false)
      simp only [laws_eqByteS.l0]
      rw [if_pos (by omega), if_pos (by omega), if_pos (by omega), rd_get hi, rd_get (hl ▸ hi), if_neg hx]
    · refine Ev.step (fun k => ?_) (Ev.now true)
      simp only [laws_eqByteS.l0]
      rw [if_neg (by omega)]
  · symm
    simp only [decide_eq_false_iff_not]
    intro h
    subst h
    exact e rfl
theorem markByteS_ev (l : List Int) (c : Int) (h0 : 0 ≤ c) (h1 : c ≤ 4611686018427387904) (hl : l.length ≤ 35184372088832) : Ev (fun k => laws_markByteS.f k l c) (c + (l.length : Int), marks (fun c => c % 256) c l.length) := by
  unfold laws_markByteS.f
  refine mark_loop (fun c => c % 256) l.length (fun k y c i => laws_markByteS.l0 k y c i) ?_ ?_ l.length 0 l c (by omega) rfl h0 (by omega)
  · intro i y c r hi hy h0 h1 h
    refine Ev.step (fun k => ?_) h
    simp only [laws_markByteS.l0]
    rw [if_pos (by omega), if_pos (by omega), w64s hi (by omega), w64 (by omega) (by omega)]
    rfl
  · intro y c hy
    refine Ev.step (fun k => ?_) (Ev.now (c, y))
    simp only [laws_markByteS.l0]
    rw [if_neg (by omega)]
theorem heldByteS_ev (c : Int) (n : Nat) (h0 : 0 ≤ c) (h1 : c ≤ 4611686018427387904) (hl : n ≤ 35184372088832) : Ev (fun k => laws_heldByteS.f k (marks (fun c => c % 256) c n) c) (c + (n : Int)) := by
  unfold laws_heldByteS.f
  have hn : (marks (fun c : Int => c % 256) c n).length = n := marks_length ..
  refine held_loop (fun c => c % 256) (marks (fun c => c % 256) c n) (fun k d i => laws_heldByteS.l0 k (marks (fun c => c % 256) c n) d i) ?_ ?_ n 0 c (by omega) h0 (by omega) rfl
  · intro i d r hi hx h0 h1 h
    refine Ev.step (fun k => ?_) h
    simp only [laws_heldByteS.l0]
    rw [if_pos (by omega), if_pos (by omega), rd_get hi, if_pos hx, w64s hi (by omega), w64 (by omega) (by omega)]
  · intro d
    refine Ev.step (fun k => ?_) (Ev.now d)
    simp only [laws_heldByteS.l0]
    rw [if_neg (by omega)]
theorem toIntS_ev (l : List Int) (hl : l.length ≤ 35184372088832) : Ev (fun k => laws_toIntS.f k l) l := by
  unfold laws_toIntS.f
  refine ev_pos (by omega) (ev_pos (by omega) ?_)
  refine copy_loop l (fun k y i => laws_toIntS.l0 k l y i) ?_ ?_ l.length 0 (List.replicate ((l.length : Int) : Int).toNat 0) (by omega) (by simp) (by simp)
  · intro i y r hi hy h
    refine Ev.step (fun k => ?_) h
    simp only [laws_toIntS.l0]
    rw [if_pos (by omega), if_pos (by omega), if_pos (by omega), rd_get hi, w64s hi (by omega)]
    rfl
  · intro y hy
    refine Ev.step (fun k => ?_) (Ev.now y)
    simp only [laws_toIntS.l0]
    rw [if_neg (by omega)]
theorem eqIntS_ev (a b : List Int) (ha : a.length ≤ 35184372088832) : Ev (fun k => laws_eqIntS.f k a b) (decide (a = b)) := by
  unfold laws_eqIntS.f
  refine ev_ite (fun e => ?_) (fun e => ev_some ?_)
  · have hl : a.length = b.length := by omega
    refine eq_loop a b hl (fun k i => laws_eqIntS.l0 k a b i) ?_ ?_ ?_ a.length 0 (by omega)
    · intro i r hi hx h
      refine Ev.step (fun k => ?_) h
      simp only [laws_eqIntS.l0]
      rw [if_pos (by omega), if_pos (by omega), if_pos (by omega), rd_get hi, rd_get (hl ▸ hi), if_pos hx, w64s hi (by omega)]
    · intro i hi hx
      refine Ev.step (fun k => ?_) (Ev.now false)
      simp only [laws_eqIntS.l0]
      rw [if_pos (by omega), if_pos (by omega), if_pos (by omega), rd_get hi, rd_get (hl ▸ hi), if_neg hx]
    · refine Ev.step (fun k => ?_) (Ev.now true)
      simp only [laws_eqIntS.l0]
      rw [if_neg (by omega)]
  · symm
    simp only [decide_eq_false_iff_not]
    intro h
    subst h
    exact e rfl
theorem joined_l (xs : List (List Int)) (hn : xs.length ≤ 4611686018427387904) : ∀ (d i : Nat) (acc : List Int), i + d = xs.length → acc.length + (xs.drop i).flatten.length < 140737488355328 → Ev (fun k => impl_joined.l0 k acc xs (xs.length : Int) (i : Int)) (acc ++ (xs.drop i).flatten)
  | 0, i, acc, hd, hl => by
    have hi : i = xs.length := by omega
    subst hi
    refine ev_to (Ev.step (fun k => ?_) (Ev.now acc)) (by simp)
    simp only [impl_joined.l0]
    rw [if_neg (by omega)]
  | d + 1, i, acc, hd, hl => by
    have hi : i < xs.length := by omega
    rw [List.drop_eq_getElem_cons hi, List.flatten_cons] at hl ⊢
    simp only [List.length_append] at hl
    have hr : rd_L2 xs (i : Int) = xs[i] := by unfold rd_L2; exact getD_get hi
    refine ev_to (Ev.step (fun k => ?_) (joined_l xs hn d (i + 1) (acc ++ xs[i]) (by omega) (by simp only [List.length_append]; omega))) (by simp)
    simp only [impl_joined.l0]
    rw [if_pos (by omega), if_pos (by omega), if_pos (by omega), hr, if_pos (by omega), w64s hi (by omega)]
theorem joined_ev (xs : List (List Int)) (hn : xs.length ≤ 4611686018427387904) (hl : xs.flatten.length < 140737488355328) : Ev (fun k => impl_joined.f k xs) xs.flatten := by
  unfold impl_joined.f
  have h := joined_l xs hn xs.length 0 [] (by omega) (by simpa using hl)
  simpa using h
theorem joined1_ev (a : List Int) (hl : a.length < 140737488355328) : Ev (fun k => impl_joined.f k [a]) a :=
  ev_to (joined_ev [a] (by simp) (by simpa using hl)) (by simp)
theorem joined2_ev (a b : List Int) (hl : a.length + b.length < 140737488355328) : Ev (fun k => impl_joined.f k [a, b]) (a ++ b) :=
  ev_to (joined_ev [a, b] (by simp) (by simpa using hl)) (by simp)
theorem l1In_eq (a b c : Int) : spec_l1In.f a b c = some (decide (b ≤ a ∧ a ≤ c)) := by
  unfold spec_l1In.f
  by_cases h : a ≥ b
  · rw [if_pos h]; congr 1; simp; omega
  · rw [if_neg h]; congr 1; symm; simp; omega
theorem within_eq (a b c : Int) : impl_within.f a b c = some (decide (b ≤ a ∧ a ≤ c)) := by
  unfold impl_within.f
  by_cases h : a ≥ b
  · rw [if_pos h]; congr 1; simp; omega
  · rw [if_neg h]; congr 1; symm; simp; omega
theorem isWord_eq (a : Int) : impl_isWord.f a = some (decide (0 ≤ a ∧ a ≤ 65535)) := by
  unfold impl_isWord.f; rw [within_eq]; rfl
theorem isId_eq (a : Int) : impl_isId.f a = some (decide (1 ≤ a ∧ a ≤ 65535)) := by
  unfold impl_isId.f; rw [within_eq]; rfl
/-- A word's two bytes. -/
def word2 (n : Int) : List Int := [(Go.bits .and .i64 (n / 256) 255) % 256, (Go.bits .and .i64 n 255) % 256]
theorem word2_length (n : Int) : (word2 n).length = 2 := rfl
theorem specPutWord_eq (b : List Int) (n : Int) (hb : b.length ≤ 1073741824) : spec_PutWord.f b n = some (b ++ word2 n) := by
  unfold spec_PutWord.f
  simp only [Option.bind_some, List.nil_append, List.length_nil]
  rw [if_pos (by omega), if_pos (by simp; omega)]
  rfl
theorem putWord_ev (b : List Int) (n : Int) (hb : b.length ≤ 1073741824) : Ev (fun k => impl_PutWord.f k b n) (b ++ word2 n) := by
  unfold impl_PutWord.f
  exact Ev.bind (joined2_ev b (word2 n) (by rw [word2_length]; omega)) (Ev.now _)
def putBytesP (b x : List Int) : List Int := if x.length ≤ 60 then b ++ word2 (x.length : Int) ++ x else b
theorem specPutBytes_eq (b x : List Int) (hb : b.length ≤ 1073741824) : spec_PutBytes.f b x = some (putBytesP b x) := by
  unfold spec_PutBytes.f putBytesP
  by_cases h : x.length ≤ 60
  · rw [if_neg (by omega), if_pos h, specPutWord_eq b _ hb]
    simp only [Option.bind_some]
    rw [if_pos (by simp [word2_length]; omega)]
  · rw [if_pos (by omega), if_neg h]
    simp only [Option.bind_some, List.nil_append, List.length_nil]
    rw [if_pos (by omega)]
theorem putBytes_ev (b x : List Int) (hb : b.length ≤ 1073741824) : Ev (fun k => impl_PutBytes.f k b x) (putBytesP b x) := by
  unfold impl_PutBytes.f putBytesP
  by_cases h : x.length ≤ 60
  · rw [if_pos h]
    refine ev_neg (by omega) (Ev.bind (putWord_ev b _ hb) (Ev.bind (joined2_ev _ _ ?_) (Ev.now _)))
    simp [word2_length]; omega
  · rw [if_neg h]
    exact ev_pos (by omega) (Ev.bind (joined1_ev b (by omega)) (Ev.now _))
/-- What GetWord comes to. -/
def getWordP (l : List Int) (a : Int) : Int × Int × Bool := if 0 ≤ a ∧ a ≤ (l.length : Int) - 2 then (rd l a * 256 + rd l (a + 1), a + 2, true) else (0, 0, false)
/-- All are bytes. -/
def Bytes (l : List Int) : Prop := ∀ x ∈ l, 0 ≤ x ∧ x ≤ 255
theorem bytes_rd {l : List Int} (hb : Bytes l) (i : Int) : 0 ≤ rd l i ∧ rd l i ≤ 255 := by
  unfold rd
  rw [List.getD_eq_getElem?_getD]
  by_cases h : i.toNat < l.length
  · rw [List.getElem?_eq_getElem h]
    exact hb _ (List.getElem_mem h)
  · rw [List.getElem?_eq_none (by omega)]
    simp
theorem specGetWord_eq (l : List Int) (a : Int) (hb : Bytes l) (hl : l.length ≤ 35184372088832) : spec_GetWord.f l a = some (getWordP l a) := by
  unfold spec_GetWord.f getWordP
  by_cases h0 : a < 0
  · rw [if_pos h0, if_neg (by omega)]
  rw [if_neg h0, w64 (x := (l.length : Int) - 2) (by omega) (by omega)]
  by_cases h1 : a > (l.length : Int) - 2
  · rw [if_pos h1, if_neg (by omega)]
  have b1 := bytes_rd hb a
  have b2 := bytes_rd hb (a + 1)
  rw [if_neg h1, w64 (x := a + 1) (by omega) (by omega), if_pos (by omega), if_pos (by omega), if_pos (by omega), if_pos (by omega), if_pos (by omega)]
  rw [w64 (x := a + 2) (by omega) (by omega), w64 (x := rd l a) (by omega) (by omega), w64 (x := rd l (a + 1)) (by omega) (by omega), w64 (x := rd l a * 256) (by omega) (by omega), w64 (by omega) (by omega)]
theorem implGetWord_eq (l : List Int) (a : Int) (hb : Bytes l) (hl : l.length ≤ 35184372088832) : impl_GetWord.f l a = some (getWordP l a) := by
  unfold impl_GetWord.f getWordP
  by_cases h0 : a < 0
  · rw [if_pos h0, if_neg (by omega)]
  rw [if_neg h0, w64 (x := (l.length : Int) - 2) (by omega) (by omega)]
  by_cases h1 : a > (l.length : Int) - 2
  · rw [if_pos h1, if_neg (by omega)]
  have b1 := bytes_rd hb a
  have b2 := bytes_rd hb (a + 1)
  rw [if_neg h1, w64 (x := a + 1) (by omega) (by omega), if_pos (by omega), if_pos (by omega), if_pos (by omega), if_pos (by omega), if_pos (by omega)]
  rw [w64 (x := a + 2) (by omega) (by omega), w64 (x := rd l a) (by omega) (by omega), w64 (x := rd l (a + 1)) (by omega) (by omega), w64 (x := rd l a * 256) (by omega) (by omega)]
  rw [bits_join .i64 63 (by decide) wraps_i64 8 (rd l a * 256) (rd l (a + 1)) (by omega) (by omega) (by omega) (by omega) (by omega) (by omega)]
def getBytesP (l : List Int) (a : Int) : List Int × Int × Bool :=
  if (getWordP l a).2.2 = true ∧ (getWordP l a).1 ≤ 60 ∧ (getWordP l a).1 ≤ (l.length : Int) - (getWordP l a).2.1 then
    ((l.take ((getWordP l a).2.1 + (getWordP l a).1).toNat).drop ((getWordP l a).2.1).toNat, (getWordP l a).2.1 + (getWordP l a).1, true) else ([], 0, false)
theorem getWordP_bd (l : List Int) (a : Int) (hb : Bytes l) : 0 ≤ (getWordP l a).1 ∧ (getWordP l a).1 ≤ 65535 ∧ 0 ≤ (getWordP l a).2.1 ∧ ((getWordP l a).2.2 = true → (getWordP l a).2.1 ≤ l.length) := by
  unfold getWordP
  have b1 := bytes_rd hb a
  have b2 := bytes_rd hb (a + 1)
  split
  · refine ⟨?_, ?_, ?_, fun _ => ?_⟩ <;> simp only <;> omega
  · simp
theorem specGetBytes_eq (l : List Int) (a : Int) (hb : Bytes l) (hl : l.length ≤ 35184372088832) : spec_GetBytes.f l a = some (getBytesP l a) := by
  unfold spec_GetBytes.f getBytesP
  rw [specGetWord_eq l a hb hl]
  have hbd := getWordP_bd l a hb
  generalize getWordP l a = g at hbd ⊢
  obtain ⟨g1, g2, g3⟩ := g
  simp only at hbd ⊢
  simp only [Option.bind_some]
  cases g3 with
  | false => simp
  | true =>
    have h3 := hbd.2.2.2 rfl
    simp only [if_true, true_and]
    by_cases h1 : g1 > 60
    · rw [if_pos h1, if_neg (by omega)]
    rw [if_neg h1, w64 (x := (l.length : Int) - g2) (by omega) (by omega)]
    by_cases h2 : g1 > (l.length : Int) - g2
    · rw [if_pos h2, if_neg (by omega)]
    rw [if_neg h2, w64 (x := g2 + g1) (by omega) (by omega), if_pos (by omega), if_pos (by omega), if_pos (by omega), if_pos (by simp; omega), if_pos (by omega)]
    simp
theorem getBytes_ev (l : List Int) (a : Int) (hb : Bytes l) (hl : l.length ≤ 35184372088832) : Ev (fun k => impl_GetBytes.f k l a) (getBytesP l a) := by
  unfold impl_GetBytes.f getBytesP
  have hbd := getWordP_bd l a hb
  refine ev_b (implGetWord_eq l a hb hl) ?_
  generalize getWordP l a = g at hbd ⊢
  obtain ⟨g1, g2, g3⟩ := g
  simp only at hbd ⊢
  cases g3 with
  | false => exact Ev.now _
  | true =>
    have h3 := hbd.2.2.2 rfl
    simp only [if_true, true_and]
    by_cases h1 : g1 > 60
    · rw [if_neg (by omega)]
      exact ev_pos h1 (Ev.now _)
    refine ev_neg h1 ?_
    rw [w64 (x := (l.length : Int) - g2) (by omega) (by omega)]
    by_cases h2 : g1 > (l.length : Int) - g2
    · rw [if_neg (by omega)]
      exact ev_pos h2 (Ev.now _)
    rw [if_pos (by omega), w64 (x := g2 + g1) (by omega) (by omega)]
    refine ev_neg h2 (ev_pos (by omega) (ev_pos (by omega) (ev_pos (by omega) (Ev.bind (joined1_ev _ ?_) (Ev.now _)))))
    simp
    omega
/-- A length's bytes. -/
def lenBytes (n : Int) : List Int :=
  if n ≤ 127 then [n] else if n ≤ 16383 then [n % 128 + 128, n / 128] else if n ≤ 2097151 then [n % 128 + 128, n / 128 % 128 + 128, n / 16384]
  else [n % 128 + 128, n / 128 % 128 + 128, n / 16384 % 128 + 128, n / 2097152]
theorem lenBytes_length (n : Int) : 1 ≤ (lenBytes n).length ∧ (lenBytes n).length ≤ 4 := by
  unfold lenBytes
  split
  · simp
  split
  · simp
  split <;> simp
/-- A loop that lays a length's bytes. -/
theorem len_loop (L : Nat → Int → List Int → Option (List Int))
    (hi : ∀ (n : Int) (acc : List Int) (r : List Int), 127 < n → n ≤ 268435455 → acc.length < 140737488355328 → Ev (fun k => L k (n / 128) (acc ++ [n % 128 + 128])) r → Ev (fun k => L k n acc) r)
    (lo : ∀ (n : Int) (acc : List Int), 0 ≤ n → n ≤ 127 → acc.length < 140737488355328 → Ev (fun k => L k n acc) (acc ++ [n]))
    (n : Int) (acc : List Int) (h0 : 0 ≤ n) (h1 : n ≤ 268435455) (hl : acc.length < 140737488350000) : Ev (fun k => L k n acc) (acc ++ lenBytes n) := by
  unfold lenBytes
  by_cases a1 : n ≤ 127
  · rw [if_pos a1]
    exact lo n acc h0 a1 (by omega)
  rw [if_neg a1]
  refine hi n acc _ (by omega) h1 (by omega) ?_
  by_cases a2 : n ≤ 16383
  · rw [if_pos a2]
    exact ev_to (lo (n / 128) _ (by omega) (by omega) (by simp; omega)) (by simp)
  rw [if_neg a2]
  refine hi (n / 128) _ _ (by omega) (by omega) (by simp; omega) ?_
  have e2 : n / 128 / 128 = n / 16384 := by omega
  rw [e2]
  by_cases a3 : n ≤ 2097151
  · rw [if_pos a3]
    exact ev_to (lo (n / 16384) _ (by omega) (by omega) (by simp; omega)) (by simp)
  rw [if_neg a3]
  refine hi (n / 16384) _ _ (by omega) (by omega) (by simp; omega) ?_
  have e3 : n / 16384 / 128 = n / 2097152 := by omega
  rw [e3]
  exact ev_to (lo (n / 2097152) _ (by omega) (by omega) (by simp; omega)) (by simp)
def putLenP (b : List Int) (n : Int) : List Int := if 0 ≤ n ∧ n ≤ 268435455 then b ++ lenBytes n else b
theorem specPutLen_ev (b : List Int) (n : Int) (hb : b.length ≤ 1073741824) : Ev (fun k => spec_PutLen.f k b n) (putLenP b n) := by
  unfold spec_PutLen.f putLenP
  simp only [Option.bind_some, List.nil_append, List.length_nil]
  refine ev_pos (by omega) (ev_b (l1In_eq n 0 268435455) ?_)
  by_cases h : 0 ≤ n ∧ n ≤ 268435455
  · rw [if_pos h]
    refine ev_pos (by simpa using h) (len_loop (fun k n acc => spec_PutLen.l0 k n acc) ?_ ?_ n b h.1 h.2 (by omega))
    · intro n acc r h1 h2 hl k
      refine Ev.step (fun j => ?_) k
      simp only [spec_PutLen.l0]
      rw [if_pos (by omega), if_pos hl, Int.tdiv_eq_ediv_of_nonneg (by omega), Int.tmod_eq_emod_of_nonneg (by omega), w64 (x := n / 128) (by omega) (by omega), w64 (x := 128 + n % 128) (by omega) (by omega)]
      rw [show (128 + n % 128) % 256 = n % 128 + 128 by omega]
    · intro n acc h0 h1 hl
      refine Ev.step (fun j => ?_) (Ev.now _)
      simp only [spec_PutLen.l0]
      rw [if_neg (by omega), if_pos hl, show n % 256 = n by omega]
  · rw [if_neg h]
    exact ev_neg (by simpa using h) (Ev.now _)
theorem putLen_ev (b : List Int) (n : Int) (hb : b.length ≤ 1073741824) : Ev (fun k => impl_PutLen.f k b n) (putLenP b n) := by
  unfold impl_PutLen.f putLenP
  refine Ev.bind (joined1_ev b (by omega)) (ev_b (within_eq n 0 268435455) ?_)
  by_cases h : 0 ≤ n ∧ n ≤ 268435455
  · rw [if_pos h]
    refine ev_pos (by simpa using h) (len_loop (fun k n acc => impl_PutLen.l0 k n acc) ?_ ?_ n b h.1 h.2 (by omega))
    · intro n acc r h1 h2 hl k
      refine Ev.step (fun j => ?_) k
      simp only [impl_PutLen.l0]
      rw [if_pos (by omega), if_pos hl, Int.tdiv_eq_ediv_of_nonneg (by omega), Int.tmod_eq_emod_of_nonneg (by omega), w64 (x := n / 128) (by omega) (by omega), w64 (x := n % 128 + 128) (by omega) (by omega)]
      rw [show (n % 128 + 128) % 256 = n % 128 + 128 by omega]
    · intro n acc h0 h1 hl
      refine Ev.step (fun j => ?_) (Ev.now _)
      simp only [impl_PutLen.l0]
      rw [if_neg (by omega), if_pos hl, show n % 256 = n by omega]
  · rw [if_neg h]
    exact ev_neg (by simpa using h) (Ev.now _)
theorem lenSize_ev (n : Int) : Ev (fun k => impl_LenSize.f k n) ((putLenP [] n).length : Int) := by
  unfold impl_LenSize.f
  exact Ev.bind (putLen_ev [] n (by simp)) (Ev.now _)
theorem specLenSize_ev (n : Int) : Ev (fun k => spec_LenSize.f k n) ((putLenP [] n).length : Int) := by
  unfold spec_LenSize.f
  exact Ev.bind (specPutLen_ev [] n (by simp)) (Ev.now _)
/-- The lengths that the two loops read are the same. -/
theorem getLen_l (l : List Int) (a : Int) (h0 : 0 ≤ a) (h1 : a ≤ l.length) (hb : Bytes l) (hl : l.length ≤ 35184372088832) :
    ∀ (d i : Nat) (x : Int), i + d = 4 → a + (i : Int) ≤ l.length → ∃ r, Ev (fun k => spec_GetLen.l0 k l a x (i : Int)) r ∧ Ev (fun k => impl_GetLen.l0 k l a x (i : Int)) r
  | 0, i, x, hd, ha => by
    refine ⟨(0, 0, 2), Ev.step (fun k => ?_) (Ev.now _), Ev.step (fun k => ?_) (Ev.now _)⟩
    · simp only [spec_GetLen.l0]; rw [if_neg (by omega)]
    · simp only [impl_GetLen.l0]; rw [if_neg (by omega)]
  | d + 1, i, x, hd, ha => by
    have e1 : wrap64 (a + (i : Int)) = a + (i : Int) := w64 (by omega) (by omega)
    have e7 : wrap64 (7 * (i : Int)) = 7 * (i : Int) := w64 (by omega) (by omega)
    by_cases h : a + (i : Int) = l.length
    · refine ⟨(0, 0, 1), Ev.step (fun k => ?_) (Ev.now _), Ev.step (fun k => ?_) (Ev.now _)⟩
      · simp only [spec_GetLen.l0]; rw [if_pos (by omega), e1, if_pos (by omega)]
      · simp only [impl_GetLen.l0]; rw [if_pos (by omega), e1, if_pos (by omega)]
    have b1 := bytes_rd hb (a + (i : Int))
    have ec : wrap64 (rd l (a + (i : Int))) = rd l (a + (i : Int)) := w64 (by omega) (by omega)
    have ei : wrap64 ((i : Int) + 1) = ((i + 1 : Nat) : Int) := w64s (show i < 4 by omega) (by omega)
    by_cases hc : rd l (a + (i : Int)) < 128
    · by_cases hi : (i : Int) > 0
      · by_cases hz : rd l (a + (i : Int)) = 0
        · refine ⟨(0, 0, 2), Ev.step (fun k => ?_) (Ev.now _), Ev.step (fun k => ?_) (Ev.now _)⟩
          · simp only [spec_GetLen.l0]; rw [if_pos (by omega), e1, if_neg (by omega), if_pos (by omega), if_pos (by omega), e7, if_pos (by omega), ec, if_pos hc, if_pos hi, if_pos hz]
          · simp only [impl_GetLen.l0]; rw [if_pos (by omega), e1, if_neg (by omega), if_pos (by omega), if_pos (by omega), e7, if_pos (by omega), ec, if_neg (by omega), if_pos hi, if_pos hz]
        · refine ⟨(Go.bits .or .i64 x (shl .i64 (Go.bits .and .i64 (rd l (a + (i : Int))) 127) (7 * (i : Int))), wrap64 (a + (i : Int) + 1), 0), Ev.step (fun k => ?_) (Ev.now _), Ev.step (fun k => ?_) (Ev.now _)⟩
          · simp only [spec_GetLen.l0]; rw [if_pos (by omega), e1, if_neg (by omega), if_pos (by omega), if_pos (by omega), e7, if_pos (by omega), ec, if_pos hc, if_pos hi, if_neg hz]
          · simp only [impl_GetLen.l0]; rw [if_pos (by omega), e1, if_neg (by omega), if_pos (by omega), if_pos (by omega), e7, if_pos (by omega), ec, if_neg (by omega), if_pos hi, if_neg hz]
      · refine ⟨(Go.bits .or .i64 x (shl .i64 (Go.bits .and .i64 (rd l (a + (i : Int))) 127) (7 * (i : Int))), wrap64 (a + (i : Int) + 1), 0), Ev.step (fun k => ?_) (Ev.now _), Ev.step (fun k => ?_) (Ev.now _)⟩
        · simp only [spec_GetLen.l0]; rw [if_pos (by omega), e1, if_neg (by omega), if_pos (by omega), if_pos (by omega), e7, if_pos (by omega), ec, if_pos hc, if_neg hi]
        · simp only [impl_GetLen.l0]; rw [if_pos (by omega), e1, if_neg (by omega), if_pos (by omega), if_pos (by omega), e7, if_pos (by omega), ec, if_neg (by omega), if_neg hi]
    · obtain ⟨r, k1, k2⟩ := getLen_l l a h0 h1 hb hl d (i + 1) (Go.bits .or .i64 x (shl .i64 (Go.bits .and .i64 (rd l (a + (i : Int))) 127) (7 * (i : Int)))) (by omega) (by omega)
      refine ⟨r, Ev.step (fun k => ?_) k1, Ev.step (fun k => ?_) k2⟩
      · simp only [spec_GetLen.l0]; rw [if_pos (by omega), e1, if_neg (by omega), if_pos (by omega), if_pos (by omega), e7, if_pos (by omega), ec, if_neg hc, ei]
      · simp only [impl_GetLen.l0]; rw [if_pos (by omega), e1, if_neg (by omega), if_pos (by omega), if_pos (by omega), e7, if_pos (by omega), ec, if_pos (by omega), ei]
theorem getLen_same (l : List Int) (a : Int) (hb : Bytes l) (hl : l.length ≤ 35184372088832) : ∃ r, Ev (fun k => spec_GetLen.f k l a) r ∧ Ev (fun k => impl_GetLen.f k l a) r := by
  unfold spec_GetLen.f impl_GetLen.f
  by_cases h : 0 ≤ a ∧ a ≤ (l.length : Int)
  · obtain ⟨r, k1, k2⟩ := getLen_l l a h.1 h.2 hb hl 4 0 0 (by omega) (by omega)
    refine ⟨r, ev_neg (by omega) (Ev.step (fun k => ?_) k1), ev_b (within_eq a 0 _) (ev_pos (by simpa using h) k2)⟩
    simp only [spec_GetLen.j0]
    rw [if_neg (by simp; omega)]
    rfl
  · refine ⟨(0, 0, 2), ?_, ev_b (within_eq a 0 _) (ev_neg (by simpa using h) (Ev.now _))⟩
    refine ev_ite (fun h0 => ?_) (fun h0 => ?_)
    · refine Ev.step (fun k => ?_) (Ev.now _)
      simp only [spec_GetLen.j0]
      rw [if_pos trivial]
    · refine Ev.step (fun k => ?_) (Ev.now _)
      simp only [spec_GetLen.j0]
      rw [if_pos (by simp; omega)]
end Go.Proofs.Ytkeacohngljhaaa.Pure
