/- The path calculus, part 19: words for what comes up in loops over rows. Plain theorems. -/
import Derived.Test.YtnflbiafmddpgaaZ18
namespace Go.Proofs.Ytnflbiafmddpgaa.Z
open Go.RowKit
set_option linter.unusedVariables false
noncomputable def same {α : Type} (a b : α) : Bool := @decide (a = b) (Classical.propDecidable _)
theorem same_t {α : Type} {a b : α} (h : a = b) : same a b = true := by unfold same; exact @decide_eq_true _ (Classical.propDecidable _) h
theorem same_f {α : Type} {a b : α} (h : ¬ a = b) : same a b = false := by unfold same; exact @decide_eq_false _ (Classical.propDecidable _) h
theorem of_same {α : Type} {a b : α} (h : same a b = true) : a = b := by unfold same at h; exact @of_decide_eq_true _ (Classical.propDecidable _) h
theorem of_same_f {α : Type} {a b : α} (h : same a b = false) : ¬ a = b := by unfold same at h; exact @of_decide_eq_false _ (Classical.propDecidable _) h
theorem bv {x y : Bool} (h : y = x) : Value.bool x = Value.bool y := by rw [h]
theorem nn_f {m n : Nat} (h : ((m : Int) != (n : Int)) = false) : m = n := by simp at h; omega
theorem nn_t {m n : Nat} (h : ((m : Int) != (n : Int)) = true) : ¬ m = n := by simp at h; omega
theorem ne_f {x y : Int} (h : (x != y) = false) : x = y := by simpa using h
theorem ne_t {x y : Int} (h : (x != y) = true) : ¬ x = y := by simpa using h
theorem eq_t {x y : Int} (h : (x == y) = true) : x = y := by simpa using h
theorem eq_f {x y : Int} (h : (x == y) = false) : ¬ x = y := by simpa using h
theorem ln_t {m n : Nat} (h : decide ((m : Int) < (n : Int)) = true) : m < n := by simp at h; omega
theorem ln_f {m n : Nat} (h : decide ((m : Int) < (n : Int)) = false) : n ≤ m := by simp at h; omega
theorem li_t {x y : Int} (h : decide (x < y) = true) : x < y := by simpa using h
theorem li_f {x y : Int} (h : decide (x < y) = false) : y ≤ x := by simpa using h
theorem bb_t {x y : Bool} (h : (x == y) = true) : x = y := by simpa using h
theorem bb_f {x y : Bool} (h : (x == y) = false) : ¬ x = y := by simpa using h
theorem bx_f {x y : Bool} (h : (!(x == y)) = false) : x = y := by simpa using h
theorem bx_t {x y : Bool} (h : (!(x == y)) = true) : ¬ x = y := by simpa using h
theorem toList_inj {x y : ByteArray} (h : x.toList = y.toList) : x = y := by
  have h2 := congrArg (fun l : List UInt8 => (⟨⟨l⟩⟩ : ByteArray)) h
  simp only [ByteArray.toList_eq] at h2
  exact h2
theorem st_t {x y : ByteArray} (h : (x.toList == y.toList) = true) : x = y := toList_inj (by simpa using h)
theorem st_f {x y : ByteArray} (h : (x.toList == y.toList) = false) : ¬ x = y := fun e => by subst e; simp at h
theorem sx_f {x y : ByteArray} (h : (!(x.toList == y.toList)) = false) : x = y := st_t (by simpa using h)
theorem sx_t {x y : ByteArray} (h : (!(x.toList == y.toList)) = true) : ¬ x = y := st_f (by simpa using h)
theorem not_t {x : Bool} (h : (!x) = true) : x = false := by simpa using h
theorem not_f {x : Bool} (h : (!x) = false) : x = true := by simpa using h
theorem idx {k n : Nat} (h : k < n) : (0 : Int) ≤ (k : Int) ∧ (k : Int) < (n : Int) := ⟨by omega, by omega⟩
/-- A loop's counter. -/
theorem sc_ {k n : Nat} (h : k < n) (hn : n ≤ 140737488351232) : ((k + 1 : Nat) : Int) = wrap64 ((k : Int) + 1) := by simp only [wrap64]; omega
theorem sub_ {x : Int} {n : Nat} (h0 : 0 ≤ x) (h1 : x ≤ 4611686018427387904) (hn : n ≤ 140737488351232) : wrap64 (x - (n : Int)) = x - n := by simp only [wrap64]; omega
theorem take_all {α : Type} {a b : List α} (hl : a.length = b.length) (h : a.take a.length = b.take a.length) : a = b := by
  rw [List.take_length] at h; rw [h, hl, List.take_length]
theorem take_more {α : Type} {d : α} {a b : List α} {k : Nat} (ha : k < a.length) (hb : k < b.length) (h : a.take k = b.take k) (h2 : a.getD k d = b.getD k d) : a.take (k + 1) = b.take (k + 1) := by
  have h3 : a[k] = b[k] := by simpa [ha, hb] using h2
  rw [List.take_succ_eq_append_getElem ha, List.take_succ_eq_append_getElem hb, h, h3]
theorem sr_ {T : Tys} {e : Nat} {l l' : List (T.Tb e)} (h : l = l') : SameRow e l e l' := by unfold SameRow; rw [h]
/-- Room for a row that is made. -/
theorem mk_ {b n : Nat} (hb : b ≤ 1024) (hn : n ≤ 1048576) : (0 : Int) ≤ (n : Int) ∧ (n : Int) ≤ (n : Int) ∧ (b : Int) * (n : Int) ≤ 281474976710656 ∧ (n : Int) ≤ 9223372036854775807 := by
  have : b * n ≤ 1024 * 1048576 := Nat.mul_le_mul hb hn
  refine ⟨by omega, by omega, ?_, by omega⟩
  have h2 : ((b * n : Nat) : Int) ≤ 281474976710656 := by omega
  rwa [Int.natCast_mul] at h2
theorem mp_id {α : Type} {l : List α} : l.map (fun x => x) = l := List.map_id' l
/-- A row that is filled from the front. -/
def fill {α β : Type} (f : α → β) (z : β) (a : List α) (k : Nat) : List β := (a.take k).map f ++ List.replicate (a.length - k) z
theorem fill_zero {α β : Type} {f : α → β} {z : β} {a : List α} : fill f z a 0 = List.replicate a.length z := by simp [fill]
theorem fill_all {α β : Type} {f : α → β} {z : β} {a : List α} : fill f z a a.length = a.map f := by simp [fill]
theorem fill_len {α β : Type} {f : α → β} {z : β} {a : List α} {k : Nat} (h : k ≤ a.length) : (fill f z a k).length = a.length := by simp [fill]; omega
theorem fill_set {α β : Type} {f : α → β} {z : β} {d : α} {a : List α} {k : Nat} (h : k < a.length) : (fill f z a k).set k (f (a.getD k d)) = fill f z a (k + 1) := by
  unfold fill
  have h1 : a.length - k = (a.length - (k + 1)) + 1 := by omega
  rw [List.set_append_right _ _ (by simp; omega), h1, List.replicate_succ, List.take_succ_eq_append_getElem h]
  have h2 : a.getD k d = a[k] := by simp [h]
  rw [h2]
  simp only [List.map_append, List.length_map, List.length_take, Nat.min_eq_left (Nat.le_of_lt h), Nat.sub_self, List.set_cons_zero, List.map_cons, List.map_nil, List.append_assoc, List.singleton_append]
theorem iv {x y : Int} (h : y = x) : Value.int .i64 x = Value.int .i64 y := by rw [h]
/-! ### sizes that are told as they are used up -/
def szL (n : Nat) (x : Int) : Int := if x - n < 0 then -1 else x - n
def thenS (r : Int) (K : Int → Int) : Int := if r < 0 then -1 else K r
theorem szL_le {n : Nat} {x : Int} (h : 0 ≤ x) : szL n x ≤ x := by unfold szL; split <;> omega
theorem szL_le' {n : Nat} {x : Int} (h : 0 ≤ szL n x) : (n : Int) ≤ x ∧ szL n x ≤ x := by unfold szL at *; split at h <;> (try split) <;> omega
theorem szL_lt {n : Nat} {x : Int} (h0 : 0 ≤ x) (h1 : x ≤ 4611686018427387904) (hn : n ≤ 140737488351232) (c : decide (wrap64 (x - (n : Int)) < 0) = true) : szL n x = -1 := by
  have c := li_t c; rw [sub_ h0 h1 hn] at c; unfold szL; rw [if_pos c]
theorem szL_ge {n : Nat} {x : Int} (h0 : 0 ≤ x) (h1 : x ≤ 4611686018427387904) (hn : n ≤ 140737488351232) (c : decide (wrap64 (x - (n : Int)) < 0) = false) : szL n x = wrap64 (x - (n : Int)) ∧ 0 ≤ wrap64 (x - (n : Int)) ∧ wrap64 (x - (n : Int)) ≤ x := by
  have c := li_f c; rw [sub_ h0 h1 hn] at c ⊢; unfold szL; rw [if_neg (by omega)]; omega
theorem tS_lt {r : Int} {K : Int → Int} (c : decide (r < 0) = true) : thenS r K = -1 := by unfold thenS; rw [if_pos (li_t c)]
theorem tS_ge {r : Int} {K : Int → Int} (c : decide (r < 0) = false) : thenS r K = K r ∧ 0 ≤ r := ⟨by unfold thenS; rw [if_neg (by have := li_f c; omega)], li_f c⟩
theorem tL_lt {n : Nat} {x : Int} {K : Int → Int} (h0 : 0 ≤ x) (h1 : x ≤ 4611686018427387904) (hn : n ≤ 140737488351232) (c : decide (wrap64 (x - (n : Int)) < 0) = true) : thenS (szL n x) K = -1 := by
  rw [szL_lt h0 h1 hn c]; rfl
theorem tL_ge {n : Nat} {x : Int} {K : Int → Int} (h0 : 0 ≤ x) (h1 : x ≤ 4611686018427387904) (hn : n ≤ 140737488351232) (c : decide (wrap64 (x - (n : Int)) < 0) = false) : thenS (szL n x) K = K (wrap64 (x - (n : Int))) ∧ 0 ≤ wrap64 (x - (n : Int)) ∧ wrap64 (x - (n : Int)) ≤ x := by
  obtain ⟨h2, h3, h4⟩ := szL_ge h0 h1 hn c
  rw [h2]; exact ⟨by unfold thenS; rw [if_neg (by omega)], h3, h4⟩
theorem tS_inv {r : Int} {K : Int → Int} (h : 0 ≤ thenS r K) : 0 ≤ r ∧ 0 ≤ K r := by unfold thenS at h; split at h <;> omega
theorem tS_nn {r : Int} {K : Int → Int} (h : 0 ≤ r) : thenS r K = K r := by unfold thenS; rw [if_neg (by omega)]
def szG {α : Type} (f : α → Nat) : List α → Int → Int
  | [], x => x
  | a :: l, x => thenS (szL (f a) x) (szG f l)
theorem szG_step {α : Type} {f : α → Nat} {d : α} {l : List α} {k : Nat} {x : Int} (h : k < l.length) : szG f (l.drop k) x = thenS (szL (f (l.getD k d)) x) (szG f (l.drop (k + 1))) := by
  rw [List.drop_eq_getElem_cons h]
  have : l.getD k d = l[k] := by simp [h]
  rw [this]; rfl
theorem szG_le {α : Type} {f : α → Nat} : ∀ {l : List α} {x : Int}, 0 ≤ x → szG f l x ≤ x
  | [], x, _ => Int.le_refl _
  | a :: l, x, h => by
    show thenS _ _ ≤ x
    unfold thenS
    split
    · omega
    · have h2 := szL_le (n := f a) h
      have := szG_le (f := f) (l := l) (x := szL (f a) x) (by omega)
      omega
theorem getD_mem {α : Type} {d : α} {l : List α} {k : Nat} (h : k < l.length) : l.getD k d ∈ l := by
  have : l.getD k d = l[k] := by simp [h]
  rw [this]; exact List.getElem_mem h
theorem szG_end {α : Type} {f : α → Nat} {l : List α} {x : Int} : szG f (l.drop l.length) x = x := by rw [List.drop_length]; rfl
section
variable {R r x : Int} {K : Int → Int} {n : Nat}
theorem uL_lt (H : R = thenS (szL n x) K) (h0 : 0 ≤ x) (h1 : x ≤ 1048576) (hn : n ≤ 140737488351232) (c : decide (wrap64 (x - (n : Int)) < 0) = true) : R = -1 := H.trans (tL_lt h0 (by omega) hn c)
theorem uL_ge (H : R = thenS (szL n x) K) (h0 : 0 ≤ x) (h1 : x ≤ 1048576) (hn : n ≤ 140737488351232) (c : decide (wrap64 (x - (n : Int)) < 0) = false) : R = K (wrap64 (x - (n : Int))) ∧ 0 ≤ wrap64 (x - (n : Int)) ∧ wrap64 (x - (n : Int)) ≤ 1048576 := by
  obtain ⟨h2, h3, h4⟩ := tL_ge (K := K) h0 (by omega) hn c
  exact ⟨H.trans h2, h3, by omega⟩
theorem uS_lt (H : R = thenS r K) (c : decide (r < 0) = true) : R = -1 := H.trans (tS_lt c)
theorem uS_ge (H : R = thenS r K) (hr : r ≤ 1048576) (c : decide (r < 0) = false) : R = K r ∧ 0 ≤ r ∧ r ≤ 1048576 := ⟨H.trans (tS_ge c).1, li_f c, hr⟩
theorem tG_le {α : Type} {f : α → Nat} {l : List α} (h0 : 0 ≤ x) : thenS (szL n x) (szG f l) ≤ x := by
  unfold thenS
  split
  · omega
  · have := szG_le (f := f) (l := l) (x := szL n x) (by omega)
    have := szL_le (n := n) h0
    omega
end
theorem tG_le' {α : Type} {f : α → Nat} {l : List α} {n : Nat} {x : Int} (h0 : 0 ≤ x) (g : 0 ≤ thenS (szL n x) (szG f l)) : (n : Int) ≤ x ∧ thenS (szL n x) (szG f l) ≤ x := ⟨(szL_le' (tS_inv g).1).1, tG_le h0⟩
/-- The truth of what is said, as a bool. -/
noncomputable def tr (p : Prop) : Bool := @decide p (Classical.propDecidable _)
theorem tr_t {p : Prop} (h : p) : tr p = true := by unfold tr; exact @decide_eq_true _ (Classical.propDecidable _) h
theorem tr_f {p : Prop} (h : ¬ p) : tr p = false := by unfold tr; exact @decide_eq_false _ (Classical.propDecidable _) h
theorem of_tr {p : Prop} (h : tr p = true) : p := by unfold tr at h; exact @of_decide_eq_true _ (Classical.propDecidable _) h
theorem of_tr_f {p : Prop} (h : tr p = false) : ¬ p := by unfold tr at h; exact @of_decide_eq_false _ (Classical.propDecidable _) h
theorem same_tr {α : Type} {a b : α} : same a b = tr (a = b) := rfl
theorem nums_inj : ∀ {a b : List Int}, (∀ x ∈ a, 0 ≤ x ∧ x < 256) → (∀ x ∈ b, 0 ≤ x ∧ x < 256) → a.map (fun n => UInt8.ofNat n.toNat) = b.map (fun n => UInt8.ofNat n.toNat) → a = b
  | [], [], _, _, _ => rfl
  | [], y :: b, _, _, h => by cases h
  | x :: a, [], _, _, h => by cases h
  | x :: a, y :: b, ha, hb, h => by
    simp only [List.map_cons, List.cons.injEq] at h
    have h1 := ha x List.mem_cons_self
    have h2 := hb y List.mem_cons_self
    have h3 : x = y := by
      have := congrArg UInt8.toNat h.1
      simp only [UInt8.toNat_ofNat'] at this
      omega
    rw [h3, nums_inj (fun z hz => ha z (List.mem_cons_of_mem _ hz)) (fun z hz => hb z (List.mem_cons_of_mem _ hz)) h.2]
theorem str_inj {a b : List Int} (ha : ∀ x ∈ a, 0 ≤ x ∧ x < 256) (hb : ∀ x ∈ b, 0 ≤ x ∧ x < 256) (h : strOfNums a = strOfNums b) : a = b := by
  refine nums_inj ha hb ?_
  have := congrArg (fun s : ByteArray => s.data.toList) h
  simpa [strOfNums] using this
theorem same_str {a b : List Int} (ha : ∀ x ∈ a, 0 ≤ x ∧ x < 256) (hb : ∀ x ∈ b, 0 ≤ x ∧ x < 256) : same a b = ((strOfNums a).toList == (strOfNums b).toList) := by
  by_cases h : a = b
  · subst h; rw [same_t rfl]; simp
  · rw [same_f h]
    cases hc : ((strOfNums a).toList == (strOfNums b).toList)
    · rfl
    · exact (h (str_inj ha hb (st_t hc))).elim
end Go.Proofs.Ytnflbiafmddpgaa.Z
