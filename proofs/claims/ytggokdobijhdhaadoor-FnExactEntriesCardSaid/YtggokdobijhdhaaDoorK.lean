/- Plain lemmas used in all proofs of this seat: 'in enough rounds' (Ev), numbers that do not wrap, loops that copy, compare and mark; no program in sight. -/
import Derived.Test.YtggokdobijhdhaaDoorWd
namespace Go.Proofs.YtggokdobijhdhaaDoor.K
open Go.RowKit Go.Proofs.YtggokdobijhdhaaDoorW.PrintWords Go.Proofs.YtggokdobijhdhaaDoorW.PrintLast Go.Proofs.YtggokdobijhdhaaDoorW.PrintMore
set_option linter.unusedVariables false
set_option linter.unusedSimpArgs false

/-! ### Ev -/
theorem ev_pos {α : Type} {c : Prop} [Decidable c] {f g : Nat → Option α} {r : α} (h : c) (k : Ev f r) : Ev (fun n => if c then f n else g n) r := by
  simpa only [if_pos h] using k
theorem ev_neg {α : Type} {c : Prop} [Decidable c] {f g : Nat → Option α} {r : α} (h : ¬ c) (k : Ev g r) : Ev (fun n => if c then f n else g n) r := by
  simpa only [if_neg h] using k
theorem ev_ite {α : Type} {c : Prop} [Decidable c] {f g : Nat → Option α} {r : α} (h : c → Ev f r) (k : ¬ c → Ev g r) : Ev (fun n => if c then f n else g n) r := by
  by_cases e : c
  · exact ev_pos e (h e)
  · exact ev_neg e (k e)
theorem ev_bs {α β : Type} {a : α} {f : Nat → α → Option β} {r : β} (k : Ev (fun n => f n a) r) : Ev (fun n => (some a).bind (f n)) r := k
theorem ev_b {α β : Type} {o : Option α} {a : α} {f : Nat → α → Option β} {r : β} (h : o = some a) (k : Ev (fun n => f n a) r) : Ev (fun n => o.bind (f n)) r := by
  subst h; exact k
theorem ev_some {α : Type} {a r : α} (h : a = r) : Ev (fun _ => some a) r := by subst h; exact Ev.now _
theorem ev_to {α : Type} {g : Nat → Option α} {r s : α} (h : Ev g r) (e : r = s) : Ev g s := e ▸ h
/-! ### numbers -/
theorem w64 {x : Int} (h0 : -9223372036854775808 ≤ x) (h1 : x ≤ 9223372036854775807) : wrap64 x = x := by unfold wrap64; omega
theorem w64s {i n : Nat} (h : i < n) (hn : n ≤ 4611686018427387904) : wrap64 ((i : Int) + 1) = ((i + 1 : Nat) : Int) := by
  rw [w64 (by omega) (by omega)]; omega
/-! ### bits of numbers that are not below 0 -/
theorem wraps_i64 (n : Int) (h₀ : 0 ≤ n) (h₁ : n < 2 ^ 63) : IntKind.i64.wrap n = n := by
  rw [IntKind.wrap_i64]
  have h2 : n < 9223372036854775808 := h₁
  omega
/-! ### lists -/
theorem getD_get {α : Type} {l : List α} {z : α} {i : Nat} (h : i < l.length) : l.getD ((i : Int)).toNat z = l[i] := by
  simp [List.getD_eq_getElem?_getD, h]
theorem take_set_at {α : Type} {y : List α} {i : Nat} (h : i < y.length) (v : α) : (y.set i v).take (i + 1) = y.take i ++ [v] := by
  have hl : (y.take i).length = i := by rw [List.length_take]; omega
  rw [List.take_set, List.take_succ_eq_append_getElem h, List.set_append_right _ _ (by omega), hl, Nat.sub_self]
  rfl
theorem take_set_succ {α : Type} {x y : List α} {i : Nat} (hx : i < x.length) (hl : y.length = x.length) (h : y.take i = x.take i) : (y.set i x[i]).take (i + 1) = x.take (i + 1) := by
  rw [take_set_at (by omega), h, List.take_succ_eq_append_getElem hx]

/-- A loop that copies, an element a round. -/
theorem copy_loop {α : Type} (x : List α) (L : Nat → List α → Int → Option (List α))
    (hs : ∀ (i : Nat) (y : List α) (r : List α) (hi : i < x.length), y.length = x.length → Ev (fun k => L k (y.set i x[i]) ((i + 1 : Nat) : Int)) r → Ev (fun k => L k y (i : Int)) r)
    (he : ∀ y : List α, y.length = x.length → Ev (fun k => L k y (x.length : Int)) y) :
    ∀ (d i : Nat) (y : List α), i + d = x.length → y.length = x.length → y.take i = x.take i → Ev (fun k => L k y (i : Int)) x
  | 0, i, y, hd, hl, ht => by
    have hi : i = x.length := by omega
    subst hi
    have hy : y = x := by
      have h3 : y.take x.length = y := List.take_of_length_le (by omega)
      rw [h3, List.take_length] at ht
      exact ht
    exact ev_to (he y hl) hy
  | d + 1, i, y, hd, hl, ht =>
    hs i y x (by omega) hl (copy_loop x L hs he d (i + 1) _ (by omega) (by simpa using hl) (take_set_succ (by omega) hl ht))

/-- Marks: what a counter lays into a list from place i on. -/
def marks {α : Type} (m : Int → α) (c : Int) (n : Nat) : List α := (List.range n).map fun (j : Nat) => m (c + (j : Int))
theorem marks_succ {α : Type} (m : Int → α) (c : Int) (n : Nat) : marks m c (n + 1) = m c :: marks m (c + 1) n := by
  simp only [marks, List.range_succ_eq_map, List.map_cons, List.map_map]
  congr 1
  · simp
  · refine List.map_congr_left fun j _ => ?_
    simp only [Function.comp]
    congr 1
    omega
/-- A loop that lays marks. -/
theorem mark_loop {α : Type} (m : Int → α) (n : Nat) (L : Nat → List α → Int → Int → Option (Int × List α))
    (hs : ∀ (i : Nat) (y : List α) (c : Int) (r : Int × List α), i < n → y.length = n → 0 ≤ c → c ≤ 4611686018427387904 + (i : Int) → Ev (fun k => L k (y.set i (m c)) (c + 1) ((i + 1 : Nat) : Int)) r → Ev (fun k => L k y c (i : Int)) r)
    (he : ∀ (y : List α) (c : Int), y.length = n → Ev (fun k => L k y c (n : Int)) (c, y)) :
    ∀ (d i : Nat) (y : List α) (c : Int), i + d = n → y.length = n → 0 ≤ c → c ≤ 4611686018427387904 + (i : Int) → Ev (fun k => L k y c (i : Int)) (c + (d : Int), y.take i ++ marks m c d)
  | 0, i, y, c, hd, hl, h0, h1 => by
    have hi : i = n := by omega
    subst hi
    refine ev_to (he y c hl) ?_
    rw [List.take_of_length_le (by omega)]
    simp [marks]
  | d + 1, i, y, c, hd, hl, h0, h1 => by
    refine hs i y c _ (by omega) hl h0 h1 (ev_to (mark_loop m n L hs he d (i + 1) (y.set i (m c)) (c + 1) (by omega) (by simpa using hl) (by omega) (by omega)) ?_)
    rw [take_set_at (by omega), marks_succ]
    simp
    omega
/-- All are bytes. -/
def Bytes (l : List Int) : Prop := ∀ x ∈ l, 0 ≤ x ∧ x ≤ 255
theorem bytes_rd {l : List Int} (hb : Bytes l) (i : Int) : 0 ≤ rd l i ∧ rd l i ≤ 255 := by
  unfold rd
  rw [List.getD_eq_getElem?_getD]
  by_cases h : i.toNat < l.length
  · rw [List.getElem?_eq_getElem h]
    exact hb _ (List.getElem_mem h)
  · rw [List.getElem?_eq_none (by omega)]
    simp
end Go.Proofs.YtggokdobijhdhaaDoor.K
