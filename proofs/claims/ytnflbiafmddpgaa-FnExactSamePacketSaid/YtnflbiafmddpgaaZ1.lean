/- The path calculus, part 1: deep values, reading them out of a world, owning them; what a world's change leaves. Plain theorems. -/
import Derived.OrdersHeld
import Derived.Deep.RegionHeld3
import Derived.Laws.BitsLemmas
import Derived.RowKit
import Derived.Below
import Derived.Laws.AppendOwn
import Derived.Laws.OwnMore
import Derived.Laws.MakeOwn
namespace Go.Proofs.Ytnflbiafmddpgaa.Z
open Go.RowKit
set_option linter.unusedVariables false
set_option linter.unusedSimpArgs false
/-- A deep value's cell: a value of one cell as it is, or a slice's elements (each a row of cells). -/
inductive V where
  | sc (v : Value)
  | sl (e : Nat) (xs : List (List V))
section
variable {sz : Nat → Nat} {w w' : World} {P P' : Nat → Prop} {x : V} {v : Value}
/-- v reads as x in w; all memory met satisfies P. -/
inductive Rd (sz : Nat → Nat) (w : World) (P : Nat → Prop) : V → Value → Prop
  | sc (v : Value) (h : v.oneCell' = true) : Rd sz w P (.sc v) v
  | nil (e : Nat) (A : Option Addr) (c : Nat) : Rd sz w P (.sl e []) (.slice A 0 c)
  | sl (e : Nat) (xs : List (List V)) (ad : Addr) (c : Nat) (f : Nat → Nat → Value) (hc : xs.length ≤ c) (hp : P ad.block) (hlt : ad.block < w.heap.size)
      (hs : ∀ (j : Nat) (l : List V), xs[j]? = some l → l.length = sz e)
      (hcell : ∀ (j : Nat) (l : List V) (q : Nat) (x : V), xs[j]? = some l → l[q]? = some x → w.cell? (ad.add (j * sz e + q)) = some (f j q))
      (hr : ∀ (j : Nat) (l : List V) (q : Nat) (x : V), xs[j]? = some l → l[q]? = some x → Rd sz w P x (f j q)) : Rd sz w P (.sl e xs) (.slice (some ad) xs.length c)
theorem Rd.mono (h : Rd sz w P x v) (hp : ∀ k, P k → P' k) : Rd sz w P' x v := by
  induction h with
  | sc v h => exact .sc v h
  | nil e A c => exact .nil e A c
  | sl e xs ad c f hc h1 hlt hs hcell hr ih => exact .sl e xs ad c f hc (hp _ h1) hlt hs hcell ih
theorem Rd.bound (h : Rd sz w P x v) : Rd sz w (fun k => P k ∧ k < w.heap.size) x v := by
  induction h with
  | sc v h => exact .sc v h
  | nil e A c => exact .nil e A c
  | sl e xs ad c f hc h1 hlt hs hcell hr ih => exact .sl e xs ad c f hc ⟨h1, hlt⟩ hlt hs hcell ih
theorem Rd.frame (h : Rd sz w P x v) (hsz : w.heap.size ≤ w'.heap.size) (hf : ∀ k, P k → k < w.heap.size → w'.heap[k]? = w.heap[k]?) : Rd sz w' P x v := by
  induction h with
  | sc v h => exact .sc v h
  | nil e A c => exact .nil e A c
  | sl e xs ad c f hc h1 hlt hs hcell hr ih =>
    refine .sl e xs ad c f hc h1 (Nat.lt_of_lt_of_le hlt hsz) hs (fun j l q x hj hq => ?_) ih
    have h2 := hcell j l q x hj hq
    have h3 : (ad.add (j * sz e + q)).block = ad.block := by unfold Addr.add; split <;> rfl
    have h4 := World.block_lt_of_cell? w _ h2
    rw [h3] at h4
    exact (World.cell?_of_block (w := w) (by rw [h3]; exact hf _ h1 h4)).trans h2
theorem Rd.one (h : Rd sz w P x v) : v.oneCell' = true := by cases h <;> first | assumption | rfl
theorem Rd.slice {e : Nat} {xs : List (List V)} (h : Rd sz w P (.sl e xs) v) : ∃ A c, v = .slice A xs.length c ∧ xs.length ≤ c := by
  cases h with
  | nil e A c => exact ⟨A, c, rfl, Nat.zero_le _⟩
  | sl e xs ad c f hc hp hlt hs hcell hr => exact ⟨some ad, c, rfl, hc⟩
/-- An element. -/
theorem Rd.elem {e : Nat} {xs : List (List V)} (h : Rd sz w P (.sl e xs) v) {j : Nat} {l : List V} (hj : xs[j]? = some l) :
    ∃ ad c, v = .slice (some ad) xs.length c ∧ P ad.block ∧ ad.block < w.heap.size ∧ xs.length ≤ c ∧ l.length = sz e ∧ ∀ q x, l[q]? = some x → ∃ u, w.cell? (ad.add (j * sz e + q)) = some u ∧ Rd sz w P x u := by
  cases h with
  | nil e A c => simp at hj
  | sl e xs ad c f hc hp hlt hs hcell hr => exact ⟨ad, c, rfl, hp, hlt, hc, hs j l hj, fun q x hq => ⟨f j q, hcell j l q x hj hq, hr j l q x hj hq⟩⟩
/-- v is x, and all its rows are blocks of F, each row another block. -/
inductive Ow (sz : Nat → Nat) (w : World) : (Nat → Prop) → V → Value → Prop
  | sc (F : Nat → Prop) (v : Value) (h : v.oneCell' = true) : Ow sz w F (.sc v) v
  | nil (F : Nat → Prop) (e : Nat) : Ow sz w F (.sl e []) (.slice none 0 0)
  | sl (F : Nat → Prop) (e : Nat) (xs : List (List V)) (g cap : Nat) (cur : Array Value) (f : Nat → Nat → Value) (G : Nat → Nat → Nat → Prop)
      (hg : w.heap[g]? = some (.cells cur e (0, 0))) (hF : F g) (hn : xs.length ≤ cap) (hm : cap ≤ maxLen) (hz : cur.size = cap * sz e)
      (hs : ∀ (j : Nat) (l : List V), xs[j]? = some l → l.length = sz e)
      (hcell : ∀ (j : Nat) (l : List V) (q : Nat) (x : V), xs[j]? = some l → l[q]? = some x → cur[j * sz e + q]? = some (f j q))
      (hr : ∀ (j : Nat) (l : List V) (q : Nat) (x : V), xs[j]? = some l → l[q]? = some x → Ow sz w (G j q) x (f j q))
      (hG : ∀ j q k, G j q k → F k ∧ k ≠ g) (hd : ∀ j q j' q' k, G j q k → G j' q' k → j = j' ∧ q = q') : Ow sz w F (.sl e xs) (.slice (some ⟨g, 0, none⟩) xs.length cap)
variable {F F' : Nat → Prop}
theorem Ow.mono (h : Ow sz w F x v) : ∀ {F' : Nat → Prop}, (∀ k, F k → F' k) → Ow sz w F' x v := by
  induction h with
  | sc F v h => exact fun _ => .sc _ v h
  | nil F e => exact fun _ => .nil _ e
  | sl F e xs g cap cur f G hg hF hn hm hz hs hcell hr hG hd ih =>
    intro F' hp
    exact .sl F' e xs g cap cur f G hg (hp _ hF) hn hm hz hs hcell hr (fun j q k hk => ⟨hp _ (hG j q k hk).1, (hG j q k hk).2⟩) hd
theorem Ow.frame (h : Ow sz w F x v) (hf : ∀ k, F k → k < w.heap.size → w'.heap[k]? = w.heap[k]?) : Ow sz w' F x v := by
  induction h with
  | sc F v h => exact .sc _ v h
  | nil F e => exact .nil _ e
  | sl F e xs g cap cur f G hg hF hn hm hz hs hcell hr hG hd ih =>
    have hlt : g < w.heap.size := (Array.getElem?_eq_some_iff.1 hg).1
    exact .sl F e xs g cap cur f G ((hf g hF hlt).trans hg) hF hn hm hz hs hcell (fun j l q x hj hq => ih j l q x hj hq (fun k hk hl => hf k (hG j q k hk).1 hl)) hG hd
/-- The blocks that it needs are there. -/
theorem Ow.bound (h : Ow sz w F x v) : Ow sz w (fun k => F k ∧ k < w.heap.size) x v := by
  induction h with
  | sc F v h => exact .sc _ v h
  | nil F e => exact .nil _ e
  | sl F e xs g cap cur f G hg hF hn hm hz hs hcell hr hG hd ih =>
    have hlt : g < w.heap.size := (Array.getElem?_eq_some_iff.1 hg).1
    exact .sl _ e xs g cap cur f (fun j q k => G j q k ∧ k < w.heap.size) hg ⟨hF, hlt⟩ hn hm hz hs hcell ih (fun j q k hk => ⟨⟨(hG j q k hk.1).1, hk.2⟩, (hG j q k hk.1).2⟩) (fun j q j' q' k h1 h2 => hd j q j' q' k h1.1 h2.1)
theorem Ow.one (h : Ow sz w F x v) : v.oneCell' = true := by cases h <;> first | assumption | rfl
theorem Ow.form {e : Nat} {xs : List (List V)} (h : Ow sz w F (.sl e xs) v) : (xs = [] ∧ v = .slice none 0 0) ∨ ∃ g cap cur, v = .slice (some ⟨g, 0, none⟩) xs.length cap ∧ F g ∧ w.heap[g]? = some (.cells cur e (0, 0)) ∧ xs.length ≤ cap ∧ cap ≤ maxLen ∧ cur.size = cap * sz e := by
  cases h with
  | nil F e => exact .inl ⟨rfl, rfl⟩
  | sl F e xs g cap cur f G hg hF hn hm hz hs hcell hr hG hd => exact .inr ⟨g, cap, cur, rfl, hF, hg, hn, hm, hz⟩
theorem cell_blk {g o : Nat} {cur : Array Value} {e : Nat} {fr : Nat × Nat} (h : w.heap[g]? = some (.cells cur e fr)) : w.cell? ((⟨g, 0, none⟩ : Addr).add o) = cur[o]? := by
  have : (⟨g, 0, none⟩ : Addr).add o = ⟨g, o, none⟩ := by unfold Addr.add; split <;> simp_all
  rw [this]; simp [World.cell?, h]
/-- What is owned can be read. -/
theorem Ow.rd (h : Ow sz w F x v) : Rd sz w F x v := by
  induction h with
  | sc F v h => exact .sc v h
  | nil F e => exact .nil e none 0
  | sl F e xs g cap cur f G hg hF hn hm hz hs hcell hr hG hd ih =>
    refine .sl e xs ⟨g, 0, none⟩ cap f hn hF (Array.getElem?_eq_some_iff.1 hg).1 hs (fun j l q x hj hq => ?_) (fun j l q x hj hq => (ih j l q x hj hq).mono (fun k hk => (hG j q k hk).1))
    rw [cell_blk hg]; exact hcell j l q x hj hq
end
end Go.Proofs.Ytnflbiafmddpgaa.Z
