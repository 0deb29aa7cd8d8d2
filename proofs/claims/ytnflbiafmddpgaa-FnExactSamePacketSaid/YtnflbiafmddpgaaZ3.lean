/- The path calculus, part 3: what stays known when the world and the state change. Plain theorems. -/
import Derived.Test.YtnflbiafmddpgaaZ2
namespace Go.Proofs.Ytnflbiafmddpgaa.Z
open Go.RowKit
set_option linter.unusedVariables false
set_option linter.unusedSimpArgs false
section
variable {T : Tys} {σ σ1 : St T} {env env1 : Nat → Value} {F F1 : Nat → Nat → Prop} {w w1 : World}
/-- The borrows that a cell, a slot tells. -/
def Cell.vers : Cell T → List (Nat × Nat)
  | .im (some p) _ _ => [p]
  | _ => []
def versOf : List (Cell T) → List (Nat × Nat)
  | [] => []
  | c :: r => c.vers ++ versOf r
def versTu : List (Bool × List (Cell T)) → List (Nat × Nat)
  | [] => []
  | c :: r => versOf c.2 ++ versTu r
def Slot.vers : Slot T → List (Nat × Nat)
  | .ud => []
  | .c x => x.vers
  | .ag l => versOf l
  | .tu l => versTu l
  | .pi (some p) _ _ _ _ => [p]
  | .pi none _ _ _ _ => []
  | .pe _ _ _ => []
/-- The world has grown; what no resource owned is as it was, and is still owned by none. -/
structure Calm (σ σ1 : St T) (F F1 : Nat → Nat → Prop) (w w1 : World) : Prop where
  acc : σ1.A = σ.A
  size : w.heap.size ≤ w1.heap.size
  st : ∀ k, k < w.heap.size → (∀ r, ¬ F r k) → (∀ r, ¬ F1 r k) ∧ w1.heap[k]? = w.heap[k]?
/-- The borrow q is as good as it was. -/
def Holds (σ σ1 : St T) (F F1 : Nat → Nat → Prop) (w w1 : World) (q : Nat × Nat) : Prop := σ1.live (some q) → σ.live (some q) ∧ ∀ k, F q.1 k → k < w.heap.size → F1 q.1 k ∧ w1.heap[k]? = w.heap[k]?
theorem rd_keep (hc : Calm σ σ1 F F1 w w1) {p : Option (Nat × Nat)} {x : V} {v : Value} (hq : ∀ q, p = some q → ∀ k, F q.1 k → k < w.heap.size → F1 q.1 k ∧ w1.heap[k]? = w.heap[k]?) (h : Rd T.sz w (okP σ.A F p) x v) : Rd T.sz w1 (okP σ1.A F1 p) x v := by
  have h2 := h.bound
  refine (h2.frame hc.size ?_).mono ?_
  · rintro k ⟨hk, _⟩ hlt
    rcases hk with ⟨ha, hk⟩ | ⟨q, hp, hk⟩
    · exact (hc.st k hlt hk).2
    · exact (hq q hp k hk hlt).2
  · rintro k ⟨hk, hlt⟩
    rcases hk with ⟨ha, hk⟩ | ⟨q, hp, hk⟩
    · exact .inl ⟨by rw [hc.acc]; exact ha, (hc.st k hlt hk).1⟩
    · exact .inr ⟨q, hp, (hq q hp k hk hlt).1⟩
theorem cell_keep (hc : Calm σ σ1 F F1 w w1) {c : Cell T} {v : Value} (h : CellRel σ env F w c v) (he : ∀ r ∈ c.refs, env1 r = env r) (hv : ∀ q ∈ c.vers, Holds σ σ1 F F1 w w1 q) : CellRel σ1 env1 F1 w1 c v := by
  cases c with
  | un => trivial
  | sc v' => exact h
  | im p e l =>
    refine ⟨h.1, fun hl => ?_⟩
    cases p with
    | none => exact rd_keep hc (fun q hq => by cases hq) (h.2 trivial)
    | some q =>
      have h1 := hv q (by simp [Cell.vers]) hl
      exact rd_keep hc (fun q' hq => by cases hq; exact h1.2) (h.2 h1.1)
  | hd r => exact ⟨h.1.trans (he r (by simp [Cell.refs])).symm, h.2⟩
  | px r o =>
    obtain ⟨g, h1, h2⟩ := h
    exact ⟨g, (he r (by simp [Cell.refs])).trans h1, h2⟩
theorem cells_keep (hc : Calm σ σ1 F F1 w w1) : ∀ {cs : List (Cell T)} {vs : List Value}, CellsRel σ env F w cs vs → (∀ r ∈ refsOf cs, env1 r = env r) → (∀ q ∈ versOf cs, Holds σ σ1 F F1 w w1 q) → CellsRel σ1 env1 F1 w1 cs vs
  | [], _, h, _, _ => h
  | c :: cs, _, ⟨v, r, e, h1, h2⟩, he, hv => ⟨v, r, e, cell_keep hc h1 (fun r hr => he r (List.mem_append_left _ hr)) (fun q hq => hv q (List.mem_append_left _ hq)), cells_keep hc h2 (fun r hr => he r (List.mem_append_right _ hr)) (fun q hq => hv q (List.mem_append_right _ hq))⟩
theorem item_keep (hc : Calm σ σ1 F F1 w w1) {it : Bool × List (Cell T)} {v : Value} (h : ItemRel σ env F w it v) (he : ∀ r ∈ refsOf it.2, env1 r = env r) (hv : ∀ q ∈ versOf it.2, Holds σ σ1 F F1 w w1 q) : ItemRel σ1 env1 F1 w1 it v := by
  obtain ⟨b, cs⟩ := it
  cases b with
  | true => obtain ⟨us, e, h⟩ := h; exact ⟨us, e, cells_keep hc h he hv⟩
  | false => exact cells_keep (vs := [v]) hc h he hv
theorem items_keep (hc : Calm σ σ1 F F1 w w1) : ∀ {cs : List (Bool × List (Cell T))} {vs : List Value}, ItemsRel σ env F w cs vs → (∀ r ∈ refsTu cs, env1 r = env r) → (∀ q ∈ versTu cs, Holds σ σ1 F F1 w w1 q) → ItemsRel σ1 env1 F1 w1 cs vs
  | [], _, h, _, _ => h
  | c :: cs, _, ⟨v, r, e, h1, h2⟩, he, hv => ⟨v, r, e, item_keep hc h1 (fun r hr => he r (List.mem_append_left _ hr)) (fun q hq => hv q (List.mem_append_left _ hq)), items_keep hc h2 (fun r hr => he r (List.mem_append_right _ hr)) (fun q hq => hv q (List.mem_append_right _ hq))⟩
/-- A pointer to an element of r is as good as it was. -/
def HoldsE (σ σ1 : St T) (r : Nat) : Prop := ∀ bv e l, σ1.res r = .row bv e l → ∃ bv0 l0, σ.res r = .row bv0 e l0 ∧ l0.length = l.length
theorem slot_keep (hc : Calm σ σ1 F F1 w w1) {s : Slot T} {v : Value} (h : SlotRel σ env F w s v) (he : ∀ r ∈ s.refs, env1 r = env r) (hv : ∀ q ∈ s.vers, Holds σ σ1 F F1 w w1 q) (hp : ∀ r i o, s = .pe r i o → HoldsE σ σ1 r) : SlotRel σ1 env1 F1 w1 s v := by
  cases s with
  | ud => exact h
  | c x => exact cell_keep hc h he hv
  | ag l => obtain ⟨us, e, h⟩ := h; exact ⟨us, e, cells_keep hc h he hv⟩
  | tu l => obtain ⟨us, e, h⟩ := h; exact ⟨us, e, items_keep hc h he hv⟩
  | pi p e l i o =>
    obtain ⟨hi, ad, hv', h⟩ := h
    refine ⟨hi, ad, hv', fun hl => ?_⟩
    cases p with
    | none =>
      obtain ⟨c, h⟩ := h trivial
      exact ⟨c, rd_keep hc (fun q hq => by cases hq) h⟩
    | some q =>
      have h1 := hv q (by simp [Slot.vers]) hl
      obtain ⟨c, h⟩ := h h1.1
      exact ⟨c, rd_keep hc (fun q' hq => by cases hq; exact h1.2) h⟩
  | pe r i o =>
    intro bv e l hr
    obtain ⟨bv0, l0, h0, hl⟩ := hp r i o rfl bv e l hr
    obtain ⟨hi, g, c, h1, h2⟩ := h bv0 e l0 h0
    exact ⟨hl ▸ hi, g, c, by rw [he r (by simp [Slot.refs]), h1, hl], h2⟩
/-- One that is as it was. -/
structure Same (σ σ1 : St T) (env env1 : Nat → Value) (F F1 : Nat → Nat → Prop) (w w1 : World) (r : Nat) : Prop where
  env : env1 r = env r
  own : ∀ k, F1 r k ↔ F r k
  res : σ1.res r = σ.res r
  heap : ∀ k, F r k → w1.heap[k]? = w.heap[k]?
theorem Same.holds {q : Nat × Nat} (h : Same σ σ1 env env1 F F1 w w1 q.1) : Holds σ σ1 F F1 w w1 q := by
  rintro ⟨e, l, hl⟩
  exact ⟨⟨e, l, h.res.symm.trans hl⟩, fun k hk _ => ⟨(h.own k).2 hk, h.heap k hk⟩⟩
theorem Same.holdsE {r : Nat} (h : Same σ σ1 env env1 F F1 w w1 r) : HoldsE σ σ1 r := fun bv e l hr => ⟨bv, l, h.res.symm.trans hr, rfl⟩
/-- Each of the cells that are told of is as it was, or of a resource with these. -/
def Fine (σ σ1 : St T) (env env1 : Nat → Value) (F F1 : Nat → Nat → Prop) (w w1 : World) (rs : List Nat) (vs : List (Nat × Nat)) : Prop := (∀ r ∈ rs, env1 r = env r) ∧ ∀ q ∈ vs, Holds σ σ1 F F1 w w1 q
theorem res_keep (hc : Calm σ σ1 F F1 w w1) {r : Nat} (hs : Same σ σ1 env env1 F F1 w w1 r) {x : Res T} (h : ResRel σ env F w r x) (hf : ∀ t cs, x = .bx t cs → Fine σ σ1 env env1 F F1 w w1 (refsOf cs) (versOf cs)) : ResRel σ1 env1 F1 w1 r x := by
  cases x with
  | no => exact fun k hk => h k ((hs.own k).1 hk)
  | bx t cs =>
    obtain ⟨g, arr, h1, h2, h3, h4, h5⟩ := h
    obtain ⟨f1, f2⟩ := hf t cs rfl
    exact ⟨g, arr, hs.env.trans h1, (hs.own g).2 h2, fun k hk => h3 k ((hs.own k).1 hk), (hs.heap g h2).trans h4, cells_keep hc h5 f1 f2⟩
  | row bv e l =>
    have h1 : Ow T.sz w (F r) (.sl e (l.map (T.enc e))) (env r) := h
    have h2 := (h1.frame (w' := w1) (fun k hk _ => hs.heap k hk)).mono (fun k hk => (hs.own k).2 hk)
    show Ow T.sz w1 (F1 r) (.sl e (l.map (T.enc e))) (env1 r)
    rw [hs.env]; exact h2
theorem vers_refs {c : Cell T} {q : Nat × Nat} (h : q ∈ c.vers) : q.1 ∈ c.refs ∧ q.2 ∈ c.refs := by
  cases c with
  | im p e l => cases p <;> simp [Cell.vers, Cell.refs] at *; subst h; simp
  | _ => simp [Cell.vers] at h
theorem versOf_refs2 {q : Nat × Nat} : ∀ {cs : List (Cell T)}, q ∈ versOf cs → q.1 ∈ refsOf cs ∧ q.2 ∈ refsOf cs
  | [], h => by simp [versOf] at h
  | c :: cs, h => by
    rcases List.mem_append.1 h with h | h
    · exact ⟨List.mem_append_left _ (vers_refs h).1, List.mem_append_left _ (vers_refs h).2⟩
    · exact ⟨List.mem_append_right _ (versOf_refs2 h).1, List.mem_append_right _ (versOf_refs2 h).2⟩
theorem versOf_refs {q : Nat × Nat} {cs : List (Cell T)} (h : q ∈ versOf cs) : q.1 ∈ refsOf cs := (versOf_refs2 h).1
theorem versTu_refs2 {q : Nat × Nat} : ∀ {cs : List (Bool × List (Cell T))}, q ∈ versTu cs → q.1 ∈ refsTu cs ∧ q.2 ∈ refsTu cs
  | [], h => by simp [versTu] at h
  | c :: cs, h => by
    rcases List.mem_append.1 h with h | h
    · exact ⟨List.mem_append_left _ (versOf_refs2 h).1, List.mem_append_left _ (versOf_refs2 h).2⟩
    · exact ⟨List.mem_append_right _ (versTu_refs2 h).1, List.mem_append_right _ (versTu_refs2 h).2⟩
theorem versS_refs2 {s : Slot T} {q : Nat × Nat} (h : q ∈ s.vers) : q.1 ∈ s.refs ∧ q.2 ∈ s.refs := by
  cases s with
  | ud => simp [Slot.vers] at h
  | c x => exact vers_refs h
  | ag l => exact versOf_refs2 h
  | tu l => exact versTu_refs2 h
  | pi p e l i o => cases p <;> simp [Slot.vers, Slot.refs] at *; subst h; simp
  | pe r i o => simp [Slot.vers] at h
theorem versS_refs {s : Slot T} {q : Nat × Nat} (h : q ∈ s.vers) : q.1 ∈ s.refs := (versS_refs2 h).1
end
end Go.Proofs.Ytnflbiafmddpgaa.Z
