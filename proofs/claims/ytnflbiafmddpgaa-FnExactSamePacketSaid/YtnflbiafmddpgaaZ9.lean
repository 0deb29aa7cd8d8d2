/- The path calculus, part 9: calls. -/
import Derived.Test.YtnflbiafmddpgaaZ8
namespace Go.Proofs.Ytnflbiafmddpgaa.Z
open Go.RowKit
set_option linter.unusedVariables false
set_option linter.unusedSimpArgs false
section
variable {T : Tys} {P : Program} {W0 : World} {σ σ' σ1 : St T} {a : Act} {w w1 : World} {env env1 : Nat → Value} {F F1 : Nat → Nat → Prop} {o : Oper} {tch chg : List Nat}
/-! ### what is handed over -/
def argC (σ : St T) : Cell T → Option (C0 T.Tb × List (Nat × Nat))
  | .sc v => some (.sc v, [])
  | .im none e l => some (.sl e l, [])
  | .im (some q) e l => match liveB σ (some q) with
    | true => some (.sl e l, [q])
    | false => none
  | .hd r => match σ.res r with
    | .row bv e l => some (.sl e l, [(r, bv)])
    | _ => none
  | _ => none
def argCs (σ : St T) : List (Cell T) → Option (List (C0 T.Tb) × List (Nat × Nat))
  | [] => some ([], [])
  | c :: cs => match argC σ c with
    | some (x, p) => match argCs σ cs with
      | some (xs, ps) => some (x :: xs, p ++ ps)
      | none => none
    | none => none
def argS (σ : St T) : Slot T → Option (Arg T.Tb × List (Nat × Nat))
  | .c x => match argC σ x with
    | some (y, p) => some (.c y, p)
    | none => none
  | .ag l => match argCs σ l with
    | some (y, p) => some (.ag y, p)
    | none => none
  | _ => none
def argsS (σ : St T) : List (Slot T) → Option (List (Arg T.Tb) × List (Nat × Nat))
  | [] => some ([], [])
  | c :: cs => match argS σ c with
    | some (x, p) => match argsS σ cs with
      | some (xs, ps) => some (x :: xs, p ++ ps)
      | none => none
    | none => none
/-- What a callee may read: what none owns, and the rows that are lent. -/
def lent (A : Nat → Prop) (F : Nat → Nat → Prop) (ps : List (Nat × Nat)) (k : Nat) : Prop := (A k ∧ ∀ r, ¬ F r k) ∨ ∃ q ∈ ps, F q.1 k
theorem argC_rel {ts : List Nat} (h : Sim0 W0 σ' a w env F) (hA : Agree σ σ' ts tch chg) {c : Cell T} {v : Value} (hc : CellRel σ' env F w c v) {x : C0 T.Tb} {ps : List (Nat × Nat)} (hx : argC σ c = some (x, ps)) (hp : ∀ q ∈ ps, q.1 ∈ tch) : ArgCell w (lent σ'.A F ps) x v := by
  unfold argC at hx
  split at hx
  · cases hx; exact hc
  · cases hx
    exact (hc.2 trivial).mono (fun k hk => hk.elim .inl (fun ⟨q, hq, _⟩ => by cases hq))
  · rename_i q e l
    cases hl : liveB σ (some q) <;> rw [hl] at hx <;> cases hx
    obtain ⟨e', l', hl'⟩ := liveB_spec hl
    have h1 : σ'.live (some q) := ⟨e', l', by rw [hA.res q.1 (hp q (by simp))]; exact hl'⟩
    exact (hc.2 h1).mono (fun k hk => hk.elim .inl (fun ⟨q', hq, hk⟩ => by cases hq; exact .inr ⟨q, by simp, hk⟩))
  · rename_i r
    cases hr : σ.res r with
    | row bv e l =>
      rw [hr] at hx
      cases hx
      have h1 := h.res r
      rw [hA.res r (hp (r, bv) (by simp)), hr] at h1
      have h2 := (Ow.rd h1).mono (P' := lent σ'.A F [(r, bv)]) (fun k hk => .inr ⟨(r, bv), by simp, hk⟩)
      rw [← hc.1] at h2
      exact h2
    | no => rw [hr] at hx; cases hx
    | bx t cs => rw [hr] at hx; cases hx
  · cases hx
theorem argCell_mono {S S' : Nat → Prop} {x : C0 T.Tb} {v : Value} (h : ArgCell w S x v) (hS : ∀ k, S k → S' k) : ArgCell w S' x v := by
  cases x with
  | sc v' => exact h
  | sl e l => exact Rd.mono h hS
theorem argCells_mono {S S' : Nat → Prop} (hS : ∀ k, S k → S' k) : ∀ {x : List (C0 T.Tb)} {v : List Value}, ArgCells w S x v → ArgCells w S' x v
  | [], _, h => h
  | c :: cs, _, ⟨v, r, e, h1, h2⟩ => ⟨v, r, e, argCell_mono h1 hS, argCells_mono hS h2⟩
theorem argRel_mono {S S' : Nat → Prop} {x : Arg T.Tb} {v : Value} (h : ArgRel w S x v) (hS : ∀ k, S k → S' k) : ArgRel w S' x v := by
  cases x with
  | c x => exact argCell_mono h hS
  | ag l => obtain ⟨us, e, h⟩ := h; exact ⟨us, e, argCells_mono hS h⟩
theorem argsRel_mono {S S' : Nat → Prop} (hS : ∀ k, S k → S' k) : ∀ {x : List (Arg T.Tb)} {v : List Value}, ArgsRel w S x v → ArgsRel w S' x v
  | [], _, h => h
  | c :: cs, _, ⟨v, r, e, h1, h2⟩ => ⟨v, r, e, argRel_mono h1 hS, argsRel_mono hS h2⟩
theorem lent_app {A : Nat → Prop} {p q : List (Nat × Nat)} {k : Nat} : (lent A F p k → lent A F (p ++ q) k) ∧ (lent A F q k → lent A F (p ++ q) k) :=
  ⟨fun h => h.imp id (fun ⟨x, hx, hk⟩ => ⟨x, List.mem_append_left _ hx, hk⟩), fun h => h.imp id (fun ⟨x, hx, hk⟩ => ⟨x, List.mem_append_right _ hx, hk⟩)⟩
theorem argCs_rel {ts : List Nat} (h : Sim0 W0 σ' a w env F) (hA : Agree σ σ' ts tch chg) : ∀ {cs : List (Cell T)} {vs : List Value} {xs : List (C0 T.Tb)} {ps : List (Nat × Nat)}, CellsRel σ' env F w cs vs → argCs σ cs = some (xs, ps) → (∀ q ∈ ps, q.1 ∈ tch) → ArgCells w (lent σ'.A F ps) xs vs
  | [], _, _, _, hc, hx, _ => by cases hx; exact hc
  | c :: cs, _, _, _, ⟨v, r, e, h1, h2⟩, hx, hp => by
    unfold argCs at hx
    cases h3 : argC σ c with
    | none => rw [h3] at hx; cases hx
    | some xp =>
      obtain ⟨x, p⟩ := xp
      rw [h3] at hx
      dsimp only at hx
      cases h4 : argCs σ cs with
      | none => rw [h4] at hx; cases hx
      | some xp2 =>
        obtain ⟨xs, p2⟩ := xp2
        rw [h4] at hx
        cases hx
        exact ⟨v, r, e, argCell_mono (argC_rel h hA h1 h3 (fun q hq => hp q (List.mem_append_left _ hq))) (fun k => lent_app.1), argCells_mono (fun k => lent_app.2) (argCs_rel h hA h2 h4 (fun q hq => hp q (List.mem_append_right _ hq)))⟩
theorem argS_rel {ts : List Nat} (h : Sim0 W0 σ' a w env F) (hA : Agree σ σ' ts tch chg) {c : Slot T} {v : Value} (hc : SlotRel σ' env F w c v) {x : Arg T.Tb} {ps : List (Nat × Nat)} (hx : argS σ c = some (x, ps)) (hp : ∀ q ∈ ps, q.1 ∈ tch) : ArgRel w (lent σ'.A F ps) x v := by
  unfold argS at hx
  split at hx
  · rename_i y
    cases h3 : argC σ y with
    | none => rw [h3] at hx; cases hx
    | some xp => obtain ⟨z, p⟩ := xp; rw [h3] at hx; cases hx; exact argC_rel h hA hc h3 hp
  · rename_i y
    cases h3 : argCs σ y with
    | none => rw [h3] at hx; cases hx
    | some xp => obtain ⟨z, p⟩ := xp; rw [h3] at hx; cases hx; obtain ⟨us, e, hc⟩ := hc; exact ⟨us, e, argCs_rel h hA hc h3 hp⟩
  · cases hx
def evL (σ : St T) : List Operand → List (Slot T)
  | [] => []
  | x :: l => evS σ x :: evL σ l
theorem argsS_rel (h : Sim0 W0 σ' a w env F) (hA : Agree σ σ' (opTmps o.op) tch chg) : ∀ {xs : List Operand} {as : List (Arg T.Tb)} {ps : List (Nat × Nat)}, (∀ x ∈ xs, x ∈ o.op.operands.toList) → argsS σ (evL σ xs) = some (as, ps) → (∀ q ∈ ps, q.1 ∈ tch) → ArgsRel w (lent σ'.A F ps) as (xs.map a.eval)
  | [], _, _, _, hx, _ => by cases hx; rfl
  | x :: xs, _, _, ho, hx, hp => by
    unfold evL argsS at hx
    cases h3 : argS σ (evS σ x) with
    | none => rw [h3] at hx; cases hx
    | some xp =>
      obtain ⟨y, p⟩ := xp
      rw [h3] at hx
      dsimp only at hx
      cases h4 : argsS σ (evL σ xs) with
      | none => rw [h4] at hx; cases hx
      | some xp2 =>
        obtain ⟨ys, p2⟩ := xp2
        rw [h4] at hx
        cases hx
        exact ⟨_, _, rfl, argRel_mono (argS_rel h hA (ev_rel h hA (ho x List.mem_cons_self)) h3 (fun q hq => hp q (List.mem_append_left _ hq))) (fun k => lent_app.1),
          argsRel_mono (fun k => lent_app.2) (argsS_rel h hA (fun y hy => ho y (List.mem_cons_of_mem _ hy)) h4 (fun q hq => hp q (List.mem_append_right _ hq)))⟩
/-! ### what comes back -/
/-- Of whom what is read of a result is borrowed: none, or one row alone. -/
def oneOf : List (Nat × Nat) → Option (Option (Nat × Nat))
  | [] => some none
  | q :: r => match oneOf r with
    | some none => some (some q)
    | some (some q') => match Nat.beq q.1 q'.1 with
      | true => match Nat.beq q.2 q'.2 with
        | true => some (some q)
        | false => none
      | false => none
    | none => none
theorem oneOf_lent {A : Nat → Prop} : ∀ {ps : List (Nat × Nat)} {p : Option (Nat × Nat)}, oneOf ps = some p → ∀ k, lent A F ps k → okP A F p k
  | [], _, h, k, hk => by
    cases h
    rcases hk with hk | ⟨q, hq, _⟩
    · exact .inl hk
    · cases hq
  | q :: r, p, h, k, hk => by
    unfold oneOf at h
    cases h1 : oneOf r with
    | none => rw [h1] at h; cases h
    | some p' =>
      rw [h1] at h
      have ih := fun hk : lent A F r k => oneOf_lent h1 k hk
      rcases hk with hk | ⟨x, hx, hk⟩
      · exact .inl hk
      · cases p' with
        | none =>
          cases h
          rcases List.mem_cons.1 hx with rfl | hx
          · exact .inr ⟨x, rfl, hk⟩
          · rcases ih (.inr ⟨x, hx, hk⟩) with h2 | ⟨q', hq, _⟩
            · exact .inl h2
            · cases hq
        | some q' =>
          dsimp only at h
          cases e1 : Nat.beq q.1 q'.1 <;> rw [e1] at h <;> dsimp only at h
          · cases h
          cases e2 : Nat.beq q.2 q'.2 <;> rw [e2] at h <;> cases h
          have e3 := Nat.eq_of_beq_eq_true e1
          rcases List.mem_cons.1 hx with rfl | hx
          · exact .inr ⟨x, rfl, hk⟩
          · rcases ih (.inr ⟨x, hx, hk⟩) with h2 | ⟨q'', hq, h3⟩
            · exact .inl h2
            · cases hq; exact .inr ⟨q, rfl, by rw [e3]; exact h3⟩
def resCell (nx : Nat) (p : Option (Nat × Nat)) (i : Nat) : R0 T.Tb → Cell T
  | .sc v => .sc v
  | .ow e l => .hd (nx + i)
  | .im e l => .im p e l
def resCells (nx : Nat) (p : Option (Nat × Nat)) : Nat → List (R0 T.Tb) → List (Cell T)
  | _, [] => []
  | i, x :: l => resCell nx p i x :: resCells nx p (i + 1) l
def resItems (nx : Nat) (p : Option (Nat × Nat)) : Nat → List (Bool × List (R0 T.Tb)) → List (Bool × List (Cell T))
  | _, [] => []
  | i, it :: l => (it.1, resCells nx p i it.2) :: resItems nx p (i + it.2.length) l
def resSlot (nx : Nat) (p : Option (Nat × Nat)) : RS T.Tb → Slot T
  | .c x => .c (resCell nx p 0 x)
  | .ag l => .ag (resCells nx p 0 l)
  | .tu l => .tu (resItems nx p 0 l)
def resRs (nx : Nat) : Nat → List (R0 T.Tb) → List (Nat × Res T)
  | _, [] => []
  | i, .ow e l :: r => (nx + i, .row (nx + i) e l) :: resRs nx (i + 1) r
  | i, _ :: r => resRs nx (i + 1) r
def hasIm : List (R0 T.Tb) → Bool
  | [] => false
  | .im _ _ :: _ => true
  | _ :: r => hasIm r
def freshN (σ : St T) (nx : Nat) : Nat → Bool
  | 0 => true
  | n + 1 => match σ.fresh (nx + n) with
    | true => freshN σ nx n
    | false => false
def ids (nx : Nat) : Nat → List Nat
  | 0 => []
  | n + 1 => (nx + n) :: ids nx n
def fsts : List (Nat × Nat) → List Nat
  | [] => []
  | q :: r => q.1 :: fsts r
/-- The state behind a call. -/
def callUpd (σ : St T) (nx : Nat) (dst : Option Nat) (ps : List (Nat × Nat)) (res : RS T.Tb) : Option (Upd T) :=
  match dstOk σ dst with
  | true => match freshN σ nx res.flat.length with
    | true => match hasIm res.flat with
      | true => match oneOf ps with
        | some p => some ⟨resSlot nx p res, resRs nx 0 res.flat, ids nx res.flat.length ++ (fsts ps ++ (resSlot nx p res).refs), res.flat.length, ids nx res.flat.length⟩
        | none => none
      | false => some ⟨resSlot nx none res, resRs nx 0 res.flat, ids nx res.flat.length ++ (fsts ps ++ (resSlot nx (none : Option (Nat × Nat)) res).refs), res.flat.length, ids nx res.flat.length⟩
    | false => none
  | false => none
theorem mem_ids {nx r : Nat} : ∀ {n : Nat}, r ∈ ids nx n ↔ nx ≤ r ∧ r < nx + n
  | 0 => by simp [ids] <;> omega
  | n + 1 => by
    simp only [ids, List.mem_cons, mem_ids (n := n)]
    omega
theorem freshN_spec {nx : Nat} : ∀ {n : Nat}, freshN σ nx n = true → ∀ r, nx ≤ r → r < nx + n → σ.fresh r = true
  | 0, _, r, h1, h2 => by omega
  | n + 1, h, r, h1, h2 => by
    unfold freshN at h
    cases hf : σ.fresh (nx + n) <;> rw [hf] at h <;> dsimp only at h
    · cases h
    by_cases e : r = nx + n
    · subst e; exact hf
    · exact freshN_spec h r h1 (by omega)
theorem mem_fsts {r : Nat} : ∀ {ps : List (Nat × Nat)}, r ∈ fsts ps ↔ ∃ q ∈ ps, q.1 = r
  | [] => by simp [fsts]
  | q :: ps => by simp [fsts, mem_fsts (ps := ps)]; exact or_congr ⟨fun h => h.symm, fun h => h.symm⟩ Iff.rfl
/-- Which of the results are owned. -/
def isOw : List (R0 T.Tb) → Nat → Bool
  | [], _ => false
  | .ow _ _ :: _, 0 => true
  | _ :: _, 0 => false
  | _ :: l, i + 1 => isOw l i
theorem resRs_look {nx : Nat} : ∀ {l : List (R0 T.Tb)} {i j : Nat} {d : Res T}, j < l.length → lk d (resRs nx i l) (nx + i + j) = match l[j]? with
    | some (.ow e x) => .row (nx + i + j) e x
    | _ => d
  | [], i, j, d, h => by simp at h
  | x :: l, i, 0, d, _ => by
    have hno : ∀ p ∈ resRs nx (i + 1) l, p.1 ≠ nx + i := by
      have key : ∀ (l : List (R0 T.Tb)) (m : Nat), ∀ p ∈ resRs nx m l, nx + m ≤ p.1 := by
        intro l
        induction l with
        | nil => intro m p hp; cases hp
        | cons y l ih =>
          intro m p hp
          cases y <;> simp only [resRs, List.mem_cons] at hp
          · have := ih (m + 1) p hp; omega
          · rcases hp with rfl | hp
            · simp
            · have := ih (m + 1) p hp; omega
          · have := ih (m + 1) p hp; omega
      intro p hp e
      have := key l (i + 1) p hp
      omega
    cases x with
    | sc v => simp only [resRs, Nat.add_zero, List.getElem?_cons_zero]; exact look_not _ _ _ hno
    | ow e y => simp [resRs, lk, Nat.beq_eq]
    | im e y => simp only [resRs, Nat.add_zero, List.getElem?_cons_zero]; exact look_not _ _ _ hno
  | x :: l, i, j + 1, d, h => by
    have ih := resRs_look (nx := nx) (l := l) (i := i + 1) (j := j) (d := d) (by simpa using h)
    have e : nx + (i + 1) + j = nx + i + (j + 1) := by omega
    rw [e] at ih
    cases x with
    | sc v => simp only [resRs, List.getElem?_cons_succ]; exact ih
    | ow e' y =>
      have hne : Nat.beq (nx + i) (nx + i + (j + 1)) = false := beq_ne (by omega)
      simp only [resRs, lk, hne, List.getElem?_cons_succ]; exact ih
    | im e' y => simp only [resRs, List.getElem?_cons_succ]; exact ih
theorem resRs_ids {nx : Nat} : ∀ {l : List (R0 T.Tb)} {i : Nat}, ∀ p ∈ resRs nx i l, nx + i ≤ p.1 ∧ p.1 < nx + i + l.length
  | [], _, p, h => by cases h
  | x :: l, i, p, h => by
    cases x <;> simp only [resRs, List.mem_cons] at h
    · have := resRs_ids p h; simp; omega
    · rcases h with rfl | h
      · simp
      · have := resRs_ids p h; simp; omega
    · have := resRs_ids p h; simp; omega
end
end Go.Proofs.Ytnflbiafmddpgaa.Z
