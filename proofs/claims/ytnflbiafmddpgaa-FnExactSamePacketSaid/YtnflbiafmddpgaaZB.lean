/- The path calculus, part B: an element of an own row written; rows handed over to it. -/
import Derived.Test.YtnflbiafmddpgaaZA
namespace Go.Proofs.Ytnflbiafmddpgaa.Z
open Go.RowKit
set_option linter.unusedVariables false
set_option linter.unusedSimpArgs false
theorem splice_len {α : Type} {cs vs : List α} {n : Nat} (h : n + vs.length ≤ cs.length) : (splice cs n vs).length = cs.length := by
  simp [splice]; omega
theorem splice_get {α : Type} {cs vs : List α} {n m : Nat} (h : n + vs.length ≤ cs.length) : (splice cs n vs)[m]? = if m < n then cs[m]? else if m < n + vs.length then vs[m - n]? else cs[m]? := by
  unfold splice
  by_cases h1 : m < n
  · rw [if_pos h1, List.append_assoc, List.getElem?_append_left (by simp; omega), List.getElem?_take_of_lt h1]
  · rw [if_neg h1]
    by_cases h2 : m < n + vs.length
    · rw [if_pos h2, List.append_assoc, List.getElem?_append_right (by simp; omega), List.getElem?_append_left (by simp; omega)]
      congr 1
      simp; omega
    · rw [if_neg h2, List.getElem?_append_right (by simp; omega), List.getElem?_drop]
      congr 1
      simp; omega
section
variable {sz : Nat → Nat} {w : World} {F : Nat → Prop}
theorem ow_store {e : Nat} {xs : List (List V)} {v : Value} (h : Ow sz w F (.sl e xs) v) {i o : Nat} {old new : List V} {us : List Value} (hi : xs[i]? = some old) (hl : new.length = sz e) (ho : o + us.length ≤ sz e)
    (hold : ∀ q x, new[q]? = some x → (q < o ∨ o + us.length ≤ q) → old[q]? = some x) (H : Nat → Nat → Prop) (hnew : ∀ q x u, new[o + q]? = some x → us[q]? = some u → Ow sz w (H q) x u)
    (hH : ∀ q k, H q k → ¬ F k) (hHd : ∀ q q' k, H q k → H q' k → q = q') :
    ∃ g cap cur, v = .slice (some ⟨g, 0, none⟩) xs.length cap ∧ F g ∧ w.heap[g]? = some (.cells cur e (0, 0)) ∧ i * sz e + o + us.length ≤ cur.size ∧
      Ow sz (w.setRow g (splice cur.toList (i * sz e + o) us).toArray) (fun k => F k ∨ ∃ q, H q k) (.sl e (xs.set i new)) v := by
  cases h with
  | nil F e => simp at hi
  | sl F e xs g cap cur f G hg hF hn hm hz hs hcell hr hG hd =>
    have hilt : i < xs.length := (List.getElem?_eq_some_iff.1 hi).1
    have hfit : i * sz e + o + us.length ≤ cur.size := by
      have : (i + 1) * sz e ≤ cap * sz e := Nat.mul_le_mul_right _ (by omega)
      rw [Nat.succ_mul] at this
      omega
    refine ⟨g, cap, cur, rfl, hF, hg, hfit, ?_⟩
    have hlen : (splice cur.toList (i * sz e + o) us).length = cur.size := by rw [splice_len (by simpa using hfit)]; simp
    have hne : ∀ k, k ≠ g → (w.setRow g (splice cur.toList (i * sz e + o) us).toArray).heap[k]? = w.heap[k]? := fun k hk => setRow_other w g k _ hk
    have hlx : (xs.set i new).length = xs.length := by simp
    rw [← hlx]
    have cases_ : ∀ j l q x, (xs.set i new)[j]? = some l → l[q]? = some x → q < sz e ∧ ((j = i ∧ o ≤ q ∧ q < o + us.length ∧ new[q]? = some x) ∨ (¬ (j = i ∧ o ≤ q ∧ q < o + us.length) ∧ ∃ l', xs[j]? = some l' ∧ l'[q]? = some x)) := by
      intro j l q x hj hq
      rw [List.getElem?_set] at hj
      by_cases e1 : i = j
      · subst e1
        simp [hilt] at hj
        subst hj
        have h1 : q < sz e := by rw [← hl]; exact (List.getElem?_eq_some_iff.1 hq).1
        refine ⟨h1, ?_⟩
        by_cases h2 : o ≤ q ∧ q < o + us.length
        · exact .inl ⟨rfl, h2.1, h2.2, hq⟩
        · exact .inr ⟨fun h => h2 ⟨h.2.1, h.2.2⟩, old, hi, hold q x hq (by omega)⟩
      · rw [if_neg e1] at hj
        have h1 : q < sz e := by rw [← hs j l hj]; exact (List.getElem?_eq_some_iff.1 hq).1
        exact ⟨h1, .inr ⟨fun h => e1 h.1.symm, l, hj, hq⟩⟩
    refine .sl _ e (xs.set i new) g cap _ (fun j q => if j = i ∧ o ≤ q ∧ q < o + us.length then us[q - o]?.getD undef else f j q) (fun j q k => if j = i ∧ o ≤ q ∧ q < o + us.length then H (q - o) k else G j q k) (setRow_heap w g cur _ e _ hg) (.inl hF) (by rw [hlx]; exact hn) hm (by simpa using hlen.trans hz) ?_ ?_ ?_ ?_ ?_
    · intro j l hj
      rw [List.getElem?_set] at hj
      by_cases e1 : i = j
      · subst e1; simp [hilt] at hj; subst hj; exact hl
      · rw [if_neg e1] at hj; exact hs j l hj
    · intro j l q x hj hq
      obtain ⟨hqs, h1 | ⟨h1, l', h2, h3⟩⟩ := cases_ j l q x hj hq
      · obtain ⟨rfl, h2, h3, h4⟩ := h1
        rw [List.getElem?_toArray, splice_get (by simpa using hfit), if_neg (by omega), if_pos (by omega), if_pos ⟨rfl, h2, h3⟩]
        rw [show j * sz e + q - (j * sz e + o) = q - o by omega]
        have : q - o < us.length := by omega
        simp [this]
      · have hc := hcell j l' q x h2 h3
        rw [if_neg h1, List.getElem?_toArray, splice_get (by simpa using hfit)]
        have hout : j * sz e + q < i * sz e + o ∨ i * sz e + o + us.length ≤ j * sz e + q := by
          rcases Nat.lt_trichotomy j i with h | h | h
          · have : (j + 1) * sz e ≤ i * sz e := Nat.mul_le_mul_right _ h
            rw [Nat.succ_mul] at this; omega
          · subst h
            by_cases h5 : o ≤ q
            · by_cases h6 : q < o + us.length
              · exact (h1 ⟨rfl, h5, h6⟩).elim
              · omega
            · omega
          · have : (i + 1) * sz e ≤ j * sz e := Nat.mul_le_mul_right _ h
            rw [Nat.succ_mul] at this; omega
        rcases hout with h | h
        · rw [if_pos h]; simpa using hc
        · rw [if_neg (by omega), if_neg (by omega)]; simpa using hc
    · intro j l q x hj hq
      obtain ⟨hqs, h1 | ⟨h1, l', h2, h3⟩⟩ := cases_ j l q x hj hq
      · obtain ⟨rfl, h2, h3, h4⟩ := h1
        have hlt : q - o < us.length := by omega
        have h5 := hnew (q - o) x (us[q - o]) (by rw [show o + (q - o) = q by omega]; exact h4) (by simp [hlt])
        have hc1 : j = j ∧ o ≤ q ∧ q < o + us.length := ⟨rfl, h2, h3⟩
        rw [if_pos hc1, show us[q - o]?.getD undef = us[q - o] by simp [hlt]]
        exact (h5.frame (fun k hk _ => hne k (fun e => hH _ k hk (e ▸ hF)))).mono (fun k hk => by rw [if_pos hc1]; exact hk)
      · simp only [if_neg h1]
        exact (hr j l' q x h2 h3).frame (fun k hk _ => hne k (hG j q k hk).2)
    · intro j q k hk
      by_cases h1 : j = i ∧ o ≤ q ∧ q < o + us.length
      · rw [if_pos h1] at hk
        exact ⟨.inr ⟨_, hk⟩, fun e => hH _ k hk (e ▸ hF)⟩
      · rw [if_neg h1] at hk
        exact ⟨.inl (hG j q k hk).1, (hG j q k hk).2⟩
    · intro j q j' q' k hk hk'
      by_cases h1 : j = i ∧ o ≤ q ∧ q < o + us.length
      · rw [if_pos h1] at hk
        by_cases h2 : j' = i ∧ o ≤ q' ∧ q' < o + us.length
        · rw [if_pos h2] at hk'
          have := hHd _ _ k hk hk'
          exact ⟨h1.1.trans h2.1.symm, by omega⟩
        · rw [if_neg h2] at hk'
          exact (hH _ k hk (hG j' q' k hk').1).elim
      · rw [if_neg h1] at hk
        by_cases h2 : j' = i ∧ o ≤ q' ∧ q' < o + us.length
        · rw [if_pos h2] at hk'
          exact (hH _ k hk' (hG j q k hk).1).elim
        · rw [if_neg h2] at hk'
          exact hd j q j' q' k hk hk'
end
section
variable {T : Tys} {P : Program} {W0 : World} {σ σ' σ1 : St T} {a : Act} {w w1 : World} {env env1 : Nat → Value} {F F1 : Nat → Nat → Prop} {o : Oper} {tch chg : List Nat}
/-- A cell handed over to an element: as what it stands there (c: what stood there). -/
def tkC (σ : St T) : C0 T.Tb → Cell T → Option (C0 T.Tb × Option Nat)
  | .sl e _, .sc (.slice none 0 0) => some (.sl e [], none)
  | _, .sc v => some (.sc v, none)
  | _, .hd r => match σ.res r with
    | .row _ e l => some (.sl e l, some r)
    | _ => none
  | _, _ => none
def tkCs (σ : St T) : List (C0 T.Tb) → List (Cell T) → Option (List (C0 T.Tb) × List (Option Nat))
  | c :: cs, x :: xs => match tkC σ c x with
    | some (y, r) => match tkCs σ cs xs with
      | some (ys, rs) => some (y :: ys, r :: rs)
      | none => none
    | none => none
  | _, [] => some ([], [])
  | _, _ => none
def somes : List (Option Nat) → List Nat
  | [] => []
  | some r :: l => r :: somes l
  | none :: l => somes l
def ndN : List Nat → Bool
  | [] => true
  | a :: l => match hasN a l with
    | true => false
    | false => ndN l
def noRs : List Nat → List (Nat × Res T)
  | [] => []
  | r :: l => (r, .no) :: noRs l
theorem mem_somes {r : Nat} : ∀ {l : List (Option Nat)}, r ∈ somes l ↔ some r ∈ l
  | [] => by simp [somes]
  | some q :: l => by simp [somes, mem_somes (l := l)]
  | none :: l => by simp [somes, mem_somes (l := l)]
theorem nd_somes {r : Nat} : ∀ {l : List (Option Nat)} {i j : Nat}, ndN (somes l) = true → l[i]? = some (some r) → l[j]? = some (some r) → i = j
  | [], i, j, _, h, _ => by simp at h
  | none :: l, i, j, hn, h, h' => by
    cases i with
    | zero => simp at h
    | succ i => cases j with
      | zero => simp at h'
      | succ j => have := nd_somes (l := l) hn (by simpa using h) (by simpa using h'); omega
  | some q :: l, i, j, hn, h, h' => by
    unfold somes ndN at hn
    cases hq : hasN q (somes l) <;> rw [hq] at hn <;> dsimp only at hn
    · have hno : ∀ k, l[k]? = some (some q) → False := fun k hk => by
        have : q ∈ somes l := mem_somes.2 (List.mem_of_getElem? hk)
        rw [hasN_iff.2 this] at hq; cases hq
      cases i with
      | zero =>
        simp at h; subst h
        cases j with
        | zero => rfl
        | succ j => exact (hno j (by simpa using h')).elim
      | succ i => cases j with
        | zero => simp at h'; subst h'; exact (hno i (by simpa using h)).elim
        | succ j => have := nd_somes (l := l) hn (by simpa using h) (by simpa using h'); omega
    · cases hn
theorem tkCs_len : ∀ {cs : List (C0 T.Tb)} {xs : List (Cell T)} {ys : List (C0 T.Tb)} {rs : List (Option Nat)}, tkCs σ cs xs = some (ys, rs) → ys.length = xs.length ∧ rs.length = xs.length
  | cs, [], ys, rs, h => by
    have : tkCs σ cs [] = some ([], []) := by cases cs <;> rfl
    rw [this] at h; cases h; exact ⟨rfl, rfl⟩
  | [], x :: xs, ys, rs, h => by cases h
  | c :: cs, x :: xs, ys, rs, h => by
    unfold tkCs at h
    cases h1 : tkC σ c x with
    | none => rw [h1] at h; cases h
    | some yr =>
      obtain ⟨y, r⟩ := yr
      rw [h1] at h
      dsimp only at h
      cases h2 : tkCs σ cs xs with
      | none => rw [h2] at h; cases h
      | some ysr =>
        obtain ⟨ys', rs'⟩ := ysr
        rw [h2] at h
        cases h
        have := tkCs_len h2
        simp [this]
/-- What is handed over is owned. -/
theorem tkC_ow (hS : Sim0 W0 σ a w env F) {c y : C0 T.Tb} {x : Cell T} {r : Option Nat} {u : Value} (hσ : ∀ s, r = some s → σ.res s = σ1.res s) (hx : CellRel σ env F w x u) (h : tkC σ1 c x = some (y, r)) : Ow T.sz w (fun k => ∃ q, r = some q ∧ F q k) (y.toV T.enc) u := by
  unfold tkC at h
  split at h
  · cases h
    have := hx.1
    subst this
    exact .nil _ _
  · cases h
    obtain ⟨h1, h2⟩ := hx
    subst h1
    exact .sc _ _ h2
  · rename_i q
    cases hr : σ1.res q with
    | row b e l =>
      rw [hr] at h
      cases h
      have h1 := hS.res q
      rw [hσ q rfl, hr] at h1
      rw [hx.1]
      exact Ow.mono (show Ow T.sz w (F q) (.sl e (l.map (T.enc e))) (env q) from h1) (fun k hk => ⟨q, rfl, hk⟩)
    | no => rw [hr] at h; cases h
    | bx t cs => rw [hr] at h; cases h
  · cases h
theorem tkCs_row : ∀ {cs : List (C0 T.Tb)} {xs : List (Cell T)} {ys : List (C0 T.Tb)} {rs : List (Option Nat)}, tkCs σ cs xs = some (ys, rs) → ∀ r ∈ somes rs, ∃ b e l, σ.res r = .row b e l
  | cs, [], ys, rs, h, r, hr => by
    have : tkCs σ cs [] = some ([], []) := by cases cs <;> rfl
    rw [this] at h; cases h; simp [somes] at hr
  | [], x :: xs, ys, rs, h, r, hr => by cases h
  | c :: cs, x :: xs, ys, rs, h, r, hr => by
    unfold tkCs at h
    cases h1 : tkC σ c x with
    | none => rw [h1] at h; cases h
    | some yr =>
      obtain ⟨y1, r1⟩ := yr
      rw [h1] at h
      dsimp only at h
      cases h2 : tkCs σ cs xs with
      | none => rw [h2] at h; cases h
      | some ysr =>
        obtain ⟨ys', rs'⟩ := ysr
        rw [h2] at h
        cases h
        rcases List.mem_cons.1 (mem_somes.1 hr) with h3 | h3
        · subst h3
          unfold tkC at h1
          split at h1
          · cases h1
          · cases h1
          · rename_i q
            cases hq : σ.res q with
            | row b e l => rw [hq] at h1; cases h1; exact ⟨_, _, _, hq⟩
            | no => rw [hq] at h1; cases h1
            | bx t cs => rw [hq] at h1; cases h1
          · cases h1
        · exact tkCs_row h2 r (mem_somes.2 h3)
/-- Each cell that may be handed over is one of one cell. -/
theorem stor_of_tk : ∀ {cs : List (C0 T.Tb)} {xs : List (Cell T)} {us : List Value} {ys : List (C0 T.Tb)} {rs : List (Option Nat)}, CellsRel σ env F w xs us → tkCs σ1 cs xs = some (ys, rs) → ∀ u ∈ us, u.oneCell' = true
  | cs, [], us, ys, rs, hx, h, u, hu => by cases hx; cases hu
  | [], x :: xs, us, ys, rs, hx, h, u, hu => by cases h
  | c :: cs, x :: xs, us, ys, rs, ⟨u1, us', e, h3, h4⟩, h, u, hu => by
    subst e
    unfold tkCs at h
    cases h1 : tkC σ1 c x with
    | none => rw [h1] at h; cases h
    | some yr =>
      obtain ⟨y1, r1⟩ := yr
      rw [h1] at h
      dsimp only at h
      cases h2 : tkCs σ1 cs xs with
      | none => rw [h2] at h; cases h
      | some ysr =>
        obtain ⟨ys', rs'⟩ := ysr
        rcases List.mem_cons.1 hu with rfl | hu
        · unfold tkC at h1
          split at h1
          · exact h3.2
          · exact h3.2
          · exact h3.2
          · cases h1
        · exact stor_of_tk h4 h2 u hu
theorem tkCs_ow' (hS : Sim0 W0 σ a w env F) : ∀ {cs : List (C0 T.Tb)} {xs : List (Cell T)} {us : List Value} {ys : List (C0 T.Tb)} {rs : List (Option Nat)}, CellsRel σ env F w xs us → tkCs σ1 cs xs = some (ys, rs) → (∀ s ∈ somes rs, σ.res s = σ1.res s) → ∀ {q : Nat} {y : C0 T.Tb} {u : Value}, ys[q]? = some y → us[q]? = some u → Ow T.sz w (fun k => ∃ r, rs[q]? = some (some r) ∧ F r k) (y.toV T.enc) u
  | cs, [], us, ys, rs, hx, h, hσ, q, y, u, hy, hu => by
    have : tkCs σ1 cs [] = some ([], []) := by cases cs <;> rfl
    rw [this] at h; cases h; simp at hy
  | [], x :: xs, us, ys, rs, hx, h, hσ, q, y, u, hy, hu => by cases h
  | c :: cs, x :: xs, us, ys, rs, ⟨u1, us', e, h3, h4⟩, h, hσ, q, y, u, hy, hu => by
    subst e
    unfold tkCs at h
    cases h1 : tkC σ1 c x with
    | none => rw [h1] at h; cases h
    | some yr =>
      obtain ⟨y1, r1⟩ := yr
      rw [h1] at h
      dsimp only at h
      cases h2 : tkCs σ1 cs xs with
      | none => rw [h2] at h; cases h
      | some ysr =>
        obtain ⟨ys', rs'⟩ := ysr
        rw [h2] at h
        cases h
        cases q with
        | zero =>
          simp at hy hu
          subst hy; subst hu
          exact (tkC_ow hS (fun s hs => hσ s (mem_somes.2 (by simp [hs]))) h3 h1).mono (fun k ⟨q, e, hk⟩ => ⟨q, by simp [e], hk⟩)
        | succ q => simpa using tkCs_ow' hS h4 h2 (fun s hs => hσ s (mem_somes.2 (List.mem_cons_of_mem _ (mem_somes.1 hs)))) (q := q) (by simpa using hy) (by simpa using hu)
theorem noRs_look {r : Nat} {x : Res T} : ∀ {l : List Nat}, r ∈ l → lk x (noRs l) r = .no
  | [], h => by cases h
  | q :: l, h => by
    unfold noRs lk
    cases hb : Nat.beq q r
    · rcases List.mem_cons.1 h with rfl | h
      · exact absurd hb (by simp [Nat.beq_eq])
      · exact noRs_look h
    · rfl
theorem noRs_not {r : Nat} {x : Res T} : ∀ {l : List Nat}, r ∉ l → lk x (noRs l) r = x
  | [], _ => rfl
  | q :: l, h => by
    unfold noRs lk
    rw [beq_ne (fun e => h (by simp [e]))]
    exact noRs_not (fun hm => h (List.mem_cons_of_mem _ hm))
def stStoreE (σ : St T) (nx : Nat) (dst : Option Nat) (t : Nat) (x v : Operand) : LOut T :=
  match dst with
  | none => match T.ti t with
    | some ti => match evS σ x with
      | .pe r i n => match σ.res r with
        | .row bv e l => match T.ti e with
          | some ei => match T.el e with
            | true => match cellsS (evS σ v) with
              | some vs => match tkCs σ ((T.cells e (getE T e l i)).drop n) vs with
                | some (ys, rs) => match ndN (r :: somes rs) with
                  | true => match Nat.beq vs.length ti.size with
                    | true => match Nat.ble (n + vs.length) ei.size with
                      | true => match T.mkE e (splice (T.cells e (getE T e l i)) n ys) with
                        | some y => match σ.fresh nx with
                          | true => .done ⟨.ud, (r, .row nx e (l.set i y)) :: noRs (somes rs), r :: somes rs, 1, r :: nx :: somes rs⟩ none
                          | false => .stuck
                        | none => .stuck
                      | false => .stuck
                    | false => .stuck
                  | false => .stuck
                | none => .stuck
              | none => .stuck
            | false => .stuck
          | none => .stuck
        | _ => .stuck
      | _ => .stuck
    | none => .stuck
  | some _ => .stuck
theorem stStoreE_ok (hT : T.ok P) {nx t : Nat} {x v : Operand} {U : Upd T} {ob : Option Prop} (ho : o.op = .store t x v) (h : stStoreE σ nx o.dst t x v = .done U ob) : LStep P W0 o σ U := by
  unfold stStoreE at h
  split at h
  · rename_i hdn
    cases hi : T.ti t with
    | none => rw [hi] at h; cases h
    | some ti =>
      rw [hi] at h
      dsimp only at h
      split at h
      · rename_i r i n hx
        split at h
        · rename_i bv e l hr
          cases hei : T.ti e with
          | none => rw [hei] at h; cases h
          | some ei =>
            rw [hei] at h
            dsimp only at h
            cases hel : T.el e <;> rw [hel] at h <;> dsimp only at h
            · cases h
            cases hc : cellsS (evS σ v) with
            | none => rw [hc] at h; cases h
            | some vs =>
              rw [hc] at h
              dsimp only at h
              cases hk : tkCs σ ((T.cells e (getE T e l i)).drop n) vs with
              | none => rw [hk] at h; cases h
              | some yr =>
                obtain ⟨ys, rs⟩ := yr
                rw [hk] at h
                dsimp only at h
                cases hnd : ndN (r :: somes rs) <;> rw [hnd] at h <;> dsimp only at h
                · cases h
                cases hb : Nat.beq vs.length ti.size <;> rw [hb] at h <;> dsimp only at h
                · cases h
                cases hbl : Nat.ble (n + vs.length) ei.size <;> rw [hbl] at h <;> dsimp only at h
                · cases h
                cases hy : T.mkE e (splice (T.cells e (getE T e l i)) n ys) with
                | none => rw [hy] at h; cases h
                | some y =>
                  rw [hy] at h
                  dsimp only at h
                  cases hf : σ.fresh nx <;> rw [hf] at h <;> cases h
                  intro σ' a w K Q hA ⟨env, F, hS⟩ hK
                  have e1 := ev_rel hS hA (x := x) (by simp [ho, Op.operands])
                  have e2 := ev_rel hS hA (x := v) (by simp [ho, Op.operands])
                  rw [hx] at e1
                  have hr' : σ'.res r = .row bv e l := by rw [hA.res r (by simp)]; exact hr
                  obtain ⟨hil, g, cap, he, hp⟩ := e1 bv e l hr'
                  obtain ⟨hu, hno⟩ := hA.new (r := nx) (by simp) hf
                  have hnr : nx ≠ r := fun e => by rw [e, hr'] at hno; cases hno
                  have hrr : r ∉ somes rs := fun hm => by unfold ndN at hnd; rw [hasN_iff.2 hm] at hnd; cases hnd
                  have hnd' : ndN (somes rs) = true := by unfold ndN at hnd; split at hnd <;> first | (cases hnd; done) | exact hnd
                  have hrow := tkCs_row hk
                  have hsame : ∀ q, (∃ b e l, σ.res q = .row b e l) → q ∈ somes rs → σ'.res q = σ.res q := fun q _ hq => hA.res q (by simp [hq])
                  have hcv := cellsS_rel e2 hc
                  have hl1 := cells_len hcv
                  simp only [Array.length_toList] at hl1
                  have hb' := Nat.eq_of_beq_eq_true hb
                  have hbl' := Nat.le_of_ble_eq_true hbl
                  have hkl := tkCs_len hk
                  have hszE : T.sz e = ei.size := sz_of hei
                  have hget : getE T e l i = l[i] := by simp [getE, hil]
                  have hclen : (T.cells e (getE T e l i)).length = ei.size := T.len e _ ei hel hei
                  have hmk := T.mk_eq e _ y hy
                  have hfit : n + ys.length ≤ (T.cells e (getE T e l i)).length := by rw [hclen, hkl.1]; exact hbl'
                  have h3 := hS.res r
                  rw [hr'] at h3
                  let H : Nat → Nat → Prop := fun q k => ∃ s, rs[q]? = some (some s) ∧ F s k
                  have hHm : ∀ q k, H q k → ∃ s, s ∈ somes rs ∧ F s k := fun q k ⟨s, h1, h2⟩ => ⟨s, mem_somes.2 (List.mem_of_getElem? h1), h2⟩
                  have hst := ow_store (us := (a.eval v).cells.toList) (old := T.enc e l[i]) (new := T.enc e y) (i := i) (o := n) (show Ow T.sz w (F r) (.sl e (l.map (T.enc e))) (env r) from h3) (by simp [hil]) (by rw [T.enc_eq, List.length_map, hmk, splice_len hfit, hclen, hszE]) (by rw [hszE]; simp only [Array.length_toList]; omega)
                    (by
                      intro q x' hq hqo
                      rw [T.enc_eq, List.getElem?_map, hmk, splice_get hfit] at hq
                      rw [T.enc_eq, List.getElem?_map, ← hget]
                      have : ys.length = (a.eval v).cells.toList.length := by rw [hkl.1]; simpa using hl1
                      rcases hqo with h | h
                      · rw [if_pos h] at hq; exact hq
                      · rw [if_neg (by omega), if_neg (by omega)] at hq; exact hq)
                    H
                    (by
                      intro q x' u hq hqu
                      rw [T.enc_eq, List.getElem?_map, hmk, splice_get hfit] at hq
                      have hql : q < (a.eval v).cells.toList.length := (List.getElem?_eq_some_iff.1 hqu).1
                      have : ys.length = (a.eval v).cells.toList.length := by rw [hkl.1]; simpa using hl1
                      rw [if_neg (by omega), if_pos (by omega), show n + q - n = q by omega] at hq
                      obtain ⟨y0, hy0, rfl⟩ := Option.map_eq_some_iff.1 hq
                      have key := tkCs_ow' hS (σ1 := σ) hcv hk (fun s hs => hA.res s (by simp [hs])) hy0 hqu
                      exact key)
                    (fun q k hq hF => by
                      obtain ⟨s, hs, hk2⟩ := hHm q k hq
                      have := hS.apart s r k hk2 hF
                      exact hrr (this ▸ hs))
                    (fun q q' k ⟨s, h1, h2⟩ ⟨s', h1', h2'⟩ => by
                      have := hS.apart s s' k h2 h2'
                      subst this
                      exact nd_somes hnd' h1 h1')
                  obtain ⟨g', cap', cur, he', hFg, hg, hfit2, how⟩ := hst
                  rw [he] at he'
                  simp only [Value.slice.injEq, Option.some.injEq, Addr.mk.injEq, and_true, true_and] at he'
                  obtain ⟨rfl, -, -⟩ := he'
                  have hrun := run_storeAt (hT t ti hi) (v := a.eval v) (n := i * T.sz e + n) hg (by omega) (by simpa using hfit2) (stor_of_tk hcv hk)
                  refine upon_skip_ (exec_store ho (by rw [hp, add_lit, Nat.zero_add]; exact hrun)) (hK _ _ ?_)
                  have hgW := hS.own r g hFg
                  let U1 : Upd T := ⟨.ud, (r, .row nx e (l.set i y)) :: noRs (somes rs), r :: somes rs, 1, r :: nx :: somes rs⟩
                  let w1 : World := w.setRow g (splice cur.toList (i * T.sz e + n) (a.eval v).cells.toList).toArray
                  let F1 : Nat → Nat → Prop := fun s k => (s = r ∧ (F r k ∨ ∃ q, H q k)) ∨ (s ≠ r ∧ s ∉ somes rs ∧ F s k)
                  have hresr : (σ'.upd o.dst U1).res r = .row nx e (l.set i y) := by rw [St.upd_res]; simp [U1, lk]
                  have hresm : ∀ s, s ∈ somes rs → (σ'.upd o.dst U1).res s = .no := fun s hs => by
                    rw [St.upd_res]
                    show lk _ ((r, _) :: noRs (somes rs)) s = _
                    unfold lk
                    rw [beq_ne (k := r) (t := s) (fun e => hrr (by rw [e]; exact hs))]
                    exact noRs_look hs
                  have hreso : ∀ s, s ≠ r → s ∉ somes rs → (σ'.upd o.dst U1).res s = σ'.res s := fun s h1 h2 => by
                    rw [St.upd_res]
                    show lk _ ((r, _) :: noRs (somes rs)) s = _
                    unfold lk
                    rw [beq_ne (k := r) (t := s) (fun e => h1 e.symm)]
                    exact noRs_not h2
                  have hne : ∀ k, k ≠ g → w1.heap[k]? = w.heap[k]? := fun k hk => setRow_other w g k _ hk
                  have hF1 : ∀ s k, F1 s k → ∃ s', F s' k := by
                    rintro s k (⟨_, h | ⟨q, hq⟩⟩ | ⟨_, _, h⟩)
                    · exact ⟨_, h⟩
                    · obtain ⟨s', _, h⟩ := hHm q k hq; exact ⟨_, h⟩
                    · exact ⟨_, h⟩
                  have calm : Calm σ' (σ'.upd o.dst U1) F F1 w w1 := ⟨St.upd_A _ _ _, by rw [setRow_size]; exact Nat.le_refl _, fun k hk hst => ⟨fun s hs => by obtain ⟨s', h⟩ := hF1 s k hs; exact hst s' h, hne k (fun e => hst r (e ▸ hFg))⟩⟩
                  refine hS.upd (env1 := env) (F1 := F1) (fun s => s = r ∨ s ∈ somes rs) (below_setRow hS.below hgW.1 _) calm ?_ ?_ ?_ ?_ ?_ (fun d hd => by rw [hdn] at hd; cases hd)
                  · intro s hs
                    have h1 : s ≠ r := fun e => hs (.inl e)
                    have h2 : s ∉ somes rs := fun e => hs (.inr e)
                    exact ⟨rfl, fun k => ⟨fun h => by
                      rcases h with ⟨h, _⟩ | ⟨_, _, h⟩
                      · exact (h1 h).elim
                      · exact h, fun h => .inr ⟨h1, h2, h⟩⟩, hreso s h1 h2, fun k hk => hne k (fun e => h1 (hS.apart s r k hk (e ▸ hFg)))⟩
                  · intro s hs
                    by_cases e1 : s = r
                    · subst e1
                      rw [hresr]
                      show Ow T.sz w1 (F1 s) (.sl e ((l.set i y).map (T.enc e))) (env s)
                      rw [List.map_set]
                      exact how.mono (fun k hk => .inl ⟨rfl, hk⟩)
                    · have h2 := hs.resolve_left e1
                      rw [hresm s h2]
                      rintro k (⟨h, _⟩ | ⟨_, h, _⟩)
                      · exact e1 h
                      · exact h h2
                  · intro s k hs hk
                    obtain ⟨s', h⟩ := hF1 s k hk
                    have := hS.own s' k h
                    exact ⟨this.1, by rw [setRow_size]; exact this.2⟩
                  · intro s s' k hs h1 h2
                    have hcon : ∀ q, q ≠ r → q ∉ somes rs → F q k → ¬ (F r k ∨ ∃ q, H q k) := by
                      rintro q hq1 hq2 hq (h | ⟨j, h⟩)
                      · exact hq1 (hS.apart q r k hq h)
                      · obtain ⟨s', hs', h⟩ := hHm j k h
                        exact hq2 (hS.apart q s' k hq h ▸ hs')
                    rcases h1 with ⟨rfl, h1⟩ | ⟨h1a, h1b, h1⟩ <;> rcases h2 with ⟨h2', h2⟩ | ⟨h2a, h2b, h2⟩
                    · exact h2'.symm
                    · exact (hcon s' h2a h2b h2 h1).elim
                    · exact (hcon s h1a h1b h1 (h2' ▸ h2)).elim
                    · exact hS.apart s s' k h1 h2
                  · intro s hs
                    refine .inr ⟨rfl, ?_, fun b => ?_⟩
                    · intro bv' e' l' hl
                      by_cases e1 : s = r
                      · subst e1
                        rw [hresr] at hl
                        cases hl
                        exact ⟨bv, l, hr', by simp⟩
                      · rw [hresm s (hs.resolve_left e1)] at hl; cases hl
                    · by_cases e1 : s = r
                      · subst e1
                        by_cases e3 : b = nx
                        · subst e3; exact .inr (Unsaid.noVer2 hu)
                        · refine .inl ?_
                          rintro ⟨e', l', hl⟩
                          rw [hresr] at hl
                          simp only [Res.row.injEq] at hl
                          exact (e3 hl.1.symm).elim
                      · refine .inl ?_
                        rintro ⟨e', l', hl⟩
                        rw [hresm s (hs.resolve_left e1)] at hl; cases hl
        · cases h
      · cases h
  · cases h
theorem cells_one {e : Nat} {x : T.Tb e} {q : Nat} {c : C0 T.Tb} (h : (T.cells e x)[q]? = some c) : c.one = true := T.one e x c (List.mem_of_getElem? h)
end
end Go.Proofs.Ytnflbiafmddpgaa.Z
