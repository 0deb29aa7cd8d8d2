/- The path calculus, part 4: a state's change and what it says; the agreement of two states at what an operation touches. Plain theorems. -/
import Derived.Test.YtnflbiafmddpgaaZ3
namespace Go.Proofs.Ytnflbiafmddpgaa.Z
open Go.RowKit
set_option linter.unusedVariables false
set_option linter.unusedSimpArgs false
section
variable {T : Tys}
/-- What an operation makes of a state. tch: the resources that it looks at or tells of; chg: those that are new or changed; nx: how many new numbers it takes. -/
structure Upd (T : Tys) where
  slot : Slot T
  rs : List (Nat × Res T)
  tch : List Nat
  nx : Nat
  chg : List Nat
def St.upd (σ : St T) (dst : Option Nat) (U : Upd T) : St T :=
  match dst with
  | some d => ⟨(d, U.slot) :: σ.tm, U.rs ++ σ.rs, σ.n, σ.A⟩
  | none => ⟨σ.tm, U.rs ++ σ.rs, σ.n, σ.A⟩
theorem beq_ne {k t : Nat} (h : k ≠ t) : Nat.beq k t = false := by
  cases hb : Nat.beq k t
  · rfl
  · exact absurd (Nat.eq_of_beq_eq_true hb) h
theorem look_append {α : Type} (d : α) (t : Nat) : ∀ (l m : List (Nat × α)), lk d (l ++ m) t = lk (lk d m t) l t
  | [], m => rfl
  | (k, a) :: l, m => by
    simp only [List.cons_append, lk]
    cases Nat.beq k t
    · exact look_append d t l m
    · rfl
theorem look_not {α : Type} (d : α) (t : Nat) : ∀ (l : List (Nat × α)), (∀ p ∈ l, p.1 ≠ t) → lk d l t = d
  | [], _ => rfl
  | (k, a) :: l, h => by
    have h1 : Nat.beq k t = false := beq_ne (h (k, a) List.mem_cons_self)
    simp only [lk, h1]
    exact look_not d t l (fun p hp => h p (List.mem_cons_of_mem _ hp))
theorem St.upd_res (σ : St T) (dst : Option Nat) (U : Upd T) (r : Nat) : (σ.upd dst U).res r = lk (σ.res r) U.rs r := by
  cases dst <;> exact look_append _ _ _ _
theorem St.upd_res_not {σ : St T} {dst : Option Nat} {U : Upd T} {r : Nat} (h : ∀ p ∈ U.rs, p.1 ≠ r) : (σ.upd dst U).res r = σ.res r := by
  rw [St.upd_res]; exact look_not _ _ _ h
theorem St.upd_n (σ : St T) (dst : Option Nat) (U : Upd T) : (σ.upd dst U).n = σ.n := by cases dst <;> rfl
theorem St.upd_A (σ : St T) (dst : Option Nat) (U : Upd T) : (σ.upd dst U).A = σ.A := by cases dst <;> rfl
theorem St.upd_tmp_none (σ : St T) (U : Upd T) (t : Nat) : (σ.upd none U).tmp t = σ.tmp t := rfl
theorem St.upd_tmp_same (σ : St T) (U : Upd T) (d : Nat) : (σ.upd (some d) U).tmp d = U.slot := by
  show lk _ ((d, U.slot) :: σ.tm) d = _
  have : Nat.beq d d = true := by simp [Nat.beq_eq]
  simp only [lk, this]
theorem St.upd_tmp_ne (σ : St T) (U : Upd T) {d t : Nat} (h : d ≠ t) : (σ.upd (some d) U).tmp t = σ.tmp t := by
  show lk _ ((d, U.slot) :: σ.tm) t = _
  have : Nat.beq d t = false := beq_ne h
  simp only [lk, this]
  rfl
/-- Not told of anywhere. -/
def Unsaid (σ : St T) (r : Nat) : Prop := (∀ t, r ∉ (σ.tmp t).refs) ∧ ∀ s, r ∉ (σ.res s).refs
def NoVer (σ : St T) (q : Nat × Nat) : Prop := (∀ t, q ∉ (σ.tmp t).vers) ∧ ∀ s t cs, σ.res s = .bx t cs → q ∉ versOf cs
theorem Unsaid.noVer2 {σ : St T} {q : Nat × Nat} (h : Unsaid σ q.2) : NoVer σ q := by
  refine ⟨fun t hq => h.1 t (versS_refs2 hq).2, fun s t cs hs hq => h.2 s ?_⟩
  rw [hs]; exact (versOf_refs2 hq).2
theorem Unsaid.noVer {σ : St T} {q : Nat × Nat} (h : Unsaid σ q.1) : NoVer σ q := by
  refine ⟨fun t hq => h.1 t (versS_refs hq), fun s t cs hs hq => h.2 s ?_⟩
  rw [hs]; exact versOf_refs hq
variable {σ σ1 : St T} {env env1 : Nat → Value} {F F1 : Nat → Nat → Prop} {w w1 W0 : World} {a : Act}
/-- What a changed resource leaves of what is told of it. -/
def Told (σ σ1 : St T) (env env1 : Nat → Value) (F F1 : Nat → Nat → Prop) (w w1 : World) (r : Nat) : Prop :=
  Unsaid σ r ∨ (env1 r = env r ∧ HoldsE σ σ1 r ∧ ∀ b, Holds σ σ1 F F1 w w1 (r, b) ∨ NoVer σ (r, b))
theorem Sim0.upd (h : Sim0 W0 σ a w env F) (chg : Nat → Prop) {dst : Option Nat} {U : Upd T} {v : Value} (below : Below W0.heap.size W0 w1) (calm : Calm σ (σ.upd dst U) F F1 w w1)
    (same : ∀ r, ¬ chg r → Same σ (σ.upd dst U) env env1 F F1 w w1 r) (resn : ∀ r, chg r → ResRel (σ.upd dst U) env1 F1 w1 r ((σ.upd dst U).res r))
    (own : ∀ r k, chg r → F1 r k → W0.heap.size ≤ k ∧ k < w1.heap.size) (apart : ∀ r s k, chg r → F1 r k → F1 s k → r = s)
    (told : ∀ r, chg r → Told σ (σ.upd dst U) env env1 F F1 w w1 r) (hd : ∀ d, dst = some d → d < σ.n ∧ SlotRel (σ.upd dst U) env1 F1 w1 U.slot v) : Sim W0 (σ.upd dst U) (a.put dst v) w1 := by
  have hold : ∀ q : Nat × Nat, (Unsaid σ q.1 → False) → (NoVer σ q → False) → Holds σ (σ.upd dst U) F F1 w w1 q := by
    intro q h1 h2
    by_cases hq : chg q.1
    · rcases told q.1 hq with h3 | ⟨_, _, h3⟩
      · exact (h1 h3).elim
      · rcases h3 q.2 with h3 | h3
        · exact h3
        · exact (h2 h3).elim
    · exact (same q.1 hq).holds
  have env_ : ∀ r, (Unsaid σ r → False) → env1 r = env r := by
    intro r h1
    by_cases hq : chg r
    · rcases told r hq with h3 | ⟨h3, _, _⟩
      · exact (h1 h3).elim
      · exact h3
    · exact (same r hq).env
  have fineS : ∀ t, Fine σ (σ.upd dst U) env env1 F F1 w w1 (σ.tmp t).refs (σ.tmp t).vers := fun t =>
    ⟨fun r hr => env_ r (fun hu => hu.1 t hr), fun q hq => hold q (fun hu => hu.1 t (versS_refs hq)) (fun hu => hu.1 t hq)⟩
  have keepS : ∀ t v, SlotRel σ env F w (σ.tmp t) v → SlotRel (σ.upd dst U) env1 F1 w1 (σ.tmp t) v := by
    intro t v hv
    refine slot_keep calm hv (fineS t).1 (fineS t).2 (fun r i o hs => ?_)
    by_cases hq : chg r
    · rcases told r hq with h3 | ⟨_, h3, _⟩
      · exact (h3.1 t (by rw [hs]; simp [Slot.refs])).elim
      · exact h3
    · exact (same r hq).holdsE
  refine ⟨env1, F1, below, fun k hk => (by rw [St.upd_A]; exact h.acc k hk), ?_, ?_, ?_, ?_, ?_, ?_⟩
  · rw [St.upd_n, ← h.size]; cases dst <;> simp [Act.put]
  · rw [← h.defers]; cases dst <;> rfl
  · intro r
    by_cases hq : chg r
    · exact resn r hq
    · rw [(same r hq).res]
      refine res_keep calm (same r hq) (h.res r) (fun t cs hx => ?_)
      exact ⟨fun s hs => env_ s (fun hu => hu.2 r (by rw [hx]; exact hs)), fun q hqv => hold q (fun hu => hu.2 r (by rw [hx]; exact versOf_refs hqv)) (fun hu => hu.2 r t cs hx hqv)⟩
  · intro r k hk
    by_cases hq : chg r
    · exact own r k hq hk
    · have h1 := h.own r k (((same r hq).own k).1 hk)
      exact ⟨h1.1, Nat.lt_of_lt_of_le h1.2 calm.size⟩
  · intro r s k hr hs
    by_cases hq : chg r
    · exact apart r s k hq hr hs
    · by_cases hq2 : chg s
      · exact (apart s r k hq2 hs hr).symm
      · exact h.apart r s k (((same r hq).own k).1 hr) (((same s hq2).own k).1 hs)
  · intro t
    cases dst with
    | none => exact keepS t _ (h.tm t)
    | some d =>
      obtain ⟨hdn, hs⟩ := hd d rfl
      by_cases e : d = t
      · subst e
        rw [St.upd_tmp_same]
        have : (a.put (some d) v).tmps.getD d undef = v := by
          have : d < a.tmps.size := by rw [h.size]; exact hdn
          simp [Act.put, Array.getD, this]
        rw [this]; exact hs
      · rw [St.upd_tmp_ne σ U e]
        have : (a.put (some d) v).tmps.getD t undef = a.tmps.getD t undef := by
          simp [Act.put, Array.getD_eq_getD_getElem?, Array.getElem?_setIfInBounds_ne e]
        rw [this]; exact keepS t _ (h.tm t)
/-- Nothing but the destination changes. -/
theorem Sim0.quiet (h : Sim0 W0 σ a w env F) {dst : Option Nat} {s : Slot T} {tch chg : List Nat} {nx : Nat} {v : Value} (hd : ∀ d, dst = some d → d < σ.n ∧ SlotRel σ env F w s v) : Sim W0 (σ.upd dst ⟨s, [], tch, nx, chg⟩) (a.put dst v) w := by
  have hr : ∀ r, (σ.upd dst ⟨s, [], tch, nx, chg⟩).res r = σ.res r := fun r => St.upd_res_not (fun p hp => by cases hp)
  refine h.upd (F1 := F) (env1 := env) (fun _ => False) h.below ⟨St.upd_A _ _ _, Nat.le_refl _, fun k _ hk => ⟨hk, rfl⟩⟩ (fun r _ => ⟨rfl, fun _ => Iff.rfl, hr r, fun _ _ => rfl⟩) (fun _ h => h.elim) (fun _ _ h => h.elim) (fun _ _ _ h => h.elim) (fun _ h => h.elim) (fun d e => ?_)
  obtain ⟨h1, h2⟩ := hd d e
  refine ⟨h1, slot_keep (σ := σ) (env := env) (F := F) (w := w) ⟨St.upd_A _ _ _, Nat.le_refl _, fun k _ hk => ⟨hk, rfl⟩⟩ h2 (fun _ _ => rfl) (fun q _ hl => ⟨?_, fun k hk _ => ⟨hk, rfl⟩⟩) (fun r i o _ bv e l hx => ⟨bv, l, (hr r).symm.trans hx, rfl⟩)⟩
  obtain ⟨e, l, hl⟩ := hl
  exact ⟨e, l, (hr q.1).symm.trans hl⟩
/-! Checks upon a state's text. -/
def hasN (r : Nat) : List Nat → Bool
  | [] => false
  | k :: l => match Nat.beq k r with
    | true => true
    | false => hasN r l
theorem hasN_iff {r : Nat} : ∀ {l : List Nat}, hasN r l = true ↔ r ∈ l
  | [] => by simp [hasN]
  | k :: l => by
    unfold hasN
    cases h : Nat.beq k r
    · have : k ≠ r := by intro e; subst e; simp [Nat.beq_eq] at h
      simp only [List.mem_cons, hasN_iff (l := l)]
      exact ⟨.inr, fun h => h.resolve_left (fun e => this e.symm)⟩
    · have : k = r := Nat.eq_of_beq_eq_true h
      simp [this]
def freshTm (r : Nat) : List (Nat × Slot T) → Bool
  | [] => true
  | (_, s) :: l => match hasN r s.refs with
    | true => false
    | false => freshTm r l
def freshRs (r : Nat) : List (Nat × Res T) → Bool
  | [] => true
  | (k, s) :: l => match Nat.beq k r with
    | true => false
    | false => match hasN r s.refs with
      | true => false
      | false => freshRs r l
/-- r is new to the state. -/
def St.fresh (σ : St T) (r : Nat) : Bool := match freshTm r σ.tm with
  | true => freshRs r σ.rs
  | false => false
theorem fresh_tm {r t : Nat} : ∀ {l : List (Nat × Slot T)}, freshTm r l = true → r ∉ (lk (.c .un) l t).refs
  | [], _ => by simp [lk, Slot.refs, Cell.refs]
  | (k, s) :: l, h => by
    unfold freshTm at h
    cases hs : hasN r s.refs <;> rw [hs] at h
    · unfold lk
      cases Nat.beq k t
      · exact fresh_tm h
      · intro hm; rw [hasN_iff.2 hm] at hs; cases hs
    · cases h
theorem fresh_rs {r t : Nat} : ∀ {l : List (Nat × Res T)}, freshRs r l = true → r ∉ (lk .no l t).refs
  | [], _ => by simp [lk, Res.refs]
  | (k, s) :: l, h => by
    unfold freshRs at h
    cases hk : Nat.beq k r <;> rw [hk] at h
    · cases hs : hasN r s.refs <;> rw [hs] at h
      · unfold lk
        cases Nat.beq k t
        · exact fresh_rs h
        · intro hm; rw [hasN_iff.2 hm] at hs; cases hs
      · cases h
    · cases h
theorem fresh_no {r : Nat} : ∀ {l : List (Nat × Res T)}, freshRs r l = true → lk .no l r = .no
  | [], _ => rfl
  | (k, s) :: l, h => by
    unfold freshRs at h
    cases hk : Nat.beq k r <;> rw [hk] at h
    · cases hs : hasN r s.refs <;> rw [hs] at h
      · unfold lk
        rw [hk]
        exact fresh_no h
      · cases h
    · cases h
theorem St.fresh_spec {σ : St T} {r : Nat} (h : σ.fresh r = true) : Unsaid σ r ∧ σ.res r = .no := by
  unfold St.fresh at h
  cases h1 : freshTm r σ.tm <;> rw [h1] at h
  · cases h
  · exact ⟨⟨fun t => fresh_tm h1, fun s => fresh_rs h⟩, fresh_no h⟩
/-- σ' is as σ at what an operation looks at and touches; what is new to σ is new to σ'. -/
structure Agree (σ σ' : St T) (ts tch chg : List Nat) : Prop where
  tm : ∀ t ∈ ts, σ'.tmp t = σ.tmp t
  res : ∀ r ∈ tch, σ'.res r = σ.res r
  fr : ∀ r ∈ chg, σ.fresh r = true → σ'.fresh r = true
  n : σ'.n = σ.n
theorem Agree.refl (σ : St T) (ts tch chg : List Nat) : Agree σ σ ts tch chg := ⟨fun _ _ => rfl, fun _ _ => rfl, fun _ _ h => h, rfl⟩
theorem Agree.new {σ σ' : St T} {ts tch chg : List Nat} (h : Agree σ σ' ts tch chg) {r : Nat} (hr : r ∈ chg) (hf : σ.fresh r = true) : Unsaid σ' r ∧ σ'.res r = .no := St.fresh_spec (h.fr r hr hf)
end
end Go.Proofs.Ytnflbiafmddpgaa.Z
