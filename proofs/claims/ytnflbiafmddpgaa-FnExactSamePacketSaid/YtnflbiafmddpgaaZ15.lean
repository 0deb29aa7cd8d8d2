/- The path calculus, part 15: a function's contract out of its code's condition; a state told anew at a loop's head. -/
import Derived.Test.YtnflbiafmddpgaaZ14
namespace Go.Proofs.Ytnflbiafmddpgaa.Z
open Go.RowKit
set_option linter.unusedVariables false
set_option linter.unusedSimpArgs false
section
variable {T : Tys} {P : Program} {W0 : World}
/-! ### in -/
def c0Cell : C0 T.Tb → Cell T
  | .sc v => .sc v
  | .sl e l => .im none e l
def argSlot : Arg T.Tb → Slot T
  | .c x => .c (c0Cell x)
  | .ag l => .ag (l.map c0Cell)
def initTm : Nat → List (Arg T.Tb) → List (Nat × Slot T)
  | _, [] => []
  | i, x :: l => (i, argSlot x) :: initTm (i + 1) l
def init (T : Tys) (A : Nat → Prop) (n : Nat) (args : List (Arg T.Tb)) : St T := ⟨initTm 0 args, [], n, A⟩
theorem c0_rel {σ : St T} {env : Nat → Value} {F : Nat → Nat → Prop} {w : World} {S : Nat → Prop} {x : C0 T.Tb} {v : Value} (h : ArgCell w S x v) (hS : ∀ k, S k → okP σ.A F none k) : CellRel σ env F w (c0Cell x) v := by
  cases x with
  | sc v' => exact h
  | sl e l => exact ⟨Rd.one h, fun _ => Rd.mono h hS⟩
theorem c0s_rel {σ : St T} {env : Nat → Value} {F : Nat → Nat → Prop} {w : World} {S : Nat → Prop} (hS : ∀ k, S k → okP σ.A F none k) : ∀ {x : List (C0 T.Tb)} {v : List Value}, ArgCells w S x v → CellsRel σ env F w (x.map c0Cell) v
  | [], _, h => h
  | c :: cs, _, ⟨v, r, e, h1, h2⟩ => ⟨v, r, e, c0_rel h1 hS, c0s_rel hS h2⟩
theorem arg_rel {σ : St T} {env : Nat → Value} {F : Nat → Nat → Prop} {w : World} {S : Nat → Prop} (hS : ∀ k, S k → okP σ.A F none k) {x : Arg T.Tb} {v : Value} (h : ArgRel w S x v) : SlotRel σ env F w (argSlot x) v := by
  cases x with
  | c x => exact c0_rel h hS
  | ag l => obtain ⟨us, e, h⟩ := h; exact ⟨us, e, c0s_rel hS h⟩
theorem init_tm {σ : St T} {env : Nat → Value} {F : Nat → Nat → Prop} {w : World} {S : Nat → Prop} (hS : ∀ k, S k → okP σ.A F none k) : ∀ {args : List (Arg T.Tb)} {vs : List Value} {i t : Nat}, ArgsRel w S args vs → i ≤ t → SlotRel σ env F w (lk (.c .un) (initTm i args) t) (vs.getD (t - i) undef) ∨ lk (.c .un) (initTm i args) t = .c .un
  | [], _, i, t, _, _ => .inr rfl
  | x :: l, _, i, t, ⟨v, r, e, h1, h2⟩, hi => by
    subst e
    unfold initTm lk
    by_cases he : i = t
    · subst he
      rw [show Nat.beq i i = true by simp [Nat.beq_eq]]
      exact .inl (by simpa using arg_rel hS h1)
    · rw [beq_ne he]
      have := init_tm (σ := σ) (env := env) (F := F) hS (i := i + 1) (t := t) h2 (by omega)
      rw [show t - i = (t - (i + 1)) + 1 by omega]
      simpa using this
theorem args_len {w : World} {S : Nat → Prop} : ∀ {args : List (Arg T.Tb)} {vs : List Value}, ArgsRel w S args vs → args.length = vs.length
  | [], _, h => by cases h; rfl
  | x :: l, _, ⟨v, r, e, _, h⟩ => by subst e; simp [args_len h]
theorem init_sim {w : World} {S : Nat → Prop} {args : List (Arg T.Tb)} {vs : List Value} {n : Nat} (h : ArgsRel w S args vs) (hn : Nat.ble args.length n = true) :
    Sim w (init T (fun k => S k ∨ w.heap.size ≤ k) n args) { tmps := vs.toArray ++ Array.replicate (n - vs.toArray.size) undef, defers := [] } w := by
  have hl := args_len h
  have hn' := Nat.le_of_ble_eq_true hn
  refine ⟨fun _ => undef, fun _ _ => False, Below.refl _ _, fun k hk => .inr hk, by simp [init]; omega, rfl, fun r k hk => hk.elim, fun _ _ h => h.elim, fun _ _ _ h => h.elim, fun t => ?_⟩
  rcases init_tm (σ := init T (fun k => S k ∨ w.heap.size ≤ k) n args) (env := fun _ => undef) (F := fun _ _ => False) (fun k hk => .inl ⟨.inl hk, fun _ h => h⟩) (i := 0) (t := t) h (Nat.zero_le _) with h1 | h1
  · have : (vs.toArray ++ Array.replicate (n - vs.toArray.size) undef).getD t undef = vs.getD t undef := by
      simp only [Array.getD_eq_getD_getElem?, List.getD_eq_getElem?_getD]
      by_cases ht : t < vs.length
      · rw [Array.getElem?_append_left (by simpa using ht)]; simp [ht]
      · rw [List.getElem?_eq_none (by omega), Array.getElem?_append_right (by simp; omega)]
        simp only [Array.getElem?_replicate]
        split <;> rfl
    simp only [this]
    exact h1
  · show SlotRel _ _ _ _ (lk _ _ t) _
    rw [show (init T (fun k => S k ∨ w.heap.size ≤ k) n args).tm = initTm 0 args from rfl, h1]
    trivial
/-! ### out -/
def resV (T : Tys) (σ : St T) : ResultVar → Option (Slot T)
  | .tmp t => some (σ.tmp t)
  | .cell t ty => match σ.tmp t with
    | .c (.px r n) => match σ.res r with
      | .bx _ cs => match T.ti ty with
        | some i => ldCells i cs n
        | none => none
      | _ => none
    | _ => none
/-- A row that is told is the row that is promised. -/
def SameRow (e : Nat) (l : List (T.Tb e)) (e' : Nat) (l' : List (T.Tb e')) : Prop := (⟨e, l⟩ : Σ e, List (T.Tb e)) = ⟨e', l'⟩
def RetC (σ : St T) : Cell T → R0 T.Tb → Prop
  | .sc v, .sc v' => v = v'
  | .sc v, .ow e l => v = .slice none 0 0 ∧ l = []
  | .sc v, .im e l => v = .slice none 0 0 ∧ l = []
  | .im none e l, .im e' l' => SameRow e l e' l'
  | .hd r, .ow e' l' => match σ.res r with
    | .row _ e l => SameRow e l e' l'
    | _ => False
  | .hd r, .im e' l' => match σ.res r with
    | .row _ e l => SameRow e l e' l'
    | _ => False
  | _, _ => False
def RetCs (σ : St T) : List (Cell T) → List (R0 T.Tb) → Prop
  | [], [] => True
  | c :: cs, r :: rs => RetC σ c r ∧ RetCs σ cs rs
  | _, _ => False
def ownIds : List (Cell T) → List (R0 T.Tb) → List (Option Nat)
  | .hd r :: cs, .ow _ _ :: rs => some r :: ownIds cs rs
  | _ :: cs, _ :: rs => none :: ownIds cs rs
  | _, _ => []
/-- The rows that are handed out to be read alone. -/
def imIds : List (Cell T) → List (R0 T.Tb) → List Nat
  | .hd r :: cs, .im _ _ :: rs => r :: imIds cs rs
  | _ :: cs, _ :: rs => imIds cs rs
  | _, _ => []
def hasO (r : Nat) : List (Option Nat) → Bool
  | [] => false
  | some k :: l => match Nat.beq k r with
    | true => true
    | false => hasO r l
  | none :: l => hasO r l
def nodupO : List (Option Nat) → Bool
  | [] => true
  | some k :: l => match hasO k l with
    | true => false
    | false => nodupO l
  | none :: l => nodupO l
def noneIn : List Nat → List (Option Nat) → Bool
  | [], _ => true
  | r :: l, m => match hasO r m with
    | true => false
    | false => noneIn l m
def slotCells : Slot T → Option (Bool × List (Cell T))
  | .c x => some (false, [x])
  | .ag l => some (true, l)
  | _ => none
def slotItems : List (Slot T) → Option (List (Bool × List (Cell T)))
  | [] => some []
  | s :: l => match slotCells s with
    | some x => match slotItems l with
      | some r => some (x :: r)
      | none => none
    | none => none
def flatC : List (Bool × List (Cell T)) → List (Cell T)
  | [] => []
  | x :: l => x.2 ++ flatC l
def shape1 : List (Bool × List (Cell T)) → List (Bool × Nat)
  | [] => []
  | x :: l => (x.1, x.2.length) :: shape1 l
def shape2 : List (Bool × List (R0 T.Tb)) → List (Bool × Nat)
  | [] => []
  | x :: l => (x.1, x.2.length) :: shape2 l
def items : RS T.Tb → List (Bool × List (R0 T.Tb))
  | .c x => [(false, [x])]
  | .ag l => [(true, l)]
  | .tu l => l
def isTu : RS T.Tb → Bool
  | .tu _ => true
  | _ => false
def resVs (T : Tys) (σ : St T) : List ResultVar → Option (List (Slot T))
  | [] => some []
  | v :: l => match resV T σ v with
    | some s => match resVs T σ l with
      | some r => some (s :: r)
      | none => none
    | none => none
/-- The answer's form; its rows are apart; its cells. -/
structure RetQ (p q r : Prop) : Prop where
  p : p
  q : q
  r : r
def RetOk (σ : St T) (rs : List ResultVar) (res : RS T.Tb) : Prop :=
  match resVs T σ rs with
  | some ss => match slotItems ss with
    | some its => RetQ (shape1 its = shape2 (items res) ∧ isTu res = !(Nat.beq its.length 1)) (nodupO (ownIds (flatC its) res.flat) = true ∧ noneIn (imIds (flatC its) res.flat) (ownIds (flatC its) res.flat) = true) (RetCs σ (flatC its) res.flat)
    | none => False
  | none => False
def retK (T : Tys) (n : Nat) (A : Nat → Prop) (rs : List ResultVar) (res : RS T.Tb) : Exit → Nat → List (Nat × Slot T) → List (Nat × Res T) → Prop
  | .normal, _, tm, rsc => RetOk (⟨tm, rsc, n, A⟩ : St T) rs res
  | .ret, _, tm, rsc => RetOk (⟨tm, rsc, n, A⟩ : St T) rs res
  | _, _, _, _ => False
def rdVar (tmps : Array Value) : ResultVar → Sem Value
  | .tmp t => pure (tmps.getD t undef)
  | .cell x t => do loadVar t (← asAddr (tmps.getD x undef))
theorem run_resV (hT : T.ok P) {σ : St T} {a : Act} {w : World} {env : Nat → Value} {F : Nat → Nat → Prop} (h : Sim0 W0 σ a w env F) {r : ResultVar} {s : Slot T} (hr : resV T σ r = some s) :
    ∃ v, (rdVar a.tmps r).run P w = .ok v w ∧ SlotRel σ env F w s v := by
  cases r with
  | tmp t => cases hr; exact ⟨_, rfl, h.tm t⟩
  | cell t ty =>
    unfold resV at hr
    dsimp only at hr
    split at hr
    · rename_i q n hq
      split at hr
      · rename_i tb cs hres
        cases hi : T.ti ty with
        | none => rw [hi] at hr; cases hr
        | some i =>
          rw [hi] at hr
          have h1 := h.tm t
          rw [hq] at h1
          obtain ⟨g, h2, h3⟩ := h1
          have h4 := h.res q
          rw [hres] at h4
          obtain ⟨g', arr, h5, _, _, h6, h7⟩ := h4
          rw [h2] at h5
          cases h5
          obtain ⟨v, h8, h9⟩ := ld_run (hT ty i hi) h7 (b := ⟨g, 0, none⟩) (fun j v hj => by rw [cell_blk h6, ← Array.getElem?_toList]; exact hj) hr
          rw [add_lit, Nat.zero_add] at h8
          refine ⟨v, ?_, h9⟩
          unfold rdVar
          dsimp only
          rw [h3]
          simpa [asAddr, Instr.loadAt, Instr.sureAddr, Sem.run_bind] using h8
      · cases hr
    · cases hr
theorem run_resVs (hT : T.ok P) {σ : St T} {a : Act} {w : World} {env : Nat → Value} {F : Nat → Nat → Prop} (h : Sim0 W0 σ a w env F) : ∀ {rs : List ResultVar} {ss : List (Slot T)} {its : List (Bool × List (Cell T))}, resVs T σ rs = some ss → slotItems ss = some its →
    ∃ vs, (rs.mapM (rdVar a.tmps)).run P w = .ok vs w ∧ ItemsRel σ env F w its vs
  | [], _, _, h1, h2 => by cases h1; cases h2; exact ⟨[], rfl, rfl⟩
  | r :: rs, _, _, h1, h2 => by
    unfold resVs at h1
    cases h3 : resV T σ r with
    | none => rw [h3] at h1; cases h1
    | some s =>
      rw [h3] at h1
      dsimp only at h1
      cases h4 : resVs T σ rs with
      | none => rw [h4] at h1; cases h1
      | some ss =>
        rw [h4] at h1
        cases h1
        unfold slotItems at h2
        cases h5 : slotCells s with
        | none => rw [h5] at h2; cases h2
        | some x =>
          rw [h5] at h2
          dsimp only at h2
          cases h6 : slotItems ss with
          | none => rw [h6] at h2; cases h2
          | some its =>
            rw [h6] at h2
            cases h2
            obtain ⟨v, h7, h8⟩ := run_resV hT h h3
            obtain ⟨vs, h9, h10⟩ := run_resVs hT h h4 h6
            refine ⟨v :: vs, ?_, v, vs, rfl, ?_, h10⟩
            · rw [List.mapM_cons]
              simp only [Sem.run_bind, h7, Result.andThen_ok, h9, Sem.run_pure]
            · unfold slotCells at h5
              split at h5 <;> cases h5
              · exact ⟨v, [], rfl, h8, rfl⟩
              · exact h8
def gOf (F : Nat → Nat → Prop) (ids : List (Option Nat)) (i k : Nat) : Prop := ∃ r, ids[i]? = some (some r) ∧ F r k
theorem hasO_iff {r : Nat} : ∀ {l : List (Option Nat)}, hasO r l = true ↔ ∃ i : Nat, l[i]? = some (some r)
  | [] => by simp [hasO]
  | none :: l => by
    unfold hasO
    rw [hasO_iff (l := l)]
    constructor
    · rintro ⟨i, h⟩; exact ⟨i + 1, by simpa using h⟩
    · rintro ⟨i, h⟩
      cases i with
      | zero => simp at h
      | succ i => exact ⟨i, by simpa using h⟩
  | some k :: l => by
    unfold hasO
    cases hb : Nat.beq k r
    · have hne : k ≠ r := fun e => absurd hb (by rw [e]; simp [Nat.beq_eq])
      rw [hasO_iff (l := l)]
      constructor
      · rintro ⟨i, h⟩; exact ⟨i + 1, by simpa using h⟩
      · rintro ⟨i, h⟩
        cases i with
        | zero => simp at h; exact absurd h hne
        | succ i => exact ⟨i, by simpa using h⟩
    · have : k = r := Nat.eq_of_beq_eq_true hb
      simp only [true_iff]
      exact ⟨0, by simp [this]⟩
theorem nodupO_spec : ∀ {l : List (Option Nat)}, nodupO l = true → ∀ (i j r : Nat), l[i]? = some (some r) → l[j]? = some (some r) → i = j
  | [], _, i, j, r, h, _ => by simp at h
  | none :: l, h, i, j, r, hi, hj => by
    cases i with
    | zero => simp at hi
    | succ i =>
      cases j with
      | zero => simp at hj
      | succ j => rw [nodupO_spec (l := l) h i j r (by simpa using hi) (by simpa using hj)]
  | some k :: l, h, i, j, r, hi, hj => by
    unfold nodupO at h
    cases hk : hasO k l <;> rw [hk] at h
    · have hno : ∀ m : Nat, l[m]? ≠ some (some k) := fun m hm => by rw [hasO_iff.2 ⟨m, hm⟩] at hk; cases hk
      cases i with
      | zero =>
        simp at hi
        subst hi
        cases j with
        | zero => rfl
        | succ j => exact absurd (by simpa using hj) (hno j)
      | succ i =>
        cases j with
        | zero => simp at hj; subst hj; exact absurd (by simpa using hi) (hno i)
        | succ j => rw [nodupO_spec (l := l) h i j r (by simpa using hi) (by simpa using hj)]
    · cases h
theorem noneIn_spec {m : List (Option Nat)} : ∀ {l : List Nat}, noneIn l m = true → ∀ r ∈ l, ∀ i : Nat, m[i]? ≠ some (some r)
  | [], _, r, h, _ => by cases h
  | k :: l, h, r, hr, i => by
    unfold noneIn at h
    cases hk : hasO k m <;> rw [hk] at h
    · rcases List.mem_cons.1 hr with rfl | hr
      · exact fun hm => by rw [hasO_iff.2 ⟨i, hm⟩] at hk; cases hk
      · exact noneIn_spec h r hr i
    · cases h
theorem sameRow_ow {w : World} {F : Nat → Prop} {e e' : Nat} {l : List (T.Tb e)} {l' : List (T.Tb e')} {v : Value} (h : SameRow e l e' l') (ho : Ow T.sz w F (.sl e (l.map (T.enc e))) v) : Ow T.sz w F (.sl e' (l'.map (T.enc e'))) v := by
  unfold SameRow at h; cases h; exact ho
theorem sameRow_rd {w : World} {F : Nat → Prop} {e e' : Nat} {l : List (T.Tb e)} {l' : List (T.Tb e')} {v : Value} (h : SameRow e l e' l') (ho : Rd T.sz w F (.sl e (l.map (T.enc e))) v) : Rd T.sz w F (.sl e' (l'.map (T.enc e'))) v := by
  unfold SameRow at h; cases h; exact ho
/-- The cells of an answer. -/
theorem ret_cells {σ : St T} {a : Act} {w' : World} {env : Nat → Value} {F : Nat → Nat → Prop} (h : Sim0 W0 σ a w' env F) {S' : Nat → Prop} {G : Nat → Nat → Prop} : ∀ {cs : List (Cell T)} {rs : List (R0 T.Tb)} {vs : List Value} {i : Nat}, CellsRel σ env F w' cs vs → RetCs σ cs rs →
    (∀ (j r : Nat), (ownIds cs rs)[j]? = some (some r) → ∀ k, F r k → G (i + j) k) → (∀ k, σ.A k → (∀ r, ¬ F r k) → k < w'.heap.size → S' k) → (∀ r ∈ imIds cs rs, ∀ k, F r k → S' k) → ResCells w' S' G i rs vs
  | [], [], _, _, hc, _, _, _, _ => hc
  | [], _ :: _, _, _, _, hr, _, _, _ => hr.elim
  | _ :: _, [], _, _, _, hr, _, _, _ => hr.elim
  | c :: cs, r :: rs, _, i, ⟨v, vs, e, h1, h2⟩, ⟨hr, hrs⟩, hG, hS, hI => by
    subst e
    have rest : (∀ (j q : Nat), (ownIds cs rs)[j]? = some (some q) → (ownIds (c :: cs) (r :: rs))[j + 1]? = some (some q)) → (∀ q ∈ imIds cs rs, q ∈ imIds (c :: cs) (r :: rs)) → ResCells w' S' G (i + 1) rs vs := fun ha hb =>
      ret_cells h h2 hrs (fun j q hj k hk => by have := hG (j + 1) q (ha j q hj) k hk; rw [show i + 1 + j = i + (j + 1) by omega]; exact this) hS (fun q hq => hI q (hb q hq))
    have e1 : ∀ x, ownIds (c :: cs) (r :: rs) = x :: ownIds cs rs → ∀ (j q : Nat), (ownIds cs rs)[j]? = some (some q) → (ownIds (c :: cs) (r :: rs))[j + 1]? = some (some q) := fun x hx j q hj => by rw [hx]; simpa using hj
    cases c with
    | un => cases r <;> exact hr.elim
    | px q o => cases r <;> exact hr.elim
    | sc u =>
      cases r with
      | sc u' => exact ⟨vs, by rw [h1.1]; show _ = _; rw [show u = u' from hr], hr ▸ h1.1 ▸ h1.2, rest (e1 _ rfl) (fun q hq => hq)⟩
      | ow e l =>
        obtain ⟨rfl, rfl⟩ := hr
        exact ⟨v, vs, rfl, by rw [h1.1]; exact .nil _ e, rest (e1 _ rfl) (fun q hq => hq)⟩
      | im e l =>
        obtain ⟨rfl, rfl⟩ := hr
        exact ⟨v, vs, rfl, by rw [h1.1]; exact .nil e none 0, rest (e1 _ rfl) (fun q hq => hq)⟩
    | im p e l =>
      cases p with
      | some q => cases r <;> exact hr.elim
      | none =>
        cases r with
        | sc u' => exact hr.elim
        | ow e' l' => exact hr.elim
        | im e' l' =>
          refine ⟨v, vs, rfl, ?_, rest (e1 _ rfl) (fun q hq => hq)⟩
          have h3 := sameRow_rd hr (h1.2 trivial)
          exact h3.bound.mono (fun k hk => hk.1.elim (fun ⟨ha, hn⟩ => hS k ha hn hk.2) (fun ⟨q, hq, _⟩ => by cases hq))
    | hd q =>
      cases r with
      | sc u' => exact hr.elim
      | ow e' l' =>
        have h3 := h.res q
        cases hres : σ.res q with
        | row bv e l =>
          simp only [RetC, hres] at hr
          rw [hres] at h3
          have h4 := sameRow_ow hr h3
          rw [← h1.1] at h4
          exact ⟨v, vs, rfl, h4.mono (fun k hk => hG 0 q rfl k hk), rest (e1 _ rfl) (fun q hq => hq)⟩
        | no => simp only [RetC, hres] at hr
        | bx t cs => simp only [RetC, hres] at hr
      | im e' l' =>
        have h3 := h.res q
        cases hres : σ.res q with
        | row bv e l =>
          simp only [RetC, hres] at hr
          rw [hres] at h3
          have h4 := sameRow_ow hr h3
          rw [← h1.1] at h4
          exact ⟨v, vs, rfl, (Ow.rd h4).mono (fun k hk => hI q List.mem_cons_self k hk), rest (e1 _ rfl) (fun q hq => List.mem_cons_of_mem _ hq)⟩
        | no => simp only [RetC, hres] at hr
        | bx t cs => simp only [RetC, hres] at hr
theorem flat_items {w' : World} {σ : St T} {env : Nat → Value} {F : Nat → Nat → Prop} : ∀ {its : List (Bool × List (Cell T))} {its' : List (Bool × List (R0 T.Tb))} {vs : List Value}, ItemsRel σ env F w' its vs → shape1 its = shape2 its' → ∃ fv, FlatItems its' vs fv ∧ CellsRel σ env F w' (flatC its) fv
  | [], [], _, h, _ => ⟨[], ⟨h, rfl⟩, rfl⟩
  | [], _ :: _, _, _, h => by cases h
  | _ :: _, [], _, _, h => by cases h
  | it :: its, it' :: its', _, ⟨v, r, e, h1, h2⟩, hs => by
    simp only [shape1, shape2, List.cons.injEq, Prod.mk.injEq] at hs
    obtain ⟨⟨hb, hl⟩, hs⟩ := hs
    obtain ⟨fv, h3, h4⟩ := flat_items h2 hs
    unfold ItemRel at h1
    cases hbb : it.1 <;> rw [hbb] at h1 <;> dsimp only at h1
    · refine ⟨[v] ++ fv, ⟨v, r, [v], fv, e, rfl, by rw [← hl]; exact (cells_len h1).symm, ?_, h3⟩, cells_app h1 h4⟩
      rw [← hb, hbb]
    · obtain ⟨us, e1, h1⟩ := h1
      refine ⟨us.toList ++ fv, ⟨v, r, us.toList, fv, e, rfl, by rw [← hl]; exact (cells_len h1).symm, ?_, h3⟩, cells_app h1 h4⟩
      rw [← hb, hbb]
      exact ⟨us, e1, rfl⟩
theorem flat_eq (res : RS T.Tb) : flatTu (items res) = res.flat := by cases res <;> simp [items, flatTu, RS.flat]
theorem shape_len {its : List (Bool × List (Cell T))} : ∀ {its : List (Bool × List (Cell T))} {its' : List (Bool × List (R0 T.Tb))}, shape1 its = shape2 its' → its.length = its'.length
  | [], [], _ => rfl
  | [], _ :: _, h => by cases h
  | _ :: _, [], h => by cases h
  | _ :: its, _ :: its', h => by simp [shape_len (its := []) (List.cons.inj h).2]
theorem ret_ok (hT : T.ok P) {w w' : World} {vs : List Value} {S : Nat → Prop} {σ : St T} {a : Act} {fn : Func} {res : RS T.Tb} (hA : σ.A = fun k => S k ∨ w.heap.size ≤ k) (hS : Sim w σ a w') (hr : RetOk σ fn.results.toList res) :
    ∃ v, (results fn a.tmps).run P w' = .ok v w' ∧ ∃ G : Nat → Nat → Prop, Below w.heap.size w w' ∧ (∀ i k, G i k → w.heap.size ≤ k ∧ k < w'.heap.size) ∧ (∀ i j k, G i k → G j k → i = j) ∧
      ∃ fv, FlatV res v fv ∧ ResCells w' (fun k => S k ∧ k < w.heap.size ∨ w.heap.size ≤ k ∧ ∀ i, ¬ G i k) G 0 res.flat fv := by
  obtain ⟨env, F, h⟩ := hS
  unfold RetOk at hr
  split at hr
  · rename_i ss h1
    split at hr
    · rename_i its h2
      obtain ⟨⟨hsh, htu⟩, ⟨hnd, hni⟩, hrc⟩ := hr
      obtain ⟨us, h3, h4⟩ := run_resVs hT h h1 h2
      obtain ⟨fv, h5, h6⟩ := flat_items h4 hsh
      have hG : ∀ i k, gOf F (ownIds (flatC its) res.flat) i k → w.heap.size ≤ k ∧ k < w'.heap.size := fun i k ⟨r, _, hk⟩ => h.own r k hk
      have hap : ∀ i j k, gOf F (ownIds (flatC its) res.flat) i k → gOf F (ownIds (flatC its) res.flat) j k → i = j := fun i j k ⟨r, h7, hk⟩ ⟨r', h8, hk'⟩ => by
        have e := h.apart r r' k hk hk'
        subst e
        exact nodupO_spec hnd i j r h7 h8
      have hcells : ResCells w' (fun k => S k ∧ k < w.heap.size ∨ w.heap.size ≤ k ∧ ∀ i, ¬ gOf F (ownIds (flatC its) res.flat) i k) (gOf F (ownIds (flatC its) res.flat)) 0 res.flat fv := by
        refine ret_cells h h6 hrc (fun j r hj k hk => ⟨r, by rw [Nat.zero_add]; exact hj, hk⟩) (fun k ha hn hlt => ?_) (fun r hr k hk => ?_)
        · rw [hA] at ha
          by_cases e : k < w.heap.size
          · exact .inl ⟨ha.resolve_right (by omega), e⟩
          · exact .inr ⟨by omega, fun i ⟨r, _, hk⟩ => hn r hk⟩
        · refine .inr ⟨(h.own r k hk).1, fun i ⟨r', h7, hk'⟩ => ?_⟩
          have e := h.apart r r' k hk hk'
          subst e
          exact noneIn_spec hni r hr i h7
      have hrun : (results fn a.tmps).run P w' = .ok (if h : us.length = 1 then us[0] else .tuple us.toArray) w' := by
        have hres : results fn a.tmps = (do
            let vs ← fn.results.mapM (rdVar a.tmps)
            pure (if h : vs.size = 1 then vs[0] else .tuple vs)) := by
          unfold results
          rfl
        rw [hres, Array.mapM_eq_mapM_toList]
        simp only [Sem.run_bind, map_eq_pure_bind, h3, Result.andThen_ok, Sem.run_pure, List.size_toArray, List.getElem_toArray]
      have hlen : us.length = its.length := by
        have key : ∀ (its : List (Bool × List (Cell T))) (us : List Value), ItemsRel σ env F w' its us → us.length = its.length := by
          intro its
          induction its with
          | nil => intro us h; cases h; rfl
          | cons x l ih => rintro us ⟨v, r, e, _, h⟩; subst e; simp [ih r h]
        exact key its us h4
      refine ⟨_, hrun, _, h.below, hG, hap, fv, ?_, hcells⟩
      have hl2 := shape_len (its := []) hsh
      cases res with
      | c x =>
        have h1 : us.length = 1 := by rw [hlen, hl2]; rfl
        rw [dif_pos h1]
        obtain ⟨v, r, f1, f2, e1, e2, _, e3, e4, e5⟩ := h5
        subst e1 e2 e4 e5
        subst e3
        rfl
      | ag l =>
        have h1 : us.length = 1 := by rw [hlen, hl2]; rfl
        rw [dif_pos h1]
        obtain ⟨v, r, f1, f2, e1, e2, _, e3, e4, e5⟩ := h5
        subst e1 e2 e4 e5
        obtain ⟨us', e6, e7⟩ := e3
        exact ⟨us', e6, by rw [e7]; simp⟩
      | tu l =>
        have h1 : ¬ us.length = 1 := by
          rw [hlen]
          intro e
          rw [e] at htu
          cases htu
        rw [dif_neg h1]
        exact ⟨us.toArray, rfl, h5⟩
    · exact hr.elim
  · exact hr.elim
/-- A function's contract. -/
theorem call_of_vc (hT : T.ok P) {f : FuncId} {fn : Func} {c : Code} {args : List (Arg T.Tb)} {res : RS T.Tb} (hf : P.funcs[f]? = some fn) (hname : (fn.name == "runtime.NumGoroutine") = false) (hb : fn.body = some c) (hn : Nat.ble args.length fn.ntmps = true)
    (h : ∀ A, vcC P fn.ntmps A c (retK T fn.ntmps A fn.results.toList res) 0 (initTm 0 args) []) : CallOb T P f args res := by
  refine ⟨⟨fn, hf, hname, by rw [hb]; rfl⟩, fun w vs S hargs => ?_⟩
  refine calls_of_wp hf hb (vc_sound hT c _ _ _ _ (h (fun k => S k ∨ w.heap.size ≤ k)) _ w _ (init_sim hargs hn) (fun e nx' tm' rs' a' w' hK hS' => ?_))
  have hd : a'.defers = [] := by obtain ⟨env, F, h⟩ := hS'; exact h.defers
  have main : RetOk (⟨tm', rs', fn.ntmps, fun k => S k ∨ w.heap.size ≤ k⟩ : St T) fn.results.toList res → a'.defers = [] ∧ ∃ v, (results fn a'.tmps).run P w' = .ok v w' ∧ ∃ v' G, Ending.returned v = .returned v' ∧ Below w.heap.size w w' ∧ (∀ i k, G i k → w.heap.size ≤ k ∧ k < w'.heap.size) ∧ (∀ i j k, G i k → G j k → i = j) ∧
      ∃ fv, FlatV res v' fv ∧ ResCells w' (fun k => S k ∧ k < w.heap.size ∨ w.heap.size ≤ k ∧ ∀ i, ¬ G i k) G 0 res.flat fv := fun hr => by
    obtain ⟨v, h1, G, h2, h3, h4, h5⟩ := ret_ok (vs := vs) hT rfl hS' hr
    exact ⟨hd, v, h1, v, G, rfl, h2, h3, h4, h5⟩
  cases e <;> first | exact main hK | exact hK.elim
end
end Go.Proofs.Ytnflbiafmddpgaa.Z
