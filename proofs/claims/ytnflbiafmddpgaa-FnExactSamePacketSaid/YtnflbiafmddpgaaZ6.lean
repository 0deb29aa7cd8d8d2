/- The path calculus, part 6: lengths, loads, addresses, slices of slices. -/
import Derived.Test.YtnflbiafmddpgaaZ5
import Derived.Laws.Cells
import Derived.Laws.Slices
namespace Go.Proofs.Ytnflbiafmddpgaa.Z
open Go.RowKit
set_option linter.unusedVariables false
set_option linter.unusedSimpArgs false
section
variable {T : Tys} {P : Program} {W0 : World} {σ σ' : St T} {a : Act} {w : World} {env : Nat → Value} {F : Nat → Nat → Prop} {o : Oper} {tch chg : List Nat}
theorem add_add (a : Addr) (m n : Nat) : (a.add m).add n = a.add (m + n) := by
  unfold Addr.add
  by_cases hm : m = 0 <;> by_cases hn : n = 0 <;> simp [hm, hn, Nat.add_assoc]
theorem add_lit (g o n : Nat) : (⟨g, o, none⟩ : Addr).add n = ⟨g, o + n, none⟩ := by unfold Addr.add; split <;> simp_all
theorem add_blk (a : Addr) (n : Nat) : (a.add n).block = a.block := by unfold Addr.add; split <;> rfl
/-! ### what a slot reads as -/
inductive RdV (T : Tys) where
  | mk (p : Option (Nat × Nat)) (e : Nat) (l : List (T.Tb e))
def liveB (σ : St T) : Option (Nat × Nat) → Bool
  | none => true
  | some q => match σ.res q.1 with
    | .row bv _ _ => Nat.beq bv q.2
    | _ => false
theorem liveB_spec {p : Option (Nat × Nat)} (h : liveB σ p = true) : σ.live p := by
  cases p with
  | none => trivial
  | some q =>
    unfold liveB at h
    dsimp only at h
    cases hr : σ.res q.1 with
    | row bv e l =>
      rw [hr] at h
      have : bv = q.2 := Nat.eq_of_beq_eq_true h
      exact ⟨e, l, by rw [hr, this]⟩
    | no => rw [hr] at h; cases h
    | bx t cs => rw [hr] at h; cases h
def pRefs : Option (Nat × Nat) → List Nat
  | none => []
  | some q => [q.1, q.2]
def rdS (σ : St T) : Slot T → Option (RdV T)
  | .c (.im p e l) => match liveB σ p with
    | true => some ⟨p, e, l⟩
    | false => none
  | .c (.hd r) => match σ.res r with
    | .row bv e l => some ⟨some (r, bv), e, l⟩
    | _ => none
  | _ => none
theorem live_agree {ts : List Nat} (hA : Agree σ σ' ts tch chg) {p : Option (Nat × Nat)} (hp : ∀ r ∈ pRefs p, r ∈ tch) (h : σ.live p) : σ'.live p := by
  cases p with
  | none => trivial
  | some q =>
    obtain ⟨e, l, hl⟩ := h
    exact ⟨e, l, by rw [hA.res q.1 (hp q.1 (by simp [pRefs]))]; exact hl⟩
theorem rdS_rel {ts : List Nat} (h : Sim0 W0 σ' a w env F) (hA : Agree σ σ' ts tch chg) {s : Slot T} {u : Value} (hs : SlotRel σ' env F w s u) {p : Option (Nat × Nat)} {e : Nat} {l : List (T.Tb e)} (hr : rdS σ s = some ⟨p, e, l⟩) (hp : ∀ r ∈ pRefs p, r ∈ tch) :
    σ'.live p ∧ Rd T.sz w (okP σ'.A F p) (.sl e (l.map (T.enc e))) u := by
  unfold rdS at hr
  split at hr
  · rename_i p' e' l'
    cases hl : liveB σ p' <;> rw [hl] at hr <;> cases hr
    have h1 := live_agree hA hp (liveB_spec hl)
    exact ⟨h1, hs.2 h1⟩
  · rename_i r
    cases hl : σ.res r with
    | row bv e' l' =>
      rw [hl] at hr
      cases hr
      have h1 : σ'.res r = .row bv e l := by rw [hA.res r (hp r (by simp [pRefs]))]; exact hl
      have h2 := h.res r
      rw [h1] at h2
      refine ⟨⟨e, l, h1⟩, ?_⟩
      rw [hs.1]
      exact (Ow.rd h2).mono (fun k hk => .inr ⟨(r, bv), rfl, hk⟩)
    | no => rw [hl] at hr; cases hr
    | bx t cs => rw [hl] at hr; cases hr
  · cases hr
/-! ### len -/
def lenS (σ : St T) (s : Slot T) : Option (Int × List Nat) :=
  match s with
  | .c (.sc (.string b)) => some ((b.size : Int), [])
  | .c (.sc (.slice _ n _)) => some ((n : Int), [])
  | s => match rdS σ s with
    | some ⟨p, e, l⟩ => some ((l.length : Int), pRefs p)
    | none => none
def lenK : TK → Slot T → Bool
  | .text, .c (.sc (.string _)) => true
  | .slice _, .c (.sc (.slice _ _ _)) => true
  | .slice _, .c (.im _ _ _) => true
  | .slice _, .c (.hd _) => true
  | _, _ => false
def stLen (σ : St T) (dst : Option Nat) (t : Nat) (x : Operand) : LOut T :=
  match T.ti t with
  | some i => match lenK i.kind (evS σ x) with
    | true => match lenS σ (evS σ x) with
      | some (n, ts) => match dstOk σ dst with
        | true => .done ⟨.c (.sc (.int .i64 n)), [], ts, 0, []⟩ none
        | false => .stuck
      | none => .stuck
    | false => .stuck
  | none => .stuck
theorem run_len_sl {t ty e : TypeId} {b : Option Addr} {n c : Nat} (h : P.underlying t = some (.slice e)) (w : World) : (Builtin.len_ #[t] ty #[.slice b n c]).run P w = .ok (.int .i64 n) w := by
  simp [Builtin.len_, run_underlying h, goInt]
theorem run_len_tx {t ty : TypeId} {b : ByteArray} (h : P.underlying t = some .string) (w : World) : (Builtin.len_ #[t] ty #[.string b]).run P w = .ok (.int .i64 b.size) w := by
  simp [Builtin.len_, run_underlying h, goInt]
theorem exec_builtin {b : Builtin} {args : Array Operand} {ts : Array TypeId} {v : Value} {w w' : World} (hT : o.op = .call { callee := .builtin b, args := args, argTypes := ts }) (h : (builtin b ts o.type (args.map fun | .const _ => true | _ => false) (args.map a.eval)).run P w = .ok (.value v) w') : (execOp a.eval o).run P w = .ok (.value v) w' := by
  unfold execOp
  rw [hT]
  simp only [resolve, invoke, Sem.run_bind, Sem.run_pure, Result.andThen_ok]
  exact h
theorem stLen_ok (hT : T.ok P) {t : Nat} {x : Operand} {U : Upd T} {ob : Option Prop} (ho : o.op = .call { callee := .builtin .len, args := #[x], argTypes := #[t] }) (h : stLen σ o.dst t x = .done U ob) : LStep P W0 o σ U := by
  unfold stLen at h
  cases hi : T.ti t with
  | none => rw [hi] at h; cases h
  | some i =>
    rw [hi] at h
    dsimp only at h
    cases hk : lenK i.kind (evS σ x) with
    | false => rw [hk] at h; cases h
    | true =>
      rw [hk] at h
      dsimp only at h
      cases hl : lenS σ (evS σ x) with
      | none => rw [hl] at h; cases h
      | some nt =>
        obtain ⟨n, ts⟩ := nt
        rw [hl] at h
        dsimp only at h
        cases hd : dstOk σ o.dst <;> rw [hd] at h <;> cases h
        refine quiet_step (dstOk_spec hd) (fun σ' a w env F hA hS => ⟨.int .i64 n, ?_, ⟨rfl, rfl⟩⟩)
        have e1 := ev_rel hS hA (x := x) (by simp [ho, Op.operands, Call.operands])
        obtain ⟨inf, h1, h2, h3, h4, h5, h6, h7, h8⟩ := hT t i hi
        refine exec_builtin ho ?_
        simp only [List.map_toArray, List.map_cons, List.map_nil, builtin, Sem.run_bind, Sem.run_pure]
        unfold lenK at hk
        split at hk
        · rename_i hkind hsl
          rw [hkind] at h8
          rw [hsl] at e1 hl
          have e2 := e1.1
          simp only [lenS, Option.some.injEq, Prod.mk.injEq] at hl
          rw [e2, run_len_tx h8.1, ← hl.1]; rfl
        · rename_i hkind hsl
          rw [hkind] at h8
          rw [hsl] at e1 hl
          have e2 := e1.1
          simp only [lenS, Option.some.injEq, Prod.mk.injEq] at hl
          rw [e2, run_len_sl h8.1, ← hl.1]; rfl
        all_goals first
          | (cases hk; done)
          | (rename_i hkind hsl
             rw [hkind] at h8
             rw [hsl] at e1 hl
             simp only [lenS] at hl
             split at hl
             · rename_i p e l hr
               simp only [Option.some.injEq, Prod.mk.injEq] at hl
               obtain ⟨h9, h10⟩ := rdS_rel hS hA e1 hr (by rw [← hl.2]; exact fun _ h => h)
               obtain ⟨A, c, h11, h12⟩ := h10.slice
               rw [h11, run_len_sl h8.1, ← hl.1]
               simp
             · cases hl)
/-! ### loads -/
theorem cells_len : ∀ {cs : List (Cell T)} {vs : List Value}, CellsRel σ env F w cs vs → cs.length = vs.length
  | [], _, h => by cases h; rfl
  | c :: cs, _, ⟨v, r, e, h1, h2⟩ => by subst e; simp [cells_len h2]
theorem cells_drop : ∀ (n : Nat) {cs : List (Cell T)} {vs : List Value}, CellsRel σ env F w cs vs → CellsRel σ env F w (cs.drop n) (vs.drop n)
  | 0, _, _, h => h
  | n + 1, [], _, h => by cases h; rfl
  | n + 1, c :: cs, _, ⟨v, r, e, h1, h2⟩ => by subst e; exact cells_drop n h2
theorem cells_take : ∀ (n : Nat) {cs : List (Cell T)} {vs : List Value}, CellsRel σ env F w cs vs → CellsRel σ env F w (cs.take n) (vs.take n)
  | 0, _, _, h => rfl
  | n + 1, [], _, h => by cases h; rfl
  | n + 1, c :: cs, _, ⟨v, r, e, h1, h2⟩ => by subst e; exact ⟨v, _, rfl, h1, cells_take n h2⟩
theorem cells_nth {c : Cell T} : ∀ {cs : List (Cell T)} {vs : List Value} {i : Nat}, CellsRel σ env F w cs vs → nth cs i = some c → ∃ v, vs[i]? = some v ∧ CellRel σ env F w c v
  | [], _, _, _, h => by cases h
  | x :: l, _, 0, ⟨v, r, e, h1, _⟩, h => by cases h; subst e; exact ⟨v, rfl, h1⟩
  | x :: l, _, i + 1, ⟨v, r, e, _, h2⟩, h => by
    subst e
    obtain ⟨u, h3, h4⟩ := cells_nth (i := i) h2 h
    exact ⟨u, by simpa using h3, h4⟩
def isStr : TK → Bool
  | .str _ => true
  | _ => false
theorem isStr_one {i : TI} {t : Nat} (h : TyOk P t i) (hs : isStr i.kind = false) : (∃ d, P.underlying t = some d ∧ (∀ fs, d ≠ .struct fs) ∧ ∀ n e, d ≠ .array n e) ∧ i.size = 1 := by
  obtain ⟨inf, h1, h2, h3, h4, h5, h6, h7, h8⟩ := h
  cases hk : i.kind <;> rw [hk] at h8 hs <;> first | exact h8 | (cases hs; done) | exact ⟨⟨_, h8.1, by simp, by simp⟩, h8.2⟩
theorem run_loadAt_one {i : TI} {t : Nat} (h : TyOk P t i) (hs : isStr i.kind = false) {ad : Addr} {v : Value} {w : World} (hc : w.cell? ad = some v) : (Instr.loadAt t (.pointer (some ad))).run P w = .ok v w := by
  obtain ⟨⟨d, h1, h2, h3⟩, _⟩ := isStr_one h hs
  have hag : (isAgg t).run P w = .ok false w := by
    unfold isAgg
    cases d <;> simp_all [Sem.run_bind, run_underlying h1]
  simp [Instr.loadAt, Instr.sureAddr, loadVar, Sem.run_bind, hag, hc]
theorem run_loadAt_str {i : TI} {t : Nat} (h : TyOk P t i) (hs : isStr i.kind = true) {ad : Addr} {us : List Value} {w : World} (hl : us.length = i.size) (hc : ∀ j v, us[j]? = some v → w.cell? (ad.add j) = some v) : (Instr.loadAt t (.pointer (some ad))).run P w = .ok (.agg us.toArray) w := by
  obtain ⟨inf, h1, h2, h3, h4, h5, h6, h7, h8⟩ := h
  cases hk : i.kind <;> rw [hk] at h8 hs <;> first | (cases hs; done) | skip
  obtain ⟨fs, h9, _, _⟩ := h8
  have hag : (isAgg t).run P w = .ok true w := by unfold isAgg; simp [Sem.run_bind, run_underlying h9]
  have hsz : (sizeOf t).run P w = .ok us.length w := by simp [sizeOf, typeInfo, h1, Sem.run_bind, h2, hl]
  simp [Instr.loadAt, Instr.sureAddr, loadVar, Sem.run_bind, hag, hsz, run_loadCells_list w ad us hc]
def toCell (p : Option (Nat × Nat)) : C0 T.Tb → Cell T
  | .sc v => .sc v
  | .sl e l => .im p e l
def getE (T : Tys) (e : Nat) (l : List (T.Tb e)) (i : Nat) : T.Tb e := l.getD i (T.df e)
def ldCells (i : TI) (cs : List (Cell T)) (o : Nat) : Option (Slot T) :=
  match isStr i.kind with
  | true => match Nat.beq ((cs.drop o).take i.size).length i.size with
    | true => some (.ag ((cs.drop o).take i.size))
    | false => none
  | false => match nth cs o with
    | some c => some (.c c)
    | none => none
/-- Reading part of a line of cells. -/
theorem ld_run {i : TI} {t : Nat} (h : TyOk P t i) {cs : List (Cell T)} {vs : List Value} {b : Addr} {n : Nat} {s : Slot T} (hc : CellsRel σ env F w cs vs) (hv : ∀ j v, vs[j]? = some v → w.cell? (b.add j) = some v) (hl : ldCells i cs n = some s) :
    ∃ v, (Instr.loadAt t (.pointer (some (b.add n)))).run P w = .ok v w ∧ SlotRel σ env F w s v := by
  unfold ldCells at hl
  cases hs : isStr i.kind <;> rw [hs] at hl <;> dsimp only at hl
  · cases hn : nth cs n with
    | none => rw [hn] at hl; cases hl
    | some c =>
      rw [hn] at hl
      cases hl
      obtain ⟨u, h1, h2⟩ := cells_nth hc hn
      exact ⟨u, run_loadAt_one h hs (hv n u h1), h2⟩
  · cases hb : Nat.beq ((cs.drop n).take i.size).length i.size <;> rw [hb] at hl <;> cases hl
    have h1 := cells_take i.size (cells_drop n hc)
    have h2 := cells_len h1
    have h3 := Nat.eq_of_beq_eq_true hb
    refine ⟨_, run_loadAt_str h hs (us := (vs.drop n).take i.size) (by omega) (fun j v hj => ?_), ⟨_, rfl, by simpa using h1⟩⟩
    rw [add_add]
    refine hv (n + j) v ?_
    rw [List.getElem?_take] at hj
    split at hj
    · rw [List.getElem?_drop] at hj; exact hj
    · cases hj
theorem toCell_rel {p : Option (Nat × Nat)} {c : C0 T.Tb} {u : Value} (h : Rd T.sz w (okP σ.A F p) (C0.toV T.enc c) u) : CellRel σ env F w (toCell p c) u := by
  cases c with
  | sc v => cases h with | sc _ h => exact ⟨rfl, h⟩
  | sl e l => exact ⟨h.one, fun _ => h⟩
theorem elem_cells {p : Option (Nat × Nat)} {b : Addr} : ∀ {cs : List (C0 T.Tb)} {m : Nat}, (∀ q c, cs[q]? = some c → ∃ u, w.cell? (b.add (m + q)) = some u ∧ Rd T.sz w (okP σ.A F p) (C0.toV T.enc c) u) → ∃ vs, CellsRel σ env F w (cs.map (toCell p)) vs ∧ ∀ j v, vs[j]? = some v → w.cell? (b.add (m + j)) = some v
  | [], _, _ => ⟨[], rfl, fun j v h => by simp at h⟩
  | c :: cs, m, h => by
    obtain ⟨u, h1, h2⟩ := h 0 c rfl
    obtain ⟨vs, h3, h4⟩ := elem_cells (cs := cs) (m := m + 1) (fun q c hq => by
      have := h (q + 1) c (by simpa using hq)
      rw [Nat.add_assoc, Nat.add_comm 1 q]; exact this)
    refine ⟨u :: vs, ⟨u, vs, rfl, toCell_rel h2, h3⟩, fun j v hj => ?_⟩
    cases j with
    | zero => cases hj; exact h1
    | succ j => have := h4 j v (by simpa using hj); rw [Nat.add_assoc, Nat.add_comm 1 j] at this; exact this
/-- The cells of an element that can be read. -/
theorem row_cells {p : Option (Nat × Nat)} {e : Nat} {l : List (T.Tb e)} {ad : Addr} {n c : Nat} {i : Nat} (h : Rd T.sz w (okP σ.A F p) (.sl e (l.map (T.enc e))) (.slice (some ad) n c)) (hi : i < l.length) :
    ∃ vs, CellsRel σ env F w ((T.cells e (getE T e l i)).map (toCell p)) vs ∧ ∀ j v, vs[j]? = some v → w.cell? ((ad.add (i * T.sz e)).add j) = some v := by
  have hj : (l.map (T.enc e))[i]? = some (T.enc e (getE T e l i)) := by simp [getE, hi, List.getD_eq_getElem?_getD]
  obtain ⟨ad', c', h1, _, _, _, _, h2⟩ := h.elem hj
  cases h1
  obtain ⟨vs, h3, h4⟩ := elem_cells (σ := σ) (env := env) (cs := T.cells e (getE T e l i)) (p := p) (F := F) (w := w) (b := ad) (m := i * T.sz e) (fun q c hq => by
    refine h2 q (C0.toV T.enc c) ?_
    rw [T.enc_eq, List.getElem?_map, hq]; rfl)
  exact ⟨vs, h3, fun j v hj => by rw [add_add]; exact h4 j v hj⟩
def stLoad (σ : St T) (dst : Option Nat) (t : Nat) (x : Operand) : LOut T :=
  match T.ti t with
  | some i => match dstOk σ dst with
    | true => match evS σ x with
      | .c (.px r n) => match σ.res r with
        | .bx _ cs => match ldCells i cs n with
          | some s => .done ⟨s, [], r :: s.refs, 0, []⟩ none
          | none => .stuck
        | _ => .stuck
      | .pi p e l j n => match liveB σ p with
        | true => match ldCells i ((T.cells e (getE T e l j)).map (toCell p)) n with
          | some s => .done ⟨s, [], pRefs p ++ s.refs, 0, []⟩ none
          | none => .stuck
        | false => .stuck
      | .pe r j n => match σ.res r with
        | .row bv e l => match ldCells i ((T.cells e (getE T e l j)).map (toCell (some (r, bv)))) n with
          | some s => .done ⟨s, [], r :: s.refs, 0, []⟩ none
          | none => .stuck
        | _ => .stuck
      | _ => .stuck
    | false => .stuck
  | none => .stuck
theorem exec_load {t : Nat} {x : Operand} (ho : o.op = .load t x) {v : Value} (h : (Instr.loadAt t (a.eval x)).run P w = .ok v w) : (execOp a.eval o).run P w = .ok (.value v) w := by
  unfold execOp; rw [ho]; simp only [Sem.run_bind, h]; rfl
theorem stLoad_ok (hT : T.ok P) {t : Nat} {x : Operand} {U : Upd T} {ob : Option Prop} (ho : o.op = .load t x) (h : stLoad σ o.dst t x = .done U ob) : LStep P W0 o σ U := by
  unfold stLoad at h
  cases hi : T.ti t with
  | none => rw [hi] at h; cases h
  | some i =>
    rw [hi] at h
    dsimp only at h
    cases hd : dstOk σ o.dst <;> rw [hd] at h <;> dsimp only at h
    · cases h
    have hty := hT t i hi
    split at h
    · rename_i r n hx
      split at h
      · rename_i t' cs hr
        cases hs : ldCells i cs n with
        | none => rw [hs] at h; cases h
        | some s =>
          rw [hs] at h
          cases h
          refine quiet_step (dstOk_spec hd) (fun σ' a w env F hA hS => ?_)
          have e1 := ev_rel hS hA (x := x) (by simp [ho, Op.operands])
          rw [hx] at e1
          obtain ⟨g, h1, h2⟩ := e1
          have h3 := hS.res r
          rw [hA.res r (by simp), hr] at h3
          obtain ⟨g', arr, h4, h5, h6, h7, h8⟩ := h3
          rw [h1] at h4
          cases h4
          obtain ⟨v, h9, h10⟩ := ld_run hty h8 (b := ⟨g, 0, none⟩) (fun j v hj => by rw [cell_blk h7, ← Array.getElem?_toList]; exact hj) hs
          rw [add_lit, Nat.zero_add] at h9
          exact ⟨v, exec_load ho (by rw [h2]; exact h9), h10⟩
      · cases h
    · rename_i p e l j n hx
      cases hl : liveB σ p <;> rw [hl] at h <;> dsimp only at h
      · cases h
      cases hs : ldCells i ((T.cells e (getE T e l j)).map (toCell p)) n with
      | none => rw [hs] at h; cases h
      | some s =>
        rw [hs] at h
        cases h
        refine quiet_step (dstOk_spec hd) (fun σ' a w env F hA hS => ?_)
        have e1 := ev_rel hS hA (x := x) (by simp [ho, Op.operands])
        rw [hx] at e1
        obtain ⟨hj, ad, h1, h2⟩ := e1
        obtain ⟨c, h3⟩ := h2 (live_agree hA (fun r hr => List.mem_append_left _ hr) (liveB_spec hl))
        obtain ⟨vs, h4, h5⟩ := row_cells (σ := σ') (env := env) h3 hj
        obtain ⟨v, h9, h10⟩ := ld_run hty h4 h5 hs
        rw [add_add] at h9
        exact ⟨v, exec_load ho (by rw [h1]; exact h9), h10⟩
    · rename_i r j n hx
      split at h
      · rename_i bv e l hr
        cases hs : ldCells i ((T.cells e (getE T e l j)).map (toCell (some (r, bv)))) n with
        | none => rw [hs] at h; cases h
        | some s =>
          rw [hs] at h
          cases h
          refine quiet_step (dstOk_spec hd) (fun σ' a w env F hA hS => ?_)
          have e1 := ev_rel hS hA (x := x) (by simp [ho, Op.operands])
          rw [hx] at e1
          have hr' : σ'.res r = .row bv e l := by rw [hA.res r (by simp)]; exact hr
          obtain ⟨hj, g, c, h1, h2⟩ := e1 bv e l hr'
          have h3 := hS.res r
          rw [hr'] at h3
          have h3' : Rd T.sz w (okP σ'.A F (some (r, bv))) (.sl e (l.map (T.enc e))) (env r) := (Ow.rd h3).mono (fun k hk => .inr ⟨(r, bv), rfl, hk⟩)
          rw [h1] at h3'
          obtain ⟨vs, h4, h5⟩ := row_cells (σ := σ') (env := env) h3' hj
          obtain ⟨v, h9, h10⟩ := ld_run hty h4 h5 hs
          rw [add_add] at h9
          exact ⟨v, exec_load ho (by rw [h2]; exact h9), h10⟩
      · cases h
    · cases h
end
end Go.Proofs.Ytnflbiafmddpgaa.Z
