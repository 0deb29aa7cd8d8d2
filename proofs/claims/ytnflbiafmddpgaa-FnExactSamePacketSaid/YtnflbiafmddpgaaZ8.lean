/- The path calculus, part 8: boxes: made, filled, written; a struct built. -/
import Derived.Test.YtnflbiafmddpgaaZ7
import Derived.Laws.CopyRow
import Derived.Laws.Tables
namespace Go.Proofs.Ytnflbiafmddpgaa.Z
open Go.RowKit
set_option linter.unusedVariables false
set_option linter.unusedSimpArgs false
section
variable {T : Tys} {P : Program} {W0 : World} {σ σ' σ1 : St T} {a : Act} {w w1 : World} {env env1 : Nat → Value} {F F1 : Nat → Nat → Prop} {o : Oper} {tch chg : List Nat}
def fu {α : Type} (f : Nat → α) (r : Nat) (x : α) : Nat → α := fun s => match Nat.beq s r with
  | true => x
  | false => f s
theorem fu_same {α : Type} (f : Nat → α) (r : Nat) (x : α) : fu f r x r = x := by simp [fu, Nat.beq_eq]
theorem fu_ne {α : Type} (f : Nat → α) {r s : Nat} (x : α) (h : s ≠ r) : fu f r x s = f s := by simp [fu, beq_ne h]
/-- All of a world's old blocks are as they were. -/
structure Grew (w w1 : World) : Prop where
  os : w1.os = w.os
  tape : w1.tape = w.tape
  output : w1.output = w.output
  size : w.heap.size ≤ w1.heap.size
  block : ∀ k, k < w.heap.size → w1.heap[k]? = w.heap[k]?
theorem Grew.below (h : Grew w w1) : Below w.heap.size w w1 := ⟨h.os, h.tape, h.output, h.size, h.block⟩
theorem Grew.of_below (h : Below w.heap.size w w1) : Grew w w1 := ⟨h.os, h.tape, h.output, h.size, h.block⟩
theorem Grew.alloc (w : World) (o : Obj) : Grew w (w.alloc o) := .of_below ((Below.refl _ _).alloc (Nat.le_refl _) o)
theorem Grew.drew (w : World) : Grew w w.drew := ⟨rfl, rfl, rfl, Nat.le_refl _, fun _ _ => rfl⟩
theorem Grew.trans {w2 : World} (h : Grew w w1) (k : Grew w1 w2) : Grew w w2 := ⟨k.os.trans h.os, k.tape.trans h.tape, k.output.trans h.output, Nat.le_trans h.size k.size, fun i hi => (k.block i (Nat.lt_of_lt_of_le hi h.size)).trans (h.block i hi)⟩
theorem below_grew (h : Below W0.heap.size W0 w) (g : Grew w w1) : Below W0.heap.size W0 w1 := h.trans (g.below.mono h.size)
theorem own_lt (h : Sim0 W0 σ a w env F) {r k : Nat} (hk : F r k) : k < w.heap.size := (h.own r k hk).2
/-- A resource that is new: its value u, its blocks G. -/
theorem Sim0.fresh (h : Sim0 W0 σ a w env F) {r : Nat} (hu : Unsaid σ r) (hn : σ.res r = .no) (g : Grew w w1) {u : Value} {G : Nat → Prop} (hG : ∀ k, G k → w.heap.size ≤ k ∧ k < w1.heap.size) {x : Res T} {dst : Option Nat} {s : Slot T} {tch chg : List Nat} {nx : Nat} {v : Value}
    (hx : ∀ {σ1 : St T} {env1 F1}, Calm σ σ1 F F1 w w1 → env1 r = u → (∀ k, F1 r k ↔ G k) → (∀ q, q ≠ r → env1 q = env q) → (∀ q : Nat × Nat, q.1 ≠ r → Holds σ σ1 F F1 w w1 q) → ResRel σ1 env1 F1 w1 r x)
    (hs : ∀ {σ1 : St T} {env1 F1}, Calm σ σ1 F F1 w w1 → env1 r = u → (∀ q, q ≠ r → env1 q = env q) → (∀ q : Nat × Nat, q.1 ≠ r → Holds σ σ1 F F1 w w1 q) → σ1.res r = x → SlotRel σ1 env1 F1 w1 s v)
    (hd : ∀ d, dst = some d → d < σ.n) : Sim W0 (σ.upd dst ⟨s, [(r, x)], tch, nx, chg⟩) (a.put dst v) w1 := by
  have hres : ∀ q, q ≠ r → (σ.upd dst ⟨s, [(r, x)], tch, nx, chg⟩).res q = σ.res q := fun q hq => St.upd_res_not (fun p hp => by simp at hp; subst hp; exact fun e => hq e.symm)
  have hresr : (σ.upd dst ⟨s, [(r, x)], tch, nx, chg⟩).res r = x := by rw [St.upd_res]; simp [lk]
  have hFo : ∀ k, k < w.heap.size → ¬ G k := fun k hk hg => by have := (hG k hg).1; omega
  have calm : Calm σ (σ.upd dst ⟨s, [(r, x)], tch, nx, chg⟩) F (fu F r G) w w1 := ⟨St.upd_A _ _ _, g.size, fun k hk hst => ⟨fun q hq => by
    by_cases e : q = r
    · subst e; rw [fu_same] at hq; exact hFo k hk hq
    · rw [fu_ne _ _ e] at hq; exact hst q hq, g.block k hk⟩⟩
  have same : ∀ q, q ≠ r → Same σ (σ.upd dst ⟨s, [(r, x)], tch, nx, chg⟩) env (fu env r u) F (fu F r G) w w1 q := fun q hq =>
    ⟨fu_ne _ _ hq, fun k => by rw [fu_ne _ _ hq], hres q hq, fun k hk => g.block k (own_lt h hk)⟩
  refine h.upd (env1 := fu env r u) (F1 := fu F r G) (fun q => q = r) (below_grew h.below g) calm same ?_ ?_ ?_ (fun q hq => .inl (by subst hq; exact hu)) (fun d hd' => ⟨hd d hd', ?_⟩)
  · rintro q rfl
    rw [hresr]
    exact hx calm (fu_same _ _ _) (fun k => by rw [fu_same]) (fun q hq => fu_ne _ _ hq) (fun q hq => (same q.1 hq).holds)
  · rintro q k rfl hk
    rw [fu_same] at hk
    exact ⟨Nat.le_trans h.below.size (hG k hk).1, (hG k hk).2⟩
  · rintro q s k rfl hk hk2
    rw [fu_same] at hk
    by_cases e : s = q
    · exact e.symm
    · rw [fu_ne _ _ e] at hk2
      have := own_lt h hk2
      have := (hG k hk).1
      omega
  · exact hs calm (fu_same _ _ _) (fun q hq => fu_ne _ _ hq) (fun q hq => (same q.1 hq).holds) hresr
theorem heap_new (w : World) (o : Obj) : (w.alloc o).heap[w.heap.size]? = some o := heap_alloc_new w o
theorem size_new (w : World) (o : Obj) : (w.alloc o).heap.size = w.heap.size + 1 := by show (w.heap.push o).size = _; simp
/-- A box that is new. -/
theorem Sim0.newbox (h : Sim0 W0 σ a w env F) {r : Nat} (hu : Unsaid σ r) (hn : σ.res r = .no) {t : Nat} {cs : List (Cell T)} {arr : Array Value} (hc : CellsRel σ env F w cs arr.toList) (hr : r ∉ refsOf cs) {dst : Option Nat} {tch chg : List Nat} {nx : Nat} (hd : ∀ d, dst = some d → d < σ.n) :
    Sim W0 (σ.upd dst ⟨.c (.px r 0), [(r, .bx t cs)], tch, nx, chg⟩) (a.put dst (.pointer (some ⟨w.heap.size, 0, none⟩))) (w.alloc (.cells arr t)) := by
  refine h.fresh hu hn (Grew.alloc w _) (u := .pointer (some ⟨w.heap.size, 0, none⟩)) (G := fun k => k = w.heap.size) (fun k hk => by subst hk; rw [size_new]; omega) ?_ ?_ hd
  · intro σ1 env1 F1 calm he hG hoth hv
    exact ⟨w.heap.size, arr, he, (hG _).2 rfl, fun k hk => (hG k).1 hk, heap_new w _, cells_keep calm hc (fun q hq => hoth q (fun e => hr (e ▸ hq))) (fun q hq => hv q (fun e => hr (e ▸ versOf_refs hq)))⟩
  · intro σ1 env1 F1 calm he hoth hv hres
    exact ⟨w.heap.size, he, rfl⟩
def scsI (i : TI) : List (Cell T) := scs i.zero
def mkBox (σ : St T) (nx : Nat) (dst : Option Nat) (t : Nat) (cs : List (Cell T)) : LOut T :=
  match dstOk σ dst with
  | true => match σ.fresh nx with
    | true => match hasN nx (refsOf cs) with
      | false => .done ⟨.c (.px nx 0), [(nx, .bx t cs)], nx :: refsOf cs, 1, [nx]⟩ none
      | true => .stuck
    | false => .stuck
  | false => .stuck
theorem mkBox_ok {nx t : Nat} {cs : List (Cell T)} {U : Upd T} {ob : Option Prop} (h : mkBox σ nx o.dst t cs = .done U ob)
    (hrun : ∀ (σ' : St T) (a : Act) (w : World) (env : Nat → Value) (F : Nat → Nat → Prop), Agree σ σ' (opTmps o.op) (nx :: refsOf cs) [nx] → Sim0 W0 σ' a w env F → ∃ arr, (execOp a.eval o).run P w = .ok (.value (.pointer (some ⟨w.heap.size, 0, none⟩))) (w.alloc (.cells arr t)) ∧ CellsRel σ' env F w cs arr.toList) : LStep P W0 o σ U := by
  unfold mkBox at h
  cases hd : dstOk σ o.dst <;> rw [hd] at h <;> dsimp only at h
  · cases h
  cases hf : σ.fresh nx <;> rw [hf] at h <;> dsimp only at h
  · cases h
  cases hr : hasN nx (refsOf cs) <;> rw [hr] at h <;> cases h
  intro σ' a w K Q hA ⟨env, F, hS⟩ hK
  obtain ⟨arr, h1, h2⟩ := hrun σ' a w env F hA hS
  obtain ⟨h3, h4⟩ := hA.new (by simp) hf
  refine upon_value_ h1 (hK _ _ ?_)
  refine hS.newbox h3 h4 h2 (fun hm => ?_) (fun d hd' => by rw [hA.n]; exact dstOk_spec hd d hd')
  rw [hasN_iff.2 hm] at hr; cases hr
def stAlloc (σ : St T) (nx : Nat) (dst : Option Nat) (t : Nat) : LOut T :=
  match T.ti t with
  | some i => match allOne i.zero with
    | true => mkBox σ nx dst t (scs i.zero)
    | false => .stuck
  | none => .stuck
theorem stAlloc_ok (hT : T.ok P) {nx t : Nat} {U : Upd T} {ob : Option Prop} (ho : o.op = .alloc t) (h : stAlloc σ nx o.dst t = .done U ob) : LStep P W0 o σ U := by
  unfold stAlloc at h
  cases hi : T.ti t with
  | none => rw [hi] at h; cases h
  | some i =>
    rw [hi] at h
    dsimp only at h
    cases ha : allOne i.zero <;> rw [ha] at h <;> dsimp only at h
    · cases h
    refine mkBox_ok h (fun σ' a w env F hA hS => ?_)
    obtain ⟨inf, h1, h2, h3, ⟨z, h4, h4'⟩, h5, h6, h7, h8⟩ := hT t i hi
    refine ⟨i.zero.toArray, ?_, by simpa using scs_rel ha⟩
    unfold execOp; rw [ho]
    simp [Instr.alloc, zeroValue, typeInfo, h1, h4, newVar, newRow, h4', Sem.run_bind]
/-- The cells of a value that is told. -/
def cellsS : Slot T → Option (List (Cell T))
  | .c .un => none
  | .c x => some [x]
  | .ag l => some l
  | _ => none
theorem cellsS_rel {s : Slot T} {u : Value} {cs : List (Cell T)} (h : SlotRel σ env F w s u) (hs : cellsS s = some cs) : CellsRel σ env F w cs u.cells.toList := by
  unfold cellsS at hs
  split at hs <;> first | (cases hs; done) | cases hs
  · rename_i x hx
    have h' : CellRel σ env F w x u := h
    have h1 : u.oneCell' = true := by
      cases x with
      | un => exact (hx rfl).elim
      | sc v => exact h'.2
      | im p e l => exact h'.1
      | hd r => exact h'.2
      | px r o => obtain ⟨g, _, h2⟩ := h'; rw [h2]; rfl
    have h2 : u.cells.toList = [u] := by cases u <;> first | rfl | (simp [Value.oneCell'] at h1)
    rw [h2]
    exact ⟨u, [], rfl, h', rfl⟩
  · obtain ⟨us, e, h⟩ := h; rw [e]; exact h
theorem cellsS_refs {s : Slot T} {cs : List (Cell T)} (hs : cellsS s = some cs) : refsOf cs = s.refs := by
  unfold cellsS at hs
  split at hs <;> first | (cases hs; done) | (cases hs; simp [refsOf, Slot.refs])
def stBox (σ : St T) (nx : Nat) (dst : Option Nat) (t : Nat) (x : Operand) : LOut T :=
  match cellsS (evS σ x) with
  | some cs => mkBox σ nx dst t cs
  | none => .stuck
theorem stBox_ok {nx t : Nat} {x : Operand} {U : Upd T} {ob : Option Prop} (ho : o.op = .box t x) (h : stBox σ nx o.dst t x = .done U ob) : LStep P W0 o σ U := by
  unfold stBox at h
  cases hc : cellsS (evS σ x) with
  | none => rw [hc] at h; cases h
  | some cs =>
    rw [hc] at h
    refine mkBox_ok h (fun σ' a w env F hA hS => ?_)
    have e1 := ev_rel hS hA (x := x) (by simp [ho, Op.operands])
    refine ⟨(a.eval x).cells, ?_, cellsS_rel e1 hc⟩
    unfold execOp; rw [ho]
    simp [Instr.box, newVar, newRow, Sem.run_bind]
/-! ### a store into a box -/
def stor : List (Cell T) → Bool
  | [] => true
  | .un :: _ => false
  | _ :: l => stor l
theorem stor_one {vs : List Value} : ∀ {cs : List (Cell T)} {vs : List Value}, stor cs = true → CellsRel σ env F w cs vs → ∀ v ∈ vs, v.oneCell' = true
  | [], _, _, h, v, hv => by cases h; cases hv
  | c :: cs, _, hs, ⟨u, r, e, h1, h2⟩, v, hv => by
    subst e
    rcases List.mem_cons.1 hv with rfl | hv
    · cases c with
      | un => cases hs
      | sc v' => exact h1.2
      | im p e l => exact h1.1
      | hd r => exact h1.2
      | px r o => obtain ⟨g, _, h3⟩ := h1; rw [h3]; rfl
    · exact stor_one (cs := cs) (vs := r) (by cases c <;> first | (cases hs; done) | exact hs) h2 v hv
theorem cells_app : ∀ {cs ds : List (Cell T)} {vs us : List Value}, CellsRel σ env F w cs vs → CellsRel σ env F w ds us → CellsRel σ env F w (cs ++ ds) (vs ++ us)
  | [], _, _, _, h, h' => by cases h; exact h'
  | c :: cs, _, _, _, ⟨u, r, e, h1, h2⟩, h' => by subst e; exact ⟨u, _, rfl, h1, cells_app h2 h'⟩
def splice {α : Type} (cs : List α) (n : Nat) (vs : List α) : List α := cs.take n ++ vs ++ cs.drop (n + vs.length)
def stStore (σ : St T) (dst : Option Nat) (t : Nat) (x v : Operand) : LOut T :=
  match dst with
  | none => match T.ti t with
    | some i => match evS σ x with
      | .c (.px r n) => match σ.res r with
        | .bx tb cs => match cellsS (evS σ v) with
          | some vs => match stor vs with
            | true => match Nat.beq vs.length i.size with
              | true => match Nat.ble (n + vs.length) cs.length with
                | true => .done ⟨.ud, [(r, .bx tb (splice cs n vs))], r :: refsOf (splice cs n vs), 0, [r]⟩ none
                | false => .stuck
              | false => .stuck
            | false => .stuck
          | none => .stuck
        | _ => .stuck
      | _ => .stuck
    | none => .stuck
  | some _ => .stuck
theorem run_storeAt {i : TI} {t : Nat} (h : TyOk P t i) {v : Value} {g n : Nat} {tb : Nat} {arr : Array Value} {w : World} (hg : w.heap[g]? = some (.cells arr tb (0, 0))) (hl : v.cells.size = i.size) (hf : n + v.cells.size ≤ arr.size) (h1 : ∀ u ∈ v.cells.toList, u.oneCell' = true) :
    (Instr.storeAt t (.pointer (some ⟨g, n, none⟩)) v).run P w = .ok () (w.setRow g (splice arr.toList n v.cells.toList).toArray) := by
  obtain ⟨inf, g1, g2, _⟩ := h
  have hsz : ∀ w, (sizeOf t).run P w = .ok i.size w := fun w => by simp [sizeOf, typeInfo, g1, g2]
  have hst := run_storeCells_at P g n tb v.cells.toList 0 arr w hg (by simpa using hf) h1
  simp only [Nat.add_zero] at hst
  simp [Instr.storeAt, Instr.sureAddr, storeVar, hsz, hl, hst, splice]
theorem exec_store {t : Nat} {x v : Operand} (ho : o.op = .store t x v) {w' : World} (h : (Instr.storeAt t (a.eval x) (a.eval v)).run P w = .ok () w') : (execOp a.eval o).run P w = .ok .skip w' := by
  unfold execOp; rw [ho]; simp only [Sem.run_bind, h]; rfl
theorem refs_app : ∀ (cs ds : List (Cell T)), refsOf (cs ++ ds) = refsOf cs ++ refsOf ds
  | [], _ => rfl
  | c :: cs, ds => by simp [refsOf, refs_app cs ds]
theorem below_setRow (h : Below W0.heap.size W0 w) {g : Nat} (hg : W0.heap.size ≤ g) (cs : Array Value) : Below W0.heap.size W0 (w.setRow g cs) :=
  ⟨h.os, h.tape, h.output, by rw [setRow_size]; exact h.size, fun k hk => (setRow_other w g k cs (by omega)).trans (h.block k hk)⟩
theorem stStore_ok (hT : T.ok P) {t : Nat} {x v : Operand} {U : Upd T} {ob : Option Prop} (ho : o.op = .store t x v) (h : stStore σ o.dst t x v = .done U ob) : LStep P W0 o σ U := by
  unfold stStore at h
  split at h
  · rename_i hdn
    cases hi : T.ti t with
    | none => rw [hi] at h; cases h
    | some i =>
      rw [hi] at h
      dsimp only at h
      split at h
      · rename_i r n hx
        split at h
        · rename_i tb cs hr
          cases hc : cellsS (evS σ v) with
          | none => rw [hc] at h; cases h
          | some vs =>
            rw [hc] at h
            dsimp only at h
            cases hs : stor vs <;> rw [hs] at h <;> dsimp only at h
            · cases h
            cases hb : Nat.beq vs.length i.size <;> rw [hb] at h <;> dsimp only at h
            · cases h
            cases hbl : Nat.ble (n + vs.length) cs.length <;> rw [hbl] at h <;> cases h
            intro σ' a w K Q hA ⟨env, F, hS⟩ hK
            have e1 := ev_rel hS hA (x := x) (by simp [ho, Op.operands])
            have e2 := ev_rel hS hA (x := v) (by simp [ho, Op.operands])
            rw [hx] at e1
            obtain ⟨g, h1, h2⟩ := e1
            have hr' : σ'.res r = .bx tb cs := by rw [hA.res r (by simp)]; exact hr
            have h3 := hS.res r
            rw [hr'] at h3
            obtain ⟨g', arr, h4, h5, h6, h7, h8⟩ := h3
            rw [h1] at h4
            cases h4
            have hcv := cellsS_rel e2 hc
            have hl1 := cells_len hcv
            have hl2 := cells_len h8
            have hb' := Nat.eq_of_beq_eq_true hb
            have hbl' := Nat.le_of_ble_eq_true hbl
            simp only [Array.length_toList] at hl1 hl2
            have hrun := run_storeAt (hT t i hi) (v := a.eval v) h7 (by omega) (by omega : n + (a.eval v).cells.size ≤ arr.size) (stor_one (vs := []) hs hcv)
            refine upon_skip_ (exec_store ho (by rw [h2]; exact hrun)) (hK _ _ ?_)
            have hgW := hS.own r g h5
            have hoth : ∀ q k, q ≠ r → F q k → k ≠ g := fun q k hq hk e => hq (hS.apart q r k hk (e ▸ h5))
            have hres : ∀ q, q ≠ r → (σ'.upd o.dst ⟨.ud, [(r, .bx tb (splice cs n vs))], r :: refsOf (splice cs n vs), 0, [r]⟩).res q = σ'.res q := fun q hq => St.upd_res_not (fun p hp => by simp at hp; subst hp; exact fun e => hq e.symm)
            have hresr : (σ'.upd o.dst ⟨.ud, [(r, .bx tb (splice cs n vs))], r :: refsOf (splice cs n vs), 0, [r]⟩).res r = .bx tb (splice cs n vs) := by rw [St.upd_res]; simp [lk]
            have calm : Calm σ' (σ'.upd o.dst ⟨.ud, [(r, .bx tb (splice cs n vs))], r :: refsOf (splice cs n vs), 0, [r]⟩) F F w (w.setRow g (splice arr.toList n (a.eval v).cells.toList).toArray) := ⟨St.upd_A _ _ _, by rw [setRow_size]; exact Nat.le_refl _, fun k hk hst => ⟨hst, setRow_other w g k _ (fun e => hst r (e ▸ h5))⟩⟩
            have same : ∀ q, q ≠ r → Same σ' (σ'.upd o.dst ⟨.ud, [(r, .bx tb (splice cs n vs))], r :: refsOf (splice cs n vs), 0, [r]⟩) env env F F w (w.setRow g (splice arr.toList n (a.eval v).cells.toList).toArray) q := fun q hq => ⟨rfl, fun _ => Iff.rfl, hres q hq, fun k hk => setRow_other w g k _ (hoth q k hq hk)⟩
            have hold : ∀ q : Nat × Nat, Holds σ' (σ'.upd o.dst ⟨.ud, [(r, .bx tb (splice cs n vs))], r :: refsOf (splice cs n vs), 0, [r]⟩) F F w (w.setRow g (splice arr.toList n (a.eval v).cells.toList).toArray) q := by
              intro q
              by_cases e : q.1 = r
              · rintro ⟨e', l, hl⟩
                rw [e, hresr] at hl
                cases hl
              · exact (same q.1 e).holds
            refine hS.upd (env1 := env) (F1 := F) (fun q => q = r) (below_setRow hS.below hgW.1 _) calm same ?_ ?_ ?_ ?_ (fun d hd => by rw [hdn] at hd; cases hd)
            · rintro q rfl
              rw [hresr]
              refine ⟨g, _, h1, h5, h6, setRow_heap w g arr _ tb _ h7, ?_⟩
              have hsp : CellsRel σ' env F w (splice cs n vs) (splice arr.toList n (a.eval v).cells.toList) := by
                unfold splice
                rw [show (a.eval v).cells.toList.length = vs.length from by simp [hl1]]
                exact cells_app (cells_app (cells_take n h8) hcv) (cells_drop _ h8)
              simpa using cells_keep calm hsp (fun _ _ => rfl) (fun q _ => hold q)
            · rintro q k rfl hk
              have := hS.own q k hk
              exact ⟨this.1, by rw [setRow_size]; exact this.2⟩
            · rintro q s k rfl hk hk2
              exact hS.apart q s k hk hk2
            · rintro q rfl
              exact .inr ⟨rfl, fun bv e l hl => (by rw [hresr] at hl; cases hl), fun b => .inl (hold (q, b))⟩
        · cases h
      · cases h
  · cases h
end
end Go.Proofs.Ytnflbiafmddpgaa.Z
