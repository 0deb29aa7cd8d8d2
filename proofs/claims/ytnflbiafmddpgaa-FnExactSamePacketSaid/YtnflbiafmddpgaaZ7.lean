/- The path calculus, part 7: addresses of fields and elements, a string's byte, slices of slices and strings. -/
import Derived.Test.YtnflbiafmddpgaaZ6
namespace Go.Proofs.Ytnflbiafmddpgaa.Z
open Go.RowKit
set_option linter.unusedVariables false
set_option linter.unusedSimpArgs false
section
variable {T : Tys} {P : Program} {W0 : World} {σ σ' : St T} {a : Act} {w : World} {env : Nat → Value} {F : Nat → Nat → Prop} {o : Oper} {tch chg : List Nat}
def fieldS (s : Slot T) (k : Nat) : Option (Slot T) :=
  match s with
  | .c (.px r n) => some (.c (.px r (n + k)))
  | .pi p e l i n => some (.pi p e l i (n + k))
  | .pe r i n => some (.pe r i (n + k))
  | _ => none
def stField (σ : St T) (dst : Option Nat) (t : Nat) (x : Operand) (f : Nat) : LOut T :=
  match T.ti t with
  | some i => match i.kind with
    | .str offs => match nth offs f with
      | some (k, _) => match fieldS (evS σ x) k with
        | some s => match dstOk σ dst with
          | true => .done ⟨s, [], s.refs, 0, []⟩ none
          | false => .stuck
        | none => .stuck
      | none => .stuck
    | _ => .stuck
  | none => .stuck
theorem nth_get {α : Type} : ∀ {l : List α} {i : Nat} {x : α}, nth l i = some x → l[i]? = some x
  | [], _, _, h => by cases h
  | y :: l, 0, _, h => by cases h; rfl
  | y :: l, i + 1, _, h => by simpa using nth_get (l := l) h
theorem mapM_get {fs : List Field} : ∀ {offs : List (Nat × Nat)}, fs.mapM (fun f => (P.info? f.type).map fun i => (f.offset, i.size)) = some offs → ∀ {j : Nat} {p : Nat × Nat}, offs[j]? = some p → ∃ (fd : Field) (g : TypeInfo), fs[j]? = some fd ∧ fd.offset = p.1 ∧ P.info? fd.type = some g ∧ g.size = p.2 := by
  induction fs with
  | nil => intro offs h j p hp; simp at h; subst h; simp at hp
  | cons f fs ih =>
    intro offs h j p hp
    simp only [List.mapM_cons, Option.bind_eq_bind, Option.pure_def] at h
    cases hi : P.info? f.type with
    | none => simp [hi] at h
    | some i =>
      cases hr : fs.mapM (fun f => (P.info? f.type).map fun i => (f.offset, i.size)) with
      | none => simp [hi, hr] at h
      | some rest =>
        simp [hi, hr] at h
        subst h
        cases j with
        | zero => simp at hp; subst hp; exact ⟨f, i, rfl, rfl, hi, rfl⟩
        | succ j => simpa using ih hr (by simpa using hp)
theorem places_get {fs : Array Field} {offs : List (Nat × Nat)} (h : fs.toList.mapM (fun f => (P.info? f.type).map fun i => (f.offset, i.size)) = some offs) {j : Nat} {p : Nat × Nat} (hp : offs[j]? = some p) : ∃ (fd : Field) (g : TypeInfo), fs[j]? = some fd ∧ fd.offset = p.1 ∧ P.info? fd.type = some g ∧ g.size = p.2 := by
  obtain ⟨fd, g, h1, h2⟩ := mapM_get h hp
  exact ⟨fd, g, by rw [← Array.getElem?_toList]; exact h1, h2⟩
theorem fieldS_rel {s s' : Slot T} {k : Nat} {u : Value} (h : SlotRel σ env F w s u) (hs : fieldS s k = some s') : ∃ ad, u = .pointer (some ad) ∧ SlotRel σ env F w s' (.pointer (some (ad.add k))) ∨ (∃ r i n, s = .pe r i n ∧ ∀ bv e l, σ.res r ≠ .row bv e l) := by
  unfold fieldS at hs
  split at hs
  · cases hs
    obtain ⟨g, h1, h2⟩ := h
    exact ⟨_, .inl ⟨h2, g, h1, by rw [add_lit]⟩⟩
  · cases hs
    obtain ⟨h0, ad, h1, h2⟩ := h
    exact ⟨_, .inl ⟨h1, h0, ad, by rw [add_add, Nat.add_assoc], h2⟩⟩
  · rename_i r i n
    cases hs
    by_cases hr : ∃ bv e l, σ.res r = .row bv e l
    · obtain ⟨bv, e, l, hr⟩ := hr
      obtain ⟨h1, g, c, h2, h3⟩ := h bv e l hr
      refine ⟨_, .inl ⟨h3, fun bv' e' l' hr' => ?_⟩⟩
      rw [hr] at hr'
      cases hr'
      exact ⟨h1, g, c, h2, by rw [add_add, Nat.add_assoc]⟩
    · exact ⟨⟨0, 0, none⟩, .inr ⟨r, i, n, rfl, fun bv e l h => hr ⟨bv, e, l, h⟩⟩⟩
  · cases hs
def peOk (σ : St T) : Slot T → Bool
  | .pe r _ _ => match σ.res r with
    | .row _ _ _ => true
    | _ => false
  | _ => true
def stFieldC (σ : St T) (dst : Option Nat) (t : Nat) (x : Operand) (f : Nat) : LOut T :=
  match peOk σ (evS σ x) with
  | true => stField σ dst t x f
  | false => .stuck
theorem fieldS_refs {s s' : Slot T} {k : Nat} (hs : fieldS s k = some s') : s'.refs = s.refs := by
  unfold fieldS at hs
  split at hs <;> first | (cases hs; done) | (cases hs; simp [Slot.refs, Cell.refs]; try (split <;> rfl))
  rename_i p e l i n
  cases p <;> rfl
theorem exec_field {t : Nat} {x : Operand} {f : Nat} (ho : o.op = .fieldAddr t x f) {v : Value} (h : (Instr.fieldAt t (a.eval x) f).run P w = .ok v w) : (execOp a.eval o).run P w = .ok (.value v) w := by
  unfold execOp; rw [ho]; simp only [Sem.run_bind, h]; rfl
theorem stField_ok (hT : T.ok P) {t : Nat} {x : Operand} {f : Nat} {U : Upd T} {ob : Option Prop} (ho : o.op = .fieldAddr t x f) (h : stFieldC σ o.dst t x f = .done U ob) : LStep P W0 o σ U := by
  unfold stFieldC at h
  cases hp : peOk σ (evS σ x) <;> rw [hp] at h <;> dsimp only at h
  · cases h
  unfold stField at h
  cases hi : T.ti t with
  | none => rw [hi] at h; cases h
  | some i =>
    rw [hi] at h
    dsimp only at h
    split at h
    · rename_i offs hk
      cases hn : nth offs f with
      | none => rw [hn] at h; cases h
      | some ks =>
        obtain ⟨k, sz⟩ := ks
        rw [hn] at h
        dsimp only at h
        cases hs : fieldS (evS σ x) k with
        | none => rw [hs] at h; cases h
        | some s =>
          rw [hs] at h
          dsimp only at h
          cases hd : dstOk σ o.dst <;> rw [hd] at h <;> cases h
          refine quiet_step (dstOk_spec hd) (fun σ' a w env F hA hS => ?_)
          have e1 := ev_rel hS hA (x := x) (by simp [ho, Op.operands])
          obtain ⟨inf, h1, h2, h3, h4, h5, h6, h7, h8⟩ := hT t i hi
          rw [hk] at h8
          obtain ⟨fs, h9, h10, h10'⟩ := h8
          obtain ⟨fd, g, h11, h12, h13, h14'⟩ := places_get h10 (nth_get hn)
          have h14 : g.size ≠ 0 := by rw [h14']; exact h10' _ (List.mem_of_getElem? (nth_get hn))
          obtain ⟨ad, h15 | ⟨r, j, n, h15, h16⟩⟩ := fieldS_rel e1 hs
          · refine ⟨_, exec_field ho ?_, h15.2⟩
            have hsz : ∀ w, (sizeOf fd.type).run P w = .ok g.size w := fun w => by simp [sizeOf, typeInfo, h13]
            rw [h15.1]
            simp [Instr.fieldAt, run_underlying h9, h11, Instr.sureAddr, fieldPlace, hsz, h14, h12]
          · exfalso
            rw [h15] at hp hs
            unfold peOk at hp
            have : r ∈ s.refs := by rw [fieldS_refs hs]; simp [Slot.refs]
            cases hr : σ.res r with
            | row bv e l => exact h16 bv e l (by rw [hA.res r this]; exact hr)
            | no => simp [hr] at hp
            | bx t cs => simp [hr] at hp
    · cases h
/-! ### elements -/
def stIndexAddr (σ : St T) (dst : Option Nat) (t : Nat) (x i : Operand) : LOut T :=
  match T.ti t with
  | some ti => match ti.kind with
    | .slice e' => match T.ti e' with
      | some _ => match dstOk σ dst with
        | true => match sv (evS σ i) with
          | some (.int _ n) => match evS σ x with
            | .c (.im p e l) => match liveB σ p with
              | true => match Nat.beq e e' with
                | true => .done ⟨.pi p e l n.toNat 0, [], pRefs p, 0, []⟩ (some (0 ≤ n ∧ n < (l.length : Int)))
                | false => .stuck
              | false => .stuck
            | .c (.hd r) => match σ.res r with
              | .row bv e l => match Nat.beq e e' with
                | true => .done ⟨.pe r n.toNat 0, [], [r], 0, []⟩ (some (0 ≤ n ∧ n < (l.length : Int)))
                | false => .stuck
              | _ => .stuck
            | _ => .stuck
          | _ => .stuck
        | false => .stuck
      | none => .stuck
    | _ => .stuck
  | none => .stuck
theorem run_indexAt_ {t e : TypeId} {ad : Addr} {n c : Nat} {k : IntKind} {i : Int} {inf : TypeInfo} (h : P.underlying t = some (.slice e)) (hi : P.info? e = some inf) (h0 : 0 ≤ i) (h1 : i < n) (w : World) : (Instr.indexAt t (.slice (some ad) n c) (.int k i)).run P w = .ok (.pointer (some (ad.add (i.toNat * inf.size)))) w := by
  have hsz : ∀ w, (sizeOf e).run P w = .ok inf.size w := fun w => by simp [sizeOf, typeInfo, hi]
  simp [Instr.indexAt, run_underlying h, asIntOf, h0, h1, hsz]
theorem exec_index {t : Nat} {x i : Operand} (ho : o.op = .indexAddr t x i) {v : Value} (h : (Instr.indexAt t (a.eval x) (a.eval i)).run P w = .ok v w) : (execOp a.eval o).run P w = .ok (.value v) w := by
  unfold execOp; rw [ho]; simp only [Sem.run_bind, h]; rfl
theorem sz_of {e : Nat} {i : TI} (h : T.ti e = some i) : T.sz e = i.size := by simp [Tys.sz, h]
theorem stIndexAddr_ok (hT : T.ok P) {t : Nat} {x i : Operand} {U : Upd T} {ob : Option Prop} (ho : o.op = .indexAddr t x i) (h : stIndexAddr σ o.dst t x i = .done U ob) (hob : obOk ob) : LStep P W0 o σ U := by
  unfold stIndexAddr at h
  cases hi : T.ti t with
  | none => rw [hi] at h; cases h
  | some ti =>
    rw [hi] at h
    dsimp only at h
    split at h
    · rename_i e' hk
      cases he : T.ti e' with
      | none => rw [he] at h; cases h
      | some ei =>
        rw [he] at h
        dsimp only at h
        cases hd : dstOk σ o.dst <;> rw [hd] at h <;> dsimp only at h
        · cases h
        obtain ⟨inf, h1, h2, h3, h4, h5, h6, h7, h8⟩ := hT t ti hi
        obtain ⟨inf', g1, g2, _⟩ := hT e' ei he
        rw [hk] at h8
        split at h
        · rename_i k n hn
          split at h
          · rename_i p e l hx
            cases hl : liveB σ p <;> rw [hl] at h <;> dsimp only at h
            · cases h
            cases hb : Nat.beq e e' <;> rw [hb] at h <;> cases h
            have hee := Nat.eq_of_beq_eq_true hb
            subst hee
            refine quiet_step (dstOk_spec hd) (fun σ' a w env F hA hS => ?_)
            have e1 := ev_rel hS hA (x := x) (by simp [ho, Op.operands])
            have e2 := sv_rel (ev_rel hS hA (x := i) (by simp [ho, Op.operands])) hn
            rw [hx] at e1
            have hlv := live_agree hA (fun r hr => hr) (liveB_spec hl)
            have h10 := e1.2 hlv
            have hob : 0 ≤ n ∧ n < (l.length : Int) := hob
            have hlt : n.toNat < l.length := by omega
            obtain ⟨ad, c, h11, _, _, _, _, _⟩ := h10.elem (j := n.toNat) (l := T.enc e (l[n.toNat])) (by simp [hlt])
            refine ⟨.pointer (some (ad.add (n.toNat * inf'.size))), exec_index ho ?_, hlt, ad, by rw [sz_of he, ← g2]; rfl, fun _ => ⟨c, by rw [h11] at h10; simpa using h10⟩⟩
            rw [h11, e2]
            exact run_indexAt_ h8.1 g1 hob.1 (by simpa using hob.2) w
          · rename_i r hx
            split at h
            · rename_i bv e l hr
              cases hb : Nat.beq e e' <;> rw [hb] at h <;> cases h
              have hee := Nat.eq_of_beq_eq_true hb
              subst hee
              refine quiet_step (dstOk_spec hd) (fun σ' a w env F hA hS => ?_)
              have e1 := ev_rel hS hA (x := x) (by simp [ho, Op.operands])
              have e2 := sv_rel (ev_rel hS hA (x := i) (by simp [ho, Op.operands])) hn
              rw [hx] at e1
              have hr' : σ'.res r = .row bv e l := by rw [hA.res r (by simp)]; exact hr
              have h10 := hS.res r
              rw [hr'] at h10
              have hob : 0 ≤ n ∧ n < (l.length : Int) := hob
              have hlt : n.toNat < l.length := by omega
              have h12 : Ow T.sz w (F r) (.sl e (l.map (T.enc e))) (env r) := h10
              have h13 : ∃ g c, env r = .slice (some ⟨g, 0, none⟩) l.length c := by
                rcases h12.form with ⟨h, _⟩ | ⟨g, c, _, h, _⟩
                · have h' := congrArg List.length h
                  simp at h'; subst h'; simp at hlt
                · exact ⟨g, c, by simpa using h⟩
              obtain ⟨g, c, h14⟩ := h13
              refine ⟨.pointer (some ((⟨g, 0, none⟩ : Addr).add (n.toNat * inf'.size))), exec_index ho ?_, ?_⟩
              · rw [e1.1, h14, e2]
                exact run_indexAt_ h8.1 g1 hob.1 (by simpa using hob.2) w
              · intro bv' e' l' hr''
                rw [hr'] at hr''
                cases hr''
                exact ⟨hlt, g, c, h14, by rw [sz_of he, ← g2]; rfl⟩
            · cases h
          · cases h
        · cases h
    · cases h
/-! ### a string's byte -/
def bt (s : ByteArray) (i : Int) : Int := if h : i.toNat < s.size then ((s[i.toNat]'h).toNat : Int) else 0
def stIndex (σ : St T) (dst : Option Nat) (t : Nat) (x i : Operand) : LOut T :=
  match T.ti t with
  | some ti => match ti.kind with
    | .text => match dstOk σ dst with
      | true => match sv (evS σ i) with
        | some (.int _ n) => match sv (evS σ x) with
          | some (.string b) => .done ⟨.c (.sc (.int .u8 (bt b n))), [], [], 0, []⟩ (some (0 ≤ n ∧ n < (b.size : Int)))
          | _ => .stuck
        | _ => .stuck
      | false => .stuck
    | _ => .stuck
  | none => .stuck
theorem stIndex_ok (hT : T.ok P) {t : Nat} {x i : Operand} {U : Upd T} {ob : Option Prop} (ho : o.op = .index t x i) (h : stIndex σ o.dst t x i = .done U ob) (hob : obOk ob) : LStep P W0 o σ U := by
  unfold stIndex at h
  cases hi : T.ti t with
  | none => rw [hi] at h; cases h
  | some ti =>
    rw [hi] at h
    dsimp only at h
    split at h
    · rename_i hk
      cases hd : dstOk σ o.dst <;> rw [hd] at h <;> dsimp only at h
      · cases h
      obtain ⟨inf, h1, h2, h3, h4, h5, h6, h7, h8⟩ := hT t ti hi
      rw [hk] at h8
      split at h
      · rename_i k n hn
        split at h
        · rename_i b hb
          cases h
          refine quiet_step (dstOk_spec hd) (fun σ' a w env F hA hS => ⟨_, ?_, ⟨rfl, rfl⟩⟩)
          have e1 := sv_rel (ev_rel hS hA (x := x) (by simp [ho, Op.operands])) hb
          have e2 := sv_rel (ev_rel hS hA (x := i) (by simp [ho, Op.operands])) hn
          have hob : 0 ≤ n ∧ n < (b.size : Int) := hob
          have hlt : n.toNat < b.size := by omega
          unfold execOp; rw [ho]
          simp [e1, e2, Instr.index, asIntOf, run_underlying h8.1, hob.1, hlt, bt]
        · cases h
      · cases h
    · cases h
end
end Go.Proofs.Ytnflbiafmddpgaa.Z
