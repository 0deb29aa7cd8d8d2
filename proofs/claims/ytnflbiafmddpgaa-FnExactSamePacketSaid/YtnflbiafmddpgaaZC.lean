/- The path calculus, part C: equality of bools and of structs of plain cells. -/
import Derived.Test.YtnflbiafmddpgaaZB
import Derived.Laws.StructEq
namespace Go.Proofs.Ytnflbiafmddpgaa.Z
open Go.RowKit
set_option linter.unusedVariables false
set_option linter.unusedSimpArgs false
inductive CK where
  | int
  | bool
  | text
def ckT (P : Program) (t : TypeId) : Option CK := match P.underlying t with
  | some (.int _) => some .int
  | some .bool => some .bool
  | some .string => some .text
  | _ => none
def ckFs (P : Program) : Nat → List Field → Option (List CK)
  | _, [] => some []
  | j, f :: fs => match f.name == "_" with
    | true => none
    | false => match Nat.beq f.offset j with
      | true => match ckT P f.type with
        | some c => match ckFs P (j + 1) fs with
          | some r => some (c :: r)
          | none => none
        | none => none
      | false => none
/-- What '==' of a type compares, cell by cell. -/
def cmpT (P : Program) (t : TypeId) : Option (Bool × List CK) := match P.underlying t with
  | some (.struct fs) => match P.stoodInHeld t || P.eqGuardType P.depth t with
    | true => none
    | false => match ckFs P 0 fs.toList with
      | some l => some (true, l)
      | none => none
  | _ => match ckT P t with
    | some c => some (false, [c])
    | none => none
def ckV : Value → Value → Option (CK × Bool)
  | .int k a, .int k' b => match kSame k k' with
    | true => some (.int, a == b)
    | false => none
  | .bool a, .bool b => some (.bool, a == b)
  | .string a, .string b => some (.text, a.toList == b.toList)
  | _, _ => none
section
variable {T : Tys} {P : Program} {W0 : World} {σ σ' σ1 : St T} {a : Act} {w w1 : World} {env env1 : Nat → Value} {F F1 : Nat → Nat → Prop} {o : Oper} {tch chg : List Nat}
def eqLine : List (Cell T) → List (Cell T) → Option (List CK × Bool)
  | [], [] => some ([], true)
  | .sc u :: r, .sc v :: s => match ckV u v with
    | some (k, b) => match r, s with
      | [], [] => some ([k], b)
      | r, s => match eqLine r s with
        | some (ks, c) => some (k :: ks, b && c)
        | none => none
    | none => none
  | _, _ => none
def eqS (op : BinOp) (b : Bool) : Option Bool := match op with
  | .eql => some b
  | .neq => some (!b)
  | _ => none
def stEq (P : Program) (σ : St T) (dst : Option Nat) (op : BinOp) (t : TypeId) (x y : Operand) : LOut T :=
  match dstOk σ dst with
  | true => match evS σ x, evS σ y with
    | .ag l, .ag m => match eqLine l m with
      | some (ks, b) => match eqS op b with
        | some r => .done ⟨.c (.sc (.bool r)), [], [], 0, []⟩ (some (cmpT P t = some (true, ks)))
        | none => .stuck
      | none => .stuck
    | .c (.sc u), .c (.sc v) => match ckV u v with
      | some (.bool, b) => match eqS op b with
        | some r => .done ⟨.c (.sc (.bool r)), [], [], 0, []⟩ (some (cmpT P t = some (false, [.bool])))
        | none => .stuck
      | _ => .stuck
    | _, _ => .stuck
  | false => .stuck
theorem run_equalIn_ck {t : TypeId} {c : CK} (h : ckT P t = some c) {u v : Value} {b : Bool} (hv : ckV u v = some (c, b)) (d : Nat) (w : World) : (Op.equalIn (d + 1) t u v).run P w = .ok b w := by
  unfold ckV at hv
  unfold ckT at h
  split at hv
  · rename_i k a k' b'
    split at hv
    · rename_i hk
      cases hv
      have := kSame_eq hk
      subst this
      split at h <;> cases h
      rename_i hu
      exact run_equalIn_int w d t k _ a b' hu
    · cases hv
  · cases hv
    split at h <;> cases h
    rename_i hu
    exact run_equalIn_bool' w d t _ _ hu
  · cases hv
    split at h <;> cases h
    rename_i hu
    exact run_equalIn_string w d t _ _ hu
  · cases hv
theorem run_part_ck {t : TypeId} {c : CK} (h : ckT P t = some c) {xs : Array Value} {j : Nat} {v : Value} (hv : xs[j]? = some v) (w : World) : (part t xs j).run P w = .ok v w := by
  have hag : (isAgg t).run P w = .ok false w := by
    unfold ckT at h
    unfold isAgg
    split at h <;> first | (cases h; done) | (rename_i hu; simp [Sem.run_bind, run_underlying hu])
  simp [part, Sem.run_bind, hag, hv]
theorem run_eqFields {d : Nat} {xs ys : Array Value} {w : World} : ∀ {fs : List Field} {j : Nat} {ks : List CK} {l m : List (Cell T)} {b : Bool}, ckFs P j fs = some ks → eqLine l m = some (ks, b) → (∀ i c, l[i]? = some c → ∃ v, xs[j + i]? = some v ∧ ∀ u, c = Cell.sc u → v = u) → (∀ i c, m[i]? = some c → ∃ v, ys[j + i]? = some v ∧ ∀ u, c = Cell.sc u → v = u) → (Op.eqFields (d + 1) xs ys fs).run P w = .ok b w
  | [], j, ks, l, m, b, h1, h2, hx, hy => by
    cases h1
    unfold eqLine at h2
    split at h2
    · cases h2; simp [Op.eqFields]
    · split at h2
      · split at h2
        · cases h2
        · split at h2 <;> cases h2
      · cases h2
    · cases h2
  | f :: fs, j, ks, l, m, b, h1, h2, hx, hy => by
    unfold ckFs at h1
    have hn : (f.name == "_") = false := by
      cases hn : f.name == "_"
      · rfl
      · rw [hn] at h1; cases h1
    rw [hn] at h1
    dsimp only at h1
    cases ho : Nat.beq f.offset j <;> rw [ho] at h1 <;> dsimp only at h1
    · cases h1
    have ho := Nat.eq_of_beq_eq_true ho
    cases hc : ckT P f.type with
    | none => rw [hc] at h1; cases h1
    | some c =>
      rw [hc] at h1
      dsimp only at h1
      cases hr : ckFs P (j + 1) fs with
      | none => rw [hr] at h1; cases h1
      | some rest =>
        rw [hr] at h1
        cases h1
        have hne : f.name ≠ "_" := by simpa using hn
        have key : ∀ (u v : Value) (r s : List (Cell T)) (b0 : Bool), l = .sc u :: r → m = .sc v :: s → ckV u v = some (c, b0) → (∀ b1, (Op.eqFields (d + 1) xs ys fs).run P w = .ok b1 w → (Op.eqFields (d + 1) xs ys (f :: fs)).run P w = .ok (b0 && b1) w) := by
          intro u v r s b0 hl hm hv b1 hb1
          obtain ⟨u', h3, h3'⟩ := hx 0 (.sc u) (by simp [hl])
          obtain ⟨v', h4, h4'⟩ := hy 0 (.sc v) (by simp [hm])
          have h5 := h3' u rfl
          have h6 := h4' v rfl
          subst h5; subst h6
          rw [Nat.add_zero] at h3 h4
          have p1 := run_part_ck hc h3 w
          have p2 := run_part_ck hc h4 w
          have p3 := run_equalIn_ck hc hv d w
          rw [Op.eqFields]
          simp only [if_pos hne, ho, Sem.run_bind, p1, p2, p3, Result.andThen_ok]
          cases b0
          · simp
          · simpa using hb1
        unfold eqLine at h2
        split at h2
        · cases h2
        · rename_i u r v s
          split at h2
          · rename_i k b0 hv
            split at h2
            · simp only [Option.some.injEq, Prod.mk.injEq, List.cons.injEq] at h2
              obtain ⟨⟨rfl, rfl⟩, rfl⟩ := h2
              have hfs : fs = [] := by
                cases fs with
                | nil => rfl
                | cons g gs =>
                  exfalso
                  unfold ckFs at hr
                  split at hr
                  · cases hr
                  · split at hr
                    · split at hr
                      · split at hr <;> cases hr
                      · cases hr
                    · cases hr
              subst hfs
              have := key u v [] [] b0 rfl rfl hv true (by simp [Op.eqFields])
              simpa using this
            · split at h2
              · rename_i ks' c' hl'
                simp only [Option.some.injEq, Prod.mk.injEq, List.cons.injEq] at h2
                obtain ⟨⟨rfl, rfl⟩, rfl⟩ := h2
                refine key u v r s b0 rfl rfl hv c' (run_eqFields hr hl' (fun i c hi => ?_) (fun i c hi => ?_))
                · have := hx (i + 1) c (by simpa using hi)
                  rwa [show j + (i + 1) = j + 1 + i by omega] at this
                · have := hy (i + 1) c (by simpa using hi)
                  rwa [show j + (i + 1) = j + 1 + i by omega] at this
              · cases h2
          · cases h2
        · cases h2
theorem cells_at {cs : List (Cell T)} {vs : List Value} (h : CellsRel σ env F w cs vs) : ∀ (i : Nat) (c : Cell T), cs[i]? = some c → ∃ v : Value, vs[i]? = some v ∧ ∀ u : Value, c = Cell.sc u → v = u := by
  induction cs generalizing vs with
  | nil => intro i c hi; simp at hi
  | cons x cs ih =>
    obtain ⟨v, r, e, h1, h2⟩ := h
    subst e
    intro i c hi
    cases i with
    | zero => simp at hi; subst hi; exact ⟨v, rfl, fun u hu => by subst hu; exact h1.1⟩
    | succ i => simpa using ih h2 i c (by simpa using hi)
theorem eqS_bool {op : BinOp} {b r : Bool} (h : eqS op b = some r) : (op = .eql ∧ r = b) ∨ (op = .neq ∧ r = !b) := by
  unfold eqS at h; cases op <;> simp only [Option.some.injEq, reduceCtorEq] at h <;> simp [← h]
theorem stEq_ok {op : BinOp} {t ty : TypeId} {x y : Operand} {U : Upd T} {ob : Option Prop} (ho : o.op = .binOp op t x y ty) (h : stEq P σ o.dst op t x y = .done U ob) (hob : obOk ob) : LStep P W0 o σ U := by
  unfold stEq at h
  cases hd : dstOk σ o.dst <;> rw [hd] at h <;> dsimp only at h
  · cases h
  split at h
  · rename_i l m hl hm
    split at h
    · rename_i ks b he
      split at h
      · rename_i r hr
        cases h
        refine quiet_step (dstOk_spec hd) (fun σ' a w env F hA hS => ⟨.bool r, ?_, ⟨rfl, rfl⟩⟩)
        have e1 := ev_rel hS hA (x := x) (by simp [ho, Op.operands])
        have e2 := ev_rel hS hA (x := y) (by simp [ho, Op.operands])
        rw [hl] at e1
        rw [hm] at e2
        obtain ⟨us, g1, g2⟩ := e1
        obtain ⟨vs, g3, g4⟩ := e2
        have hob : cmpT P t = some (true, ks) := hob
        unfold cmpT at hob
        split at hob
        · rename_i fs hfs
          split at hob
          · cases hob
          · rename_i hst
            split at hob
            · rename_i ks' hks
              cases hob
              simp only [Bool.or_eq_false_iff] at hst
              have hf : P.fieldsOf t = fs := by simp [Program.fieldsOf, hfs]
              have hrun : (Op.equalIn 10000 t (.agg us) (.agg vs)).run P w = .ok b w := by
                rw [run_equalIn_struct (P := P) w 9999 t us vs (by rw [hf]; exact hfs) hst.1, hf]
                exact run_eqFields (d := 9998) hks he (fun i c hi => by simpa using cells_at g2 i c hi) (fun i c hi => by simpa using cells_at g4 i c hi)
              unfold execOp; rw [ho]
              simp only [g1, g3, Sem.run_bind, run_eqGuard_agg (P := P) w op t x y us vs hst.2, Result.andThen_ok]
              rcases eqS_bool hr with ⟨rfl, rfl⟩ | ⟨rfl, rfl⟩
              · rw [run_eql_struct, hrun]; rfl
              · rw [run_neq_struct, hrun]; rfl
            · cases hob
        · split at hob <;> cases hob
      · cases h
    · cases h
  · rename_i u v hu hv
    split at h
    · rename_i b hb
      split at h
      · rename_i r hr
        cases h
        refine quiet_step (dstOk_spec hd) (fun σ' a w env F hA hS => ⟨.bool r, ?_, ⟨rfl, rfl⟩⟩)
        have e1 := ev_rel hS hA (x := x) (by simp [ho, Op.operands])
        have e2 := ev_rel hS hA (x := y) (by simp [ho, Op.operands])
        rw [hu] at e1
        rw [hv] at e2
        have g1 := e1.1
        have g2 := e2.1
        have hob : cmpT P t = some (false, [.bool]) := hob
        have hck : ckT P t = some .bool := by
          unfold cmpT at hob
          split at hob
          · split at hob
            · cases hob
            · split at hob <;> cases hob
          · split at hob
            · rename_i hc; cases hob; exact hc
            · cases hob
        unfold ckV at hb
        split at hb
        · split at hb <;> cases hb
        · rename_i p q
          cases hb
          have hrun := run_equalIn_ck (P := P) hck (u := .bool p) (v := .bool q) rfl 9999 w
          unfold execOp; rw [ho]
          rcases eqS_bool hr with ⟨rfl, rfl⟩ | ⟨rfl, rfl⟩
          · simp [g1, g2, Sem.run_bind, eqGuard, binOp, Op.equal, Op.maxDepth, hrun]
          · simp [g1, g2, Sem.run_bind, eqGuard, binOp, Op.equal, Op.maxDepth, hrun]
        · cases hb
        · cases hb
      · cases h
    · cases h
  · cases h
end
end Go.Proofs.Ytnflbiafmddpgaa.Z
