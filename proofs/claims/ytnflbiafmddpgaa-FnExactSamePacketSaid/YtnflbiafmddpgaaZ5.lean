/- The path calculus, part 5: the operations that leave the memory as it is. -/
import Derived.Test.YtnflbiafmddpgaaZ4
import Derived.Laws.Cover1
import Derived.WalkKit
namespace Go.Proofs.Ytnflbiafmddpgaa.Z
open Go.RowKit
set_option linter.unusedVariables false
set_option linter.unusedSimpArgs false
section
variable {T : Tys}
def opTmps (op : Op) : List Nat := op.operands.toList.filterMap fun | .tmp t => some t | _ => none
/-- An operation's step: what it makes of every state that agrees with σ where it looks. -/
def LStep (P : Program) (W0 : World) (o : Oper) (σ : St T) (U : Upd T) : Prop :=
  ∀ (σ' : St T) (a : Act) (w : World) (K : Act → World → Prop) (Q : Exit → Act → World → Prop), Agree σ σ' (opTmps o.op) U.tch U.chg → Sim W0 σ' a w → (∀ a' w', Sim W0 (σ'.upd o.dst U) a' w' → K a' w') → Oper.wp P o a w K Q
inductive LOut (T : Tys) where
  | done (U : Upd T) (ob : Option Prop)
  | call (f : FuncId) (args : List (Slot T))
  | stuck
def obOk : Option Prop → Prop
  | some p => p
  | none => True
def allOne : List Value → Bool
  | [] => true
  | v :: r => match v.oneCell' with
    | true => allOne r
    | false => false
def scs : List Value → List (Cell T)
  | [] => []
  | v :: r => .sc v :: scs r
def constS (v : Value) : Slot T :=
  match v with
  | .agg cs => match allOne cs.toList with
    | true => .ag (scs cs.toList)
    | false => .c .un
  | v => match v.oneCell' with
    | true => .c (.sc v)
    | false => .c .un
def evS (σ : St T) : Operand → Slot T
  | .tmp t => σ.tmp t
  | .const v => constS v
  | .global _ => .c .un
  | .func f => .c (.sc (.func (.func f) #[] #[]))
theorem scs_rel {σ : St T} {env : Nat → Value} {F : Nat → Nat → Prop} {w : World} : ∀ {l : List Value}, allOne l = true → CellsRel σ env F w (scs l) l
  | [], _ => rfl
  | v :: r, h => by
    unfold allOne at h
    cases hv : v.oneCell' <;> rw [hv] at h
    · cases h
    · exact ⟨v, r, rfl, ⟨rfl, hv⟩, scs_rel h⟩
theorem const_rel {σ : St T} {env : Nat → Value} {F : Nat → Nat → Prop} {w : World} (v : Value) : SlotRel σ env F w (constS v) v := by
  unfold constS
  split
  · rename_i cs
    cases h : allOne cs.toList
    · trivial
    · exact ⟨cs, rfl, scs_rel h⟩
  · cases h : v.oneCell'
    · trivial
    · exact ⟨rfl, h⟩
variable {P : Program} {W0 : World} {σ σ' : St T} {a : Act} {w : World} {env : Nat → Value} {F : Nat → Nat → Prop} {o : Oper} {tch chg : List Nat}
theorem ev_rel {x : Operand} (h : Sim0 W0 σ' a w env F) (hA : Agree σ σ' (opTmps o.op) tch chg) (hx : x ∈ o.op.operands.toList) : SlotRel σ' env F w (evS σ x) (a.eval x) := by
  cases x with
  | tmp t =>
    have ht : t ∈ opTmps o.op := List.mem_filterMap.2 ⟨.tmp t, hx, rfl⟩
    show SlotRel σ' env F w (σ.tmp t) _
    rw [← hA.tm t ht]; exact h.tm t
  | const v => exact const_rel v
  | global g => trivial
  | func f => exact ⟨rfl, rfl⟩
/-- Its value, if it is a known one. -/
def sv : Slot T → Option Value
  | .c (.sc v) => some v
  | _ => none
theorem sv_rel {s : Slot T} {v u : Value} (h : SlotRel σ env F w s u) (hs : sv s = some v) : u = v := by
  cases s with
  | c x => cases x <;> simp [sv] at hs; subst hs; exact h.1
  | _ => simp [sv] at hs
theorem upon_value_ {K : Act → World → Prop} {Q : Exit → Act → World → Prop} {v : Value} {w w' : World} (hr : (execOp a.eval o).run P w = .ok (.value v) w') (h : K (a.put o.dst v) w') : Oper.wp P o a w K Q := by
  unfold Oper.wp; rw [hr]; exact h
theorem upon_skip_ {K : Act → World → Prop} {Q : Exit → Act → World → Prop} {w w' : World} (hr : (execOp a.eval o).run P w = .ok .skip w') (h : K (a.put o.dst undef) w') : Oper.wp P o a w K Q := by
  unfold Oper.wp; rw [hr]; exact h
theorem quiet_step {s : Slot T} {nx : Nat} (hd : ∀ d, o.dst = some d → d < σ.n)
    (hrun : ∀ (σ' : St T) (a : Act) (w : World) (env : Nat → Value) (F : Nat → Nat → Prop), Agree σ σ' (opTmps o.op) tch chg → Sim0 W0 σ' a w env F → ∃ v, (execOp a.eval o).run P w = .ok (.value v) w ∧ SlotRel σ' env F w s v) : LStep P W0 o σ ⟨s, [], tch, nx, chg⟩ := by
  intro σ' a w K Q hA ⟨env, F, h⟩ hK
  obtain ⟨v, hr, hs⟩ := hrun σ' a w env F hA h
  exact upon_value_ hr (hK _ _ (h.quiet (fun d hd' => ⟨by rw [hA.n]; exact hd d hd', hs⟩)))
def dstOk (σ : St T) : Option Nat → Bool
  | some d => Nat.blt d σ.n
  | none => false
theorem dstOk_spec {d : Option Nat} (h : dstOk σ d = true) : ∀ k, d = some k → k < σ.n := by
  rintro k rfl; simpa [dstOk, Nat.blt_eq] using h
/-! ### scalars -/
def binI (op : BinOp) (a b : Int) : Option Value :=
  match op with
  | .add => some (.int .i64 (wrap64 (a + b)))
  | .sub => some (.int .i64 (wrap64 (a - b)))
  | .mul => some (.int .i64 (wrap64 (a * b)))
  | .eql => some (.bool (a == b))
  | .neq => some (.bool (a != b))
  | .lss => some (.bool (decide (a < b)))
  | .leq => some (.bool (decide (a ≤ b)))
  | .gtr => some (.bool (decide (a > b)))
  | .geq => some (.bool (decide (a ≥ b)))
  | _ => none
def binT (op : BinOp) (a b : ByteArray) : Option Value :=
  match op with
  | .eql => some (.bool (a.toList == b.toList))
  | .neq => some (.bool !(a.toList == b.toList))
  | .lss => some (.bool (Op.bytesLess a.toList b.toList))
  | .leq => some (.bool (Op.bytesLess a.toList b.toList || a.toList == b.toList))
  | .gtr => some (.bool !(Op.bytesLess a.toList b.toList || a.toList == b.toList))
  | .geq => some (.bool !(Op.bytesLess a.toList b.toList))
  | _ => none
def kSame : IntKind → IntKind → Bool
  | .i64, .i64 => true
  | .u8, .u8 => true
  | .i32, .i32 => true
  | .u16, .u16 => true
  | .u32, .u32 => true
  | .u64, .u64 => true
  | _, _ => false
def pos : Int → Bool
  | .ofNat (_ + 1) => true
  | _ => false
def nneg : Int → Bool
  | .ofNat _ => true
  | _ => false
def binK (k : IntKind) (op : BinOp) (a b : Int) : Option Value :=
  match op with
  | .add => some (.int k (k.wrap (a + b)))
  | .sub => some (.int k (k.wrap (a - b)))
  | .mul => some (.int k (k.wrap (a * b)))
  | .eql => some (.bool (a == b))
  | .neq => some (.bool (a != b))
  | .lss => some (.bool (decide (a < b)))
  | .leq => some (.bool (decide (a ≤ b)))
  | .gtr => some (.bool (decide (a > b)))
  | .geq => some (.bool (decide (a ≥ b)))
  | .quo => match pos b with
    | true => some (.int k (k.wrap (a.tdiv b)))
    | false => none
  | .rem => match pos b with
    | true => some (.int k (a.tmod b))
    | false => none
  | .and => some (.int k (k.wrap (BitVec.ofInt k.bits a &&& BitVec.ofInt k.bits b).toNat))
  | .or => some (.int k (k.wrap (BitVec.ofInt k.bits a ||| BitVec.ofInt k.bits b).toNat))
  | .xor => some (.int k (k.wrap (BitVec.ofInt k.bits a ^^^ BitVec.ofInt k.bits b).toNat))
  | .andNot => some (.int k (k.wrap (BitVec.ofInt k.bits a &&& ~~~ BitVec.ofInt k.bits b).toNat))
  | _ => none
def isI64 : IntKind → Bool
  | .i64 => true
  | _ => false
def isSh : BinOp → Bool
  | .shl => true
  | .shr => true
  | _ => false
def isI : BinOp → Bool
  | .quo => false
  | .rem => false
  | .and => false
  | .or => false
  | .xor => false
  | .andNot => false
  | _ => true
def shV (op : BinOp) (k : IntKind) (a b : Int) : Option Value :=
  match nneg b with
  | true => match op with
    | .shl => some (.int k (k.wrap (a * 2 ^ min b.toNat k.bits)))
    | .shr => some (.int k (a.fdiv (2 ^ min b.toNat k.bits)))
    | _ => none
  | false => none
def binV (op : BinOp) (x y : Value) : Option Value :=
  match x, y with
  | .int k a, .int k' b => match isSh op with
    | true => shV op k a b
    | false => match kSame k k' with
      | true => match isI64 k with
        | true => match isI op with
          | true => binI op a b
          | false => binK .i64 op a b
        | false => binK k op a b
      | false => none
  | .string a, .string b => binT op a b
  | _, _ => none
theorem wrap_i64 (n : Int) : IntKind.i64.wrap n = wrap64 n := by unfold wrap64; exact IntKind.wrap_i64 n
theorem pos_ne {b : Int} (h : pos b = true) : b ≠ 0 := by
  intro e; subst e; cases h
theorem nneg_ge {b : Int} (h : nneg b = true) : ¬ b < 0 := by
  unfold nneg at h; split at h
  · simp
  · cases h
theorem kSame_eq {k k' : IntKind} (h : kSame k k' = true) : k = k' := by
  unfold kSame at h; split at h <;> first | rfl | cases h
theorem binK_one {k : IntKind} {op : BinOp} {a b : Int} {r : Value} (h : binK k op a b = some r) : r.oneCell' = true := by
  unfold binK at h
  cases op <;> simp only [Option.some.injEq, reduceCtorEq] at h <;> first | (subst h; rfl) | (split at h <;> first | (cases h; done) | (cases h; rfl))
theorem binI_one {op : BinOp} {a b : Int} {r : Value} (h : binI op a b = some r) : r.oneCell' = true := by
  unfold binI at h; cases op <;> simp only [Option.some.injEq, reduceCtorEq] at h <;> subst h <;> rfl
theorem shV_one {k : IntKind} {op : BinOp} {a b : Int} {r : Value} (h : shV op k a b = some r) : r.oneCell' = true := by
  unfold shV at h
  split at h
  · cases op <;> simp only [Option.some.injEq, reduceCtorEq] at h <;> subst h <;> rfl
  · cases h
theorem binV_one {op : BinOp} {u v r : Value} (h : binV op u v = some r) : r.oneCell' = true := by
  unfold binV at h
  split at h
  · split at h
    · exact shV_one h
    · split at h
      · split at h
        · split at h
          · exact binI_one h
          · exact binK_one h
        · exact binK_one h
      · cases h
  · unfold binT at h; cases op <;> simp only [Option.some.injEq, reduceCtorEq] at h <;> subst h <;> rfl
  · cases h
theorem binK_run {k : IntKind} {op : BinOp} {t : TypeId} {a b : Int} {r : Value} (w : World) (hs : isSh op = false) (h : binK k op a b = some r) : (binOp op t (.int k a) (.int k b) : Sem Value).run P w = .ok r w := by
  unfold binK at h
  cases op <;> simp only [Option.some.injEq, reduceCtorEq] at h <;> first
    | (subst h; simp [binOp, Op.intArith, Op.intCmp, Op.intBits, Sem.run_bind, Sem.run_pure]; done)
    | (split at h
       · rename_i hp
         simp only [Option.some.injEq] at h
         subst h
         simp [binOp, Op.intDiv, pos_ne hp, Sem.run_bind, Sem.run_pure]
       · cases h)
    | cases hs
theorem binI_run {op : BinOp} {t : TypeId} {a b : Int} {r : Value} (w : World) (h : binI op a b = some r) : (binOp op t (.int .i64 a) (.int .i64 b) : Sem Value).run P w = .ok r w := by
  unfold binI at h
  cases op <;> simp only [Option.some.injEq, reduceCtorEq] at h <;> subst h <;> simp [binOp, Op.intArith, Op.intCmp, wrap_i64, Sem.run_bind, Sem.run_pure]
theorem shV_run {k k' : IntKind} {op : BinOp} {t : TypeId} {a b : Int} {r : Value} (w : World) (h : shV op k a b = some r) : (binOp op t (.int k a) (.int k' b) : Sem Value).run P w = .ok r w := by
  unfold shV at h
  split at h
  · rename_i hn
    cases op <;> simp only [Option.some.injEq, reduceCtorEq] at h <;> subst h <;> simp [binOp, Op.shift, nneg_ge hn, Sem.run_bind, Sem.run_pure]
  · cases h
theorem eqGuard_int {op : BinOp} {t : TypeId} {x y : Operand} {k k' : IntKind} {a b : Int} (w : World) : (eqGuard op t x y (.int k a) (.int k' b)).run P w = .ok () w := by
  cases op <;> simp [eqGuard]
theorem binV_run {op : BinOp} {t : TypeId} {x y : Operand} {u v r : Value} (w : World) (h : binV op u v = some r) : (do eqGuard op t x y u v; binOp op t u v : Sem Value).run P w = .ok r w := by
  unfold binV at h
  split at h
  · rename_i k a k' b
    simp only [Sem.run_bind, eqGuard_int, Result.andThen_ok]
    split at h
    · exact shV_run w h
    · rename_i hs
      split at h
      · rename_i hk
        have := kSame_eq hk
        subst this
        split at h
        · rename_i hk
          have : k = .i64 := by cases k <;> first | rfl | cases hk
          subst this
          split at h
          · exact binI_run w h
          · exact binK_run w hs h
        · exact binK_run w hs h
      · cases h
  · rename_i a b
    unfold binT at h
    cases op <;> simp only [Option.some.injEq, reduceCtorEq] at h <;> subst h <;> simp [eqGuard, binOp, Op.stringOp, Sem.run_bind, Sem.run_pure]
  · cases h
def optQ (σ : St T) (dst : Option Nat) : Option Value → LOut T
  | some v => match dstOk σ dst with
    | true => .done ⟨.c (.sc v), [], [], 0, []⟩ none
    | false => .stuck
  | none => .stuck
def stBin (σ : St T) (dst : Option Nat) (op : BinOp) (x y : Operand) : LOut T :=
  match sv (evS σ x) with
  | some u => match sv (evS σ y) with
    | some v => optQ σ dst (binV op u v)
    | none => .stuck
  | none => .stuck
theorem optQ_done {U : Upd T} {ob : Option Prop} {dst : Option Nat} {r : Option Value} (h : optQ σ dst r = .done U ob) : ∃ v, r = some v ∧ dstOk σ dst = true ∧ U = ⟨.c (.sc v), [], [], 0, []⟩ ∧ ob = none := by
  cases r with
  | none => cases h
  | some v =>
    unfold optQ at h
    cases hd : dstOk σ dst <;> rw [hd] at h
    · cases h
    · cases h; exact ⟨v, rfl, rfl, rfl, rfl⟩
theorem stBin_ok {op : BinOp} {t ty : TypeId} {x y : Operand} {U : Upd T} {ob : Option Prop} (ho : o.op = .binOp op t x y ty) (h : stBin σ o.dst op x y = .done U ob) : LStep P W0 o σ U := by
  unfold stBin at h
  cases hx : sv (evS σ x) with
  | none => rw [hx] at h; cases h
  | some u =>
    cases hy : sv (evS σ y) with
    | none => rw [hx, hy] at h; cases h
    | some v =>
      rw [hx, hy] at h
      obtain ⟨r, hr, hd, rfl, rfl⟩ := optQ_done h
      refine quiet_step (dstOk_spec hd) (fun σ' a w env F hA hS => ⟨r, ?_, ⟨rfl, binV_one hr⟩⟩)
      have e1 := sv_rel (ev_rel hS hA (x := x) (by simp [ho, Op.operands])) hx
      have e2 := sv_rel (ev_rel hS hA (x := y) (by simp [ho, Op.operands])) hy
      have hrun := binV_run (P := P) (t := t) (x := x) (y := y) w hr
      unfold execOp
      rw [ho]
      simp only [e1, e2, Sem.run_bind, Sem.run_pure] at hrun ⊢
      rw [hrun]; rfl
def unV (op : UnOp) (x : Value) : Option Value :=
  match op, x with
  | .not, .bool b => some (.bool !b)
  | .neg, .int .i64 n => some (.int .i64 (wrap64 (0 - n)))
  | _, _ => none
theorem unV_one {op : UnOp} {u r : Value} (h : unV op u = some r) : r.oneCell' = true := by
  unfold unV at h
  split at h <;> first | (cases h; done) | (cases h; rfl)
def stUn (σ : St T) (dst : Option Nat) (op : UnOp) (x : Operand) : LOut T :=
  match sv (evS σ x) with
  | some u => optQ σ dst (unV op u)
  | none => .stuck
theorem stUn_ok {op : UnOp} {t : TypeId} {x : Operand} {U : Upd T} {ob : Option Prop} (ho : o.op = .unOp op t x) (h : stUn σ o.dst op x = .done U ob) : LStep P W0 o σ U := by
  unfold stUn at h
  cases hx : sv (evS σ x) with
  | none => rw [hx] at h; cases h
  | some u =>
    rw [hx] at h
    obtain ⟨r, hr, hd, rfl, rfl⟩ := optQ_done h
    refine quiet_step (dstOk_spec hd) (fun σ' a w env F hA hS => ⟨r, ?_, ⟨rfl, unV_one hr⟩⟩)
    have e1 := sv_rel (ev_rel hS hA (x := x) (by simp [ho, Op.operands])) hx
    unfold execOp
    rw [ho]
    simp only [e1]
    unfold unV at hr
    split at hr <;> first | (cases hr; done) | (cases hr; simp [Op.unary, Op.intArith, wrap_i64, Sem.run_bind, Sem.run_pure])
/-! ### moves -/
def stMove (σ : St T) (dst : Option Nat) (x : Operand) : LOut T :=
  match dstOk σ dst with
  | true => .done ⟨evS σ x, [], (evS σ x).refs, 0, []⟩ none
  | false => .stuck
theorem stMove_ok {x : Operand} {U : Upd T} {ob : Option Prop} (ho : o.op = .move x ∨ o.op = .assign x) (h : stMove σ o.dst x = .done U ob) : LStep P W0 o σ U := by
  unfold stMove at h
  cases hd : dstOk σ o.dst <;> rw [hd] at h <;> cases h
  refine quiet_step (dstOk_spec hd) (fun σ' a w env F hA hS => ⟨a.eval x, ?_, ev_rel hS hA ?_⟩)
  · unfold execOp; rcases ho with ho | ho <;> rw [ho] <;> rfl
  · rcases ho with ho | ho <;> simp [ho, Op.operands]
def stPick (σ : St T) (dst : Option Nat) (c x y : Operand) : LOut T :=
  match sv (evS σ c) with
  | some (.bool true) => stMove σ dst x
  | some (.bool false) => stMove σ dst y
  | _ => .stuck
theorem stPick_ok {c x y : Operand} {U : Upd T} {ob : Option Prop} (ho : o.op = .pick c x y) (h : stPick σ o.dst c x y = .done U ob) : LStep P W0 o σ U := by
  unfold stPick at h
  split at h
  · rename_i hc
    unfold stMove at h
    cases hd : dstOk σ o.dst <;> rw [hd] at h <;> cases h
    refine quiet_step (dstOk_spec hd) (fun σ' a w env F hA hS => ⟨a.eval x, ?_, ev_rel hS hA (by simp [ho, Op.operands])⟩)
    have e1 := sv_rel (ev_rel hS hA (x := c) (by simp [ho, Op.operands])) hc
    unfold execOp; rw [ho]; simp [e1, asBool, Sem.run_bind, Sem.run_pure]
  · rename_i hc
    unfold stMove at h
    cases hd : dstOk σ o.dst <;> rw [hd] at h <;> cases h
    refine quiet_step (dstOk_spec hd) (fun σ' a w env F hA hS => ⟨a.eval y, ?_, ev_rel hS hA (by simp [ho, Op.operands])⟩)
    have e1 := sv_rel (ev_rel hS hA (x := c) (by simp [ho, Op.operands])) hc
    unfold execOp; rw [ho]; simp [e1, asBool, Sem.run_bind, Sem.run_pure]
  · cases h
/-! ### parts of tuples -/
def nth {α : Type} : List α → Nat → Option α
  | [], _ => none
  | x :: _, 0 => some x
  | _ :: l, n + 1 => nth l n
def itemS : Bool × List (Cell T) → Slot T
  | (true, l) => .ag l
  | (false, [c]) => .c c
  | (false, _) => .c .un
theorem items_nth {it : Bool × List (Cell T)} : ∀ {l : List (Bool × List (Cell T))} {vs : List Value} {i : Nat}, ItemsRel σ env F w l vs → nth l i = some it → ∃ v, vs[i]? = some v ∧ ItemRel σ env F w it v
  | [], _, _, _, h => by cases h
  | x :: l, _, 0, ⟨v, r, e, h1, _⟩, h => by cases h; subst e; exact ⟨v, rfl, h1⟩
  | x :: l, _, i + 1, ⟨v, r, e, _, h2⟩, h => by
    subst e
    obtain ⟨u, h3, h4⟩ := items_nth (i := i) h2 h
    exact ⟨u, by simpa using h3, h4⟩
theorem itemS_rel {it : Bool × List (Cell T)} {v : Value} (h : ItemRel σ env F w it v) : SlotRel σ env F w (itemS it) v := by
  obtain ⟨b, l⟩ := it
  cases b with
  | true => exact h
  | false =>
    match l, h with
    | [], _ => trivial
    | [c], ⟨u, r, e, h1, _⟩ => cases e; exact h1
    | _ :: _ :: _, _ => trivial
def stExtract (σ : St T) (dst : Option Nat) (x : Operand) (i : Nat) : LOut T :=
  match evS σ x with
  | .tu l => match nth l i with
    | some it => match dstOk σ dst with
      | true => .done ⟨itemS it, [], (itemS it).refs, 0, []⟩ none
      | false => .stuck
    | none => .stuck
  | _ => .stuck
theorem stExtract_ok {x : Operand} {i : Nat} {U : Upd T} {ob : Option Prop} (ho : o.op = .extract x i) (h : stExtract σ o.dst x i = .done U ob) : LStep P W0 o σ U := by
  unfold stExtract at h
  split at h
  · rename_i l hx
    cases hn : nth l i with
    | none => rw [hn] at h; cases h
    | some it =>
      rw [hn] at h
      dsimp only at h
      cases hd : dstOk σ o.dst <;> rw [hd] at h <;> cases h
      refine quiet_step (dstOk_spec hd) (fun σ' a w env F hA hS => ?_)
      have e1 := ev_rel hS hA (x := x) (by simp [ho, Op.operands])
      rw [hx] at e1
      obtain ⟨us, e2, h2⟩ := e1
      obtain ⟨v, h3, h4⟩ := items_nth h2 hn
      refine ⟨v, ?_, itemS_rel h4⟩
      have h5 : us[i]? = some v := by rw [← Array.getElem?_toList]; exact h3
      unfold execOp; rw [ho]
      simp [e2, Instr.extract, h5, Sem.run_bind, Sem.run_pure]
  · cases h
end
end Go.Proofs.Ytnflbiafmddpgaa.Z
