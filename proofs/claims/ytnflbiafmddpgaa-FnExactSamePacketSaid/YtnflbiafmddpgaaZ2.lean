/- The path calculus, part 2: types in a table, states, what a state says of an act and a world; each operation's step upon states. Definitions. -/
import Derived.Test.YtnflbiafmddpgaaZ1
namespace Go.Proofs.Ytnflbiafmddpgaa.Z
open Go.RowKit
set_option linter.unusedVariables false
/-- A cell of a typed thing. -/
inductive C0 (Tb : Nat → Type) where
  | sc (v : Value)
  | sl (e : Nat) (l : List (Tb e))
inductive TK where
  | one
  | num (k : IntKind)
  | text
  | slice (e : Nat)
  | str (offs : List (Nat × Nat))
structure TI where
  size : Nat
  bytes : Nat
  zero : List Value
  kind : TK
def C0.toV {Tb : Nat → Type} (enc : (e : Nat) → Tb e → List V) : C0 Tb → V
  | .sc v => .sc v
  | .sl e l => .sl e (l.map (enc e))
def C0.one {Tb : Nat → Type} : C0 Tb → Bool
  | .sc v => v.oneCell'
  | .sl _ _ => true
/-- Go's types: the elements' Lean types, their cells; sizes, zero values. -/
structure Tys where
  Tb : Nat → Type
  df : (e : Nat) → Tb e
  cells : (e : Nat) → Tb e → List (C0 Tb)
  mkE : (e : Nat) → List (C0 Tb) → Option (Tb e)
  enc : (e : Nat) → Tb e → List V
  el : Nat → Bool
  ti : Nat → Option TI
  enc_eq : ∀ e x, enc e x = (cells e x).map (C0.toV enc)
  mk_eq : ∀ e cs x, mkE e cs = some x → cells e x = cs
  one : ∀ e x c, c ∈ cells e x → c.one = true
  len : ∀ e x (i : TI), el e = true → ti e = some i → (cells e x).length = i.size
def Tys.sz (T : Tys) (e : Nat) : Nat := match T.ti e with
  | some i => i.size
  | none => 0
/-- The table says of P's types what is so. -/
def TyOk (P : Program) (t : Nat) (i : TI) : Prop := ∃ inf, P.info? t = some inf ∧ inf.size = i.size ∧ inf.bytes = i.bytes ∧ (∃ z, inf.zero = some z ∧ z.cells = i.zero.toArray) ∧ i.zero.length = i.size ∧ 0 < i.size ∧ 0 < i.bytes ∧ match i.kind with
  | .one => (∃ d, P.underlying t = some d ∧ (∀ fs, d ≠ .struct fs) ∧ ∀ n e, d ≠ .array n e) ∧ i.size = 1
  | .num k => P.underlying t = some (.int k) ∧ i.size = 1
  | .text => P.underlying t = some .string ∧ i.size = 1
  | .slice e => P.underlying t = some (.slice e) ∧ i.size = 1
  | .str offs => ∃ fs, P.underlying t = some (.struct fs) ∧ fs.toList.mapM (fun f => (P.info? f.type).map fun i => (f.offset, i.size)) = some offs ∧ ∀ p ∈ offs, p.2 ≠ 0
def Tys.ok (T : Tys) (P : Program) : Prop := ∀ t i, T.ti t = some i → TyOk P t i
/-- What is known of a cell. p: of which row (and its state's number) it is borrowed. -/
inductive Cell (T : Tys) where
  | un
  | sc (v : Value)
  | im (p : Option (Nat × Nat)) (e : Nat) (l : List (T.Tb e))
  | hd (r : Nat)
  | px (r o : Nat)
inductive Slot (T : Tys) where
  | ud
  | c (x : Cell T)
  | ag (l : List (Cell T))
  | tu (l : List (Bool × List (Cell T)))
  | pi (p : Option (Nat × Nat)) (e : Nat) (l : List (T.Tb e)) (i o : Nat)
  | pe (r i o : Nat)
inductive Res (T : Tys) where
  | no
  | bx (t : Nat) (cs : List (Cell T))
  | row (bv e : Nat) (l : List (T.Tb e))
/-- A state: temporaries, resources, how many temporaries; A: the blocks that may be read at all. -/
structure St (T : Tys) where
  tm : List (Nat × Slot T)
  rs : List (Nat × Res T)
  n : Nat
  A : Nat → Prop
def lk {α : Type} (d : α) : List (Nat × α) → Nat → α
  | [], _ => d
  | (k, a) :: r, t => match Nat.beq k t with
    | true => a
    | false => lk d r t
section
variable {T : Tys}
def St.tmp (σ : St T) (t : Nat) : Slot T := lk (.c .un) σ.tm t
def St.res (σ : St T) (r : Nat) : Res T := lk .no σ.rs r
def St.put (σ : St T) (t : Nat) (s : Slot T) : St T := ⟨(t, s) :: σ.tm, σ.rs, σ.n, σ.A⟩
def Cell.refs : Cell T → List Nat
  | .im (some p) _ _ => [p.1, p.2]
  | .hd r => [r]
  | .px r _ => [r]
  | _ => []
def refsOf : List (Cell T) → List Nat
  | [] => []
  | c :: r => c.refs ++ refsOf r
def refsTu : List (Bool × List (Cell T)) → List Nat
  | [] => []
  | c :: r => refsOf c.2 ++ refsTu r
def Slot.refs : Slot T → List Nat
  | .ud => []
  | .c x => x.refs
  | .ag l => refsOf l
  | .tu l => refsTu l
  | .pi (some p) _ _ _ _ => [p.1, p.2]
  | .pi none _ _ _ _ => []
  | .pe r _ _ => [r]
def Res.refs : Res T → List Nat
  | .bx _ cs => refsOf cs
  | _ => []
/-! ### What a state says -/
/-- The blocks that a reading may meet: those that no resource owns, and the lender's. -/
def okP (A : Nat → Prop) (F : Nat → Nat → Prop) (p : Option (Nat × Nat)) (k : Nat) : Prop := (A k ∧ ∀ r, ¬ F r k) ∨ ∃ q, p = some q ∧ F q.1 k
def St.live (σ : St T) : Option (Nat × Nat) → Prop
  | none => True
  | some q => ∃ e l, σ.res q.1 = .row q.2 e l
def CellRel (σ : St T) (env : Nat → Value) (F : Nat → Nat → Prop) (w : World) : Cell T → Value → Prop
  | .un, _ => True
  | .sc v', v => v = v' ∧ v.oneCell' = true
  | .im p e l, v => v.oneCell' = true ∧ (σ.live p → Rd T.sz w (okP σ.A F p) (.sl e (l.map (T.enc e))) v)
  | .hd r, v => v = env r ∧ v.oneCell' = true
  | .px r o, v => ∃ g, env r = .pointer (some ⟨g, 0, none⟩) ∧ v = .pointer (some ⟨g, o, none⟩)
def CellsRel (σ : St T) (env : Nat → Value) (F : Nat → Nat → Prop) (w : World) : List (Cell T) → List Value → Prop
  | [], vs => vs = []
  | c :: cs, vs => ∃ v r, vs = v :: r ∧ CellRel σ env F w c v ∧ CellsRel σ env F w cs r
def ItemRel (σ : St T) (env : Nat → Value) (F : Nat → Nat → Prop) (w : World) (it : Bool × List (Cell T)) (v : Value) : Prop :=
  match it.1 with
  | true => ∃ us : Array Value, v = .agg us ∧ CellsRel σ env F w it.2 us.toList
  | false => CellsRel σ env F w it.2 [v]
def ItemsRel (σ : St T) (env : Nat → Value) (F : Nat → Nat → Prop) (w : World) : List (Bool × List (Cell T)) → List Value → Prop
  | [], vs => vs = []
  | c :: cs, vs => ∃ v r, vs = v :: r ∧ ItemRel σ env F w c v ∧ ItemsRel σ env F w cs r
def SlotRel (σ : St T) (env : Nat → Value) (F : Nat → Nat → Prop) (w : World) : Slot T → Value → Prop
  | .ud, v => v = undef
  | .c x, v => CellRel σ env F w x v
  | .ag l, v => ∃ us : Array Value, v = .agg us ∧ CellsRel σ env F w l us.toList
  | .tu l, v => ∃ us : Array Value, v = .tuple us ∧ ItemsRel σ env F w l us.toList
  | .pi p e l i o, v => i < l.length ∧ ∃ ad, v = .pointer (some (ad.add (i * T.sz e + o))) ∧ (σ.live p → ∃ c, Rd T.sz w (okP σ.A F p) (.sl e (l.map (T.enc e))) (.slice (some ad) l.length c))
  | .pe r i o, v => ∀ bv e l, σ.res r = .row bv e l → i < l.length ∧ ∃ g c, env r = .slice (some ⟨g, 0, none⟩) l.length c ∧ v = .pointer (some ((⟨g, 0, none⟩ : Addr).add (i * T.sz e + o)))
def ResRel (σ : St T) (env : Nat → Value) (F : Nat → Nat → Prop) (w : World) (r : Nat) : Res T → Prop
  | .no => ∀ k, ¬ F r k
  | .bx t cs => ∃ g arr, env r = .pointer (some ⟨g, 0, none⟩) ∧ F r g ∧ (∀ k, F r k → k = g) ∧ w.heap[g]? = some (.cells arr t (0, 0)) ∧ CellsRel σ env F w cs arr.toList
  | .row _ e l => Ow T.sz w (F r) (.sl e (l.map (T.enc e))) (env r)
structure Sim0 (W0 : World) (σ : St T) (a : Act) (w : World) (env : Nat → Value) (F : Nat → Nat → Prop) : Prop where
  below : Below W0.heap.size W0 w
  acc : ∀ k, W0.heap.size ≤ k → σ.A k
  size : a.tmps.size = σ.n
  defers : a.defers = []
  res : ∀ r, ResRel σ env F w r (σ.res r)
  own : ∀ r k, F r k → W0.heap.size ≤ k ∧ k < w.heap.size
  apart : ∀ r s k, F r k → F s k → r = s
  tm : ∀ t, SlotRel σ env F w (σ.tmp t) (a.tmps.getD t undef)
def Sim (W0 : World) (σ : St T) (a : Act) (w : World) : Prop := ∃ env F, Sim0 W0 σ a w env F
/-! ### A function's contract -/
inductive R0 (Tb : Nat → Type) where
  | sc (v : Value)
  | ow (e : Nat) (l : List (Tb e))
  | im (e : Nat) (l : List (Tb e))
inductive RS (Tb : Nat → Type) where
  | c (x : R0 Tb)
  | ag (l : List (R0 Tb))
  | tu (l : List (Bool × List (R0 Tb)))
inductive Arg (Tb : Nat → Type) where
  | c (x : C0 Tb)
  | ag (l : List (C0 Tb))
def ArgCell (w : World) (S : Nat → Prop) : C0 T.Tb → Value → Prop
  | .sc v', v => v = v' ∧ v.oneCell' = true
  | .sl e l, v => Rd T.sz w S (.sl e (l.map (T.enc e))) v
def ArgCells (w : World) (S : Nat → Prop) : List (C0 T.Tb) → List Value → Prop
  | [], vs => vs = []
  | c :: cs, vs => ∃ v r, vs = v :: r ∧ ArgCell w S c v ∧ ArgCells w S cs r
def ArgRel (w : World) (S : Nat → Prop) : Arg T.Tb → Value → Prop
  | .c x, v => ArgCell w S x v
  | .ag l, v => ∃ us : Array Value, v = .agg us ∧ ArgCells w S l us.toList
def ArgsRel (w : World) (S : Nat → Prop) : List (Arg T.Tb) → List Value → Prop
  | [], vs => vs = []
  | c :: cs, vs => ∃ v r, vs = v :: r ∧ ArgRel w S c v ∧ ArgsRel w S cs r
/-- A result's cells, from number i on: G i: the blocks of the i-th. -/
def ResCells (w' : World) (S : Nat → Prop) (G : Nat → Nat → Prop) : Nat → List (R0 T.Tb) → List Value → Prop
  | _, [], vs => vs = []
  | i, .sc v' :: cs, vs => ∃ r, vs = v' :: r ∧ v'.oneCell' = true ∧ ResCells w' S G (i + 1) cs r
  | i, .ow e l :: cs, vs => ∃ v r, vs = v :: r ∧ Ow T.sz w' (G i) (.sl e (l.map (T.enc e))) v ∧ ResCells w' S G (i + 1) cs r
  | i, .im e l :: cs, vs => ∃ v r, vs = v :: r ∧ Rd T.sz w' S (.sl e (l.map (T.enc e))) v ∧ ResCells w' S G (i + 1) cs r
def flatTu : List (Bool × List (R0 T.Tb)) → List (R0 T.Tb)
  | [] => []
  | it :: l => it.2 ++ flatTu l
/-- A result's cells in line. -/
def RS.flat : RS T.Tb → List (R0 T.Tb)
  | .c x => [x]
  | .ag l => l
  | .tu l => flatTu l
def FlatItems : List (Bool × List (R0 T.Tb)) → List Value → List Value → Prop
  | [], vs, fv => vs = [] ∧ fv = []
  | it :: l, vs, fv => ∃ v r f1 f2, vs = v :: r ∧ fv = f1 ++ f2 ∧ f1.length = it.2.length ∧ (match it.1 with
    | true => ∃ us : Array Value, v = .agg us ∧ us.toList = f1
    | false => f1 = [v]) ∧ FlatItems l r f2
/-- A result's values in line. -/
def FlatV : RS T.Tb → Value → List Value → Prop
  | .c _, v, fv => fv = [v]
  | .ag l, v, fv => ∃ us : Array Value, v = .agg us ∧ us.toList = fv
  | .tu l, v, fv => ∃ us : Array Value, v = .tuple us ∧ FlatItems l us.toList fv
def Enters (P : Program) (f : FuncId) : Prop := ∃ fn, P.funcs[f]? = some fn ∧ (fn.name == "runtime.NumGoroutine") = false ∧ fn.body.isSome = true
/-- Function f, handed args, answers res; nothing that was there is turned; what the answer owns is new. -/
def CallOb (T : Tys) (P : Program) (f : FuncId) (args : List (Arg T.Tb)) (res : RS T.Tb) : Prop :=
  Enters P f ∧ ∀ (w : World) (vs : List Value) (S : Nat → Prop), ArgsRel w S args vs → Calls P f vs.toArray w fun e w' => ∃ v G, e = .returned v ∧ Below w.heap.size w w' ∧
    (∀ i k, G i k → w.heap.size ≤ k ∧ k < w'.heap.size) ∧ (∀ i j k, G i k → G j k → i = j) ∧
    ∃ fv, FlatV res v fv ∧ ResCells w' (fun k => S k ∧ k < w.heap.size ∨ w.heap.size ≤ k ∧ ∀ i, ¬ G i k) G 0 res.flat fv
end
end Go.Proofs.Ytnflbiafmddpgaa.Z
