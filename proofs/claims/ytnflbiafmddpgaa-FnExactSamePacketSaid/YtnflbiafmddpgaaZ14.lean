/- The path calculus, part 14: the condition that a code asks of a state; it is enough. -/
import Derived.Test.YtnflbiafmddpgaaZD
namespace Go.Proofs.Ytnflbiafmddpgaa.Z
open Go.RowKit
set_option linter.unusedVariables false
set_option linter.unusedSimpArgs false
section
variable {T : Tys} {P : Program} {W0 : World}
def stCall (σ : St T) (f : FuncId) (args : List Operand) : LOut T := match argsS σ (evL σ args) with
  | some _ => .call f (evL σ args)
  | none => .stuck
def lstepCall (σ : St T) (dst : Option Nat) (c : Call) : LOut T :=
  match c.callee with
  | .value (.func f) => stCall σ f c.args.toList
  | .builtin .len => match c.args, c.argTypes with
    | ⟨[x]⟩, ⟨[t]⟩ => stLen σ dst t x
    | _, _ => .stuck
  | _ => .stuck
/-- A store: into a box, or into an element of an own row. -/
def stStoreX (σ : St T) (nx : Nat) (dst : Option Nat) (t : Nat) (x v : Operand) : LOut T := match evS σ x with
  | .pe _ _ _ => stStoreE σ nx dst t x v
  | _ => stStore σ dst t x v
def isCmp : BinOp → Bool
  | .eql => true
  | .neq => true
  | _ => false
def isDeep : Slot T → Bool
  | .ag _ => true
  | .c (.sc (.bool _)) => true
  | _ => false
def stBinX (P : Program) (σ : St T) (dst : Option Nat) (op : BinOp) (t : TypeId) (x y : Operand) : LOut T := match isCmp op with
  | true => match isDeep (evS σ x) with
    | true => stEq P σ dst op t x y
    | false => stBin σ dst op x y
  | false => stBin σ dst op x y
def lstep (P : Program) (σ : St T) (nx : Nat) (o : Oper) : LOut T :=
  match o.op with
  | .move x => stMove σ o.dst x
  | .assign x => stMove σ o.dst x
  | .pick c x y => stPick σ o.dst c x y
  | .alloc t => stAlloc σ nx o.dst t
  | .box t x => stBox σ nx o.dst t x
  | .load t x => stLoad σ o.dst t x
  | .store t x v => stStoreX σ nx o.dst t x v
  | .makeSlice t x y => stMake σ nx o.dst t x y
  | .convert ts td x => stConv σ o.dst ts td x
  | .binOp op t x y _ => stBinX P σ o.dst op t x y
  | .unOp op _ x => stUn σ o.dst op x
  | .fieldAddr t x f => stFieldC σ o.dst t x f
  | .indexAddr t x i => stIndexAddr σ o.dst t x i
  | .index t x i => stIndex σ o.dst t x i
  | .extract x i => stExtract σ o.dst x i
  | .call c => lstepCall σ o.dst c
  | _ => .stuck
theorem stCall_not {σ : St T} {f : FuncId} {args : List Operand} {U : Upd T} {ob : Option Prop} (h : stCall σ f args = .done U ob) : False := by
  unfold stCall at h; split at h <;> cases h
theorem lstep_ok (hT : T.ok P) {σ : St T} {nx : Nat} {o : Oper} {U : Upd T} {ob : Option Prop} (h : lstep P σ nx o = .done U ob) (hob : obOk ob) : LStep P W0 o σ U := by
  unfold lstep at h
  split at h
  · rename_i ho; exact stMove_ok (.inl ho) h
  · rename_i ho; exact stMove_ok (.inr ho) h
  · rename_i ho; exact stPick_ok ho h
  · rename_i ho; exact stAlloc_ok hT ho h
  · rename_i ho; exact stBox_ok ho h
  · rename_i ho; exact stLoad_ok hT ho h
  · rename_i ho
    unfold stStoreX at h
    split at h
    · exact stStoreE_ok hT ho h
    · exact stStore_ok hT ho h
  · rename_i ho; exact stMake_ok hT ho h hob
  · rename_i ho; exact stConv_ok hT ho h hob
  · rename_i ho
    unfold stBinX at h
    split at h
    · split at h
      · exact stEq_ok ho h hob
      · exact stBin_ok ho h
    · exact stBin_ok ho h
  · rename_i ho; exact stUn_ok ho h
  · rename_i ho; exact stField_ok hT ho h
  · rename_i ho; exact stIndexAddr_ok hT ho h hob
  · rename_i ho; exact stIndex_ok hT ho h hob
  · rename_i ho; exact stExtract_ok ho h
  · rename_i c ho
    unfold lstepCall at h
    split at h
    · exact (stCall_not h).elim
    · rename_i hc
      split at h
      · rename_i x t ha ht
        refine stLen_ok hT ?_ h
        rw [ho]
        obtain ⟨c1, c2, c3⟩ := c
        simp only at hc ha ht
        subst hc ha ht
        rfl
      · cases h
    · cases h
  · cases h
theorem lstep_call {σ : St T} {nx : Nat} {o : Oper} {f : FuncId} {ss : List (Slot T)} (h : lstep P σ nx o = .call f ss) : ∃ args ts, o.op = .call { callee := .value (.func f), args := args, argTypes := ts } ∧ ss = evL σ args.toList := by
  have hq : ∀ (dst : Option Nat) (r : Option Value), optQ σ dst r ≠ .call f ss := fun dst r => by unfold optQ; split <;> (try split) <;> simp
  have hm : ∀ (dst : Option Nat) x, stMove σ dst x ≠ .call f ss := fun dst x => by unfold stMove; split <;> simp
  have hbx : ∀ (dst : Option Nat) t cs, mkBox σ nx dst t cs ≠ .call f ss := fun dst t cs => by unfold mkBox; split <;> (try split) <;> (try split) <;> simp
  unfold lstep at h
  split at h
  · exact absurd h (hm _ _)
  · exact absurd h (hm _ _)
  · unfold stPick at h; split at h <;> first | exact absurd h (hm _ _) | cases h
  · unfold stAlloc at h; split at h <;> (try split at h) <;> first | exact absurd h (hbx _ _ _) | cases h
  · unfold stBox at h; split at h <;> first | exact absurd h (hbx _ _ _) | cases h
  · unfold stLoad at h; repeat' (split at h)
    all_goals cases h
  · unfold stStoreX at h
    split at h
    · unfold stStoreE at h; repeat' (split at h)
      all_goals cases h
    · unfold stStore at h; repeat' (split at h)
      all_goals cases h
  · unfold stMake at h; repeat' (split at h)
    all_goals cases h
  · unfold stConv at h; repeat' (split at h)
    all_goals cases h
  · have hb : ∀ (dst : Option Nat) op x y, stBin σ dst op x y ≠ .call f ss := fun dst op x y h => by
      unfold stBin at h; split at h <;> (try split at h) <;> first | exact absurd h (hq _ _) | cases h
    unfold stBinX at h
    split at h
    · split at h
      · unfold stEq at h; repeat' (split at h)
        all_goals cases h
      · exact absurd h (hb _ _ _ _)
    · exact absurd h (hb _ _ _ _)
  · unfold stUn at h; split at h <;> first | exact absurd h (hq _ _) | cases h
  · unfold stFieldC at h; split at h
    · unfold stField at h; repeat' (split at h)
      all_goals cases h
    · cases h
  · unfold stIndexAddr at h; repeat' (split at h)
    all_goals cases h
  · unfold stIndex at h; repeat' (split at h)
    all_goals cases h
  · unfold stExtract at h; repeat' (split at h)
    all_goals cases h
  · rename_i c ho
    unfold lstepCall at h
    split at h
    · rename_i f' hc
      unfold stCall at h
      split at h
      · cases h
        obtain ⟨c1, c2, c3⟩ := c
        simp only at hc
        subst hc
        exact ⟨c2, c3, ho, rfl⟩
      · cases h
    · split at h
      · unfold stLen at h; repeat' (split at h)
        all_goals cases h
      · cases h
    · cases h
  · cases h
/-! ### operations in line -/
def guardSrc (ops : Array Oper) (i : Nat) : Bool := ops.toList.any fun o => match o.guard with
  | some (j, _) => Nat.beq j i
  | none => false
/-! Told out: each part of a step is brought to its form before the next one is looked at. -/
def fV (v : Value) (K : Value → Prop) : Prop := match v with
  | .int k n => K (.int k n)
  | .bool b => K (.bool b)
  | .string s => K (.string s)
  | .slice a n c => K (.slice a n c)
  | v => K v
def fC (c : Cell T) (K : Cell T → Prop) : Prop := match c with
  | .un => K .un
  | .sc v => fV v fun v => K (.sc v)
  | .im p e l => K (.im p e l)
  | .hd r => K (.hd r)
  | .px r o => K (.px r o)
def fCs : List (Cell T) → (List (Cell T) → Prop) → Prop
  | [], K => K []
  | c :: l, K => fC c fun c => fCs l fun l => K (c :: l)
def fTu : List (Bool × List (Cell T)) → (List (Bool × List (Cell T)) → Prop) → Prop
  | [], K => K []
  | (b, c) :: l, K => fCs c fun c => fTu l fun l => K ((b, c) :: l)
def fS (s : Slot T) (K : Slot T → Prop) : Prop := match s with
  | .ud => K .ud
  | .c x => fC x fun x => K (.c x)
  | .ag l => fCs l fun l => K (.ag l)
  | .tu l => fTu l fun l => K (.tu l)
  | .pi p e l i o => K (.pi p e l i o)
  | .pe r i o => K (.pe r i o)
def fR (x : Res T) (K : Res T → Prop) : Prop := match x with
  | .no => K .no
  | .bx t cs => fCs cs fun cs => K (.bx t cs)
  | .row b e l => K (.row b e l)
def fRs : List (Nat × Res T) → (List (Nat × Res T) → Prop) → Prop
  | [], K => K []
  | (r, x) :: l, K => fR x fun x => fRs l fun l => K ((r, x) :: l)
def fN : List Nat → (List Nat → Prop) → Prop
  | [], K => K []
  | a :: l, K => fN l fun l => K (a :: l)
theorem fV_ok {v : Value} {K : Value → Prop} (h : fV v K) : K v := by unfold fV at h; split at h <;> exact h
theorem fC_ok {c : Cell T} {K : Cell T → Prop} (h : fC c K) : K c := by
  unfold fC at h; split at h <;> first | exact h | exact fV_ok (K := fun v => K (.sc v)) h
theorem fCs_ok : ∀ {l : List (Cell T)} {K : List (Cell T) → Prop}, fCs l K → K l
  | [], _, h => h
  | c :: l, K, h => fCs_ok (K := fun l => K (c :: l)) (fC_ok (K := fun c => fCs l fun l => K (c :: l)) h)
theorem fTu_ok : ∀ {l : List (Bool × List (Cell T))} {K : List (Bool × List (Cell T)) → Prop}, fTu l K → K l
  | [], _, h => h
  | (b, c) :: l, K, h => fTu_ok (K := fun l => K ((b, c) :: l)) (fCs_ok (K := fun c => fTu l fun l => K ((b, c) :: l)) h)
theorem fS_ok {s : Slot T} {K : Slot T → Prop} (h : fS s K) : K s := by
  cases s with
  | ud => exact h
  | c x => exact fC_ok (K := fun x => K (.c x)) h
  | ag l => exact fCs_ok (K := fun l => K (.ag l)) h
  | tu l => exact fTu_ok (K := fun l => K (.tu l)) h
  | pi p e l i o => exact h
  | pe r i o => exact h
theorem fR_ok {x : Res T} {K : Res T → Prop} (h : fR x K) : K x := by
  cases x with
  | no => exact h
  | bx t cs => exact fCs_ok (K := fun cs => K (.bx t cs)) h
  | row b e l => exact h
theorem fRs_ok : ∀ {l : List (Nat × Res T)} {K : List (Nat × Res T) → Prop}, fRs l K → K l
  | [], _, h => h
  | (r, x) :: l, K, h => fRs_ok (K := fun l => K ((r, x) :: l)) (fR_ok (K := fun x => fRs l fun l => K ((r, x) :: l)) h)
theorem fN_ok : ∀ {l : List Nat} {K : List Nat → Prop}, fN l K → K l
  | [], _, h => h
  | a :: l, K, h => fN_ok (K := fun l => K (a :: l)) h
/-! What the condition asks of the one who proves: each kind of question has a form of its own. -/
structure Split (b : Bool) (A B : Prop) : Prop where
  t : b = true → A
  f : b = false → B
structure Need (p K : Prop) : Prop where
  p : p
  k : K
structure DrawQ (p K : Prop) : Prop where
  p : p
  k : K
inductive CallQ (P : Program) (f : FuncId) (as : List (Arg T.Tb)) (K : RS T.Tb → Prop) : Prop where
  | mk (res : RS T.Tb) (h : CallOb T P f as res) (k : K res)
/-- A bool that a guard asks for is told as what it is. -/
def fB (src : Bool) (s : Slot T) (K : Slot T → Prop) : Prop :=
  match src with
  | false => K s
  | true => match s with
    | .c (.sc (.bool b)) => Split b (K (.c (.sc (.bool true)))) (K (.c (.sc (.bool false))))
    | s => K s
def fU (src draw : Bool) (U : Upd T) (K : Upd T → Prop) : Prop :=
  match U with
  | ⟨s, rs, tch, nx, chg⟩ => fS s fun s => fB src s fun s => fRs rs fun rs => match draw with
    | true => fN tch fun tch => fN chg fun chg => K ⟨s, rs, tch, nx, chg⟩
    | false => K ⟨s, rs, tch, nx, chg⟩
def withOb (ob : Option Prop) (K : Prop) : Prop := match ob with
  | none => K
  | some p => Need p K
def vcCall (P : Program) (σ : St T) (nx : Nat) (dst : Option Nat) (f : FuncId) (ss : List (Slot T)) (K : Upd T → Prop) : Prop :=
  match argsS σ ss with
  | some (as, ps) => CallQ P f as fun res => match callUpd σ nx dst ps res with
    | some U => K U
    | none => False
  | none => False
def addZ (draw : Bool) (x : Oper × Upd T) (zs : List (Oper × Upd T)) : List (Oper × Upd T) := match draw with
  | true => x :: zs
  | false => zs
def outZ (draw : Bool) (l zs : List (Oper × Upd T)) : List (Oper × Upd T) := match draw with
  | true => l.reverse ++ zs
  | false => zs
theorem outZ_cons (draw : Bool) (x : Oper × Upd T) (l zs : List (Oper × Upd T)) : outZ draw l (addZ draw x zs) = outZ draw (x :: l) zs := by cases draw <;> simp [outZ, addZ]
def appK : List (Nat × Res T) → List (Nat × Res T) → (List (Nat × Res T) → Prop) → Prop
  | [], l, K => K l
  | x :: r, l, K => appK r l fun t => K (x :: t)
theorem appK_ok : ∀ {r l : List (Nat × Res T)} {K : List (Nat × Res T) → Prop}, appK r l K → K (r ++ l)
  | [], _, _, h => h
  | x :: r, l, K, h => appK_ok (K := fun t => K (x :: t)) h
def goOn (nx m : Nat) (urs rs : List (Nat × Res T)) (draw : Bool) (x : Oper × Upd T) (zs : List (Oper × Upd T)) (K : Nat → List (Nat × Res T) → List (Oper × Upd T) → Prop) : Prop :=
  appK urs rs fun rs => match draw with
    | true => (match m with
      | 0 => K nx rs (x :: zs)
      | m + 1 => K (nx + (m + 1)) rs (x :: zs))
    | false => (match m with
      | 0 => K nx rs zs
      | m + 1 => K (nx + (m + 1)) rs zs)
theorem goOn_ok {nx m : Nat} {urs rs : List (Nat × Res T)} {draw : Bool} {x : Oper × Upd T} {zs : List (Oper × Upd T)} {K : Nat → List (Nat × Res T) → List (Oper × Upd T) → Prop} (h : goOn nx m urs rs draw x zs K) : ∃ nx', K nx' (urs ++ rs) (addZ draw x zs) := by
  unfold goOn at h
  cases draw <;> cases m <;> exact ⟨_, appK_ok (K := fun rs => K _ rs _) h⟩
/-- The operations in the text's order. K: how many numbers are used up, what the temporaries and the resources are; what each operation did. -/
def vcOps (P : Program) (n : Nat) (A : Nat → Prop) (draw : Bool) (ops : Array Oper) : Nat → List Oper → Nat → List (Nat × Slot T) → List (Nat × Res T) → List (Oper × Upd T) → (Nat → List (Nat × Slot T) → List (Nat × Res T) → List (Oper × Upd T) → Prop) → Prop
  | _, [], nx, tm, rs, zs, K => K nx tm rs zs
  | i, o :: l, nx, tm, rs, zs, K =>
    let next (U : Upd T) : Prop := fU (guardSrc ops i) draw U fun U => match U with
      | ⟨s, urs, tch, m, chg⟩ => match o.dst with
        | some d => goOn nx m urs rs draw (o, ⟨s, urs, tch, m, chg⟩) zs fun nx rs zs => vcOps P n A draw ops (i + 1) l nx ((d, s) :: tm) rs zs K
        | none => goOn nx m urs rs draw (o, ⟨s, urs, tch, m, chg⟩) zs fun nx rs zs => vcOps P n A draw ops (i + 1) l nx tm rs zs K
    match guardS ⟨tm, rs, n, A⟩ ops o with
    | some true => match lstep P ⟨tm, rs, n, A⟩ nx o with
      | .done U ob => withOb ob (next U)
      | .call f ss => vcCall P ⟨tm, rs, n, A⟩ nx o.dst f ss next
      | .stuck => False
    | some false => match dstOk (⟨tm, rs, n, A⟩ : St T) o.dst with
      | true => next ⟨.ud, [], [], 0, []⟩
      | false => False
    | none => False
theorem fB_ok {src : Bool} {s : Slot T} {K : Slot T → Prop} (h : fB src s K) : ∃ s', K s' ∧ (s' = s ∨ ∃ b c, b = c ∧ s = .c (.sc (.bool b)) ∧ s' = .c (.sc (.bool c))) := by
  unfold fB at h
  split at h
  · exact ⟨s, h, .inl rfl⟩
  · split at h
    · rename_i b
      cases hb : b with
      | true => exact ⟨_, h.t hb, .inr ⟨true, true, rfl, rfl, rfl⟩⟩
      | false => exact ⟨_, h.f hb, .inr ⟨false, false, rfl, rfl, rfl⟩⟩
    · exact ⟨_, h, .inl rfl⟩
theorem fU_ok {ops : Array Oper} {o : Oper} {σ : St T} {src draw : Bool} {U : Upd T} {K : Upd T → Prop} (hg : GStep P W0 ops o σ U) (h : fU src draw U K) : ∃ U', GStep P W0 ops o σ U' ∧ K U' := by
  obtain ⟨s, rs, tch, nx, chg⟩ := U
  have h1 := fS_ok (K := fun s => fB src s fun s => fRs rs fun rs => match draw with
    | true => fN tch fun tch => fN chg fun chg => K ⟨s, rs, tch, nx, chg⟩
    | false => K ⟨s, rs, tch, nx, chg⟩) h
  obtain ⟨s', h2, h3⟩ := fB_ok h1
  have h4 := fRs_ok (K := fun rs => match draw with
    | true => fN tch fun tch => fN chg fun chg => K ⟨s', rs, tch, nx, chg⟩
    | false => K ⟨s', rs, tch, nx, chg⟩) h2
  have h5 : K ⟨s', rs, tch, nx, chg⟩ := by
    cases draw with
    | false => exact h4
    | true => exact fN_ok (K := fun chg => K ⟨s', rs, tch, nx, chg⟩) (fN_ok (K := fun tch => fN chg fun chg => K ⟨s', rs, tch, nx, chg⟩) h4)
  rcases h3 with rfl | ⟨b, c, e, rfl, rfl⟩
  · exact ⟨_, hg, h5⟩
  · exact ⟨_, gstep_bool e hg, h5⟩
theorem vcOps_tr (hT : T.ok P) {n : Nat} {A : Nat → Prop} {draw : Bool} {ops : Array Oper} {K : Nat → List (Nat × Slot T) → List (Nat × Res T) → List (Oper × Upd T) → Prop} : ∀ {l : List Oper} {i nx : Nat} {tm : List (Nat × Slot T)} {rs : List (Nat × Res T)} {zs : List (Oper × Upd T)}, vcOps P n A draw ops i l nx tm rs zs K →
    ∃ Us nx2 tm2 rs2, Tr P W0 ops l ⟨tm, rs, n, A⟩ Us ⟨tm2, rs2, n, A⟩ ∧ K nx2 tm2 rs2 (outZ draw (l.zip Us) zs)
  | [], i, nx, tm, rs, zs, h => ⟨[], nx, tm, rs, .nil _, by cases draw <;> exact h⟩
  | o :: l, i, nx, tm, rs, zs, h => by
    have fin : ∀ {U : Upd T}, GStep P W0 ops o ⟨tm, rs, n, A⟩ U → fU (guardSrc ops i) draw U (fun U => match U with
      | ⟨s, urs, tch, m, chg⟩ => match o.dst with
        | some d => goOn nx m urs rs draw (o, ⟨s, urs, tch, m, chg⟩) zs fun nx rs zs => vcOps P n A draw ops (i + 1) l nx ((d, s) :: tm) rs zs K
        | none => goOn nx m urs rs draw (o, ⟨s, urs, tch, m, chg⟩) zs fun nx rs zs => vcOps P n A draw ops (i + 1) l nx tm rs zs K) → ∃ Us nx2 tm2 rs2, Tr P W0 ops (o :: l) ⟨tm, rs, n, A⟩ Us ⟨tm2, rs2, n, A⟩ ∧ K nx2 tm2 rs2 (outZ draw ((o :: l).zip Us) zs) := by
      intro U hg h
      obtain ⟨⟨s, urs, tch, m, chg⟩, h1, h2⟩ := fU_ok hg h
      dsimp only at h2
      have key : ∀ tm', (⟨tm, rs, n, A⟩ : St T).upd o.dst ⟨s, urs, tch, m, chg⟩ = ⟨tm', urs ++ rs, n, A⟩ → (goOn nx m urs rs draw (o, ⟨s, urs, tch, m, chg⟩) zs fun nx rs zs => vcOps P n A draw ops (i + 1) l nx tm' rs zs K) → ∃ Us nx2 tm2 rs2, Tr P W0 ops (o :: l) ⟨tm, rs, n, A⟩ Us ⟨tm2, rs2, n, A⟩ ∧ K nx2 tm2 rs2 (outZ draw ((o :: l).zip Us) zs) := by
        intro tm' e h2
        obtain ⟨nx', h2⟩ := goOn_ok h2
        obtain ⟨Us, nx2, tm2, rs2, h3, h4⟩ := vcOps_tr hT h2
        rw [← e] at h3
        exact ⟨_ :: Us, nx2, tm2, rs2, .cons h1 h3, by rw [outZ_cons] at h4; exact h4⟩
      cases hd : o.dst with
      | none => rw [hd] at h2 key; exact key tm rfl h2
      | some d => rw [hd] at h2 key; exact key _ rfl h2
    unfold vcOps at h
    dsimp only at h
    split at h
    · rename_i hg
      split at h
      · rename_i U ob hl
        cases ob with
        | none => exact fin (gstep_run hg (lstep_ok hT hl trivial)) h
        | some p => exact fin (gstep_run hg (lstep_ok hT hl h.p)) h.k
      · rename_i f ss hl
        unfold vcCall at h
        split at h
        · rename_i as ps ha
          obtain ⟨res, hc, h⟩ := h
          split at h
          · rename_i U hu
            obtain ⟨args, ts, ho, rfl⟩ := lstep_call hl
            exact fin (gstep_run hg (call_ok ho ha hc hu)) h
          · cases h
        · cases h
      · cases h
    · rename_i hg
      split at h
      · rename_i hd
        exact fin (gstep_skip hg hd) h
      · cases h
    · cases h
/-! ### codes -/
def Imp (σ σ' : St T) : Prop := ∀ (W0 : World) (a : Act) (w : World), Sim W0 σ a w → Sim W0 σ' a w
/-- A loop's head is met again. -/
structure NextQ (p : Prop) : Prop where
  p : p
inductive LoopQ (n : Nat) (A : Nat → Prop) (tm : List (Nat × Slot T)) (rs : List (Nat × Res T)) (body : (Nat → List (Nat × Slot T) → List (Nat × Res T) → Prop) → Nat → List (Nat × Slot T) → List (Nat × Res T) → Prop) : Prop where
  | mk (α : Type) (inv : α → Nat × List (Nat × Slot T) × List (Nat × Res T)) (m : α → Nat) (a0 : α) (h0 : Imp (⟨tm, rs, n, A⟩ : St T) ⟨(inv a0).2.1, (inv a0).2.2, n, A⟩)
    (h : ∀ a, body (fun nx' tm' rs' => NextQ (∃ a', m a' < m a ∧ Imp (⟨tm', rs', n, A⟩ : St T) ⟨(inv a').2.1, (inv a').2.2, n, A⟩)) (inv a).1 (inv a).2.1 (inv a).2.2)
/-- K: the exit, how many numbers are used up, the temporaries, the resources. -/
def vcC (P : Program) (n : Nat) (A : Nat → Prop) : Code → (Exit → Nat → List (Nat × Slot T) → List (Nat × Res T) → Prop) → Nat → List (Nat × Slot T) → List (Nat × Res T) → Prop
  | .skip, K, nx, tm, rs => K .normal nx tm rs
  | .seq a b, K, nx, tm, rs => vcC P n A a (fun e nx tm rs => match e with
    | .normal => vcC P n A b K nx tm rs
    | e => K e nx tm rs) nx tm rs
  | .cond c a b, K, nx, tm, rs => match evS (⟨tm, rs, n, A⟩ : St T) c with
    | .c (.sc (.bool t)) => Split t (vcC P n A a K nx tm rs) (vcC P n A b K nx tm rs)
    | _ => False
  | .region _ ops draw, K, nx, tm, rs => match draw with
    | false => vcOps P n A false ops 0 ops.toList nx tm rs [] fun nx tm rs _ => K .normal nx tm rs
    | true => vcOps P n A true ops 0 ops.toList nx tm rs [] fun nx tm rs zs => DrawQ (P.follows .mixedOrders = true ∧ drawOk ops zs.reverse = true) (K .normal nx tm rs)
  | .block id c, K, nx, tm, rs => vcC P n A c (fun e nx tm rs => match e with
    | .exit i => match Nat.beq i id with
      | true => K .normal nx tm rs
      | false => K (.exit i) nx tm rs
    | e => K e nx tm rs) nx tm rs
  | .exit id, K, nx, tm, rs => K (.exit id) nx tm rs
  | .ret, K, nx, tm, rs => K .ret nx tm rs
  | .loop c, K, nx, tm, rs => LoopQ n A tm rs fun next nx tm rs => vcC P n A c (fun e nx' tm' rs' => match e with
    | .normal => next nx' tm' rs'
    | e => K e nx' tm' rs') nx tm rs
  | _, _, _, _, _ => False
theorem op_rel {σ : St T} {a : Act} {w : World} {env : Nat → Value} {F : Nat → Nat → Prop} (h : Sim0 W0 σ a w env F) (x : Operand) : SlotRel σ env F w (evS σ x) (a.eval x) := by
  cases x with
  | tmp t => exact h.tm t
  | const v => exact const_rel v
  | global g => trivial
  | func f => exact ⟨rfl, rfl⟩
theorem vc_sound (hT : T.ok P) {n : Nat} {A : Nat → Prop} : ∀ (c : Code) (K : Exit → Nat → List (Nat × Slot T) → List (Nat × Res T) → Prop) (nx : Nat) (tm : List (Nat × Slot T)) (rs : List (Nat × Res T)), vcC P n A c K nx tm rs → ∀ (a : Act) (w : World) (Q : Exit → Act → World → Prop), Sim W0 (⟨tm, rs, n, A⟩ : St T) a w →
    (∀ e nx' tm' rs' a' w', K e nx' tm' rs' → Sim W0 (⟨tm', rs', n, A⟩ : St T) a' w' → Q e a' w') → c.wp P Q a w := by
  intro c
  induction c with
  | skip => exact fun K nx tm rs h a w Q hS hQ => wp_skip (hQ _ _ _ _ _ _ h hS)
  | seq x y ihx ihy =>
    intro K nx tm rs h a w Q hS hQ
    refine wp_seq (ihx _ nx tm rs h a w _ hS (fun e nx' tm' rs' a' w' hK hS' => ?_))
    cases e <;> first | exact hQ _ _ _ _ _ _ hK hS' | exact ihy K nx' tm' rs' hK a' w' Q hS' hQ
  | cond c x y ihx ihy =>
    intro K nx tm rs h a w Q hS hQ
    unfold vcC at h
    split at h
    · rename_i t hc
      have hS' := hS
      obtain ⟨env, F, hS0⟩ := hS'
      have e1 := op_rel hS0 c
      rw [hc] at e1
      exact wp_cond_split e1.1 (fun ht => ihx K nx tm rs (h.t ht) a w Q hS hQ) (fun ht => ihy K nx tm rs (h.f ht) a w Q hS hQ)
    · cases h
  | region id ops draw =>
    intro K nx tm rs h a w Q hS hQ
    unfold vcC at h
    cases draw with
    | false =>
      obtain ⟨Us, nx2, tm2, rs2, h1, h2⟩ := vcOps_tr (W0 := W0) hT h
      exact wp_region_list (tr_list h1 hS (fun a' w' hS' => hQ _ _ _ _ _ _ h2 hS'))
    | true =>
      obtain ⟨Us, nx2, tm2, rs2, h1, ⟨hm, h2⟩, h3⟩ := vcOps_tr (W0 := W0) hT h
      exact tr_draw hm h1 (by simpa [outZ] using h2) hS (fun a' w' hS' => hQ _ _ _ _ _ _ h3 hS')
  | block id c ih =>
    intro K nx tm rs h a w Q hS hQ
    refine wp_block (ih _ nx tm rs h a w _ hS (fun e nx' tm' rs' a' w' hK hS' => ?_))
    cases e with
    | exit i =>
      dsimp only at hK
      unfold Exit.inBlock
      by_cases e : i = id
      · subst e
        rw [show Nat.beq i i = true by simp [Nat.beq_eq]] at hK
        simp only [if_true]
        exact hQ _ _ _ _ _ _ hK hS'
      · rw [beq_ne e] at hK
        simp only [e, if_false]
        exact hQ _ _ _ _ _ _ hK hS'
    | _ => exact hQ _ _ _ _ _ _ hK hS'
  | exit id => exact fun K nx tm rs h a w Q hS hQ => wp_exit (hQ _ _ _ _ _ _ h hS)
  | ret => exact fun K nx tm rs h a w Q hS hQ => wp_ret (hQ _ _ _ _ _ _ h hS)
  | loop c ih =>
    intro K nx tm rs h a w Q hS hQ
    obtain ⟨α, inv, m, a0, h0, hr⟩ := h
    have key : ∀ (q : Nat) (x : α), m x = q → ∀ a w, Sim W0 (⟨(inv x).2.1, (inv x).2.2, n, A⟩ : St T) a w → ∀ b k cs, ∃ e a' w', Q e a' w' ∧ Arrives P (lone (b.at a (.code c :: .inLoop c :: k)) cs w) b k cs e a' w' := by
      intro q
      induction q using Nat.strongRecOn with
      | _ q ihn =>
        intro x hx a w hS b k cs
        obtain ⟨e, a1, w1, hq, harr⟩ := ih _ _ _ _ (hr x) a w (fun e a' w' => match e with
          | .normal => ∃ x', m x' < m x ∧ Sim W0 (⟨(inv x').2.1, (inv x').2.2, n, A⟩ : St T) a' w'
          | e => Q e a' w') hS (fun e nx' tm' rs' a' w' hK hS' => by
            cases e with
            | normal =>
              obtain ⟨⟨x', hlt, himp⟩⟩ := hK
              exact ⟨x', hlt, himp _ _ _ hS'⟩
            | _ => exact hQ _ _ _ _ _ _ hK hS') b (.inLoop c :: k) cs
        cases e with
        | normal =>
          obtain ⟨x', hlt, hS'⟩ := hq
          obtain ⟨e2, a2, w2, hq2, harr2⟩ := ihn (m x') (hx ▸ hlt) x' rfl a1 w1 hS' b k cs
          exact ⟨e2, a2, w2, hq2, .of_steps (Steps.trans harr (.one step_inLoop)) harr2⟩
        | exit id => exact ⟨_, a1, w1, hq, .pass (x := .inLoop c) rfl (fun _ _ => .inl (by simp)) harr⟩
        | goto l => exact ⟨_, a1, w1, hq, .pass (x := .inLoop c) rfl (fun _ _ => .inl (by simp)) harr⟩
        | ret => exact ⟨_, a1, w1, hq, .pass (x := .inLoop c) rfl (fun _ _ => .inl (by simp)) harr⟩
        | panic ch => exact ⟨_, a1, w1, hq, .pass (x := .inLoop c) rfl (fun _ _ => .inl (by simp)) harr⟩
        | outgrown => exact ⟨_, a1, w1, hq, .pass (x := .inLoop c) rfl (fun _ _ => .inl (by simp)) harr⟩
    intro b k cs
    obtain ⟨e, a', w', hq, harr⟩ := key _ a0 rfl a w (h0 _ _ _ hS) b k cs
    exact ⟨e, a', w', hq, .of_steps (.one step_loop) harr⟩
  | _ => exact fun K nx tm rs h => by cases h
end
end Go.Proofs.Ytnflbiafmddpgaa.Z
