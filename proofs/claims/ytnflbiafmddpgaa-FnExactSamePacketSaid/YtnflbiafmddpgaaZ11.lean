/- The path calculus, part 11: regions: in the text's order, and in whatever order is drawn. -/
import Derived.Test.YtnflbiafmddpgaaZ10
namespace Go.Proofs.Ytnflbiafmddpgaa.Z
open Go.RowKit
set_option linter.unusedVariables false
set_option linter.unusedSimpArgs false
section
variable {T : Tys} {P : Program} {W0 : World} {σ σ' σ1 σ2 : St T} {a : Act} {w w1 : World} {ops : Array Oper}
/-- The temporary that a guard asks. -/
def gTmp (ops : Array Oper) (o : Oper) : Option Nat :=
  match o.guard with
  | none => none
  | some (j, _) => match ops[j]? with
    | some oj => oj.dst
    | none => none
def gTmps (ops : Array Oper) (o : Oper) : List Nat := match gTmp ops o with
  | some t => [t]
  | none => []
/-- Is the operation wanted? -/
def guardS (σ : St T) (ops : Array Oper) (o : Oper) : Option Bool :=
  match o.guard with
  | none => some true
  | some (_, want) => match gTmp ops o with
    | some t => match Nat.blt t σ.n with
      | true => match σ.tmp t with
        | .c (.sc (.bool true)) => some want
        | .c (.sc (.bool false)) => some (!want)
        | .ud => some false
        | _ => none
      | false => none
    | none => none
def GStep (P : Program) (W0 : World) (ops : Array Oper) (o : Oper) (σ : St T) (U : Upd T) : Prop :=
  ∀ (σ' : St T) (a : Act) (w : World) (K : Act → World → Prop) (Q : Exit → Act → World → Prop), Agree σ σ' (opTmps o.op ++ gTmps ops o) U.tch U.chg → Sim W0 σ' a w → (∀ a' w', Sim W0 (σ'.upd o.dst U) a' w' → K a' w') →
    if Region.wanted o (yielded ops a.tmps) = true then Oper.wp P o a w K Q else K (a.put o.dst undef) w
theorem guard_ok {o : Oper} {b : Bool} {tch chg : List Nat} (h : guardS σ ops o = some b) (hA : Agree σ σ' (opTmps o.op ++ gTmps ops o) tch chg) (hS : Sim W0 σ' a w) : Region.wanted o (yielded ops a.tmps) = b := by
  obtain ⟨env, F, hS⟩ := hS
  unfold guardS at h
  unfold Region.wanted
  cases hg : o.guard with
  | none => rw [hg] at h; cases h; rfl
  | some jw =>
    obtain ⟨j, want⟩ := jw
    rw [hg] at h
    dsimp only at h
    cases ht : gTmp ops o with
    | none => rw [ht] at h; cases h
    | some t =>
      rw [ht] at h
      dsimp only at h
      cases hn : Nat.blt t σ.n <;> rw [hn] at h <;> dsimp only at h
      · cases h
      have hlt : t < a.tmps.size := by rw [hS.size, hA.n]; simpa [Nat.blt_eq] using hn
      have htm : σ'.tmp t = σ.tmp t := hA.tm t (List.mem_append_right _ (by simp [gTmps, ht]))
      have h1 := hS.tm t
      rw [htm] at h1
      have h2 : ((ops[j]?).bind (·.dst)).bind (a.tmps[·]?) = some (a.tmps.getD t undef) := by
        unfold gTmp at ht
        rw [hg] at ht
        dsimp only at ht
        cases ho : ops[j]? with
        | none => rw [ho] at ht; cases ht
        | some oj => rw [ho] at ht; dsimp only at ht; simp [ht, hlt, Array.getD]
      have hy : yielded ops a.tmps j = match a.tmps.getD t undef with
          | .bool b => some b
          | _ => none := by
        unfold yielded; rw [h2]; cases a.tmps.getD t undef <;> rfl
      show (yielded ops a.tmps j == some want) = b
      rw [hy]
      split at h
      · rename_i hs; rw [hs] at h1; cases h; rw [h1.1]; cases b <;> rfl
      · rename_i hs; rw [hs] at h1; cases h; rw [h1.1]; cases want <;> rfl
      · rename_i hs; rw [hs] at h1; cases h; rw [show a.tmps.getD t undef = undef from h1]; rfl
      · cases h
theorem agree_l {ts ts' tch chg : List Nat} (h : Agree σ σ' (ts ++ ts') tch chg) : Agree σ σ' ts tch chg := ⟨fun t ht => h.tm t (List.mem_append_left _ ht), h.res, h.fr, h.n⟩
theorem gstep_run {o : Oper} {U : Upd T} (h : guardS σ ops o = some true) (hL : LStep P W0 o σ U) : GStep P W0 ops o σ U := by
  intro σ' a w K Q hA hS hK
  rw [guard_ok h hA hS, if_pos rfl]
  exact hL σ' a w K Q (agree_l hA) hS hK
theorem gstep_skip {o : Oper} (h : guardS σ ops o = some false) (hd : dstOk σ o.dst = true) : GStep P W0 ops o σ ⟨.ud, [], [], 0, []⟩ := by
  intro σ' a w K Q hA hS hK
  rw [guard_ok h hA hS, if_neg (by simp)]
  obtain ⟨env, F, hS⟩ := hS
  exact hK _ _ (hS.quiet (fun d hd' => ⟨by rw [hA.n]; exact dstOk_spec hd d hd', rfl⟩))
/-- A known bool in place of a told one. -/
theorem gstep_bool {o : Oper} {b c : Bool} {rs : List (Nat × Res T)} {tch chg : List Nat} {nx : Nat} (e : b = c) (h : GStep P W0 ops o σ ⟨.c (.sc (.bool b)), rs, tch, nx, chg⟩) : GStep P W0 ops o σ ⟨.c (.sc (.bool c)), rs, tch, nx, chg⟩ := e ▸ h
/-- A trace: each operation's step, in the text's order. -/
inductive Tr (P : Program) (W0 : World) (ops : Array Oper) : List Oper → St T → List (Upd T) → St T → Prop
  | nil (σ : St T) : Tr P W0 ops [] σ [] σ
  | cons {o : Oper} {l : List Oper} {σ σ2 : St T} {U : Upd T} {Us : List (Upd T)} (h : GStep P W0 ops o σ U) (ht : Tr P W0 ops l (σ.upd o.dst U) Us σ2) : Tr P W0 ops (o :: l) σ (U :: Us) σ2
theorem tr_list {Q : Exit → Act → World → Prop} {l : List Oper} {Us : List (Upd T)} (ht : Tr P W0 ops l σ Us σ2) : ∀ {a : Act} {w : World}, Sim W0 σ a w → (∀ a' w', Sim W0 σ2 a' w' → Q .normal a' w') → wpList P ops Q l a w := by
  induction ht with
  | nil σ => exact fun hS hQ => wpList_nil (hQ _ _ hS)
  | cons h ht ih =>
    intro a w hS hQ
    refine wpList_step (fun K hK => ?_)
    exact h _ a w K Q (Agree.refl _ _ _ _) hS (fun a' w' h' => hK _ _ (ih h' hQ))
/-! ### in whatever order -/
def needs (o : Oper) : List Nat := (o.after.toList.filter (fun e => Region.binds .any e)).map (·.on)
/-- The state behind those operations that have come up. -/
def stD (D : Nat → Bool) : Nat → List (Oper × Upd T) → St T → St T
  | _, [], σ => σ
  | i, (o, U) :: l, σ => stD D (i + 1) l (match D i with
    | true => σ.upd o.dst U
    | false => σ)
def rkeys (U : Upd T) (r : Nat) : Prop := ∃ p ∈ U.rs, p.1 = r
theorem look_key {α : Type} {r : Nat} : ∀ {l : List (Nat × α)} {d d' : α}, (∃ p ∈ l, p.1 = r) → lk d l r = lk d' l r
  | [], _, _, ⟨p, hp, _⟩ => by cases hp
  | (k, x) :: l, d, d', ⟨p, hp, e⟩ => by
    unfold lk
    cases hb : Nat.beq k r
    · rcases List.mem_cons.1 hp with rfl | hp
      · exact absurd hb (by rw [show k = r from e]; simp [Nat.beq_eq])
      · exact look_key ⟨p, hp, e⟩
    · rfl
theorem look_nokey {α : Type} {r : Nat} {l : List (Nat × α)} {d : α} (h : ¬ ∃ p ∈ l, p.1 = r) : lk d l r = d := look_not _ _ _ (fun p hp e => h ⟨p, hp, e⟩)
theorem upd_res_congr {dst : Option Nat} {U : Upd T} {r : Nat} (h : σ.res r = σ'.res r) : (σ.upd dst U).res r = (σ'.upd dst U).res r := by rw [St.upd_res, St.upd_res, h]
theorem upd_tmp_congr {dst : Option Nat} {U : Upd T} {t : Nat} (h : σ.tmp t = σ'.tmp t) : (σ.upd dst U).tmp t = (σ'.upd dst U).tmp t := by
  cases dst with
  | none => exact h
  | some d =>
    by_cases e : d = t
    · subst e; rw [St.upd_tmp_same, St.upd_tmp_same]
    · rw [St.upd_tmp_ne _ _ e, St.upd_tmp_ne _ _ e, h]
theorem upd_tmp_not {dst : Option Nat} {U : Upd T} {t : Nat} (h : dst ≠ some t) : (σ.upd dst U).tmp t = σ.tmp t := by
  cases dst with
  | none => rfl
  | some d => exact St.upd_tmp_ne _ _ (fun e => h (by rw [e]))
theorem stD_n (D : Nat → Bool) : ∀ {l : List (Oper × Upd T)} {i : Nat} {σ : St T}, (stD D i l σ).n = σ.n
  | [], _, _ => rfl
  | (o, U) :: l, i, σ => by
    unfold stD
    rw [stD_n D]
    cases D i
    · rfl
    · exact St.upd_n _ _ _
theorem stD_A (D : Nat → Bool) : ∀ {l : List (Oper × Upd T)} {i : Nat} {σ : St T}, (stD D i l σ).A = σ.A
  | [], _, _ => rfl
  | (o, U) :: l, i, σ => by
    unfold stD
    rw [stD_A D]
    cases D i
    · rfl
    · exact St.upd_A _ _ _
theorem stD_res {D D' : Nat → Bool} {r : Nat} : ∀ {l : List (Oper × Upd T)} {i : Nat} {σ σ' : St T}, σ.res r = σ'.res r → (∀ j x, l[j]? = some x → rkeys x.2 r → D (i + j) = D' (i + j)) → (stD D i l σ).res r = (stD D' i l σ').res r
  | [], _, _, _, h, _ => h
  | (o, U) :: l, i, σ, σ', h, hD => by
    unfold stD
    refine stD_res ?_ (fun j x hj hk => by have := hD (j + 1) x (by simpa using hj) hk; rw [show i + 1 + j = i + (j + 1) by omega]; exact this)
    by_cases hk : rkeys U r
    · have := hD 0 (o, U) rfl hk
      rw [Nat.add_zero] at this
      rw [this]
      cases D' i
      · exact h
      · exact upd_res_congr h
    · have hno : ∀ s : St T, (s.upd o.dst U).res r = s.res r := fun s => by rw [St.upd_res]; exact look_nokey hk
      cases D i <;> cases D' i <;> simp only [hno, h]
theorem stD_tmp {D D' : Nat → Bool} {t : Nat} : ∀ {l : List (Oper × Upd T)} {i : Nat} {σ σ' : St T}, σ.tmp t = σ'.tmp t → (∀ j x, l[j]? = some x → x.1.dst = some t → D (i + j) = D' (i + j)) → (stD D i l σ).tmp t = (stD D' i l σ').tmp t
  | [], _, _, _, h, _ => h
  | (o, U) :: l, i, σ, σ', h, hD => by
    unfold stD
    refine stD_tmp ?_ (fun j x hj hk => by have := hD (j + 1) x (by simpa using hj) hk; rw [show i + 1 + j = i + (j + 1) by omega]; exact this)
    by_cases hk : o.dst = some t
    · have := hD 0 (o, U) rfl hk
      rw [Nat.add_zero] at this
      rw [this]
      cases D' i
      · exact h
      · exact upd_tmp_congr h
    · have hno : ∀ s : St T, (s.upd o.dst U).tmp t = s.tmp t := fun s => upd_tmp_not hk
      cases D i <;> cases D' i <;> simp only [hno, h]
/-- What is told of stands in the state's rows, or in a step's. -/
theorem fresh_parts {r : Nat} : (σ.fresh r = true) ↔ (∀ p ∈ σ.tm, r ∉ p.2.refs) ∧ (∀ p ∈ σ.rs, p.1 ≠ r ∧ r ∉ p.2.refs) := by
  have h1 : ∀ l : List (Nat × Slot T), freshTm r l = true ↔ ∀ p ∈ l, r ∉ p.2.refs := by
    intro l
    induction l with
    | nil => simp [freshTm]
    | cons x l ih =>
      unfold freshTm
      cases hh : hasN r x.2.refs
      · have : r ∉ x.2.refs := fun h => by rw [hasN_iff.2 h] at hh; cases hh
        simp [ih, this]
      · have : r ∈ x.2.refs := hasN_iff.1 hh
        simp [this]
  have h2 : ∀ l : List (Nat × Res T), freshRs r l = true ↔ ∀ p ∈ l, p.1 ≠ r ∧ r ∉ p.2.refs := by
    intro l
    induction l with
    | nil => simp [freshRs]
    | cons x l ih =>
      unfold freshRs
      cases hb : Nat.beq x.1 r
      · have hne : x.1 ≠ r := fun e => absurd hb (by rw [e]; simp [Nat.beq_eq])
        cases hh : hasN r x.2.refs
        · have : r ∉ x.2.refs := fun h => by rw [hasN_iff.2 h] at hh; cases hh
          simp [ih, this, hne]
        · have : r ∈ x.2.refs := hasN_iff.1 hh
          simp [this]
      · have : x.1 = r := Nat.eq_of_beq_eq_true hb
        simp [this]
  unfold St.fresh
  cases h : freshTm r σ.tm
  · simp only [Bool.false_eq_true, false_iff]
    intro h3
    rw [(h1 _).2 h3.1] at h; cases h
  · simp only [h2, (h1 _).1 h, true_and]
    exact ⟨fun h => ⟨(h1 _).1 ‹_›, h⟩, fun h => h.2⟩
/-- A step says nothing of r. -/
def Upd.quietOf (U : Upd T) (r : Nat) : Prop := r ∉ U.slot.refs ∧ ∀ p ∈ U.rs, p.1 ≠ r ∧ r ∉ p.2.refs
theorem upd_fresh {dst : Option Nat} {U : Upd T} {r : Nat} (h : σ.fresh r = true) (hU : U.quietOf r) : (σ.upd dst U).fresh r = true := by
  rw [fresh_parts] at h ⊢
  have hrs : ∀ p ∈ U.rs ++ σ.rs, p.1 ≠ r ∧ r ∉ p.2.refs := fun p hp => (List.mem_append.1 hp).elim (hU.2 p) (h.2 p)
  cases dst with
  | none => exact ⟨h.1, hrs⟩
  | some d => exact ⟨fun p hp => (List.mem_cons.1 hp).elim (fun e => e ▸ hU.1) (h.1 p), hrs⟩
theorem fresh_upd {dst : Option Nat} {U : Upd T} {r : Nat} (h : (σ.upd dst U).fresh r = true) : σ.fresh r = true := by
  rw [fresh_parts] at h ⊢
  cases dst with
  | none => exact ⟨h.1, fun p hp => h.2 p (List.mem_append_right _ hp)⟩
  | some d => exact ⟨fun p hp => h.1 p (List.mem_cons_of_mem _ hp), fun p hp => h.2 p (List.mem_append_right _ hp)⟩
theorem stD_fresh {D : Nat → Bool} {r : Nat} : ∀ {l : List (Oper × Upd T)} {i : Nat} {σ : St T}, σ.fresh r = true → (∀ j x, l[j]? = some x → D (i + j) = true → x.2.quietOf r) → (stD D i l σ).fresh r = true
  | [], _, _, h, _ => h
  | (o, U) :: l, i, σ, h, hq => by
    unfold stD
    refine stD_fresh ?_ (fun j x hj hD => hq (j + 1) x (by simpa using hj) (by rw [show i + (j + 1) = i + 1 + j by omega]; exact hD))
    cases hD : D i
    · exact h
    · exact upd_fresh h (hq 0 (o, U) rfl hD)
/-- Two states that tell the same. -/
theorem sim_eqv (hS : Sim W0 σ a w) (ht : ∀ t, σ1.tmp t = σ.tmp t) (hr : ∀ r, σ1.res r = σ.res r) (hn : σ1.n = σ.n) (hA : σ1.A = σ.A) : Sim W0 σ1 a w := by
  obtain ⟨env, F, h⟩ := hS
  have calm : Calm σ σ1 F F w w := ⟨hA, Nat.le_refl _, fun k _ hk => ⟨hk, rfl⟩⟩
  have same : ∀ r, Same σ σ1 env env F F w w r := fun r => ⟨rfl, fun _ => Iff.rfl, hr r, fun _ _ => rfl⟩
  refine ⟨env, F, h.below, fun k hk => (by rw [hA]; exact h.acc k hk), h.size.trans hn.symm, h.defers, fun r => ?_, h.own, h.apart, fun t => ?_⟩
  · rw [hr r]; exact res_keep calm (same r) (h.res r) (fun t cs _ => ⟨fun _ _ => rfl, fun q _ => (same q.1).holds⟩)
  · rw [ht t]; exact slot_keep calm (h.tm t) (fun _ _ => rfl) (fun q _ => (same q.1).holds) (fun r i o _ => (same r).holdsE)
end
end Go.Proofs.Ytnflbiafmddpgaa.Z
