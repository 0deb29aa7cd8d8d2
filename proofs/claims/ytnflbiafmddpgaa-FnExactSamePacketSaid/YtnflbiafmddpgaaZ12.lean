/- The path calculus, part 12: a region whose order is drawn comes to the same as in the text's order. -/
import Derived.Test.YtnflbiafmddpgaaZ11
namespace Go.Proofs.Ytnflbiafmddpgaa.Z
open Go.RowKit
set_option linter.unusedVariables false
set_option linter.unusedSimpArgs false
section
variable {T : Tys} {P : Program} {W0 : World} {σ σ' σ1 σ2 : St T} {a : Act} {w w1 : World} {ops : Array Oper}
def up (A : List Nat) : List Nat → Nat
  | [] => 0
  | k :: r => (2 ^ k ||| A.getD k 0) ||| up A r
/-- For each operation, as bits, what must have come up before it. -/
def ancs : List (Oper × Upd T) → List Nat → List Nat
  | [], A => A
  | x :: l, A => ancs l (A ++ [up A (needs x.1)])
def allIx {α : Type 0} (f : Nat → α → Bool) : Nat → List α → Bool
  | _, [] => true
  | i, x :: l => match f i x with
    | true => allIx f (i + 1) l
    | false => false
theorem allIx_spec {α : Type} {f : Nat → α → Bool} : ∀ {l : List α} {i : Nat}, allIx f i l = true → ∀ j x, l[j]? = some x → f (i + j) x = true
  | [], _, _, j, x, h => by simp at h
  | y :: l, i, h, j, x, hj => by
    unfold allIx at h
    cases hf : f i y <;> rw [hf] at h <;> dsimp only at h
    · cases h
    cases j with
    | zero => simp at hj; subst hj; exact hf
    | succ j => have := allIx_spec h j x (by simpa using hj); rw [show i + (j + 1) = i + 1 + j by omega]; exact this
theorem ancs_pre : ∀ (l : List (Oper × Upd T)) (A : List Nat), ∃ B, ancs l A = A ++ B
  | [], A => ⟨[], by simp [ancs]⟩
  | x :: l, A => by
    obtain ⟨B, h⟩ := ancs_pre l (A ++ [up A (needs x.1)])
    exact ⟨[up A (needs x.1)] ++ B, by rw [ancs, h, List.append_assoc]⟩
theorem ancs_at : ∀ {l : List (Oper × Upd T)} {A : List Nat} {i : Nat} {x : Oper × Upd T}, l[i]? = some x → ∃ B, B.length = A.length + i ∧ (ancs l A).getD (A.length + i) 0 = up B (needs x.1) ∧ ∀ k, k < A.length + i → B.getD k 0 = (ancs l A).getD k 0
  | [], A, i, x, h => by simp at h
  | y :: l, A, 0, x, h => by
    simp at h
    subst h
    obtain ⟨B, hB⟩ := ancs_pre l (A ++ [up A (needs y.1)])
    refine ⟨A, rfl, ?_, fun k hk => ?_⟩
    · rw [ancs, hB]; simp [List.getD_eq_getElem?_getD]
    · rw [ancs, hB, List.append_assoc]
      have hk' : k < A.length := hk
      simp [List.getD_eq_getElem?_getD, List.getElem?_append_left hk']
  | y :: l, A, i + 1, x, h => by
    obtain ⟨B, h1, h2, h3⟩ := ancs_at (l := l) (A := A ++ [up A (needs y.1)]) (i := i) (x := x) (by simpa using h)
    have e : (A ++ [up A (needs y.1)]).length + i = A.length + (i + 1) := by simp; omega
    rw [e] at h1 h2 h3
    exact ⟨B, h1, h2, h3⟩
theorem up_bit {A : List Nat} {j : Nat} : ∀ {ns : List Nat}, (up A ns).testBit j = true → ∃ k ∈ ns, j = k ∨ (A.getD k 0).testBit j = true
  | [], h => by simp [up] at h
  | k :: r, h => by
    unfold up at h
    rw [Nat.testBit_or, Nat.testBit_or, Bool.or_eq_true, Bool.or_eq_true] at h
    rcases h with (h | h) | h
    · rw [Nat.testBit_two_pow] at h
      have hkj : k = j := by simpa using h
      exact ⟨k, List.mem_cons_self, .inl hkj.symm⟩
    · exact ⟨k, List.mem_cons_self, .inr h⟩
    · obtain ⟨m, hm, h2⟩ := up_bit h; exact ⟨m, List.mem_cons_of_mem _ hm, h2⟩
def dNe : Option Nat → Option Nat → Bool
  | some d, some d' => !(Nat.beq d d')
  | _, _ => true
def sub (l m : List Nat) : Bool := l.all fun r => hasN r m
def updOk (U : Upd T) : Bool := sub U.slot.refs U.tch && sub U.chg U.tch && U.rs.all fun p => hasN p.1 U.chg && sub p.2.refs U.tch
def pairOk (A : List Nat) (i : Nat) (x : Oper × Upd T) (j : Nat) (y : Oper × Upd T) : Bool :=
  Nat.beq i j || (dNe x.1.dst y.1.dst && x.2.chg.all fun r => !hasN r y.2.tch || (A.getD j 0).testBit i || (A.getD i 0).testBit j)
def noSlot (x : Oper × Upd T) : Bool := match x.1.dst with
  | none => match x.2.slot.refs with
    | [] => true
    | _ => false
  | some _ => true
def opOk (ops : Array Oper) (A : List Nat) (zs : List (Oper × Upd T)) (i : Nat) (x : Oper × Upd T) : Bool :=
  (noSlot x && (needs x.1).all (fun k => Nat.blt k i)) && updOk x.2 && allIx (fun j y => pairOk A i x j y) 0 zs && (opTmps x.1.op ++ gTmps ops x.1).all fun t => allIx (fun j y => dNe y.1.dst (some t) || hasN j (needs x.1)) 0 zs
/-- The operations may come up in any order that their edges allow. -/
def drawOk (ops : Array Oper) (zs : List (Oper × Upd T)) : Bool := allIx (opOk ops (ancs zs []) zs) 0 zs
structure Facts (ops : Array Oper) (zs : List (Oper × Upd T)) : Prop where
  lt : ∀ (i : Nat) x, zs[i]? = some x → ∀ k ∈ needs x.1, k < i
  nod : ∀ (i : Nat) x, zs[i]? = some x → x.1.dst = none → x.2.slot.refs = []
  slot : ∀ (i : Nat) x, zs[i]? = some x → ∀ r ∈ x.2.slot.refs, r ∈ x.2.tch
  chg : ∀ (i : Nat) x, zs[i]? = some x → ∀ r ∈ x.2.chg, r ∈ x.2.tch
  rs : ∀ (i : Nat) x, zs[i]? = some x → ∀ p ∈ x.2.rs, p.1 ∈ x.2.chg ∧ ∀ r ∈ p.2.refs, r ∈ x.2.tch
  dst : ∀ (i j : Nat) x y d, zs[i]? = some x → zs[j]? = some y → i ≠ j → x.1.dst = some d → y.1.dst ≠ some d
  ord : ∀ (i j : Nat) x y r, zs[i]? = some x → zs[j]? = some y → i ≠ j → r ∈ x.2.chg → r ∈ y.2.tch → ((ancs zs []).getD j 0).testBit i = true ∨ ((ancs zs []).getD i 0).testBit j = true
  tm : ∀ (i j : Nat) x y t, zs[i]? = some x → zs[j]? = some y → t ∈ opTmps x.1.op ++ gTmps ops x.1 → y.1.dst = some t → j ∈ needs x.1
theorem sub_spec {l m : List Nat} (h : sub l m = true) : ∀ r ∈ l, r ∈ m := fun r hr => hasN_iff.1 (List.all_eq_true.1 h r hr)
theorem dNe_spec {d d' : Option Nat} {t : Nat} (h : dNe d d' = true) (h1 : d = some t) : d' ≠ some t := by
  subst h1
  rintro rfl
  simp [dNe, Nat.beq_eq] at h
theorem drawOk_spec {zs : List (Oper × Upd T)} (h : drawOk ops zs = true) : Facts ops zs := by
  have h0 : ∀ (i : Nat) x, zs[i]? = some x → opOk ops (ancs zs []) zs i x = true := fun i x hx => by have := allIx_spec h i x hx; rwa [Nat.zero_add] at this
  have h1 : ∀ (i : Nat) x, zs[i]? = some x → ((((noSlot x = true ∧ (needs x.1).all (fun k => Nat.blt k i) = true) ∧ updOk x.2 = true) ∧ allIx (fun j y => pairOk (ancs zs []) i x j y) 0 zs = true) ∧ ((opTmps x.1.op ++ gTmps ops x.1).all fun t => allIx (fun j y => dNe y.1.dst (some t) || hasN j (needs x.1)) 0 zs) = true) := fun i x hx => by
    have := h0 i x hx
    unfold opOk at this
    simpa only [Bool.and_eq_true] using this
  have h2 : ∀ (i : Nat) x, zs[i]? = some x → ((sub x.2.slot.refs x.2.tch = true ∧ sub x.2.chg x.2.tch = true) ∧ (x.2.rs.all fun p => hasN p.1 x.2.chg && sub p.2.refs x.2.tch) = true) := fun i x hx => by
    have := (h1 i x hx).1.1.2
    unfold updOk at this
    simpa only [Bool.and_eq_true] using this
  have h3 : ∀ (i j : Nat) x y, zs[i]? = some x → zs[j]? = some y → i ≠ j → (dNe x.1.dst y.1.dst = true ∧ (x.2.chg.all fun r => !hasN r y.2.tch || ((ancs zs []).getD j 0).testBit i || ((ancs zs []).getD i 0).testBit j) = true) := fun i j x y hx hy hij => by
    have := allIx_spec (h1 i x hx).1.2 j y hy
    unfold pairOk at this
    rw [Nat.zero_add, beq_ne hij, Bool.false_or, Bool.and_eq_true] at this
    exact this
  refine ⟨fun i x hx k hk => ?_, fun i x hx hd => ?_, fun i x hx => sub_spec (h2 i x hx).1.1, fun i x hx => sub_spec (h2 i x hx).1.2, fun i x hx p hp => ?_, fun i j x y d hx hy hij hd => dNe_spec (h3 i j x y hx hy hij).1 hd, fun i j x y r hx hy hij hr hr2 => ?_, fun i j x y t hx hy ht hd => ?_⟩
  · have := List.all_eq_true.1 (h1 i x hx).1.1.1.2 k hk
    simpa [Nat.blt_eq] using this
  · have := (h1 i x hx).1.1.1.1
    unfold noSlot at this
    rw [hd] at this
    dsimp only at this
    split at this
    · assumption
    · cases this
  · have := List.all_eq_true.1 (h2 i x hx).2 p hp
    rw [Bool.and_eq_true] at this
    exact ⟨hasN_iff.1 this.1, sub_spec this.2⟩
  · have := List.all_eq_true.1 (h3 i j x y hx hy hij).2 r hr
    rw [hasN_iff.2 hr2] at this
    simpa [Bool.or_eq_true] using this
  · have := allIx_spec (List.all_eq_true.1 (h1 i x hx).2 t ht) j y hy
    rw [Nat.zero_add, Bool.or_eq_true] at this
    rcases this with h4 | h4
    · exact absurd rfl (dNe_spec h4 hd)
    · exact hasN_iff.1 h4
def Closed (zs : List (Oper × Upd T)) (D : Nat → Bool) : Prop := ∀ (i : Nat) x, zs[i]? = some x → D i = true → ∀ k ∈ needs x.1, D k = true
theorem closed_anc {zs : List (Oper × Upd T)} (hf : Facts ops zs) {D : Nat → Bool} (hc : Closed zs D) : ∀ (i : Nat) x, zs[i]? = some x → (∀ k ∈ needs x.1, D k = true) → ∀ j, ((ancs zs []).getD i 0).testBit j = true → D j = true ∧ j < i := by
  intro i
  induction i using Nat.strongRecOn with
  | _ i ih =>
    intro x hx hn j hj
    obtain ⟨B, h1, h2, h3⟩ := ancs_at (A := []) hx
    simp only [List.length_nil, Nat.zero_add] at h1 h2 h3
    rw [h2] at hj
    obtain ⟨k, hk, h4⟩ := up_bit hj
    have hki := hf.lt i x hx k hk
    rcases h4 with rfl | h4
    · exact ⟨hn _ hk, hki⟩
    · rw [h3 k hki] at h4
      have hlen : i < zs.length := (List.getElem?_eq_some_iff.1 hx).1
      have hkx : zs[k]? = some zs[k] := List.getElem?_eq_getElem (by omega)
      have := ih k hki _ hkx (hc k _ hkx (hn k hk)) j h4
      exact ⟨this.1, by omega⟩
theorem blt_no {a b : Nat} (h : ¬ a < b) : Nat.blt a b = false := by
  cases hb : Nat.blt a b
  · rfl
  · exact absurd (by simpa [Nat.blt_eq] using hb) h
theorem stD_cons (D : Nat → Bool) (i : Nat) (o : Oper) (U : Upd T) (l : List (Oper × Upd T)) (σ : St T) : stD D i ((o, U) :: l) σ = stD D (i + 1) l (match D i with
      | true => σ.upd o.dst U
      | false => σ) := rfl
theorem stD_false {D : Nat → Bool} : ∀ {l : List (Oper × Upd T)} {i : Nat} {σ : St T}, (∀ j, j < l.length → D (i + j) = false) → stD D i l σ = σ
  | [], _, _, _ => rfl
  | (o, U) :: l, i, σ, h => by
    unfold stD
    have h0 := h 0 (by simp)
    rw [Nat.add_zero] at h0
    rw [h0]
    exact stD_false (fun j hj => by have := h (j + 1) (by simpa using hj); rw [show i + 1 + j = i + (j + 1) by omega]; exact this)
theorem stD_shift {D : Nat → Bool} : ∀ {l : List (Oper × Upd T)} {i : Nat} {σ : St T}, stD D (i + 1) l σ = stD (fun j => D (j + 1)) i l σ
  | [], _, _ => rfl
  | (o, U) :: l, i, σ => by unfold stD; exact stD_shift
theorem tr_facts {l : List Oper} {Us : List (Upd T)} (ht : Tr P W0 ops l σ Us σ2) : l.length = Us.length ∧ σ2 = stD (fun _ => true) 0 (l.zip Us) σ ∧ ∀ (i : Nat) x, (l.zip Us)[i]? = some x → GStep P W0 ops x.1 (stD (fun j => Nat.blt j i) 0 (l.zip Us) σ) x.2 := by
  induction ht with
  | nil σ => exact ⟨rfl, rfl, fun i x h => by simp at h⟩
  | @cons o l σ σ2 U Us h ht ih =>
    obtain ⟨h1, h2, h3⟩ := ih
    refine ⟨by simp [h1], ?_, ?_⟩
    · rw [h2]
      show _ = stD _ 0 ((o, U) :: l.zip Us) σ
      rw [stD_cons, stD_shift]
    · intro i x hx
      cases i with
      | zero =>
        simp at hx
        subst hx
        rw [stD_false (D := fun j => Nat.blt j 0) (fun j _ => blt_no (by omega))]
        exact h
      | succ i =>
        have := h3 i x (by simpa using hx)
        show GStep P W0 ops x.1 (stD _ 0 ((o, U) :: l.zip Us) σ) x.2
        rw [stD_cons, stD_shift]
        exact this
theorem stD_split {D : Nat → Bool} : ∀ {l1 : List (Oper × Upd T)} {l2 : List (Oper × Upd T)} {i : Nat} {σ : St T}, stD D i (l1 ++ l2) σ = stD D (i + l1.length) l2 (stD D i l1 σ)
  | [], _, _, _ => rfl
  | (o, U) :: l1, l2, i, σ => by
    show stD D (i + 1) (l1 ++ l2) _ = stD D _ l2 (stD D (i + 1) l1 _)
    rw [stD_split]
    congr 1
    simp; omega
theorem stD_congr {D D' : Nat → Bool} : ∀ {l : List (Oper × Upd T)} {i : Nat} {σ : St T}, (∀ j, j < l.length → D (i + j) = D' (i + j)) → stD D i l σ = stD D' i l σ
  | [], _, _, _ => rfl
  | (o, U) :: l, i, σ, h => by
    unfold stD
    have h0 := h 0 (by simp)
    rw [Nat.add_zero] at h0
    rw [h0]
    exact stD_congr (fun j hj => by have := h (j + 1) (by simpa using hj); rw [show i + 1 + j = i + (j + 1) by omega]; exact this)
theorem stD_res_skip {D : Nat → Bool} {r : Nat} : ∀ {l : List (Oper × Upd T)} {i : Nat} {σ : St T}, (∀ j x, l[j]? = some x → D (i + j) = true → ¬ rkeys x.2 r) → (stD D i l σ).res r = σ.res r
  | [], _, _, _ => rfl
  | (o, U) :: l, i, σ, h => by
    unfold stD
    rw [stD_res_skip (fun j x hj hD => h (j + 1) x (by simpa using hj) (by rw [show i + (j + 1) = i + 1 + j by omega]; exact hD))]
    cases hD : D i
    · rfl
    · rw [St.upd_res]; exact look_nokey (h 0 (o, U) rfl hD)
theorem stD_tmp_skip {D : Nat → Bool} {t : Nat} : ∀ {l : List (Oper × Upd T)} {i : Nat} {σ : St T}, (∀ j x, l[j]? = some x → D (i + j) = true → x.1.dst ≠ some t) → (stD D i l σ).tmp t = σ.tmp t
  | [], _, _, _ => rfl
  | (o, U) :: l, i, σ, h => by
    unfold stD
    rw [stD_tmp_skip (fun j x hj hD => h (j + 1) x (by simpa using hj) (by rw [show i + (j + 1) = i + 1 + j by omega]; exact hD))]
    cases hD : D i
    · rfl
    · exact upd_tmp_not (h 0 (o, U) rfl hD)
end
end Go.Proofs.Ytnflbiafmddpgaa.Z
