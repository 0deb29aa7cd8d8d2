/- The path calculus, part 13: the drawn region's theorem; codes. -/
import Derived.Test.YtnflbiafmddpgaaZ12
namespace Go.Proofs.Ytnflbiafmddpgaa.Z
open Go.RowKit
set_option linter.unusedVariables false
set_option linter.unusedSimpArgs false
section
variable {T : Tys} {P : Program} {W0 : World} {σ σ' σ1 σ2 : St T} {a : Act} {w w1 : World} {ops : Array Oper} {zs : List (Oper × Upd T)}
theorem quietOf_of (hf : Facts ops zs) {j : Nat} {y : Oper × Upd T} (hy : zs[j]? = some y) {r : Nat} (h : r ∉ y.2.tch) : y.2.quietOf r :=
  ⟨fun hr => h (hf.slot j y hy r hr), fun p hp => ⟨fun e => h (e ▸ hf.chg j y hy p.1 (hf.rs j y hy p hp).1), fun hr => h ((hf.rs j y hy p hp).2 r hr)⟩⟩
/-- What i looks at and touches stands alike behind those that have come up and in the text's order. -/
theorem draw_agree (hf : Facts ops zs) {D : Nat → Bool} (hc : Closed zs D) {i : Nat} {x : Oper × Upd T} (hx : zs[i]? = some x) (hi : D i = false) (hn : ∀ k ∈ needs x.1, D k = true) :
    Agree (stD (fun j => Nat.blt j i) 0 zs σ) (stD D 0 zs σ) (opTmps x.1.op ++ gTmps ops x.1) x.2.tch x.2.chg := by
  have hblt : ∀ j, Nat.blt j i = true ↔ j < i := fun j => by simp [Nat.blt_eq]
  have hno : ∀ j, ¬ j < i → Nat.blt j i = false := fun j h => blt_no h
  have hanc : ∀ j, ((ancs zs []).getD i 0).testBit j = true → D j = true ∧ j < i := fun j h => closed_anc hf hc i x hx hn j h
  have hdesc : ∀ j y, zs[j]? = some y → ((ancs zs []).getD j 0).testBit i = true → D j = false ∧ ¬ j < i := by
    intro j y hy h
    constructor
    · cases hD : D j
      · rfl
      · have := (closed_anc hf hc j y hy (hc j y hy hD) i h).1
        rw [hi] at this; cases this
    · intro hlt
      have := (closed_anc hf (D := fun _ => true) (fun _ _ _ _ _ _ => rfl) j y hy (fun _ _ => rfl) i h).2
      omega
  refine ⟨fun t ht => ?_, fun r hr => ?_, fun r hr hfr => ?_, ?_⟩
  · refine stD_tmp rfl (fun j y hj hd => ?_)
    rw [Nat.zero_add]
    have h1 := hf.tm i j x y t hx hj ht hd
    rw [hn j h1, (hblt j).2 (hf.lt i x hx j h1)]
  · refine stD_res rfl (fun j y hj hk => ?_)
    rw [Nat.zero_add]
    obtain ⟨p, hp, rfl⟩ := hk
    have hpc := (hf.rs j y hj p hp).1
    by_cases e : j = i
    · subst e; rw [hi, hno j (Nat.lt_irrefl j)]
    · rcases hf.ord j i y x p.1 hj hx e hpc hr with h | h
      · have := hanc j h
        rw [this.1, (hblt j).2 this.2]
      · have := hdesc j y hj h
        rw [this.1, hno j this.2]
  · have hbase : σ.fresh r = true := by
      have key : ∀ (l : List (Oper × Upd T)) (m : Nat) (D : Nat → Bool) (s : St T), (stD D m l s).fresh r = true → s.fresh r = true := by
        intro l
        induction l with
        | nil => exact fun _ _ _ h => h
        | cons z l ih =>
          intro m D s h
          obtain ⟨o, U⟩ := z
          rw [stD_cons] at h
          have := ih _ _ _ h
          cases hD : D m <;> rw [hD] at this
          · exact this
          · exact fresh_upd this
      exact key _ _ _ _ hfr
    refine stD_fresh hbase (fun j y hj hD => ?_)
    rw [Nat.zero_add] at hD
    have hji : j ≠ i := fun e => by rw [e, hi] at hD; cases hD
    by_cases ht : r ∈ y.2.tch
    · rcases hf.ord i j x y r hx hj (fun e => hji e.symm) hr ht with h | h
      · have := (hdesc j y hj h).1
        rw [hD] at this; cases this
      · have hlt := (hanc j h).2
        have key : ∀ (l : List (Oper × Upd T)) (m : Nat) (s : St T), (stD (fun q => Nat.blt q i) m l s).fresh r = true → ∀ q z, l[q]? = some z → m + q < i → z.2.quietOf r ∨ z.1.dst = none ∧ ∀ p ∈ z.2.rs, p.1 ≠ r ∧ r ∉ p.2.refs := by
          intro l
          induction l with
          | nil => intro m s h q z hq; simp at hq
          | cons z0 l ih =>
            intro m s h q z hq hlt
            obtain ⟨o, U⟩ := z0
            rw [stD_cons] at h
            cases q with
            | zero =>
              simp at hq
              subst hq
              have hb : Nat.blt m i = true := (hblt m).2 (by omega)
              rw [hb] at h
              have h2 : ((s.upd o.dst U).fresh r) = true := by
                have key2 : ∀ (l : List (Oper × Upd T)) (m : Nat) (D : Nat → Bool) (s : St T), (stD D m l s).fresh r = true → s.fresh r = true := by
                  intro l
                  induction l with
                  | nil => exact fun _ _ _ h => h
                  | cons z l ih =>
                    intro m D s h
                    obtain ⟨o, U⟩ := z
                    rw [stD_cons] at h
                    have := ih _ _ _ h
                    cases hD : D m <;> rw [hD] at this
                    · exact this
                    · exact fresh_upd this
                exact key2 _ _ _ _ h
              rw [fresh_parts] at h2
              cases hd : o.dst with
              | none =>
                rw [hd] at h2
                exact .inr ⟨rfl, fun p hp => h2.2 p (List.mem_append_left _ hp)⟩
              | some d =>
                rw [hd] at h2
                exact .inl ⟨h2.1 (d, U.slot) List.mem_cons_self, fun p hp => h2.2 p (List.mem_append_left _ hp)⟩
            | succ q => exact ih _ _ h q z (by simpa using hq) (by omega)
        rcases key zs 0 σ hfr j y hj (by omega) with h2 | ⟨h2, h3⟩
        · exact h2
        · exact ⟨fun hrs => (by rw [hf.nod j y hj h2] at hrs; cases hrs), h3⟩
    · exact quietOf_of hf hj ht
  · rw [stD_n, stD_n]
/-- Behind i as well. -/
def also (D : Nat → Bool) (i : Nat) : Nat → Bool := fun j => match Nat.beq j i with
  | true => true
  | false => D j
theorem also_same (D : Nat → Bool) (i : Nat) : also D i i = true := by simp [also, Nat.beq_eq]
theorem also_ne (D : Nat → Bool) {i j : Nat} (h : j ≠ i) : also D i j = D j := by simp [also, beq_ne h]
theorem split_at {α : Type} : ∀ {l : List α} {i : Nat} {x : α}, l[i]? = some x → ∃ l1 l2, l = l1 ++ x :: l2 ∧ l1.length = i
  | [], i, x, h => by simp at h
  | y :: l, 0, x, h => by simp at h; subst h; exact ⟨[], l, rfl, rfl⟩
  | y :: l, i + 1, x, h => by
    obtain ⟨l1, l2, h1, h2⟩ := split_at (l := l) (i := i) (by simpa using h)
    exact ⟨y :: l1, l2, by rw [h1]; rfl, by simp [h2]⟩
theorem draw_insert (hf : Facts ops zs) {D : Nat → Bool} (hc : Closed zs D) {i : Nat} {x : Oper × Upd T} (hx : zs[i]? = some x) (hi : D i = false) (hn : ∀ k ∈ needs x.1, D k = true) :
    (∀ t, (stD (also D i) 0 zs σ).tmp t = ((stD D 0 zs σ).upd x.1.dst x.2).tmp t) ∧ (∀ r, (stD (also D i) 0 zs σ).res r = ((stD D 0 zs σ).upd x.1.dst x.2).res r) ∧ (stD (also D i) 0 zs σ).n = ((stD D 0 zs σ).upd x.1.dst x.2).n := by
  obtain ⟨l1, l2, hz, hl⟩ := split_at hx
  have hsp : stD (also D i) 0 zs σ = stD (also D i) (i + 1) l2 ((stD (also D i) 0 l1 σ).upd x.1.dst x.2) := by
    rw [hz, stD_split, Nat.zero_add, hl]
    obtain ⟨o, U⟩ := x
    rw [stD_cons, also_same]
  have hl2 : ∀ j y, l2[j]? = some y → zs[i + 1 + j]? = some y := fun j y hj => by
    rw [hz, List.getElem?_append_right (by omega), hl, show i + 1 + j - i = j + 1 by omega]; simpa using hj
  refine ⟨fun t => ?_, fun r => ?_, by rw [stD_n, St.upd_n, stD_n]⟩
  · by_cases ht : x.1.dst = some t
    · rw [hsp, stD_tmp_skip (fun j y hj _ hd => hf.dst i (i + 1 + j) x y t hx (hl2 j y hj) (by omega) ht hd), ht, St.upd_tmp_same, St.upd_tmp_same]
    · rw [upd_tmp_not ht]
      refine stD_tmp rfl (fun j y hj hd => ?_)
      rw [Nat.zero_add]
      refine also_ne D (fun e => ?_)
      subst e
      rw [hx] at hj
      cases hj
      exact ht hd
  · by_cases hk : rkeys x.2 r
    · have h1 : (stD (also D i) 0 zs σ).res r = ((stD (also D i) 0 l1 σ).upd x.1.dst x.2).res r := by
        rw [hsp]
        refine stD_res_skip (fun j y hj hD hky => ?_)
        rw [also_ne D (by omega)] at hD
        have hy := hl2 j y hj
        obtain ⟨p, hp, rfl⟩ := hk
        obtain ⟨p', hp', e⟩ := hky
        have hc1 := (hf.rs i x hx p hp).1
        have hc2 := (hf.rs _ y hy p' hp').1
        rw [e] at hc2
        rcases hf.ord i (i + 1 + j) x y p.1 hx hy (by omega) hc1 (hf.chg _ y hy _ hc2) with h | h
        · have := (closed_anc hf hc _ y hy (hc _ y hy hD) i h).1
          rw [hi] at this; cases this
        · have := (closed_anc hf hc i x hx hn _ h).2
          omega
      rw [h1, St.upd_res, St.upd_res]
      exact look_key hk
    · rw [show ((stD D 0 zs σ).upd x.1.dst x.2).res r = (stD D 0 zs σ).res r by rw [St.upd_res]; exact look_nokey hk]
      refine stD_res rfl (fun j y hj hky => ?_)
      rw [Nat.zero_add]
      refine also_ne D (fun e => ?_)
      subst e
      rw [hx] at hj
      cases hj
      exact hk hky
/-- How many have not come up. -/
def left (listed : Array Bool) : Nat → Nat
  | 0 => 0
  | n + 1 => left listed n + match listed.getD n true with
    | true => 0
    | false => 1
theorem left_set {listed : Array Bool} {i : Nat} (hi : listed.getD i true = false) : ∀ n, left (listed.setIfInBounds i true) n + (if i < n then 1 else 0) = left listed n
  | 0 => by simp [left]
  | n + 1 => by
    have ih := left_set hi n
    unfold left
    by_cases e : i = n
    · subst e
      have h1 : (listed.setIfInBounds i true).getD i true = true := by
        by_cases h : i < listed.size <;> simp [Array.getD, h]
      rw [h1, hi]
      simp at ih ⊢
      omega
    · rw [getD_set_ne true e]
      have : (if i < n + 1 then 1 else 0) = (if i < n then 1 else 0) := by
        by_cases h : i < n
        · rw [if_pos h, if_pos (by omega)]
        · rw [if_neg h, if_neg (by omega)]
      rw [this]; omega
theorem left_zero {listed : Array Bool} : ∀ {n : Nat}, left listed n = 0 → ∀ j, j < n → listed.getD j true = true
  | 0, _, j, h => by omega
  | n + 1, h, j, hj => by
    unfold left at h
    by_cases e : j = n
    · subst e
      cases hb : listed.getD j true
      · rw [hb] at h; simp at h
      · rfl
    · exact left_zero (n := n) (by omega) j (by omega)
theorem needs_mem {o : Oper} {k : Nat} : k ∈ needs o ↔ ∃ e ∈ o.after, Region.binds .any e = true ∧ e.on = k := by
  unfold needs
  simp only [List.mem_map, List.mem_filter, Array.mem_toList_iff]
  exact ⟨fun ⟨e, ⟨h1, h2⟩, h3⟩ => ⟨e, h1, h2, h3⟩, fun ⟨e, h1, h2, h3⟩ => ⟨e, ⟨h1, h2⟩, h3⟩⟩
theorem draw_any {Q : Exit → Act → World → Prop} {σ : St T} (hf : Facts ops zs) (hzo : ∀ (i : Nat) o, ops[i]? = some o → ∃ U, zs[i]? = some (o, U)) (hlen : zs.length = ops.size)
    (hg : ∀ (i : Nat) x, zs[i]? = some x → GStep P W0 ops x.1 (stD (fun j => Nat.blt j i) 0 zs σ) x.2) (hQ : ∀ a' w', Sim W0 (stD (fun _ => true) 0 zs σ) a' w' → Q .normal a' w') :
    ∀ (fuel : Nat) (listed : Array Bool) (a : Act) (w : World), listed.size = ops.size → left listed ops.size ≤ fuel → Closed zs (fun j => listed.getD j false) → Sim W0 (stD (fun j => listed.getD j false) 0 zs σ) a w → wpAny P .any ops Q fuel listed a w := by
  intro fuel
  have hall : ∀ (listed : Array Bool) (a : Act) (w : World), listed.size = ops.size → (∀ j, j < ops.size → listed.getD j true = true) → Sim W0 (stD (fun j => listed.getD j false) 0 zs σ) a w → Q .normal a w := by
    intro listed a w hs h hS
    refine hQ _ _ ?_
    rw [stD_congr (D' := fun j => listed.getD j false) (fun j hj => ?_)]
    · exact hS
    · have h1 : j < listed.size := by omega
      have h2 := h j (by omega)
      simp only [Nat.zero_add]
      simp [Array.getD, h1] at h2 ⊢
      exact h2
  induction fuel with
  | zero =>
    intro listed a w hs hl hc hS
    have h0 := left_zero (Nat.le_zero.1 hl)
    refine ⟨?_, hall listed a w hs h0 hS⟩
    refine List.eq_nil_iff_forall_not_mem.2 (fun j hj => ?_)
    obtain ⟨h1, o, ho, _⟩ := mem_ready.1 hj
    have := h0 j (Array.getElem?_eq_some_iff.1 ho).1
    rw [h1] at this; cases this
  | succ fuel ih =>
    intro listed a w hs hl hc hS
    refine ⟨fun hr => ?_, fun i hi => ?_⟩
    · refine hall listed a w hs (fun j hj => ?_) hS
      induction j using Nat.strongRecOn with
      | _ j ihj =>
        cases hb : listed.getD j true with
        | true => rfl
        | false =>
          exfalso
          have ho : ops[j]? = some ops[j] := Array.getElem?_eq_getElem hj
          obtain ⟨U, hU⟩ := hzo j _ ho
          have hm : j ∈ Region.ready .any ops listed := mem_ready.2 ⟨hb, _, ho, fun e he hbd => by
            have hlt := hf.lt j _ hU e.on (needs_mem.2 ⟨e, he, hbd, rfl⟩)
            have h1 := ihj e.on hlt (by omega)
            have h2 : e.on < listed.size := by omega
            simp [Array.getD, h2] at h1 ⊢
            exact h1⟩
          rw [hr] at hm; cases hm
    · obtain ⟨h1, o, ho, hall'⟩ := mem_ready.1 hi
      obtain ⟨U, hU⟩ := hzo i o ho
      have hilt : i < ops.size := (Array.getElem?_eq_some_iff.1 ho).1
      have hif : listed.getD i false = false := by
        have h2 : i < listed.size := by omega
        simp [Array.getD, h2] at h1 ⊢
        exact h1
      have hn : ∀ k ∈ needs o, listed.getD k false = true := fun k hk => by
        obtain ⟨e, he, hb, rfl⟩ := needs_mem.1 hk
        exact hall' e he hb
      have hA := draw_agree (σ := σ) hf hc hU hif hn
      obtain ⟨e1, e2, e3⟩ := draw_insert (σ := σ) hf hc hU hif hn
      have hD : ∀ j, also (fun j => listed.getD j false) i j = (listed.setIfInBounds i true).getD j false := fun j => by
        by_cases e : j = i
        · subst e; rw [also_same]; have h2 : j < listed.size := by omega
          simp [Array.getD, h2]
        · rw [also_ne _ e, getD_set_ne false (fun h => e h.symm)]
      have hfun : also (fun j => listed.getD j false) i = fun j => (listed.setIfInBounds i true).getD j false := funext hD
      have hgs := hg i (o, U) hU (stD (fun j => listed.getD j false) 0 zs σ) a w (wpAny P .any ops Q fuel (listed.setIfInBounds i true)) Q hA hS (fun a' w' hS' => by
        refine ih _ a' w' (by simpa using hs) ?_ ?_ ?_
        · have := left_set h1 ops.size
          rw [if_pos hilt] at this
          omega
        · intro j y hy hDj k hk
          have hDj' : also (fun j => listed.getD j false) i j = true := by rw [hD]; exact hDj
          show (listed.setIfInBounds i true).getD k false = true
          rw [← hD]
          by_cases e : k = i
          · subst e; exact also_same _ _
          · rw [also_ne _ e]
            by_cases e2 : j = i
            · subst e2; rw [hU] at hy; cases hy; exact hn k hk
            · rw [also_ne _ e2] at hDj'; exact hc j y hy hDj' k hk
        · rw [← hfun]
          exact sim_eqv hS' e1 e2 e3 (by rw [stD_A, St.upd_A, stD_A]))
      unfold wpOp
      rw [ho]
      dsimp only
      by_cases hw : Region.wanted o (yielded ops a.tmps) = true
      · rw [if_pos hw] at hgs ⊢; exact .inl hgs
      · rw [if_neg hw] at hgs ⊢; exact hgs
theorem sim_grew (hS : Sim W0 σ a w) (g : Grew w w1) (hsz : w1.heap.size = w.heap.size) : Sim W0 σ a w1 := by
  obtain ⟨env, F, h⟩ := hS
  have calm : Calm σ σ F F w w1 := ⟨rfl, g.size, fun k hk h => ⟨h, g.block k hk⟩⟩
  have same : ∀ r, Same σ σ env env F F w w1 r := fun r => ⟨rfl, fun _ => Iff.rfl, rfl, fun k hk => g.block k (own_lt h hk)⟩
  refine ⟨env, F, below_grew h.below g, h.acc, h.size, h.defers, fun r => res_keep calm (same r) (h.res r) (fun t cs _ => ⟨fun _ _ => rfl, fun q _ => (same q.1).holds⟩), fun r k hk => ?_, h.apart, fun t => slot_keep calm (h.tm t) (fun _ _ => rfl) (fun q _ => (same q.1).holds) (fun r i o _ => (same r).holdsE)⟩
  have := h.own r k hk
  exact ⟨this.1, by omega⟩
/-- A region that draws its order. -/
theorem tr_draw {Q : Exit → Act → World → Prop} {id : Nat} {Us : List (Upd T)} (hm : P.follows .mixedOrders = true) (ht : Tr P W0 ops ops.toList σ Us σ2) (hd : drawOk ops (ops.toList.zip Us) = true) (hS : Sim W0 σ a w) (hQ : ∀ a' w', Sim W0 σ2 a' w' → Q .normal a' w') : (Code.region id ops true).wp P Q a w := by
  obtain ⟨h1, h2, h3⟩ := tr_facts ht
  have hf := drawOk_spec hd
  have hlen : (ops.toList.zip Us).length = ops.size := by rw [List.length_zip, ← h1]; simp
  refine wp_region_any hm (draw_any (σ := σ) hf (fun i o ho => ?_) hlen h3 (fun a' w' h => hQ a' w' (by rw [h2]; exact h)) ops.size _ a w.drew (by simp) ?_ (fun i x hx hD => ?_) ?_)
  · have hi : i < ops.size := (Array.getElem?_eq_some_iff.1 ho).1
    have hi2 : i < Us.length := by rw [← h1]; simpa using hi
    have ho' : ops.toList[i]? = some o := by rw [Array.getElem?_toList]; exact ho
    exact ⟨Us[i], by rw [List.getElem?_zip_eq_some]; exact ⟨ho', List.getElem?_eq_getElem hi2⟩⟩
  · have key : ∀ (l : Array Bool) n, left l n ≤ n := by
      intro l n
      induction n with
      | zero => exact Nat.le_refl _
      | succ n ih => unfold left; cases l.getD n true <;> simp <;> omega
    exact key _ _
  · exfalso
    by_cases h : i < ops.size <;> simp [Array.getD, h] at hD
  · rw [stD_false (fun j hj => ?_)]
    · exact sim_grew hS (Grew.drew w) rfl
    · by_cases h : 0 + j < ops.size <;> simp [Array.getD, h]
end
end Go.Proofs.Ytnflbiafmddpgaa.Z
