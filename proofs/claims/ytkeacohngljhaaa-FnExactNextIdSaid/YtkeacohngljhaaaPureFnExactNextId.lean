/- The law FnExactNextId answers true of every number and every list of numbers: it has no condition but the length that a list may have. -/
import Derived.Test.YtkeacohngljhaaaK
import Derived.Test.YtkeacohngljhaaaA2
import Derived.Test.YtkeacohngljhaaaA4
import Derived.Test.YtkeacohngljhaaaK
import Derived.Test.YtkeacohngljhaaaPx0
import Derived.Test.YtkeacohngljhaaaPx17
import Derived.Test.YtkeacohngljhaaaPx19
import Derived.Test.YtkeacohngljhaaaPx20
namespace Go.Proofs.Ytkeacohngljhaaa.Pure
open Go.RowKit Go.Proofs.Ytkeacohngljhaaa.P Go.Proofs.YtkeacohngljhaaaW.PrintWords Go.Proofs.YtkeacohngljhaaaW.PrintLast Go.Proofs.Ytkeacohngljhaaa.K

theorem has_l (l : List Int) (x : Int) (hl : l.length ≤ 35184372088832) : ∀ (d i : Nat), i + d = l.length → Ev (fun k => spec_l11Has.l0 k l x (i : Int)) (decide (x ∈ l.drop i))
  | 0, i, hd => by
    refine ev_to (Ev.step (fun k => ?_) (Ev.now false)) ?_
    · simp only [spec_l11Has.l0]; rw [if_neg (by omega)]
    · rw [List.drop_of_length_le (by omega)]; simp
  | d + 1, i, hd => by
    have hi : i < l.length := by omega
    rw [List.drop_eq_getElem_cons hi]
    by_cases e : l[i] = x
    · refine ev_to (Ev.step (fun k => ?_) (Ev.now true)) ?_
      · simp only [spec_l11Has.l0]; rw [if_pos (by omega), if_pos (by omega), rd_get hi, if_pos e]
      · simp [e]
    · refine ev_to (Ev.step (fun k => ?_) (has_l l x hl d (i + 1) (by omega))) ?_
      · simp only [spec_l11Has.l0]; rw [if_pos (by omega), if_pos (by omega), rd_get hi, if_neg e, w64s hi (by omega)]
      · exact decide_eq_decide.2 (by simp only [List.mem_cons]; exact ⟨fun h => .inr h, fun h => h.resolve_left (fun q => e q.symm)⟩)
theorem has_ev (l : List Int) (x : Int) (hl : l.length ≤ 35184372088832) : Ev (fun k => spec_l11Has.f k l x) (decide (x ∈ l)) := by
  unfold spec_l11Has.f
  exact has_l l x hl l.length 0 (by omega)

theorem nodup_sub_len : ∀ (a b : List Int), a.Nodup → (∀ x ∈ a, x ∈ b) → a.length ≤ b.length
  | [], _, _, _ => by simp
  | x :: a, b, hn, hs => by
    have hx : x ∈ b := hs x (by simp)
    have h := nodup_sub_len a (b.erase x) (List.nodup_cons.1 hn).2 (fun y hy => by
      have hne : y ≠ x := fun e => (List.nodup_cons.1 hn).1 (e ▸ hy)
      exact (List.mem_erase_of_ne hne).2 (hs y (by simp [hy])))
    rw [List.length_erase_of_mem hx] at h
    have : 0 < b.length := List.length_pos_of_mem hx
    simp only [List.length_cons]
    omega
/-- The j-th number behind last. -/
def cand (last : Int) (j : Nat) : Int := (last + (j : Int) - 1) % 65535 + 1
def stage (last : Int) (i : Nat) : Int := if i = 0 then last else cand last i
theorem cand_bd (last : Int) (j : Nat) : 1 ≤ cand last j ∧ cand last j ≤ 65535 := by unfold cand; omega
theorem stage_next (last : Int) (i : Nat) (h0 : 0 ≤ last) (h1 : last ≤ 65535) : (if stage last i + 1 > 65535 then (1 : Int) else stage last i + 1) = cand last (i + 1) := by
  unfold stage cand
  split <;> split <;> omega
theorem seen_le (last : Int) (l : List Int) (i : Nat) (hi : i ≤ 65535) (h : ∀ j, 1 ≤ j → j ≤ i → cand last j ∈ l) : i ≤ l.length := by
  have hn : ((List.range i).map fun j => cand last (j + 1)).Nodup := by
    rw [List.Nodup, List.pairwise_map]
    refine List.Pairwise.imp_of_mem ?_ List.nodup_range
    intro a b ha hb hne
    rw [List.mem_range] at ha hb
    unfold cand
    omega
  have := nodup_sub_len _ l hn (fun x hx => by
    obtain ⟨j, hj, rfl⟩ := List.mem_map.1 hx
    rw [List.mem_range] at hj
    exact h (j + 1) (by omega) (by omega))
  simpa using this
/-- What is taken. -/
def Taken (t : List Bool) (l : List Int) : Prop := t.length = 65536 ∧ ∀ id : Nat, 1 ≤ id → id ≤ 65535 → t.getD id false = decide ((id : Int) ∈ l)
theorem search (last : Int) (l : List Int) (t : List Bool) (h0 : 0 ≤ last) (h1 : last ≤ 65535) (hl : l.length ≤ 1048576) (ht : Taken t l) :
    ∀ (d i : Nat), i + d = 65535 → (∀ j, 1 ≤ j → j ≤ i → cand last j ∈ l) → ∃ r, Ev (fun k => spec_NextId.l0 k l (stage last i) (i : Int)) r ∧ Ev (fun k => impl_NextId.l1 k t (stage last i) (i : Int)) r
  | 0, i, hd, hs => by
    refine ⟨(0, false), Ev.step (f := fun k => spec_NextId.j1 k l (stage last i) (i : Int) false) (fun k => ?_) (Ev.step (fun k => ?_) (Ev.now _)), Ev.step (fun k => ?_) (Ev.now _)⟩
    · simp only [spec_NextId.l0]
      rw [decide_eq_false (by omega)]
      split <;> rfl
    · simp only [spec_NextId.j1]
      rw [if_neg (by simp)]
    · simp only [impl_NextId.l1]
      rw [if_neg (by omega)]
  | d + 1, i, hd, hs => by
    have hle := seen_le last l i (by omega) hs
    have hc := cand_bd last (i + 1)
    have hn := stage_next last i h0 h1
    have hb : 0 ≤ stage last i ∧ stage last i ≤ 65535 := by
      unfold stage
      split
      · exact ⟨h0, h1⟩
      · have := cand_bd last i
        omega
    have ew : wrap64 (stage last i + 1) = stage last i + 1 := w64 (by omega) (by omega)
    have ei : wrap64 ((i : Int) + 1) = ((i + 1 : Nat) : Int) := w64 (by omega) (by omega)
    have es : stage last (i + 1) = cand last (i + 1) := by unfold stage; simp
    have hT : t.getD (cand last (i + 1)).toNat false = decide (cand last (i + 1) ∈ l) := by
      have := ht.2 (cand last (i + 1)).toNat (by omega) (by omega)
      rwa [Int.toNat_of_nonneg (by omega)] at this
    have htl := ht.1
    have step1 : ∀ k, spec_NextId.l0 (k + 1) l (stage last i) (i : Int) = spec_NextId.j1 k l (stage last i) (i : Int) true := fun k => by
      simp only [spec_NextId.l0]
      rw [if_pos (by omega), decide_eq_true (by omega)]
    have go : ∀ r, (cand last (i + 1) ∈ l → Ev (fun k => spec_NextId.l0 k l (stage last (i + 1)) ((i + 1 : Nat) : Int)) r) → (¬ cand last (i + 1) ∈ l → r = (cand last (i + 1), true)) → Ev (fun k => spec_NextId.l0 k l (stage last i) (i : Int)) r := by
      intro r k1 k2
      refine Ev.step step1 ?_
      by_cases hg : stage last i + 1 > 65535
      · rw [if_pos hg] at hn
        refine Ev.step (f := fun k => (spec_l11Has.f k l 1).bind fun t103 => (if t103 = true then (spec_NextId.l0 k l 1 (wrap64 ((i : Int) + 1))) else (some (1, true)))) (fun k => ?_) ?_
        · simp only [spec_NextId.j1]
          rw [if_pos trivial, ew, if_pos hg]
        · refine Ev.bind (has_ev l 1 (by omega)) ?_
          rw [ei, hn]
          rw [es] at k1
          exact ev_ite (fun h => k1 (by simpa using h)) (fun h => ev_some (k2 (by simpa using h)).symm)
      · rw [if_neg hg] at hn
        refine Ev.step (f := fun k => (spec_l11Has.f k l (stage last i + 1)).bind fun t104 => (if t104 = true then (spec_NextId.l0 k l (stage last i + 1) (wrap64 ((i : Int) + 1))) else (some (stage last i + 1, true)))) (fun k => ?_) ?_
        · simp only [spec_NextId.j1]
          rw [if_pos trivial, ew, if_neg hg]
        · refine Ev.bind (has_ev l _ (by omega)) ?_
          rw [hn, ei]
          rw [es] at k1
          exact ev_ite (fun h => k1 (by simpa using h)) (fun h => ev_some (k2 (by simpa using h)).symm)
    have gi : ∀ r, (cand last (i + 1) ∈ l → Ev (fun k => impl_NextId.l1 k t (stage last (i + 1)) ((i + 1 : Nat) : Int)) r) → (¬ cand last (i + 1) ∈ l → r = (cand last (i + 1), true)) → Ev (fun k => impl_NextId.l1 k t (stage last i) (i : Int)) r := by
      intro r k1 k2
      rw [es] at k1
      by_cases hg : stage last i + 1 > 65535
      · rw [if_pos hg] at hn
        rw [← hn] at k1 k2 hT
        refine Ev.step (f := fun k => if rdOf false t 1 = true then (impl_NextId.l1 k t 1 ((i + 1 : Nat) : Int)) else (some (1, true))) (fun k => ?_) ?_
        · simp only [impl_NextId.l1]
          rw [if_pos (by omega), ew, if_pos hg, if_pos (by omega), ei]
        · have hT' : rdOf false t 1 = decide ((1 : Int) ∈ l) := hT
          rw [hT']
          exact ev_ite (fun h => k1 (by simpa using h)) (fun h => ev_some (k2 (by simpa using h)).symm)
      · rw [if_neg hg] at hn
        rw [← hn] at k1 k2 hT
        refine Ev.step (f := fun k => if rdOf false t (stage last i + 1) = true then (impl_NextId.l1 k t (stage last i + 1) ((i + 1 : Nat) : Int)) else (some (stage last i + 1, true))) (fun k => ?_) ?_
        · simp only [impl_NextId.l1]
          rw [if_pos (by omega), ew, if_neg hg, if_pos (by omega), if_pos (by omega), ei]
        · have hT' : rdOf false t (stage last i + 1) = decide (stage last i + 1 ∈ l) := hT
          rw [hT']
          exact ev_ite (fun h => k1 (by simpa using h)) (fun h => ev_some (k2 (by simpa using h)).symm)
    by_cases hm : cand last (i + 1) ∈ l
    · obtain ⟨r, k1, k2⟩ := search last l t h0 h1 hl ht d (i + 1) (by omega) (fun j hj1 hj2 => by
        by_cases e : j = i + 1
        · rw [e]; exact hm
        · exact hs j hj1 (by omega))
      exact ⟨r, go r (fun _ => k1) (fun h => absurd hm h), gi r (fun _ => k2) (fun h => absurd hm h)⟩
    · exact ⟨_, go _ (fun h => absurd h hm) (fun _ => rfl), gi _ (fun h => absurd h hm) (fun _ => rfl)⟩
theorem mem_take_succ (l : List Int) (i : Nat) (hi : i < l.length) (x : Int) : x ∈ l.take (i + 1) ↔ x ∈ l.take i ∨ x = l[i] := by
  rw [List.take_succ_eq_append_getElem hi, List.mem_append, List.mem_singleton]
theorem taken_step (t : List Bool) (l : List Int) (i : Nat) (hi : i < l.length) (h : Taken t (l.take i)) (hb : 1 ≤ l[i] ∧ l[i] ≤ 65535) : Taken (t.set l[i].toNat true) (l.take (i + 1)) := by
  refine ⟨by rw [List.length_set]; exact h.1, fun id h1 h2 => ?_⟩
  have := h.2 id h1 h2
  have hl := h.1
  rw [List.getD_eq_getElem?_getD] at this ⊢
  rw [List.getElem?_set]
  by_cases e : l[i].toNat = id
  · have e2 : (id : Int) = l[i] := by omega
    rw [if_pos e, if_pos (by omega)]
    exact (decide_eq_true ((mem_take_succ l i hi _).2 (.inr e2))).symm
  · have e2 : ¬ (id : Int) = l[i] := by omega
    rw [if_neg e, this]
    exact decide_eq_decide.2 ⟨fun q => (mem_take_succ l i hi _).2 (.inl q), fun q => ((mem_take_succ l i hi _).1 q).resolve_right e2⟩
theorem taken_skip (t : List Bool) (l : List Int) (i : Nat) (hi : i < l.length) (h : Taken t (l.take i)) (hb : ¬ (1 ≤ l[i] ∧ l[i] ≤ 65535)) : Taken t (l.take (i + 1)) := by
  refine ⟨h.1, fun id h1 h2 => ?_⟩
  have e2 : ¬ (id : Int) = l[i] := by omega
  rw [h.2 id h1 h2]
  exact decide_eq_decide.2 ⟨fun q => (mem_take_succ l i hi _).2 (.inl q), fun q => ((mem_take_succ l i hi _).1 q).resolve_right e2⟩
theorem fill (last : Int) (l : List Int) (hl : l.length ≤ 1048576) (r : Int × Bool) (hr : ∀ t, Taken t l → Ev (fun k => impl_NextId.l1 k t last 0) r) :
    ∀ (d i : Nat) (t : List Bool), i + d = l.length → Taken t (l.take i) → Ev (fun k => impl_NextId.l0 k last t l (l.length : Int) (i : Int)) r
  | 0, i, t, hd, ht => by
    rw [List.take_of_length_le (by omega)] at ht
    refine Ev.step (fun k => ?_) (hr t ht)
    simp only [impl_NextId.l0]
    rw [if_neg (by omega)]
  | d + 1, i, t, hd, ht => by
    have hi : i < l.length := by omega
    have htl := ht.1
    by_cases hb : 1 ≤ l[i] ∧ l[i] ≤ 65535
    · refine Ev.step (fun k => ?_) (fill last l hl r hr d (i + 1) _ (by omega) (taken_step t l i hi ht hb))
      simp only [impl_NextId.l0]
      rw [if_pos (by omega), if_pos (by omega), if_pos (by omega), rd_get hi, isId_eq, decide_eq_true hb]
      simp only [Option.bind_some, if_true]
      rw [if_pos (by omega), if_pos (by omega), w64s hi (by omega)]
    · refine Ev.step (fun k => ?_) (fill last l hl r hr d (i + 1) t (by omega) (taken_skip t l i hi ht hb))
      simp only [impl_NextId.l0]
      rw [if_pos (by omega), if_pos (by omega), if_pos (by omega), rd_get hi, isId_eq, decide_eq_false hb]
      simp only [Option.bind_some, Bool.false_eq_true, if_false]
      rw [w64s hi (by omega)]
theorem nextId_same (last : Int) (l : List Int) (hl : l.length ≤ 1048576) : ∃ r, Ev (fun k => spec_NextId.f k last l) r ∧ Ev (fun k => impl_NextId.f k last l) r := by
  unfold spec_NextId.f impl_NextId.f
  by_cases h : 0 ≤ last ∧ last ≤ 65535
  · have hz : ∀ t, Taken t l → ∃ r, Ev (fun k => spec_NextId.l0 k l (stage last 0) ((0 : Nat) : Int)) r ∧ Ev (fun k => impl_NextId.l1 k t (stage last 0) ((0 : Nat) : Int)) r :=
      fun t ht => search last l t h.1 h.2 hl ht 65535 0 (by omega) (fun j h1 h2 => by omega)
    have hT0 : Taken (List.replicate 65536 false) (l.take 0) := by
      refine ⟨List.length_replicate, fun id h1 h2 => ?_⟩
      rw [List.getD_eq_getElem?_getD, List.getElem?_replicate, if_pos (by omega)]
      simp
    have hex : ∃ t, Taken t l := by
      have : ∀ (d i : Nat) (t : List Bool), i + d = l.length → Taken t (l.take i) → ∃ t', Taken t' l := by
        intro d
        induction d with
        | zero => intro i t hd ht; rw [List.take_of_length_le (by omega)] at ht; exact ⟨t, ht⟩
        | succ d ih =>
          intro i t hd ht
          by_cases hb : 1 ≤ l[i]'(by omega) ∧ l[i]'(by omega) ≤ 65535
          · exact ih (i + 1) _ (by omega) (taken_step t l i (by omega) ht hb)
          · exact ih (i + 1) _ (by omega) (taken_skip t l i (by omega) ht hb)
      exact this l.length 0 _ (by omega) hT0
    obtain ⟨t1, ht1⟩ := hex
    obtain ⟨r, k1, _⟩ := hz t1 ht1
    refine ⟨r, ev_b (l1In_eq last 0 65535) (ev_pos (by simpa using h) k1), ev_b (isWord_eq last) (ev_pos (by simpa using h) (ev_pos (by decide) ?_))⟩
    refine fill last l hl r (fun t ht => ?_) l.length 0 _ (by omega) hT0
    obtain ⟨r', q1, q2⟩ := hz t ht
    have := ev_det k1 q1
    subst this
    exact q2
  · exact ⟨(0, false), ev_b (l1In_eq last 0 65535) (ev_neg (by simpa using h) (Ev.now _)), ev_b (isWord_eq last) (ev_neg (by simpa using h) (Ev.now _))⟩
theorem FnExactNextId : laws_FnExactNextId.Pure := by
  intro last l ha _ _ hb
  refine Ev.rounds ?_
  unfold laws_FnExactNextId.f
  refine ev_ite (fun _ => Ev.now _) (fun h => ?_)
  have hl : l.length ≤ 1048576 := by omega
  obtain ⟨r, k1, k2⟩ := nextId_same last l hl
  refine Ev.bind (toIntS_ev l (by omega)) (Ev.bind k1 (Ev.bind (toIntS_ev l (by omega)) (Ev.bind k2 (ev_pos rfl ?_))))
  refine Ev.step (fun k => by rw [laws_FnExactNextId.j0]) ?_
  refine ev_neg (by simp) (Ev.bind (toIntS_ev l (by omega)) (Ev.bind (eqIntS_ev l l (by omega)) (ev_pos (by simp) (Ev.now _))))
end Go.Proofs.Ytkeacohngljhaaa.Pure
