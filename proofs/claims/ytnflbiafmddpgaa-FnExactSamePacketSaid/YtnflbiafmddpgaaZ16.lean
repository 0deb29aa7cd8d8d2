/- The path calculus, part 16: a type's row out of the program; a state told anew. -/
import Derived.Test.YtnflbiafmddpgaaZ15
import Derived.KernelRfl
namespace Go.Proofs.Ytnflbiafmddpgaa.Z
open Go.RowKit
set_option linter.unusedVariables false
set_option linter.unusedSimpArgs false
section
variable {T : Tys} {P : Program} {W0 : World}
theorem ty_base {t : Nat} {s b : Nat} {z : List Value} (h : (P.info? t).map (fun i => (i.size, i.bytes, i.zero.map Value.cells)) = some (s, b, some z.toArray)) : ∃ inf, P.info? t = some inf ∧ inf.size = s ∧ inf.bytes = b ∧ ∃ v, inf.zero = some v ∧ v.cells = z.toArray := by
  obtain ⟨inf, h1, h2⟩ := Option.map_eq_some_iff.1 h
  simp only [Prod.mk.injEq] at h2
  obtain ⟨h3, h4, h5⟩ := h2
  obtain ⟨v, h6, h7⟩ := Option.map_eq_some_iff.1 h5
  exact ⟨inf, h1, h3, h4, v, h6, h7⟩
theorem ty_slice {t e : Nat} {b : Nat} {z : List Value} (h : (P.info? t).map (fun i => (i.size, i.bytes, i.zero.map Value.cells)) = some (1, b, some z.toArray)) (hu : P.underlying t = some (.slice e)) (hz : z.length = 1) (hb : 0 < b) : TyOk P t ⟨1, b, z, .slice e⟩ := by
  obtain ⟨inf, h1, h2, h3, v, h4, h5⟩ := ty_base h
  exact ⟨inf, h1, h2, h3, ⟨v, h4, h5⟩, hz, Nat.one_pos, hb, hu, rfl⟩
theorem ty_text {t : Nat} {b : Nat} {z : List Value} (h : (P.info? t).map (fun i => (i.size, i.bytes, i.zero.map Value.cells)) = some (1, b, some z.toArray)) (hu : P.underlying t = some .string) (hz : z.length = 1) (hb : 0 < b) : TyOk P t ⟨1, b, z, .text⟩ := by
  obtain ⟨inf, h1, h2, h3, v, h4, h5⟩ := ty_base h
  exact ⟨inf, h1, h2, h3, ⟨v, h4, h5⟩, hz, Nat.one_pos, hb, hu, rfl⟩
theorem ty_num {t : Nat} {b : Nat} {k : IntKind} {z : List Value} (h : (P.info? t).map (fun i => (i.size, i.bytes, i.zero.map Value.cells)) = some (1, b, some z.toArray)) (hu : P.underlying t = some (.int k)) (hz : z.length = 1) (hb : 0 < b) : TyOk P t ⟨1, b, z, .num k⟩ := by
  obtain ⟨inf, h1, h2, h3, v, h4, h5⟩ := ty_base h
  exact ⟨inf, h1, h2, h3, ⟨v, h4, h5⟩, hz, Nat.one_pos, hb, hu, rfl⟩
def plainT : TypeDesc → Bool
  | .struct _ => false
  | .array _ _ => false
  | _ => true
theorem ty_one {t : Nat} {b : Nat} {z : List Value} (h : (P.info? t).map (fun i => (i.size, i.bytes, i.zero.map Value.cells)) = some (1, b, some z.toArray)) (hu : (P.underlying t).map plainT = some true) (hz : z.length = 1) (hb : 0 < b) : TyOk P t ⟨1, b, z, .one⟩ := by
  obtain ⟨inf, h1, h2, h3, v, h4, h5⟩ := ty_base h
  obtain ⟨d, h6, h7⟩ := Option.map_eq_some_iff.1 hu
  exact ⟨inf, h1, h2, h3, ⟨v, h4, h5⟩, hz, Nat.one_pos, hb, ⟨⟨d, h6, fun fs e => (by subst e; cases h7), fun n e he => (by subst he; cases h7)⟩, rfl⟩⟩
def placesOf (P : Program) (t : Nat) : Option (List (Nat × Nat)) := match P.underlying t with
  | some (.struct fs) => fs.toList.mapM (fun f => (P.info? f.type).map fun i => (f.offset, i.size))
  | _ => none
theorem ty_str {t : Nat} {s b : Nat} {z : List Value} {offs : List (Nat × Nat)} (h : (P.info? t).map (fun i => (i.size, i.bytes, i.zero.map Value.cells)) = some (s, b, some z.toArray)) (hu : placesOf P t = some offs) (hz : z.length = s) (hs : 0 < s) (hb : 0 < b) (h0 : offs.all (fun p => Nat.blt 0 p.2) = true) : TyOk P t ⟨s, b, z, .str offs⟩ := by
  obtain ⟨inf, h1, h2, h3, v, h4, h5⟩ := ty_base h
  unfold placesOf at hu
  split at hu
  · rename_i fs hf
    exact ⟨inf, h1, h2, h3, ⟨v, h4, h5⟩, hz, hs, hb, fs, hf, hu, fun p hp => by have := List.all_eq_true.1 h0 p hp; simp [Nat.blt_eq] at this; omega⟩
  · cases hu
/-! ### a state told anew: what it tells is told by the elder one, under other numbers -/
def mp (m : List (Nat × Nat)) (r : Nat) : Nat := lk 0 m r
def renC (m : List (Nat × Nat)) : Cell T → Cell T
  | .hd r => .hd (mp m r)
  | .px r o => .px (mp m r) o
  | c => c
def okC : Cell T → Bool
  | .im (some _) _ _ => false
  | _ => true
def okCs : List (Cell T) → Bool
  | [] => true
  | c :: l => match okC c with
    | true => okCs l
    | false => false
def renCs (m : List (Nat × Nat)) : List (Cell T) → List (Cell T)
  | [] => []
  | c :: l => renC m c :: renCs m l
def renS (m : List (Nat × Nat)) : Slot T → Slot T
  | .c x => .c (renC m x)
  | .ag l => .ag (renCs m l)
  | s => s
def okS : Slot T → Bool
  | .c x => okC x
  | .ag l => okCs l
  | .ud => true
  | .pi none _ _ _ _ => true
  | _ => false
def TmOk (m : List (Nat × Nat)) (σ : St T) : List (Nat × Slot T) → Prop
  | [] => True
  | (t, s) :: l => (okS s = true ∧ renS m s = σ.tmp t) ∧ TmOk m σ l
def ResOk (m : List (Nat × Nat)) (σ : St T) (r : Nat) : Res T → Prop
  | .no => True
  | .bx t cs => okCs cs = true ∧ σ.res (mp m r) = .bx t (renCs m cs)
  | .row _ e l => match σ.res (mp m r) with
    | .row _ e' l' => SameRow e' l' e l
    | _ => False
def RsOk (m : List (Nat × Nat)) (σ : St T) : List (Nat × Res T) → Prop
  | [] => True
  | (r, x) :: l => ResOk m σ r x ∧ RsOk m σ l
def fstIds : List (Nat × Res T) → List Nat
  | [] => []
  | p :: l => p.1 :: fstIds l
def nodupN : List Nat → Bool
  | [] => true
  | a :: l => match hasN a l with
    | true => false
    | false => nodupN l
def mapN (m : List (Nat × Nat)) : List Nat → List Nat
  | [] => []
  | a :: l => mp m a :: mapN m l
theorem tm_look {m : List (Nat × Nat)} {σ : St T} {t : Nat} : ∀ {l : List (Nat × Slot T)}, TmOk m σ l → lk (.c .un) l t = .c .un ∨ (okS (lk (.c .un) l t) = true ∧ renS m (lk (.c .un) l t) = σ.tmp t)
  | [], _ => .inl rfl
  | (k, s) :: l, ⟨h1, h2⟩ => by
    unfold lk
    cases hb : Nat.beq k t
    · exact tm_look h2
    · have := Nat.eq_of_beq_eq_true hb
      subst this
      exact .inr h1
theorem rs_look {m : List (Nat × Nat)} {σ : St T} {r : Nat} : ∀ {l : List (Nat × Res T)}, RsOk m σ l → lk .no l r = .no ∨ (r ∈ fstIds l ∧ ResOk m σ r (lk .no l r))
  | [], _ => .inl rfl
  | (k, x) :: l, ⟨h1, h2⟩ => by
    unfold lk
    cases hb : Nat.beq k r
    · rcases rs_look (r := r) h2 with h | ⟨h, h'⟩
      · exact .inl h
      · exact .inr ⟨List.mem_cons_of_mem _ h, h'⟩
    · have := Nat.eq_of_beq_eq_true hb
      subst this
      exact .inr ⟨List.mem_cons_self, h1⟩
theorem nodup_inj {m : List (Nat × Nat)} : ∀ {l : List Nat}, nodupN (mapN m l) = true → ∀ a ∈ l, ∀ b ∈ l, mp m a = mp m b → a = b
  | [], _, a, ha, _, _, _ => by cases ha
  | x :: l, h, a, ha, b, hb, e => by
    unfold mapN nodupN at h
    cases hx : hasN (mp m x) (mapN m l) <;> rw [hx] at h
    · have hno : ∀ y ∈ l, mp m y ≠ mp m x := fun y hy e => by
        have : mp m x ∈ mapN m l := by
          rw [← e]
          clear hx h ha hb e
          induction l with
          | nil => cases hy
          | cons z l ih =>
            unfold mapN
            rcases List.mem_cons.1 hy with rfl | hy
            · exact List.mem_cons_self
            · exact List.mem_cons_of_mem _ (ih hy)
        rw [hasN_iff.2 this] at hx; cases hx
      rcases List.mem_cons.1 ha with h1 | h1
      · rcases List.mem_cons.1 hb with h2 | h2
        · rw [h1, h2]
        · exact absurd e.symm (h1 ▸ hno b h2)
      · rcases List.mem_cons.1 hb with h2 | h2
        · exact absurd e (h2 ▸ hno a h1)
        · exact nodup_inj h a h1 b h2 e
    · cases h
theorem imp_of {σ σ' : St T} (m : List (Nat × Nat)) (hn : σ'.n = σ.n) (hA : σ'.A = σ.A) (hnd : nodupN (mapN m (fstIds σ'.rs)) = true) (ht : TmOk m σ σ'.tm) (hr : RsOk m σ σ'.rs) : Imp σ σ' := by
  rintro W0 a w ⟨env, F, h⟩
  let F' : Nat → Nat → Prop := fun r k => σ'.res r ≠ .no ∧ F (mp m r) k
  have hF : ∀ k, (∀ r, ¬ F r k) → ∀ r, ¬ F' r k := fun k hk r hr => hk _ hr.2
  have hP : ∀ k, okP σ.A F none k → okP σ'.A F' none k := fun k hk => hk.elim (fun ⟨h1, h2⟩ => .inl ⟨by rw [hA]; exact h1, hF k h2⟩) (fun ⟨q, hq, _⟩ => by cases hq)
  have hcell : ∀ (c : Cell T) (v : Value), okC c = true → CellRel σ env F w (renC m c) v → CellRel σ' (fun r => env (mp m r)) F' w c v := by
    intro c v hc hv
    cases c with
    | un => trivial
    | sc v' => exact hv
    | im p e l =>
      cases p with
      | none => exact ⟨hv.1, fun _ => (hv.2 trivial).mono hP⟩
      | some q => cases hc
    | hd r => exact hv
    | px r o => exact hv
  have hcells : ∀ (cs : List (Cell T)) (vs : List Value), okCs cs = true → CellsRel σ env F w (renCs m cs) vs → CellsRel σ' (fun r => env (mp m r)) F' w cs vs := by
    intro cs
    induction cs with
    | nil => exact fun vs _ h => h
    | cons c cs ih =>
      rintro vs hc ⟨v, r, e, h1, h2⟩
      unfold okCs at hc
      cases hcc : okC c <;> rw [hcc] at hc
      · cases hc
      · exact ⟨v, r, e, hcell c v hcc h1, ih r hc h2⟩
  have hres : ∀ r, σ'.res r ≠ .no → r ∈ fstIds σ'.rs ∧ ResOk m σ r (σ'.res r) := fun r hne => (rs_look (r := r) hr).resolve_left hne
  refine ⟨fun r => env (mp m r), F', h.below, fun k hk => by rw [hA]; exact h.acc k hk, h.size.trans hn.symm, h.defers, fun r => ?_, fun r k hk => h.own _ k hk.2, fun r s k h1 h2 => ?_, fun t => ?_⟩
  · cases hx : σ'.res r with
    | no => exact fun k hk => hk.1 hx
    | bx t cs =>
      have hne : σ'.res r ≠ .no := by rw [hx]; simp
      have h1 := (hres r hne).2
      rw [hx] at h1
      obtain ⟨h2, h3⟩ := h1
      have h4 := h.res (mp m r)
      rw [h3] at h4
      obtain ⟨g, arr, g1, g2, g3, g4, g5⟩ := h4
      exact ⟨g, arr, g1, ⟨hne, g2⟩, fun k hk => g3 k hk.2, g4, hcells cs _ h2 g5⟩
    | row bv e l =>
      have hne : σ'.res r ≠ .no := by rw [hx]; simp
      have h1 := (hres r hne).2
      rw [hx] at h1
      have h4 := h.res (mp m r)
      cases hy : σ.res (mp m r) with
      | row bv' e' l' =>
        simp only [ResOk, hy] at h1
        rw [hy] at h4
        exact (sameRow_ow h1 h4).mono (fun k hk => ⟨hne, hk⟩)
      | no => simp only [ResOk, hy] at h1
      | bx t cs => simp only [ResOk, hy] at h1
  · have e := h.apart _ _ k h1.2 h2.2
    exact nodup_inj hnd r (hres r h1.1).1 s (hres s h2.1).1 e
  · rcases tm_look (t := t) ht with h1 | ⟨h1, h2⟩
    · show SlotRel _ _ _ _ (lk _ _ t) _
      rw [h1]; trivial
    · have h3 := h.tm t
      rw [← h2] at h3
      show SlotRel _ _ _ _ (lk (.c .un) σ'.tm t) _
      generalize lk (.c .un) σ'.tm t = s at h1 h3
      cases s with
      | ud => exact h3
      | c x => exact hcell x _ h1 h3
      | ag l => obtain ⟨us, e, h4⟩ := h3; exact ⟨us, e, hcells l _ h1 h4⟩
      | tu l => cases h1
      | pi p e l i o =>
        cases p with
        | none =>
          obtain ⟨g1, ad, g2, g3⟩ := h3
          obtain ⟨c, g4⟩ := g3 trivial
          exact ⟨g1, ad, g2, fun _ => ⟨c, g4.mono hP⟩⟩
        | some q => cases h1
      | pe r i o => cases h1
end
end Go.Proofs.Ytnflbiafmddpgaa.Z
