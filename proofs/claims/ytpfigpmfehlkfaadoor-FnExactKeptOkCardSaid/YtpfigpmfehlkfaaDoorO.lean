/- What a row's argument holds, opened into the print's kinds (Kd), for every kind: numbers, bools, texts, slices, fields in a row, a struct. No program in sight. -/
import Derived.Test.YtpfigpmfehlkfaaDoorWMore
import Derived.ChangeArms
import Derived.ChangeShapes
import Derived.SizedLaws
namespace Go.Proofs.YtpfigpmfehlkfaaDoor.O
open Go.RowKit Go.ChangeShapes Go.Proofs.YtpfigpmfehlkfaaDoorW.PrintWords
set_option linter.unusedVariables false
section
variable {H : Type}
/-- All that type t may hold comes as kind d, and fits. -/
def Opens (enc : TypeId × Value → H) (P : Program) (W : World) (base : Nat) (spare : Nat → Bool) (held : Bool) {α : Type} (t : TypeId) (d : Kd α) (fit : α → Prop) : Prop :=
  d.sz = P.cellsOf t ∧ ∀ fuel cs x, DataW.trod enc P W base spare held fuel t cs = some x → (x.1.weights P t).all (· ≤ reachBytes) = true → ∃ a, d.K W a cs ∧ fit a
/-- Fields from place o on, in a struct of T cells. -/
def OpensF (enc : TypeId × Value → H) (P : Program) (W : World) (base : Nat) (spare : Nat → Bool) (held : Bool) {α : Type} (fs : List Field) (o T : Nat) (d : Kd α) (fit : α → Prop) : Prop :=
  d.sz = T - o ∧ o ≤ T ∧ ∀ n (cs : List Value) (xs : List (DataW H × List MemPlace)), cs.length = T → xs.length = fs.length →
    (∀ (i : Nat) (f : Field), fs[i]? = some f → DataW.trod enc P W base spare held n f.type ((cs.drop f.offset).take (P.cellsOf f.type)) = xs[i]?) →
    (DataW.weightsEach P (fs.map (·.type)) (xs.map (·.1))).all (· ≤ reachBytes) = true → ∃ a, d.K W a (cs.drop o) ∧ fit a
variable {enc : TypeId × Value → H} {P : Program} {W : World} {base : Nat} {spare : Nat → Bool} {held : Bool} {α β : Type} {t e : TypeId}
theorem opens_int {k : IntKind} (ht : P.underlying t = some (.int k)) (hc : P.cellsOf t = 1) : Opens enc P W base spare held t (Kd.int k) (fun x => (Lit.int k x).wf = true) := by
  refine ⟨hc.symm, ?_⟩
  intro fuel cs x h _
  obtain ⟨n, rfl, _, hw⟩ := DataW.trod_int ht h
  exact ⟨n, rfl, hw⟩
theorem opens_bool (ht : P.underlying t = some .bool) (hc : P.cellsOf t = 1) : Opens enc P W base spare held t Kd.bool (fun _ => True) := by
  refine ⟨hc.symm, ?_⟩
  intro fuel cs x h _
  obtain ⟨n, rfl, _⟩ := DataW.trod_bool ht h
  exact ⟨n, rfl, trivial⟩
theorem opens_string (ht : P.underlying t = some .string) (hc : P.cellsOf t = 1) : Opens enc P W base spare held t Kd.string (fun s => s.size ≤ 140737488351232) := by
  refine ⟨hc.symm, ?_⟩
  intro fuel cs x h hw
  obtain ⟨s, rfl, rfl, _⟩ := DataW.trod_string ht h
  refine ⟨s, rfl, ?_⟩
  have z : s.data.toList.length ≤ reachBytes := by simpa [DataW.weights] using hw
  rw [Array.length_toList] at z
  exact z
theorem add_add_ (a : Addr) (m j : Nat) : (a.add m).add j = a.add (m + j) := by
  unfold Addr.add
  by_cases hm : m = 0
  · subst hm; simp
  · rw [if_neg hm]
    by_cases hj : j = 0
    · subst hj; simp [hm]
    · rw [if_neg hj, if_neg (by omega)]
      simp [Nat.add_assoc]
theorem mapM_range {α : Type} (f : Nat → Option α) : ∀ (n : Nat) (l : List α), (List.range n).mapM f = some l → l.length = n ∧ ∀ (i : Nat) a, l[i]? = some a → f i = some a := by
  intro n l h
  have h1 := mapM_some_length h
  rw [List.length_range] at h1
  refine ⟨h1, fun i a hi => ?_⟩
  have hl : i < n := by
    rcases Nat.lt_or_ge i l.length with q | q
    · omega
    · rw [List.getElem?_eq_none q] at hi; cases hi
  have h2 := mapM_some_get h i i (by simp [hl])
  rw [h2, hi]
theorem cells_each {a : Addr} {n : Nat} {cs : List Value} (h : W.cells? base a n = some cs) : cs.length = n ∧ ∀ (i : Nat) u, cs[i]? = some u → W.cell? (a.add i) = some u := by
  unfold World.cells? at h
  by_cases hb : base ≤ a.block
  · rw [if_pos hb] at h
    exact mapM_range _ n cs h
  · rw [if_neg hb] at h; cases h
theorem list_of {α : Type} {Q : Nat → α → Prop} : ∀ n : Nat, (∀ i, i < n → ∃ a, Q i a) → ∃ l : List α, l.length = n ∧ ∀ i p, l[i]? = some p → Q i p
  | 0, _ => ⟨[], rfl, fun i p h => by simp at h⟩
  | n + 1, h => by
    obtain ⟨l, hl, hq⟩ := list_of n (fun i hi => h i (by omega))
    obtain ⟨a, ha⟩ := h n (by omega)
    refine ⟨l ++ [a], by simp [hl], fun i p hi => ?_⟩
    rcases Nat.lt_or_ge i n with q | q
    · rw [List.getElem?_append_left (by omega)] at hi
      exact hq i p hi
    · rw [List.getElem?_append_right (by omega), hl] at hi
      have e : i - n = 0 := by
        rcases Nat.eq_zero_or_pos (i - n) with z | z
        · exact z
        · rw [List.getElem?_eq_none (by simp; omega)] at hi; cases hi
      rw [e] at hi
      have e2 : i = n := by omega
      have e3 : a = p := by simpa using hi
      rw [e2, ← e3]
      exact ha
theorem weightsAll_mem : ∀ (l : List (DataW H)) (y : DataW H), y ∈ l → (DataW.weightsAll P e l).all (· ≤ reachBytes) = true → (y.weights P e).all (· ≤ reachBytes) = true
  | a :: r, y, hy, h => by
    rw [DataW.weightsAll, List.all_append, Bool.and_eq_true] at h
    rcases List.mem_cons.1 hy with rfl | hy
    · exact h.1
    · exact weightsAll_mem r y hy h.2
theorem opens_slice {d : Kd α} {fit : α → Prop} (ht : P.underlying t = some (.slice e)) (hc : P.cellsOf t = 1) (hB : Nat.ble 1 (P.bytesOf e) = true) (he : Opens enc P W base spare held e d fit) : Opens enc P W base spare held t (Kd.slice e d) (fun l => l.length ≤ 140737488351232 ∧ ∀ x ∈ l, fit x) := by
  refine ⟨hc.symm, ?_⟩
  intro fuel cs x h hw
  rcases DataW.trod_slice ht h with ⟨rfl, rfl⟩ | ⟨a, len, cap, elems, rest, n, _, rfl, rfl, hb, hl, hm, hlen, hel, hsp, hns⟩
  · exact ⟨[], ⟨none, 0, rfl, Nat.le_refl _, Kd.C_nil d W⟩, by simp, by simp⟩
  · have hw2 : (elems.length + rest.length) * P.bytesOf e ≤ reachBytes ∧ (DataW.weightsAll P e (elems.map (·.1))).all (· ≤ reachBytes) = true := by
      simp only [DataW.weights, ht, List.all_cons, List.all_append, Bool.and_eq_true, decide_eq_true_eq, List.length_map] at hw
      exact ⟨hw.1, hw.2.1⟩
    have each : ∀ i, i < len → ∃ p : α, fit p ∧ ∃ c : List Value, c.length = d.sz ∧ d.K W p c ∧ ∀ j u, c[j]? = some u → W.cell? (a.add (i * d.sz + j)) = some u := by
      intro i hi
      have h1 := hel i hi
      have hi' : i < elems.length := by omega
      rw [List.getElem?_eq_getElem hi'] at h1
      obtain ⟨c, hcs, htr⟩ := Option.bind_eq_some_iff.1 h1
      obtain ⟨hcl, hcc⟩ := cells_each hcs
      obtain ⟨p, hK, hf⟩ := he.2 n c _ htr (weightsAll_mem _ _ (List.mem_map_of_mem (List.getElem_mem hi')) hw2.2)
      refine ⟨p, hf, c, by rw [hcl, he.1], hK, fun j u hu => ?_⟩
      have := hcc j u hu
      rw [add_add_, ← he.1] at this
      exact this
    obtain ⟨l, hll, hlq⟩ := list_of len each
    subst hll
    refine ⟨l, ⟨some a, cap, rfl, hl, rfl, Nat.le_trans hl hm, fun _ => ⟨a, rfl, fun j p hj => ?_⟩⟩, ?_, fun x hx => ?_⟩
    · obtain ⟨_, c, h1, h2, h3⟩ := hlq j p hj
      exact ⟨c, h1, h2, h3⟩
    · have h1 : l.length * P.bytesOf e ≤ (elems.length + rest.length) * P.bytesOf e := Nat.mul_le_mul_right _ (by omega)
      have h2 : l.length * 1 ≤ l.length * P.bytesOf e := Nat.mul_le_mul_left _ (Nat.le_of_ble_eq_true hB)
      have h3 := hw2.1
      have h4 : reachBytes = 140737488351232 := rfl
      omega
    · obtain ⟨i, hi, rfl⟩ := List.mem_iff_getElem.1 hx
      exact (hlq i _ (List.getElem?_eq_getElem hi)).1
theorem opensF_one {d : Kd α} {fit : α → Prop} {f : Field} {o T : Nat} (ho : f.offset = o) (hT : T = o + P.cellsOf f.type) (h : Opens enc P W base spare held f.type d fit) : OpensF enc P W base spare held [f] o T d fit := by
  subst ho hT
  refine ⟨by rw [h.1]; omega, by omega, ?_⟩
  intro n cs xs hl hx hq hw
  have h0 := hq 0 f rfl
  match xs, hx with
  | [y], _ =>
    have e : (cs.drop f.offset).take (P.cellsOf f.type) = cs.drop f.offset := List.take_of_length_le (by rw [List.length_drop]; omega)
    rw [e] at h0
    refine h.2 n _ y h0 ?_
    simpa [DataW.weightsEach] using hw
theorem opensF_cons {a : Kd α} {b : Kd β} {fita : α → Prop} {fitb : β → Prop} {f : Field} {fs : List Field} {o T : Nat} (ho : f.offset = o) (h : Opens enc P W base spare held f.type a fita) (hs : OpensF enc P W base spare held fs (o + P.cellsOf f.type) T b fitb) :
    OpensF enc P W base spare held (f :: fs) o T (Kd.pair a b) (fun p => fita p.1 ∧ fitb p.2) := by
  subst ho
  have hle := hs.2.1
  refine ⟨by show a.sz + b.sz = _; rw [h.1, hs.1]; omega, by omega, ?_⟩
  intro n cs xs hl hx hq hw
  match xs, hx with
  | y :: ys, hx =>
    have h0 := hq 0 f rfl
    simp only [List.map_cons, DataW.weightsEach, List.all_append, Bool.and_eq_true] at hw
    obtain ⟨p, hK, hf⟩ := h.2 n _ y h0 hw.1
    obtain ⟨q, hK2, hf2⟩ := hs.2.2 n cs ys hl (by simpa using hx) (fun i f' hf' => hq (i + 1) f' hf') hw.2
    refine ⟨(p, q), ⟨_, _, ?_, hK, hK2⟩, hf, hf2⟩
    rw [← List.drop_drop, List.take_append_drop]
theorem opens_struct {fs : Array Field} {d : Kd α} {fit : α → Prop} (ht : P.underlying t = some (.struct fs)) (h : OpensF enc P W base spare held fs.toList 0 (P.cellsOf t) d fit) : Opens enc P W base spare held t d fit := by
  refine ⟨by rw [h.1]; omega, ?_⟩
  intro fuel cs x hx hw
  obtain ⟨xs, n, _, rfl, hl, hxl, hq⟩ := DataW.trod_struct ht hx
  have := h.2.2 n cs xs hl (by simpa using hxl) (fun i f hf => hq i f (by simpa using hf)) (by simpa [DataW.weights, ht] using hw)
  rwa [List.drop_zero] at this
theorem opens_iso {d : Kd α} {fit : α → Prop} {f : β → α} (g : α → β) (hg : ∀ a, f (g a) = a) (h : Opens enc P W base spare held t d fit) : Opens enc P W base spare held t (Kd.iso d f) (fun b => fit (f b)) := by
  refine ⟨h.1, ?_⟩
  intro fuel cs x hx hw
  obtain ⟨a, hK, hf⟩ := h.2 fuel cs x hx hw
  refine ⟨g a, ?_, ?_⟩
  · show d.K W (f (g a)) cs
    rw [hg]; exact hK
  · show fit (f (g a))
    rw [hg]; exact hf
theorem opens_fit {d : Kd α} {fit fit' : α → Prop} (h : Opens enc P W base spare held t d fit) (hf : ∀ a, fit a → fit' a) : Opens enc P W base spare held t d fit' :=
  ⟨h.1, fun fuel cs x hx hw => by
    obtain ⟨a, hK, hq⟩ := h.2 fuel cs x hx hw
    exact ⟨a, hK, hf a hq⟩⟩
/-- A row's argument. -/
theorem opens_arg {ts : List TypeId} {ds : List (DataW H)} {j : Nat} {d : Kd α} {fit : α → Prop} {v : Value} {x : DataW H} {ps : List MemPlace} (hsz : (DataW.weightsEach P ts ds).all (· ≤ reachBytes) = true) (ht : ts[j]? = some t) (hd : ds[j]? = some x)
    (h : DataW.Trod enc P W base spare held t v x ps) (ho : Opens enc P W base spare held t d fit) : ∃ a, d.K W a v.cells.toList ∧ fit a := by
  obtain ⟨fuel, hf⟩ := h
  exact ho.2 fuel _ _ hf (List.all_eq_true.2 fun n hn => List.all_eq_true.1 hsz n (DataW.weights_mem_each ht hd n hn))
end
end Go.Proofs.YtpfigpmfehlkfaaDoor.O
