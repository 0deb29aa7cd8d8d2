/- The path calculus, part O: what a row's argument holds, opened into the table's types; for every kind. No program in sight. -/
import Derived.Test.YtnflbiafmddpgaaZ19
import Derived.ChangeArms
import Derived.ChangeShapes
import Derived.SizedLaws
namespace Go.Proofs.Ytnflbiafmddpgaa.Z
open Go.RowKit Go.ChangeShapes
set_option linter.unusedVariables false
section
variable {T : Tys} {H : Type} {enc : TypeId × Value → H} {P : Program} {W : World} {base : Nat} {spare : Nat → Bool} {held : Bool} {α β : Type} {t e : TypeId} {m : Nat}
abbrev All_ : Nat → Prop := fun _ => True
/-- All that type t may hold, up to a depth of m, comes as cells tc of some a, and fits. -/
def Opn (T : Tys) (enc : TypeId × Value → H) (P : Program) (W : World) (base : Nat) (spare : Nat → Bool) (held : Bool) (m : Nat) (t : TypeId) {α : Type} (tc : α → List (C0 T.Tb)) (fit : α → Prop) : Prop :=
  ∀ fuel, fuel ≤ m → ∀ cs x, DataW.trod enc P W base spare held fuel t cs = some x → (x.1.weights P t).all (· ≤ reachBytes) = true → ∃ a, ArgCells W All_ (tc a) cs ∧ fit a
/-- Fields from place o on, in a struct of N cells. -/
def OpnF (T : Tys) (enc : TypeId × Value → H) (P : Program) (W : World) (base : Nat) (spare : Nat → Bool) (held : Bool) (m : Nat) (fs : List Field) (o N : Nat) {α : Type} (tc : α → List (C0 T.Tb)) (fit : α → Prop) : Prop :=
  o ≤ N ∧ ∀ n, n ≤ m → ∀ (cs : List Value) (xs : List (DataW H × List MemPlace)), cs.length = N → xs.length = fs.length →
    (∀ (i : Nat) (f : Field), fs[i]? = some f → DataW.trod enc P W base spare held n f.type ((cs.drop f.offset).take (P.cellsOf f.type)) = xs[i]?) →
    (DataW.weightsEach P (fs.map (·.type)) (xs.map (·.1))).all (· ≤ reachBytes) = true → ∃ a, ArgCells W All_ (tc a) (cs.drop o) ∧ fit a
theorem argCells_app : ∀ {x y : List (C0 T.Tb)} {u v : List Value}, ArgCells W All_ x u → ArgCells W All_ y v → ArgCells W All_ (x ++ y) (u ++ v)
  | [], _, _, _, h, h' => by cases h; exact h'
  | c :: cs, _, _, _, ⟨a, r, e, h1, h2⟩, h' => by subst e; exact ⟨a, _, rfl, h1, argCells_app h2 h'⟩
theorem argCells_len : ∀ {x : List (C0 T.Tb)} {u : List Value}, ArgCells W All_ x u → x.length = u.length
  | [], _, h => by cases h; rfl
  | c :: cs, _, ⟨a, r, e, h1, h2⟩ => by subst e; simp [argCells_len h2]
theorem argCells_get : ∀ {x : List (C0 T.Tb)} {u : List Value}, ArgCells W All_ x u → ∀ {q : Nat} {c : C0 T.Tb}, x[q]? = some c → ∃ v, u[q]? = some v ∧ Rd T.sz W All_ (c.toV T.enc) v
  | [], _, _, q, c, h => by simp at h
  | c0 :: cs, _, ⟨a, r, e, h1, h2⟩, 0, c, h => by
    subst e
    simp at h; subst h
    refine ⟨a, rfl, ?_⟩
    cases c0 with
    | sc v => obtain ⟨h3, h4⟩ := h1; subst h3; exact .sc _ h4
    | sl e l => exact h1
  | c0 :: cs, _, ⟨a, r, e, h1, h2⟩, q + 1, c, h => by subst e; simpa using argCells_get h2 (q := q) (by simpa using h)
theorem opn_int {k : IntKind} (ht : P.underlying t = some (.int k)) : Opn T enc P W base spare held m t (fun n : Int => [.sc (.int k n)]) (fun x => (Lit.int k x).wf = true) := by
  intro fuel _ cs x h _
  obtain ⟨n, rfl, _, hw⟩ := DataW.trod_int ht h
  exact ⟨n, ⟨_, [], rfl, ⟨rfl, rfl⟩, rfl⟩, hw⟩
theorem opn_bool (ht : P.underlying t = some .bool) : Opn T enc P W base spare held m t (fun n : Bool => [.sc (.bool n)]) (fun _ => True) := by
  intro fuel _ cs x h _
  obtain ⟨n, rfl, _⟩ := DataW.trod_bool ht h
  exact ⟨n, ⟨_, [], rfl, ⟨rfl, rfl⟩, rfl⟩, trivial⟩
theorem opn_string (ht : P.underlying t = some .string) : Opn T enc P W base spare held m t (fun s : ByteArray => [.sc (.string s)]) (fun s => s.size ≤ 140737488351232) := by
  intro fuel _ cs x h hw
  obtain ⟨s, rfl, rfl, _⟩ := DataW.trod_string ht h
  refine ⟨s, ⟨_, [], rfl, ⟨rfl, rfl⟩, rfl⟩, ?_⟩
  have z : s.data.toList.length ≤ reachBytes := by simpa [DataW.weights] using hw
  rw [Array.length_toList] at z
  exact z
theorem mapM_range_ {γ : Type} (f : Nat → Option γ) : ∀ (n : Nat) (l : List γ), (List.range n).mapM f = some l → l.length = n ∧ ∀ (i : Nat) a, l[i]? = some a → f i = some a := by
  intro n l h
  have h1 := mapM_some_length h
  rw [List.length_range] at h1
  refine ⟨h1, fun i a hi => ?_⟩
  have hl : i < n := by
    rcases Nat.lt_or_ge i l.length with q | q
    · omega
    · rw [List.getElem?_eq_none q] at hi; cases hi
  have h2 := mapM_some_get h i i (by simp [hl])
  rw [h2, hi]
theorem cells_each_ {a : Addr} {n : Nat} {cs : List Value} (h : W.cells? base a n = some cs) : cs.length = n ∧ ∀ (i : Nat) u, cs[i]? = some u → W.cell? (a.add i) = some u := by
  unfold World.cells? at h
  by_cases hb : base ≤ a.block
  · rw [if_pos hb] at h
    exact mapM_range_ _ n cs h
  · rw [if_neg hb] at h; cases h
theorem list_of_ {γ : Type} {Q : Nat → γ → Prop} : ∀ n : Nat, (∀ i, i < n → ∃ a, Q i a) → ∃ l : List γ, l.length = n ∧ ∀ i p, l[i]? = some p → Q i p
  | 0, _ => ⟨[], rfl, fun i p h => by simp at h⟩
  | n + 1, h => by
    obtain ⟨l, hl, hq⟩ := list_of_ n (fun i hi => h i (by omega))
    obtain ⟨a, ha⟩ := h n (by omega)
    refine ⟨l ++ [a], by simp [hl], fun i p hi => ?_⟩
    rcases Nat.lt_or_ge i n with q | q
    · rw [List.getElem?_append_left (by omega)] at hi
      exact hq i p hi
    · rw [List.getElem?_append_right (by omega), hl] at hi
      have e : i - n = 0 := by
        rcases Nat.eq_zero_or_pos (i - n) with z | z
        · exact z
        · rw [List.getElem?_eq_none (by simp; omega)] at hi; cases hi
      rw [e] at hi
      have e2 : i = n := by omega
      have e3 : a = p := by simpa using hi
      rw [e2, ← e3]
      exact ha
theorem weightsAll_mem_ : ∀ (l : List (DataW H)) (y : DataW H), y ∈ l → (DataW.weightsAll P e l).all (· ≤ reachBytes) = true → (y.weights P e).all (· ≤ reachBytes) = true
  | a :: r, y, hy, h => by
    rw [DataW.weightsAll, List.all_append, Bool.and_eq_true] at h
    rcases List.mem_cons.1 hy with rfl | hy
    · exact h.1
    · exact weightsAll_mem_ r y hy h.2
theorem opn_slice {fit : T.Tb e → Prop} {ei : TI} (hei : T.ti e = some ei) (hlen : ∀ a : T.Tb e, (T.cells e a).length = ei.size) (ht : P.underlying t = some (.slice e)) (hsz : P.cellsOf e = ei.size) (h0 : Nat.ble 1 ei.size = true) (hB : Nat.ble 1 (P.bytesOf e) = true) (he : Opn T enc P W base spare held m e (T.cells e) fit) :
    Opn T enc P W base spare held (m + 1) t (fun l : List (T.Tb e) => [.sl e l]) (fun l => l.length ≤ 140737488351232 ∧ ∀ x ∈ l, fit x) := by
  intro fuel hfm cs x h hw
  rcases DataW.trod_slice ht h with ⟨rfl, rfl⟩ | ⟨a, len, cap, elems, rest, n, hn, rfl, rfl, hb, hl, hm, hlen2, hel, hsp, hns⟩
  · exact ⟨[], ⟨_, [], rfl, .nil e none 0, rfl⟩, by simp, by simp⟩
  · have hw2 : (elems.length + rest.length) * P.bytesOf e ≤ reachBytes ∧ (DataW.weightsAll P e (elems.map (·.1))).all (· ≤ reachBytes) = true := by
      simp only [DataW.weights, ht, List.all_cons, List.all_append, Bool.and_eq_true, decide_eq_true_eq, List.length_map] at hw
      exact ⟨hw.1, hw.2.1⟩
    have hs : T.sz e = ei.size := sz_of hei
    have each : ∀ i, i < len → ∃ p : T.Tb e, fit p ∧ ∃ c : List Value, ArgCells W All_ (T.cells e p) c ∧ ∀ j u, c[j]? = some u → W.cell? (a.add (i * T.sz e + j)) = some u := by
      intro i hi
      have h1 := hel i hi
      have hi' : i < elems.length := by omega
      rw [List.getElem?_eq_getElem hi'] at h1
      obtain ⟨c, hcs, htr⟩ := Option.bind_eq_some_iff.1 h1
      obtain ⟨hcl, hcc⟩ := cells_each_ hcs
      obtain ⟨p, hK, hf⟩ := he n (by omega) c _ htr (weightsAll_mem_ _ _ (List.mem_map_of_mem (List.getElem_mem hi')) hw2.2)
      refine ⟨p, hf, c, hK, fun j u hu => ?_⟩
      have := hcc j u hu
      rw [add_add, hsz, ← hs] at this
      exact this
    obtain ⟨l, hll, hlq⟩ := list_of_ len each
    subst hll
    have key : ∀ (j : Nat) (l' : List V) (q : Nat) (x : V), (l.map (T.enc e))[j]? = some l' → l'[q]? = some x → ∃ u, W.cell? (a.add (j * T.sz e + q)) = some u ∧ Rd T.sz W All_ x u := by
      intro j l' q x hj hq
      rw [List.getElem?_map] at hj
      obtain ⟨p, hp, rfl⟩ := Option.map_eq_some_iff.1 hj
      rw [T.enc_eq, List.getElem?_map] at hq
      obtain ⟨c0, hc0, rfl⟩ := Option.map_eq_some_iff.1 hq
      obtain ⟨_, c, hc, hcc⟩ := hlq j p hp
      obtain ⟨u, hu, hr⟩ := argCells_get hc hc0
      exact ⟨u, hcc q u hu, hr⟩
    refine ⟨l, ⟨_, [], rfl, ?_, rfl⟩, ?_, fun x hx => ?_⟩
    · show Rd T.sz W All_ (.sl e (l.map (T.enc e))) _
      by_cases hnil : l = []
      · subst hnil; exact .nil e (some a) cap
      · have hpos : 0 < l.length := List.length_pos_iff.2 hnil
        have hlt : a.block < W.heap.size := by
          have hz : 0 < (T.cells e l[0]).length := by rw [hlen]; exact Nat.le_of_ble_eq_true h0
          obtain ⟨u, hu, _⟩ := key 0 (T.enc e l[0]) 0 _ (by simp [hpos]) (by rw [T.enc_eq, List.getElem?_map, List.getElem?_eq_getElem hz]; rfl)
          have := World.block_lt_of_cell? W _ hu
          rwa [add_blk] at this
        have := Rd.sl (sz := T.sz) (w := W) (P := All_) e (l.map (T.enc e)) a cap (fun j q => ((W.cell? (a.add (j * T.sz e + q))).getD undef)) (by simpa using hl) trivial hlt
          (fun j l' hj => by
            rw [List.getElem?_map] at hj
            obtain ⟨p, hp, rfl⟩ := Option.map_eq_some_iff.1 hj
            rw [T.enc_eq, List.length_map, hlen, hs])
          (fun j l' q x hj hq => by obtain ⟨u, hu, _⟩ := key j l' q x hj hq; simp [hu])
          (fun j l' q x hj hq => by obtain ⟨u, hu, hr⟩ := key j l' q x hj hq; simp only [hu, Option.getD_some]; exact hr)
        rw [List.length_map] at this
        exact this
    · have h1 : l.length * P.bytesOf e ≤ (elems.length + rest.length) * P.bytesOf e := Nat.mul_le_mul_right _ (by omega)
      have h2 : l.length * 1 ≤ l.length * P.bytesOf e := Nat.mul_le_mul_left _ (Nat.le_of_ble_eq_true hB)
      have h3 := hw2.1
      have h4 : reachBytes = 140737488351232 := rfl
      omega
    · obtain ⟨i, hi, rfl⟩ := List.mem_iff_getElem.1 hx
      exact (hlq i _ (List.getElem?_eq_getElem hi)).1
theorem opnF_one {tc : α → List (C0 T.Tb)} {fit : α → Prop} {f : Field} {o N : Nat} (ho : f.offset = o) (hT : N = o + P.cellsOf f.type) (h : Opn T enc P W base spare held m f.type tc fit) : OpnF T enc P W base spare held m [f] o N tc fit := by
  subst ho hT
  refine ⟨by omega, ?_⟩
  intro n hn cs xs hl hx hq hw
  have h0 := hq 0 f rfl
  match xs, hx with
  | [y], _ =>
    have e : (cs.drop f.offset).take (P.cellsOf f.type) = cs.drop f.offset := List.take_of_length_le (by rw [List.length_drop]; omega)
    rw [e] at h0
    refine h n hn _ y h0 ?_
    simpa [DataW.weightsEach] using hw
theorem opnF_cons {a : α → List (C0 T.Tb)} {b : β → List (C0 T.Tb)} {fita : α → Prop} {fitb : β → Prop} {f : Field} {fs : List Field} {o N : Nat} (ho : f.offset = o) (h : Opn T enc P W base spare held m f.type a fita) (hs : OpnF T enc P W base spare held m fs (o + P.cellsOf f.type) N b fitb) :
    OpnF T enc P W base spare held m (f :: fs) o N (fun p : α × β => a p.1 ++ b p.2) (fun p => fita p.1 ∧ fitb p.2) := by
  subst ho
  have hle := hs.1
  refine ⟨by omega, ?_⟩
  intro n hn cs xs hl hx hq hw
  match xs, hx with
  | y :: ys, hx =>
    have h0 := hq 0 f rfl
    simp only [List.map_cons, DataW.weightsEach, List.all_append, Bool.and_eq_true] at hw
    obtain ⟨p, hK, hf⟩ := h n hn _ y h0 hw.1
    obtain ⟨q, hK2, hf2⟩ := hs.2 n hn cs ys hl (by simpa using hx) (fun i f' hf' => hq (i + 1) f' hf') hw.2
    refine ⟨(p, q), ?_, hf, hf2⟩
    have := argCells_app hK hK2
    rwa [← List.drop_drop, List.take_append_drop] at this
theorem opn_struct {fs : Array Field} {tc : α → List (C0 T.Tb)} {fit : α → Prop} (ht : P.underlying t = some (.struct fs)) (h : OpnF T enc P W base spare held m fs.toList 0 (P.cellsOf t) tc fit) (g : α → β) {tc' : β → List (C0 T.Tb)} {fit' : β → Prop} (hg : ∀ a, tc' (g a) = tc a) (hf' : ∀ a, fit a → fit' (g a)) : Opn T enc P W base spare held (m + 1) t tc' fit' := by
  intro fuel hfm cs x hx hw
  obtain ⟨xs, n, hn, rfl, hl, hxl, hq⟩ := DataW.trod_struct ht hx
  obtain ⟨a, h1, h2⟩ := h.2 n (by omega) cs xs hl (by simpa using hxl) (fun i f hf => hq i f (by simpa using hf)) (by simpa [DataW.weights, ht] using hw)
  rw [List.drop_zero] at h1
  exact ⟨g a, by rw [hg]; exact h1, hf' a h2⟩
theorem Opn.fit {tc : α → List (C0 T.Tb)} {fit fit' : α → Prop} (h : Opn T enc P W base spare held m t tc fit) (hf : ∀ a, fit a → fit' a) : Opn T enc P W base spare held m t tc fit' := fun fuel hm cs x hx hw => by
  obtain ⟨a, h1, h2⟩ := h fuel hm cs x hx hw
  exact ⟨a, h1, hf a h2⟩
theorem Opn.le {tc : α → List (C0 T.Tb)} {fit : α → Prop} {m' : Nat} (h : Opn T enc P W base spare held m t tc fit) (hm : m' ≤ m) : Opn T enc P W base spare held m' t tc fit := fun fuel hf => h fuel (Nat.le_trans hf hm)
theorem wf_u8 {x : Int} (h : (Lit.int .u8 x).wf = true) : 0 ≤ x ∧ x < 256 := by
  simp only [Lit.wf, Bool.and_eq_true, decide_eq_true_eq] at h
  have h1 : IntKind.u8.min = 0 := rfl
  have h2 : IntKind.u8.max = 255 := rfl
  omega
/-- A law's contract, for its row. -/
theorem call_bool {f : FuncId} {args : List (Arg T.Tb)} {r : Bool} (h : CallOb T P f args (.c (.sc (.bool r)))) {vs : List Value} (ha : ArgsRel W All_ args vs) : Calls P f vs.toArray W fun e w' => e = .returned (.bool r) ∧ Below W.heap.size W w' := by
  refine (h.2 W vs All_ ha).mono ?_
  rintro e w' ⟨v, G, rfl, hb, _, _, fv, hf, r', h1, _, _⟩
  have h2 : fv = [v] := hf
  rw [h2] at h1
  cases h1
  exact ⟨rfl, hb⟩
/-- A row's argument. -/
theorem opn_arg {ts : List TypeId} {ds : List (DataW H)} {j : Nat} {tc : α → List (C0 T.Tb)} {fit : α → Prop} {v : Value} {x : DataW H} {ps : List MemPlace} (hsz : (DataW.weightsEach P ts ds).all (· ≤ reachBytes) = true) (ht : ts[j]? = some t) (hd : ds[j]? = some x)
    (h : DataW.Trod enc P W base spare held t v x ps) (ho : ∀ m, Opn T enc P W base spare held m t tc fit) : ∃ a, ArgCells W All_ (tc a) v.cells.toList ∧ fit a := by
  obtain ⟨fuel, hf⟩ := h
  exact ho fuel fuel (Nat.le_refl _) _ _ hf (List.all_eq_true.2 fun n hn => List.all_eq_true.1 hsz n (DataW.weights_mem_each ht hd n hn))
end
end Go.Proofs.Ytnflbiafmddpgaa.Z
