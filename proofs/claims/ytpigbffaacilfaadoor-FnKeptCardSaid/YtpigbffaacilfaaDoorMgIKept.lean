/- Plain lemmas of several texts in one (a claim holds at most 60 files). -/
import Derived.Laws.Cover1
import Derived.Laws.IdiomCopy
import Derived.Lib.Overlaps
import Derived.Lib.SliceRun
import Derived.Maps.Range
import Derived.Shelf.Spec.SlicesInsertGrow
import Derived.Shelf.RegionOpenPlain
import Derived.Test.YtpigbffaacilfaaDoorPx0
import Derived.Test.YtpigbffaacilfaaDoorPx10
import Derived.Test.YtpigbffaacilfaaDoorPx8
import Derived.Test.YtpigbffaacilfaaDoorPx9
import Derived.Test.YtpigbffaacilfaaDoorS
import Derived.Test.YtpigbffaacilfaaDoorX1
section
/- Rows of structs as rows of cells, and back; copy and clear over elements of several cells; slices.DeleteFunc and slices.Insert over what is kept; impl.SetKept. -/
namespace Go.Proofs.YtpigbffaacilfaaDoor.P
open Go.RowKit Go.Proofs.YtpigbffaacilfaaDoor.X Go.Proofs.YtpigbffaacilfaaDoorW.PrintWords Go.Proofs.YtpigbffaacilfaaDoorW.PrintLast Go.Proofs.YtpigbffaacilfaaDoorW.PrintMore
set_option linter.unusedVariables false
set_option linter.unusedSimpArgs false
/-- A row's elements, each with its cells and its own blocks. -/
theorem S_open {α : Type} {d : Kd α} {e : Nat} {W : World} {base : Nat} {ok : Nat → Prop} {v : Value} {xs : List α} (h : Kd.S d e W base ok v xs) :
    ∃ (f : Nat → Nat) (rows : List (List Value)), rows.length = xs.length ∧ (Kd.raw d.sz).R e W base (fun _ => True) v rows ∧ ∀ j x, xs[j]? = some x → ∃ c, rows[j]? = some c ∧ d.M W base (fun k => (ok k ∧ some k ≠ v.ownBlock) ∧ f k = j) x c := by
  obtain ⟨f, h0, inner, ho, hr⟩ := h
  have hz : xs.zipIdx.length = xs.length := List.length_zipIdx
  refine ⟨f, Kd.chunks d.sz xs.length inner, Kd.chunks_length _ _ _, ⟨fun _ _ => trivial, inner, ?_, ?_⟩, fun j x hj => ?_⟩
  · rw [Kd.chunks_length, ← hz]; exact ho
  · have := Kd.reps_raw hr (fun x c hx => ⟨(Kd.tag f d).K_len ((Kd.tag f d).K_of_M hx), (Kd.tag f d).K_one ((Kd.tag f d).K_of_M hx)⟩)
    rwa [hz] at this
  · have hjl : j < xs.length := (List.getElem?_eq_some_iff.1 hj).1
    exact ⟨_, Kd.chunks_at hjl, hr.2 j (x, j) (Kd.zip_at hj)⟩
/-- Cells whose elements are told one by one are a row of such elements. -/
theorem S_close {α : Type} {d : Kd α} {e : Nat} {W : World} {base : Nat} {ok : Nat → Prop} {v : Value} {rows : List (List Value)} (hR : (Kd.raw d.sz).R e W base (fun _ => True) v rows) (xs : List α) (hl : xs.length = rows.length) (okj : Nat → Nat → Prop) (hap : ∀ i j k, okj i k → okj j k → i = j)
    (hok : ∀ j k, okj j k → ok k ∧ some k ≠ v.ownBlock) (hown : ∀ k, v.ownBlock = some k → ok k) (hM : ∀ j x c, xs[j]? = some x → rows[j]? = some c → d.M W base (okj j) x c) : Kd.S d e W base ok v xs := by
  obtain ⟨_, inner, ho, hr⟩ := hR
  rw [← hl] at ho
  have hrl := hr.1
  rw [← hl] at hrl
  obtain ⟨f, hf⟩ := Kd.reps_tag (d := d) (w := W) (base := base) (ok := fun k => ok k ∧ some k ≠ v.ownBlock) (xs := xs) (inner := inner) okj hap hok hrl (fun j x hx => by
    have hjl : j < rows.length := by rw [← hl]; exact (List.getElem?_eq_some_iff.1 hx).1
    have h2 := hr.2 j _ (List.getElem?_eq_getElem hjl)
    have h3 := hM j x _ hx (List.getElem?_eq_getElem hjl)
    have h4 : (inner.drop (j * d.sz)).take d.sz = _ := h2.1
    rw [h4]
    exact h3)
  refine ⟨f, hown, inner, ?_, hf⟩
  rw [List.length_zipIdx]
  exact ho
section
variable {P : Program}
/-- copy of n elements of sz cells: all is read ahead of what is written. -/
theorem run_copy_wide (w : World) (dT sT ty elem : TypeId) (sz : Nat) (b o dLen dCap : Nat) (a : Addr) (sLen sCap : Nat) (cs : List Value)
    (hu : P.underlying dT = some (.slice elem)) (hs : (P.info? elem).map (·.size) = some sz) (hn : cs.length = Nat.min sLen dLen * sz)
    (hsrc : ∀ j v, cs[j]? = some v → w.cell? (a.add j) = some v) (hc : ∀ j, j < cs.length → (w.cell? ⟨b, o + j, none⟩).isSome = true) (hf : ∀ j, j < cs.length → w.frozen? ⟨b, o + j, none⟩ = false) (h1 : ∀ v ∈ cs, v.oneCell' = true) :
    (Builtin.copy_ #[dT, sT] ty #[.slice (some ⟨b, o, none⟩) dLen dCap, .slice (some a) sLen sCap]).run P w = .ok (goInt (Nat.min sLen dLen)) (w.setCells b o cs) := by
  have hl := run_loadCells_list (P := P) w a cs hsrc
  have hst := run_storeCells_cells (P := P) b o cs 0 w (by simpa using hc) (by simpa using hf) h1
  cases hq : P.info? elem with
  | none => simp [hq] at hs
  | some i =>
    have hi : i.size = sz := by simpa [hq] using hs
    simp [Builtin.copy_, run_underlying hu, Builtin.lenOf, Builtin.firstCells, sizeOf, typeInfo, hq, hi, ← hn, hl, hst]
/-- clear of n elements: their cells are the zero value's. -/
theorem run_clear_wide (w : World) (t e ty : TypeId) (z : Value) (ht : P.underlying t = some (.slice e)) (hv : ∀ w, (zeroValue e).run P w = .ok z w) (h1 : ∀ u ∈ z.cells.toList, u.oneCell' = true) (b o n c : Nat) (hz : 0 < z.cells.size) (hn : 0 < n)
    (hc : ∀ j, j < n * z.cells.size → (w.cell? ⟨b, o + j, none⟩).isSome = true) (hf : ∀ j, j < n * z.cells.size → w.frozen? ⟨b, o + j, none⟩ = false) :
    (Builtin.clear_ #[t] ty #[.slice (some ⟨b, o, none⟩) n c]).run P w = .ok (.tuple #[]) (w.setCells b o (Builtin.zeroCells z.cells n).toList) := by
  have hzl : (Builtin.zeroCells z.cells n).toList.length = n * z.cells.size := by simp [Builtin.zeroCells]
  have hst := run_storeCells_cells (P := P) b o (Builtin.zeroCells z.cells n).toList 0 w (by rw [hzl]; simpa using hc) (by rw [hzl]; simpa using hf) (by
    intro v hv'
    simp only [Builtin.zeroCells, Array.toList_map, List.mem_map] at hv'
    obtain ⟨i, _, rfl⟩ := hv'
    have hlt : i % z.cells.size < z.cells.size := Nat.mod_lt _ hz
    rw [getElem!_pos z.cells _ hlt]
    exact h1 _ (Array.getElem_mem_toList hlt))
  simp only [Nat.add_zero] at hst
  obtain ⟨m, rfl⟩ : ∃ m, n = m + 1 := ⟨n - 1, by omega⟩
  simp [Builtin.clear_, run_underlying ht, hv, hst]
end
end Go.Proofs.YtpigbffaacilfaaDoor.P
end
section
/- Rows of structs as rows of cells, and back; copy and clear over elements of several cells; slices.DeleteFunc and slices.Insert over what is kept; impl.SetKept. -/
namespace Go.Proofs.YtpigbffaacilfaaDoor.P
open Go.RowKit Go.Proofs.YtpigbffaacilfaaDoor.X Go.Proofs.YtpigbffaacilfaaDoorW.PrintWords Go.Proofs.YtpigbffaacilfaaDoorW.PrintLast Go.Proofs.YtpigbffaacilfaaDoorW.PrintMore
set_option linter.unusedVariables false
set_option linter.unusedSimpArgs false
/-- What is kept, as its cells tell it: its topic, its body's slice, its number. -/
abbrev CK := ByteArray × Value × Int
def ck (c : CK) : List Value := [.string c.1, c.2.1, .int .i64 c.2.2]
def RW (W : World) (base : Nat) (v : Value) (ts : List CK) : Prop := (Kd.raw 3).R 41 W base (fun _ => True) v (ts.map ck)
def hitK (t : ByteArray) (c : CK) : Bool := c.1.toList == t.toList
/-- The function that DeleteFunc is handed. -/
theorem sk_del.calls (B : Nat) (t s : ByteArray) (v : Value) (q : Int) (w : World) (h1 : v.oneCell' = true) (hB : w.cell? ⟨B, 0, none⟩ = some (.string t)) :
    Calls Tryd.prog 31 #[.agg #[.string s, v, .int .i64 q], .pointer (some ⟨B, 0, none⟩)] w fun e w' => e = .returned (.bool (hitK t (s, v, q))) ∧ Below w.heap.size w w' := by
  have hB2 := fun o => Go.Lib.cell?_alloc_some o hB
  go_enter Tryd.func31, Tryd.ntmps31
  go_wp2
  go_ret
  exact ⟨by first | rfl | (simp; done), below_alloc (Below.refl _ _) _⟩
theorem one_ck (c : CK) (h1 : c.2.1.oneCell' = true) : ∀ u ∈ ck c, u.oneCell' = true := by
  intro u hu
  simp only [ck, List.mem_cons, List.not_mem_nil, or_false] at hu
  rcases hu with rfl | rfl | rfl
  · rfl
  · exact h1
  · rfl
theorem rw_len {W : World} {base n cap : Nat} {A : Option Addr} {ts : List CK} (h : RW W base (.slice A n cap) ts) : n = ts.length := by
  have := (Kd.R_reads' h).1
  rwa [List.length_map] at this
theorem rw_cells {W : World} {base g n cap : Nat} {ts : List CK} (h : RW W base (.slice (some ⟨g, 0, none⟩) n cap) ts) (i : Nat) (c : CK) (hc : ts[i]? = some c) :
    W.cell? ⟨g, i * 3, none⟩ = some (.string c.1) ∧ W.cell? ⟨g, i * 3 + 1, none⟩ = some c.2.1 ∧ W.cell? ⟨g, i * 3 + 2, none⟩ = some (.int .i64 c.2.2) ∧ (∀ j, W.frozen? ⟨g, i * 3 + j, none⟩ = false) ∧ c.2.1.oneCell' = true := by
  have hn := rw_len h
  obtain ⟨hi, hg⟩ := List.getElem?_eq_some_iff.1 hc
  obtain ⟨cc, hl, hM, hcc, hf⟩ := Kd.R_elem h [] (i : Int) (by omega) (by omega)
  simp only [Int.toNat_natCast] at hM hcc hf
  have e : (ts.map ck).getD i [] = ck c := by rw [List.getD_eq_getElem?_getD, List.getElem?_map, hc]; rfl
  rw [e] at hM
  obtain ⟨rfl, _, ho⟩ := hM
  exact ⟨hcc 0 _ rfl, hcc 1 _ rfl, hcc 2 _ rfl, hf, ho c.2.1 (by simp [ck])⟩
theorem rw_form {W : World} {base n cap : Nat} {A : Option Addr} {ts : List CK} (h : RW W base (.slice A n cap) ts) (hp : 0 < n) : ∃ g, A = some ⟨g, 0, none⟩ ∧ g < W.heap.size ∧ base ≤ g := by
  have hn := rw_len h
  obtain ⟨g, cap', e, hb, hlt, _⟩ := Kd.R_form h (by rw [List.length_map]; omega)
  injection e with e1 e2 e3
  exact ⟨g, e1, hlt, hb⟩
theorem rw_grown {W w1 : World} {base : Nat} {v : Value} {ts : List CK} {row : Option Nat} (h : RW W base v ts) (hg : W.grownBy w1 row) (hne : row ≠ v.ownBlock) : RW w1 base v ts := Kd.R_grown1 h rfl hg hne
theorem rw_below {W w1 : World} {base : Nat} {v : Value} {ts : List CK} (h : RW W base v ts) (hb : Below W.heap.size W w1) : RW w1 base v ts := Kd.R_below h hb
theorem grown_below {w W w1 : World} {row : Option Nat} (h : w.grownBy W row) (hb : Below W.heap.size W w1) : w.grownBy w1 row :=
  ⟨hb.os.trans h.os, hb.tape.trans h.tape, hb.output.trans h.output, Nat.le_trans h.size hb.size, fun k hk hn => (hb.block k (Nat.lt_of_lt_of_le hk h.size)).trans (h.block k hk hn)⟩
theorem grown_cell {w W : World} {g B : Nat} {v : Value} (h : w.grownBy W (some g)) (hB : w.cell? ⟨B, 0, none⟩ = some v) (hne : B ≠ g) : W.cell? ⟨B, 0, none⟩ = some v := by
  have hlt : B < w.heap.size := by
    rcases Nat.lt_or_ge B w.heap.size with h' | h'
    · exact h'
    · simp [World.cell?, Array.getElem?_eq_none h'] at hB
  rw [World.cell?_of_block (w := w) (h.block B hlt (fun e => hne (by injection e)))]
  exact hB
theorem box_row {W : World} {g base : Nat} (c : CK) (h1 : c.2.1.oneCell' = true) (h : W.heap[g]? = some (.cells #[.string c.1, c.2.1, .int .i64 c.2.2] 41 (0, 0))) (hb : base ≤ g) : RW W base (.slice (some ⟨g, 0, none⟩) 1 1) [c] := by
  refine ⟨fun _ _ => trivial, ck c, ⟨rfl, .inr ⟨g, 1, _, rfl, hb, h, Nat.le_refl _, by decide, rfl, rfl⟩⟩, rfl, fun j x hj => ?_⟩
  have hj0 : j = 0 := by have := (List.getElem?_eq_some_iff.1 hj).1; simp at this; exact this
  subst hj0
  have hx : ck c = x := by simpa using hj
  subst hx
  exact ⟨rfl, rfl, one_ck c h1⟩
theorem flat_len (ts : List CK) : (ts.flatMap ck).length = ts.length * 3 := by
  induction ts with
  | nil => rfl
  | cons c r ih => rw [List.flatMap_cons, List.length_append, ih, List.length_cons]; show 3 + _ = _; omega
theorem flat_take (ts : List CK) (i : Nat) : (ts.flatMap ck).take (i * 3) = (ts.take i).flatMap ck := by
  induction i generalizing ts with
  | zero => simp
  | succ i ih =>
    cases ts with
    | nil => simp
    | cons c r =>
      rw [List.flatMap_cons, List.take_succ_cons, List.flatMap_cons, ← ih r, show (i + 1) * 3 = (ck c).length + i * 3 from by show _ = 3 + _; omega, List.take_length_add_append]
theorem flat_drop (ts : List CK) (i : Nat) : (ts.flatMap ck).drop (i * 3) = (ts.drop i).flatMap ck := by
  induction i generalizing ts with
  | zero => simp
  | succ i ih =>
    cases ts with
    | nil => simp
    | cons c r =>
      rw [List.flatMap_cons, List.drop_succ_cons, ← ih r, show (i + 1) * 3 = (ck c).length + i * 3 from by show _ = 3 + _; omega, List.drop_length_add_append]
theorem flat_reps {w : World} {base : Nat} {ok : Nat → Prop} : ∀ (ts : List CK) (inner : List Value), Reps ((Kd.raw 3).M w base ok) 3 (ts.map ck) inner → inner = ts.flatMap ck ∧ ∀ c ∈ ts, c.2.1.oneCell' = true
  | [], inner, h => ⟨List.eq_nil_of_length_eq_zero (by have := h.1; simpa using this), fun c hc => by cases hc⟩
  | c :: r, inner, h => by
    have hl : inner.length = (r.length + 1) * 3 := by have := h.1; simpa using this
    obtain ⟨e, _, ho⟩ := h.2 0 (ck c) rfl
    replace e : inner.take 3 = ck c := by simpa using e
    obtain ⟨i1, i2⟩ := flat_reps (w := w) (base := base) (ok := ok) r (inner.drop 3) ⟨by rw [List.length_drop, hl, List.length_map]; omega, fun j p hj => by
      have := h.2 (j + 1) p (by simpa using hj)
      rw [List.drop_drop]
      rwa [show (j + 1) * 3 = 3 + j * 3 from by omega] at this⟩
    refine ⟨?_, fun x hx => ?_⟩
    · rw [List.flatMap_cons, ← i1, ← e, List.take_append_drop]
    · rcases List.mem_cons.1 hx with rfl | hx
      · exact ho x.2.1 (by rw [Nat.zero_mul, List.drop_zero, e]; simp [ck])
      · exact i2 x hx
theorem reps_flat {w : World} {base : Nat} {ok : Nat → Prop} (ts : List CK) (h1 : ∀ c ∈ ts, c.2.1.oneCell' = true) : Reps ((Kd.raw 3).M w base ok) 3 (ts.map ck) (ts.flatMap ck) := by
  refine ⟨by rw [flat_len, List.length_map], fun j p hj => ?_⟩
  rw [List.getElem?_map] at hj
  obtain ⟨c, hc, rfl⟩ := Option.map_eq_some_iff.1 hj
  obtain ⟨hjl, hg⟩ := List.getElem?_eq_some_iff.1 hc
  rw [flat_drop, List.drop_eq_getElem_cons hjl, hg, List.flatMap_cons]
  refine ⟨List.take_left' rfl, rfl, one_ck c (h1 c (by rw [← hg]; exact List.getElem_mem hjl))⟩
theorem rw_open {W : World} {base g n cap : Nat} {ts : List CK} (h : RW W base (.slice (some ⟨g, 0, none⟩) n cap) ts) :
    ∃ cur, W.heap[g]? = some (.cells cur 41 (0, 0)) ∧ base ≤ g ∧ n ≤ cap ∧ cap ≤ maxLen ∧ cur.size = cap * 3 ∧ cur.toList.take (n * 3) = ts.flatMap ck ∧ n = ts.length ∧ ∀ c ∈ ts, c.2.1.oneCell' = true := by
  have hn := rw_len h
  obtain ⟨_, inner, ho, hr⟩ := h
  obtain ⟨rfl, h1⟩ := flat_reps ts inner hr
  obtain ⟨_, hz | ⟨g', cap', cur, e, hb, hh, hc1, hc2, hs, ht⟩⟩ := ho
  · simp at hz
  · injection e with e1 e2 e3
    injection e1 with e1
    injection e1 with e1
    subst e1; subst e3
    rw [List.length_map, ← hn] at ht hc1
    exact ⟨cur, hh, hb, hc1, hc2, hs, ht, hn, h1⟩
theorem rw_make {W : World} {base g cap : Nat} {ts : List CK} {cur : Array Value} (hh : W.heap[g]? = some (.cells cur 41 (0, 0))) (hb : base ≤ g) (hc1 : ts.length ≤ cap) (hc2 : cap ≤ maxLen) (hs : cur.size = cap * 3) (ht : cur.toList.take (ts.length * 3) = ts.flatMap ck) (h1 : ∀ c ∈ ts, c.2.1.oneCell' = true) :
    RW W base (.slice (some ⟨g, 0, none⟩) ts.length cap) ts := by
  refine ⟨fun _ _ => trivial, ts.flatMap ck, ⟨by rw [flat_len, List.length_map]; rfl, .inr ⟨g, cap, cur, by rw [List.length_map], hb, hh, by rw [List.length_map]; exact hc1, hc2, hs, by rw [List.length_map]; exact ht⟩⟩, reps_flat ts h1⟩
theorem setCells_grown (W : World) (g o : Nat) (vs : List Value) : W.grownBy (W.setCells g o vs) (some g) := by
  obtain ⟨s1, s2, s3, s4⟩ := setCells_same g vs o W
  exact ⟨s1, s2, s3, by rw [s4]; exact Nat.le_refl _, fun k _ hk => setCells_far vs o k (fun e => hk (by rw [e]))⟩
section
variable {P : Program} {ops : Array Oper} {rest : List Oper} {o : Oper} {a : Act} {Q : Exit → Act → World → Prop}
theorem rw_store {W : World} (hN : o.dst = none) (hgd : o.guard = none) (p x : Operand) (ho : o.op = .store 41 p x) {g n cap o' base : Nat} (i : Nat) (ts : List CK) (c : CK) (haddr : a.eval p = .pointer (some ⟨g, o', none⟩)) (hoff : o' = i * 3)
    (hx : a.eval x = .agg #[.string c.1, c.2.1, .int .i64 c.2.2]) (h1 : c.2.1.oneCell' = true) (ht : (P.info? 41).map (·.size) = some 3) (HO : RW W base (.slice (some ⟨g, 0, none⟩) n cap) ts) (hi : i < n)
    (h : ∀ w1, RW w1 base (.slice (some ⟨g, 0, none⟩) n cap) (ts.set i c) → Below base W w1 → W.grownBy w1 (some g) → wpList P ops Q rest a w1) : wpList P ops Q (o :: rest) a W := by
  have hn := rw_len HO
  have hone := one_ck c h1
  obtain ⟨c0, c1, c2, _, _⟩ := rw_cells HO i ts[i] (List.getElem?_eq_getElem (by omega))
  refine Kd.R_store (Kd.raw 3) base hN hgd 41 p x ho 41 (i : Int) 0 (ts.map ck) (ck c) _ (ck c) (ck ts[i]) (fun _ => True) (fun _ => False) haddr ?_ hx ?_ ht hone HO (by omega) (by omega) rfl ?_ (by show 0 + 3 ≤ 3; omega) ⟨rfl, rfl, hone⟩ (fun _ h_ => h_.elim) (Below.refl _ _) ?_
  · rw [hoff]; simp; rfl
  · simp [Value.cells, ck]
  · intro j u hj
    simp only [Int.toNat_natCast]
    show W.cell? ⟨g, i * 3 + j, none⟩ = _
    match j, hj with
    | 0, hj => simp [ck] at hj; subst hj; exact c0
    | 1, hj => simp [ck] at hj; subst hj; exact c1
    | 2, hj => simp [ck] at hj; subst hj; exact c2
    | j + 3, hj => simp [ck] at hj
  · intro w1 hr hb hg
    refine h w1 ?_ hb hg
    simp only [Int.toNat_natCast] at hr
    unfold RW
    rw [List.map_set]
    exact hr
end
def idxI (t : ByteArray) (ts : List CK) : Int := match ts.findIdx? (hitK t) with
  | none => -1
  | some i => i
set_option maxHeartbeats 4000000 in
set_option maxRecDepth 100000 in
theorem sk_index.calls (B : Nat) (t : ByteArray) (ts : List CK) (A : Option Addr) (n cap base : Nat) (w : World) (hR : RW w base (.slice A n cap) ts) (hB : w.cell? ⟨B, 0, none⟩ = some (.string t)) :
    Calls Tryd.prog 53 #[.slice A n cap, .func (.func 31) #[] #[.pointer (some ⟨B, 0, none⟩)]] w fun e w' => e = .returned (.int .i64 (idxI t ts)) ∧ Below w.heap.size w w' := by
  have hn := rw_len hR
  have hm : n ≤ 9223372036854775807 := Kd.C_max (by have := (Kd.R_reads' hR); rw [← this.1] at this; exact this.2.2)
  have HR := Aside0.mk hR
  have HB := Aside0.mk hB
  have HN := Aside0.mk hn
  clear hR hB hn
  go_enter Tryd.func53, Tryd.ntmps53
  go_wp2
  go_loopg [5, 8] n (fun gg _ s8 wr => ∃ kk : Nat, kk ≤ n ∧ n - kk ≤ gg ∧ s8 = .int .i64 kk ∧ Aside0 (Below w.heap.size w wr) ∧ Aside0 (∀ j c, j < kk → ts[j]? = some c → hitK t c = false))
  case atStart => exact ⟨0, Nat.zero_le _, by omega, rfl, ⟨Below.refl _ w⟩, ⟨fun j c hj => absurd hj (Nat.not_lt_zero _)⟩⟩
  case round =>
    obtain ⟨kk, hkk, hg, rfl, BW, AA⟩ := hrel
    by_cases hlt : kk < n
    · have hltz : (kk : Int) < (n : Int) := by omega
      obtain ⟨c, hc⟩ : ∃ c, ts[kk]? = some c := ⟨_, List.getElem?_eq_getElem (by have := HN.out; omega)⟩
      obtain ⟨g, rfl, _, _⟩ := rw_form HR.out (by omega)
      obtain ⟨c0, c1, c2, fz, oc⟩ := rw_cells (rw_below HR.out BW.out) kk c hc
      have hcall := sk_del.calls B t c.1 c.2.1 c.2.2 wr oc (by rw [BW.out.cell (by
        rcases Nat.lt_or_ge B w.heap.size with h' | h'
        · exact h'
        · exact absurd HB.out (by simp [World.cell?, Array.getElem?_eq_none h']))]; exact HB.out)
      rw [show ((c.1, c.2.1, c.2.2) : CK) = c from rfl] at hcall
      have HC := Aside0.mk hc
      clear hc fz oc
      cases hq : hitK t c with
      | true =>
        rw [hq] at hcall
        have HQ := Aside0.mk hq
        clear hq
        go_wp2_with (go_at_call 31; refine hcall.mono ?_; rintro e w' ⟨rfl, hb'⟩)
        go_ret
        refine ⟨?_, below_step BW.out hb'⟩
        have e : idxI t ts = (kk : Int) := by
          unfold idxI
          obtain ⟨hk, hg⟩ := List.getElem?_eq_some_iff.1 HC.out
          rw [List.findIdx?_eq_some_iff_getElem.2 ⟨hk, by rw [hg]; exact HQ.out, fun j hj => by rw [AA.out j _ hj (List.getElem?_eq_getElem (by omega))]; simp⟩]
        rw [e]
        rfl
      | false =>
        rw [hq] at hcall
        have HQ := Aside0.mk hq
        clear hq
        go_wp2_with (go_at_call 31; refine hcall.mono ?_; rintro e w' ⟨rfl, hb'⟩)
        go_roundg (n - (kk + 1))
        case measure => omega
        case rel =>
          refine ⟨kk + 1, by omega, by omega, by go_num, ⟨below_step BW.out hb'⟩, ⟨fun j c' hj hc' => ?_⟩⟩
          by_cases e : j = kk
          · subst e
            obtain rfl := Option.some.inj (HC.out.symm.trans hc')
            exact HQ.out
          · exact AA.out j c' (by omega) hc'
    · have hltz : ¬ (kk : Int) < (n : Int) := by omega
      have : kk = n := by omega
      subst this
      go_wp2
      go_ret
      refine ⟨?_, BW.out⟩
      have e : idxI t ts = -1 := by
        unfold idxI
        rw [List.findIdx?_eq_none_iff.2 (fun x hx => by
          obtain ⟨j, hj, rfl⟩ := List.mem_iff_getElem.1 hx
          exact AA.out j _ (by have := HN.out; omega) (List.getElem?_eq_getElem hj))]
      rw [e]
      rfl
end Go.Proofs.YtpigbffaacilfaaDoor.P
end
section
/- Rows of structs as rows of cells, and back; copy and clear over elements of several cells; slices.DeleteFunc and slices.Insert over what is kept; impl.SetKept. -/
namespace Go.Proofs.YtpigbffaacilfaaDoor.P
open Go.RowKit Go.Proofs.YtpigbffaacilfaaDoor.X Go.Proofs.YtpigbffaacilfaaDoorW.PrintWords Go.Proofs.YtpigbffaacilfaaDoorW.PrintLast Go.Proofs.YtpigbffaacilfaaDoorW.PrintMore
set_option linter.unusedVariables false
set_option linter.unusedSimpArgs false
def kp (t : ByteArray) (c : CK) : Bool := !hitK t c
theorem zeros3 (m : Nat) (z0 z1 z2 : Value) : (Builtin.zeroCells #[z0, z1, z2] m).size = m * 3 := by simp [Builtin.zeroCells]
set_option maxHeartbeats 8000000 in
set_option maxRecDepth 100000 in
theorem sk_delete.calls (B : Nat) (t : ByteArray) (ts : List CK) (A : Option Addr) (n cap base : Nat) (w : World) (hR : RW w base (.slice A n cap) ts) (hB : w.cell? ⟨B, 0, none⟩ = some (.string t)) (hne : ∀ ad, A = some ad → ad.block ≠ B) :
    Calls Tryd.prog 30 #[.slice A n cap, .func (.func 31) #[] #[.pointer (some ⟨B, 0, none⟩)]] w fun e w' => ∃ m, e = .returned (.slice A m cap) ∧ RW w' base (.slice A m cap) (ts.filter (kp t)) ∧ w.grownBy w' (Value.slice A n cap).ownBlock := by
  have hn := rw_len hR
  have hm : n ≤ 9223372036854775807 := Kd.C_max (by have := (Kd.R_reads' hR); rw [← this.1] at this; exact this.2.2)
  have hcn : n ≤ cap := (Kd.R_reads' hR).2.1
  have hI := sk_index.calls B t ts A n cap base w hR hB
  have hsp : idxI t ts = -1 ∧ (∀ c ∈ ts, hitK t c = false) ∨ ∃ k0, k0 < n ∧ idxI t ts = (k0 : Int) ∧ (∃ c, ts[k0]? = some c ∧ hitK t c = true) ∧ ∀ j c, j < k0 → ts[j]? = some c → hitK t c = false := by
    unfold idxI
    cases h : ts.findIdx? (hitK t) with
    | none => exact .inl ⟨rfl, fun c hc => List.findIdx?_eq_none_iff.1 h c hc⟩
    | some i =>
      obtain ⟨hi, h1, h2⟩ := List.findIdx?_eq_some_iff_getElem.1 h
      refine .inr ⟨i, by omega, rfl, ⟨_, List.getElem?_eq_getElem hi, h1⟩, fun j c hj hc => ?_⟩
      obtain ⟨hj', rfl⟩ := List.getElem?_eq_some_iff.1 hc
      have := h2 j hj
      simpa using this
  have HR := Aside0.mk hR
  have HB := Aside0.mk hB
  have HN := Aside0.mk hn
  have HE := Aside0.mk hne
  clear hR hB hn hne
  rcases hsp with ⟨e1, hall⟩ | ⟨k0, hk0, e1, hhit, hall⟩
  · rw [e1] at hI
    have hf : ts.filter (kp t) = ts := List.filter_eq_self.2 (fun c hc => by unfold kp; rw [hall c hc]; rfl)
    have HF := Aside0.mk hf
    have HI := Aside0.mk hI
    clear e1 hall hf hI
    go_enter Tryd.func30, Tryd.ntmps30
    go_wp2_with (go_at_call 53; refine HI.out.mono ?_; rintro e w' ⟨rfl, hb'⟩)
    go_ret
    refine ⟨n, rfl, ?_, grown_below (World.grownBy.refl _ _) hb'⟩
    rw [HF.out]
    exact rw_below HR.out hb'
  · rw [e1] at hI
    obtain ⟨g, rfl, hgl, hgb⟩ := rw_form HR.out (by omega)
    have HI := Aside0.mk hI
    have HA := Aside0.mk hall
    have HH := Aside0.mk hhit
    have GL := Aside0.mk hgl
    have GB := Aside0.mk hgb
    have HS := Aside0.mk hk0
    clear hI hall hhit e1 hgl hgb
    have hne1 : ((k0 : Int) == -1) = false := beq_eq_false_iff_ne.2 (by omega)
    go_enter Tryd.func30, Tryd.ntmps30
    go_wp2_with (go_at_call 53; refine HI.out.mono ?_; rintro e w0' ⟨rfl, hb0⟩)
    go_loopg [5, 6, 7] n (fun gg s5 s6 _ wr => ∃ (i j : Nat) (ts' : List CK), s5 = .int .i64 i ∧ s6 = .int .i64 j ∧ i < j ∧ j ≤ n ∧ n - j ≤ gg ∧ Aside0 (ts'.length = ts.length) ∧ Aside0 (ts'.take i = (ts.take j).filter (kp t)) ∧ Aside0 (ts'.drop j = ts.drop j) ∧ Aside0 (RW wr base (.slice (some ⟨g, 0, none⟩) n cap) ts') ∧ Aside0 (w.grownBy wr (some g)))
    case atStart =>
      refine ⟨k0, k0 + 1, ts, rfl, by go_num, by omega, by omega, by omega, ⟨rfl⟩, ⟨?_⟩, ⟨rfl⟩, ⟨rw_below HR.out hb0⟩, ⟨grown_below (World.grownBy.refl _ _) hb0⟩⟩
      obtain ⟨c, hc, hh⟩ := HH.out
      rw [List.take_add_one, hc, List.filter_append]
      have : [c].filter (kp t) = [] := by simp [kp, hh]
      rw [show (some c).toList = [c] from rfl, this, List.append_nil]
      refine (List.filter_eq_self.2 (fun x hx => ?_)).symm
      obtain ⟨j, hj, rfl⟩ := List.mem_take_iff_getElem.1 hx
      unfold kp
      rw [HA.out j _ (by omega) (List.getElem?_eq_getElem (by omega))]
      rfl
    case round =>
      obtain ⟨i, j, ts', rfl, rfl, hij, hjn, hgg, L', T', D', R', G'⟩ := hrel
      have hcell := grown_cell G'.out HB.out (fun e => HE.out _ rfl e.symm)
      by_cases hlt : j < n
      · have hltz : (j : Int) < (n : Int) := by omega
        have hjl : j < ts.length := by have := HN.out; omega
        obtain ⟨c, hc⟩ : ∃ c, ts[j]? = some c := ⟨_, List.getElem?_eq_getElem hjl⟩
        have hc' : ts'[j]? = some c := by
          have e : (ts'.drop j)[0]? = (ts.drop j)[0]? := by rw [D'.out]
          rw [List.getElem?_drop, List.getElem?_drop] at e
          simpa [hc] using e
        obtain ⟨c0, c1, c2, fz, oc⟩ := rw_cells R'.out j c hc'
        have HC := Aside0.mk hc
        have HL := Aside0.mk hjl
        have OC := Aside0.mk oc
        have HCB := Aside0.mk hcell
        clear hc hc' hcell fz oc hjl
        cases hq : hitK t c with
        | true =>
          have HQ := Aside0.mk hq
          clear hq
          go_wp2_with (first | ((with_reducible refine gate_dst (N := 7) rfl ?_); refine box_event ?hg (N := 7) ?hd (cs := #[.string (⟨#[]⟩ : ByteArray), .slice none 0 0, .int .i64 0]) (t := 41) ?hr ?_; (case hd => rfl); (case hg => rfl); (case hr => first | (go_simp; done) | (go_simp; rfl)); intro gb hgb w1 hbx hb1; have X1 := box_row (base := gb) (ByteArray.empty, .slice none 0 0, 0) rfl hbx (Nat.le_refl _); have R1 := rw_below R'.out hb1; have G1 := grown_below G'.out hb1; have Z1 : wr.heap.size ≤ gb := Nat.le_of_eq hgb.symm; have X1 := Aside0.mk X1; have R1 := Aside0.mk R1; have G1 := Aside0.mk G1; have Z1 := Aside0.mk Z1; clear hgb hbx hb1) | ((with_reducible refine gate_store (t := 41) (p := 7) rfl ?_); refine rw_store (o' := ?oo) rfl rfl _ _ rfl 0 _ c ?haddr ?hoff ?hx OC.out (by kernel_rfl) X1.out (by omega) ?_; (case haddr => rfl); (case hoff => rfl); (case hx => rfl); intro w2 hr2 hb2 hg2; have X2 := hr2; have R2 := rw_grown R1.out hg2 (by have := Z1.out; have := GL.out; have := G'.out.size; intro e; have e : some gb = some g := e; injection e with e; omega); have G2 := World.grownBy.andThen G1.out hg2 (fun j hj => .inl (by injection hj with hj; have := Z1.out; have := G'.out.size; omega)); have HB2 := grown_cell G2 HB.out (fun e => HE.out _ rfl e.symm); obtain ⟨b0, b1, b2, -, -⟩ := rw_cells X2 0 c rfl; simp only [Nat.zero_mul, Nat.zero_add] at b0 b1 b2; have X2 := Aside0.mk X2; have R2 := Aside0.mk R2; have G2 := Aside0.mk G2; have HB2 := Aside0.mk HB2; clear hr2 hb2 hg2) | (go_at_call 31; refine (sk_del.calls B t c.1 c.2.1 c.2.2 _ OC.out HB2.out).mono ?_; rintro e w3 ⟨rfl, hb3⟩; rw [show hitK t (c.1, c.2.1, c.2.2) = _ from HQ.out]; have X3 := rw_below X2.out hb3; have R3 := rw_below R2.out hb3; have G3 := grown_below G2.out hb3; clear b0 b1 b2; obtain ⟨b0, b1, b2, -, -⟩ := rw_cells X3 0 c rfl; simp only [Nat.zero_mul, Nat.zero_add] at b0 b1 b2; have R3 := Aside0.mk R3; have G3 := Aside0.mk G3; clear hb3))
          go_roundg (n - (j + 1))
          case measure => omega
          case rel =>
            refine ⟨i, j + 1, ts', rfl, by go_num, by omega, by omega, by omega, L', ⟨?_⟩, ⟨?_⟩, R3, G3⟩
            · rw [T'.out, List.take_add_one, HC.out, List.filter_append]
              simp [kp, HQ.out]
            · have := congrArg (List.drop 1) D'.out
              rwa [List.drop_drop, List.drop_drop] at this
        | false =>
          have HQ := Aside0.mk hq
          clear hq
          go_wp2_with (first | ((with_reducible refine gate_dst (N := 7) rfl ?_); refine box_event ?hg (N := 7) ?hd (cs := #[.string (⟨#[]⟩ : ByteArray), .slice none 0 0, .int .i64 0]) (t := 41) ?hr ?_; (case hd => rfl); (case hg => rfl); (case hr => first | (go_simp; done) | (go_simp; rfl)); intro gb hgb w1 hbx hb1; have X1 := box_row (base := gb) (ByteArray.empty, .slice none 0 0, 0) rfl hbx (Nat.le_refl _); have R1 := rw_below R'.out hb1; have G1 := grown_below G'.out hb1; have Z1 : wr.heap.size ≤ gb := Nat.le_of_eq hgb.symm; have X1 := Aside0.mk X1; have R1 := Aside0.mk R1; have G1 := Aside0.mk G1; have Z1 := Aside0.mk Z1; clear hgb hbx hb1) | ((with_reducible refine gate_store (t := 41) (p := 7) rfl ?_); refine rw_store (o' := ?oo) rfl rfl _ _ rfl 0 _ c ?haddr ?hoff ?hx OC.out (by kernel_rfl) X1.out (by omega) ?_; (case haddr => rfl); (case hoff => rfl); (case hx => rfl); intro w2 hr2 hb2 hg2; have X2 := hr2; have R2 := rw_grown R1.out hg2 (by have := Z1.out; have := GL.out; have := G'.out.size; intro e; have e : some gb = some g := e; injection e with e; omega); have G2 := World.grownBy.andThen G1.out hg2 (fun j hj => .inl (by injection hj with hj; have := Z1.out; have := G'.out.size; omega)); have HB2 := grown_cell G2 HB.out (fun e => HE.out _ rfl e.symm); obtain ⟨b0, b1, b2, -, -⟩ := rw_cells X2 0 c rfl; simp only [Nat.zero_mul, Nat.zero_add] at b0 b1 b2; have X2 := Aside0.mk X2; have R2 := Aside0.mk R2; have G2 := Aside0.mk G2; have HB2 := Aside0.mk HB2; clear hr2 hb2 hg2) | (go_at_call 31; refine (sk_del.calls B t c.1 c.2.1 c.2.2 _ OC.out HB2.out).mono ?_; rintro e w3 ⟨rfl, hb3⟩; rw [show hitK t (c.1, c.2.1, c.2.2) = _ from HQ.out]; have X3 := rw_below X2.out hb3; have R3 := rw_below R2.out hb3; have G3 := grown_below G2.out hb3; clear b0 b1 b2; obtain ⟨b0, b1, b2, -, -⟩ := rw_cells X3 0 c rfl; simp only [Nat.zero_mul, Nat.zero_add] at b0 b1 b2; have R3 := Aside0.mk R3; have G3 := Aside0.mk G3; clear hb3) | ((with_reducible refine gate_store (t := 41) (p := 33) rfl ?_); refine rw_store (o' := i * 3) rfl rfl _ _ rfl i _ c ?haddr ?hoff ?hx OC.out (by kernel_rfl) R3.out (by omega) ?_; (case haddr => first | rfl | (go_simp; done) | (go_simp; rfl) | (simp [Act.eval, Act.put]; done)); (case hoff => rfl); (case hx => rfl); intro w4 hr4 hb4 hg4; have R4 := Aside0.mk hr4; have G4 := Aside0.mk (World.grownBy.andThen G3.out hg4 (fun j hj => .inr hj)); clear hr4 hb4 hg4))
          go_roundg (n - (j + 1))
          case measure => omega
          case rel =>
            refine ⟨i + 1, j + 1, ts'.set i c, by go_num, by go_num, by omega, by omega, by omega, ⟨by rw [List.length_set]; exact L'.out⟩, ⟨?_⟩, ⟨?_⟩, R4, G4⟩
            · rw [List.take_succ_eq_append_getElem (by rw [List.length_set]; have := L'.out; have := HL.out; omega), List.getElem_set_self, List.take_set_of_le (Nat.le_refl _), T'.out, List.take_add_one, HC.out, List.filter_append]
              simp [kp, HQ.out]
            · rw [List.drop_set_of_lt (by omega)]
              have := congrArg (List.drop 1) D'.out
              rwa [List.drop_drop, List.drop_drop] at this
      · obtain rfl : j = n := by omega
        have hltz : ¬ (j : Int) < (j : Int) := by omega
        obtain ⟨cur, hh, hgb, hc1, hc2, hsz, htk, hn, hone⟩ := rw_open R'.out
        have hcl : ∀ ty, (Builtin.clear_ #[25] ty #[.slice (some ⟨g, i * 3, none⟩) (j - i) (cap - i)]).run Tryd.prog wr = .ok (.tuple #[]) (wr.setCells g (i * 3) (Builtin.zeroCells #[.string (⟨#[]⟩ : ByteArray), .slice none 0 0, .int .i64 0] (j - i)).toList) := fun ty =>
          run_clear_wide wr 25 41 ty (.agg #[.string (⟨#[]⟩ : ByteArray), .slice none 0 0, .int .i64 0]) Tryd.underlying25 (fun _ => by kernel_rfl) (by decide) g (i * 3) (j - i) _ (by decide) (by omega)
            (fun q hq => by rw [cell_of_row wr g _ cur 41 (0, 0) hh]; simp; simp [Value.cells] at hq; omega) (fun q hq => blk_frozen hh _)
        have hzl : (Builtin.zeroCells #[.string (⟨#[]⟩ : ByteArray), .slice none 0 0, .int .i64 0] (j - i)).toList.length = (j - i) * 3 := by rw [Array.length_toList]; exact zeros3 _ _ _ _
        generalize (Builtin.zeroCells #[.string (⟨#[]⟩ : ByteArray), .slice none 0 0, .int .i64 0] (j - i)).toList = zs at hcl hzl
        have hfin : RW (wr.setCells g (i * 3) zs) base (.slice (some ⟨g, 0, none⟩) i cap) (ts.filter (kp t)) := by
          obtain ⟨cur', h3, h4, h5⟩ := setCells_row zs (i * 3) wr cur hh (by rw [hzl, hsz]; omega)
          have hT := T'.out
          rw [List.take_of_length_le (by have := L'.out; omega : ts.length ≤ j)] at hT
          have hil : (ts.filter (kp t)).length = i := by rw [← hT, List.length_take]; omega
          have := rw_make (ts := ts.filter (kp t)) (cap := cap) h3 hgb (by omega) hc2 (by rw [h4, hsz]) (by
            rw [h5, hil, List.append_assoc, List.take_append_of_le_length (by rw [List.length_take, Array.length_toList]; omega), List.take_take, Nat.min_self, ← hT, ← flat_take, ← htk, List.take_take, Nat.min_eq_left (by omega)]) (fun c hc => hone c (by rw [← hT] at hc; exact List.mem_of_mem_take hc))
          rwa [hil] at this
        have hG := World.grownBy.andThen G'.out (setCells_grown wr g (i * 3) zs) (fun q hq => .inr hq)
        have F1 := Aside0.mk hfin
        have F2 := Aside0.mk hG
        clear hfin hG hh hgb hc1 hc2 hsz htk hn hone hzl hcell
        go_wp2
        go_ret
        exact ⟨i, rfl, F1.out, F2.out⟩
end Go.Proofs.YtpigbffaacilfaaDoor.P
end
section
/- Rows of structs as rows of cells, and back; copy and clear over elements of several cells; slices.DeleteFunc and slices.Insert over what is kept; impl.SetKept. -/
namespace Go.Proofs.YtpigbffaacilfaaDoor.P
open Go.RowKit Go.Proofs.YtpigbffaacilfaaDoor.X Go.Proofs.YtpigbffaacilfaaDoorW.PrintWords Go.Proofs.YtpigbffaacilfaaDoorW.PrintLast Go.Proofs.YtpigbffaacilfaaDoorW.PrintMore
set_option linter.unusedVariables false
set_option linter.unusedSimpArgs false
/-- slices.Insert behind the last element. -/
theorem sk_ins_end (ts : List CK) (c : CK) (A : Option Addr) (n cap base vb : Nat) (w : World) (hR : RW w base (.slice A n cap) ts) (hV : RW w 0 (.slice (some ⟨vb, 0, none⟩) 1 1) [c]) (hb : base ≤ w.heap.size) (hbig : (n + 1) * 48 ≤ 140737488355328) :
    Calls Tryd.prog 32 #[.slice A n cap, .int .i64 n, .slice (some ⟨vb, 0, none⟩) 1 1] w fun e w' => ∃ v', e = .returned v' ∧ RW w' base v' (ts ++ [c]) ∧ w.grownBy w' (Value.slice A n cap).ownBlock ∧ (v'.ownBlock = (Value.slice A n cap).ownBlock ∨ ∃ b, v'.ownBlock = some b ∧ w.heap.size ≤ b) := by
  have hn := rw_len hR
  have hm : n ≤ 9223372036854775807 := Kd.C_max (by have := (Kd.R_reads' hR); rw [← this.1] at this; exact this.2.2)
  have hcn : n ≤ cap := (Kd.R_reads' hR).2.1
  have HR := Aside0.mk hR
  have HV := Aside0.mk hV
  have HN := Aside0.mk hn
  have HG := Aside0.mk hbig
  have HB := Aside0.mk hb
  have hh : (A = none → n = 0) := by
    rintro rfl
    rcases Nat.eq_zero_or_pos n with h0 | h0
    · exact h0
    · obtain ⟨g, e, _⟩ := rw_form hR h0
      cases e
  clear hR hV hn hbig hb
  go_enter Tryd.func32, Tryd.ntmps32
  cases A with
  | none =>
    obtain rfl := hh rfl
    clear hh
    go_wp2_with (at_builtin; refine Kd.R_append_rows (Kd.raw 3) (w0 := w) base rfl _ _ 25 41 _ 48 rfl Tryd.underlying25 info41 rfl (by decide) (by decide) (.slice none 0 cap) (ts.map ck) ([c].map ck) (some ⟨vb, 0, none⟩) 1 1 (fun _ => True) (fun _ => False) rfl rfl HR.out (Kd.R_reads' HV.out).2.2 (fun _ _ h_ => h_) (fun _ h_ => h_.elim) (fun _ _ => trivial) (Below.refl _ _) HB.out (by rw [List.length_map, ← HN.out]; exact HG.out) ?_; intro v1 w1 hr hb1 hg1 hat)
    go_ret
    exact ⟨v1, rfl, by unfold RW; rw [List.map_append]; exact hr, hg1, hat⟩
  | some ad =>
    clear hh
    go_wp2_with (at_builtin; refine Kd.R_append_rows (Kd.raw 3) (w0 := w) base rfl _ _ 25 41 _ 48 rfl Tryd.underlying25 info41 rfl (by decide) (by decide) (.slice (some ad) n cap) (ts.map ck) ([c].map ck) (some ⟨vb, 0, none⟩) 1 1 (fun _ => True) (fun _ => False) rfl rfl HR.out (Kd.R_reads' HV.out).2.2 (fun _ _ h_ => h_) (fun _ h_ => h_.elim) (fun _ _ => trivial) (Below.refl _ _) HB.out (by rw [List.length_map, ← HN.out]; exact HG.out) ?_; intro v1 w1 hr hb1 hg1 hat)
    all_goals (go_ret; exact ⟨v1, rfl, by unfold RW; rw [List.map_append]; exact hr, hg1, hat⟩)
set_option maxHeartbeats 4000000 in
set_option maxRecDepth 100000 in
/-- slices.Insert ahead of an element, where there is room: in place. -/
theorem sk_ins_shift (g n c i vb m vc : Nat) (cs vs : List Value) (w : World) (hi : i < n) (hm : 0 < m) (hroom : n + m ≤ c) (hc63 : c ≤ 9223372036854775807) (hvb : vb ≠ g) (hcl : cs.length = n * 3) (hvl : vs.length = m * 3)
    (hcs : ∀ j v, cs[j]? = some v → w.cell? ⟨g, j, none⟩ = some v) (hsp : ∀ j, j < (n + m) * 3 → (w.cell? ⟨g, j, none⟩).isSome = true) (hfz : ∀ j, w.frozen? ⟨g, j, none⟩ = false)
    (hvs : ∀ j v, vs[j]? = some v → w.cell? ⟨vb, j, none⟩ = some v) (h1c : ∀ v ∈ cs, v.oneCell' = true) (h1v : ∀ v ∈ vs, v.oneCell' = true)
    (tA tB : TypeId) (kA kB : Nat) (hsa : w.shape? vb = some (tA, kA)) (hsb : w.shape? g = some (tB, kB)) (hkB : kB ≠ 0) (hfa : w.frozen? ⟨vb, 0, none⟩ = false) (hfe : w.frozen? ⟨vb, kA, none⟩ = false) :
    Calls Tryd.prog 32 #[.slice (some ⟨g, 0, none⟩) n c, .int .i64 i, .slice (some ⟨vb, 0, none⟩) m vc] w fun e w' =>
      e = .returned (.slice (some ⟨g, 0, none⟩) (n + m) c) ∧ w' = (w.drew.setCells g ((i + m) * 3) (cs.drop (i * 3))).setCells g (i * 3) vs := by
  have hz1 : ¬ ((m : Int) = 0) := by omega
  have hz2 : ¬ ((i : Int) = (n : Int)) := by omega
  have hsz : (Tryd.prog.info? 41).map (·.size) = some 3 := by kernel_rfl
  have hov : ∀ lb cb, (callFunc 54 #[.slice (some ⟨vb, 0, none⟩) m vc, .slice (some ⟨g, (i + m) * 3, none⟩) lb cb]).run Tryd.prog w = .ok (.value (.bool false)) w := fun lb cb => by
    rw [run_callFunc_extern Tryd.func54 (by kernel_rfl) (by kernel_rfl) (by kernel_rfl) (e := Extern.SlicesOverlaps.overlaps #[25, 25] #[4]) (by kernel_rfl),
      Go.Lib.run_overlaps_apart w 25 4 41 Tryd.underlying25 3 (fun _ => by kernel_rfl) ⟨vb, 0, none⟩ ⟨g, (i + m) * 3, none⟩ m vc lb cb hvb tA tB kA kB hsa hsb hkB hfa hfe]
    rfl
  have hdl : (cs.drop (i * 3)).length = (n - i) * 3 := by rw [List.length_drop, hcl]; omega
  have hw1 : IntKind.i64.wrap ((i : Int) + (m : Int)) = (i : Int) + (m : Int) := by rw [IntKind.wrap_i64]; omega
  have hb1 : (0 : Int) ≤ (i : Int) + (m : Int) := by omega
  have hin : i ≤ n := by omega
  have htn : ((i : Int) + (m : Int)).toNat = i + m := by omega
  have hb2 : ¬ (c = i + m) := by omega
  have hb3 : (i : Int) ≤ (n : Int) + (m : Int) := by omega
  have hb4 : ¬ (c = i) := by omega
  have hcp1 : ∀ ty dc sc, (Builtin.copy_ #[25, 25] ty #[.slice (some ⟨g, (i + m) * 3, none⟩) (n + m - (i + m)) dc, .slice (some ⟨g, i * 3, none⟩) (n + m - i) sc]).run Tryd.prog w.drew = .ok (goInt (Nat.min (n + m - i) (n + m - (i + m)))) (w.drew.setCells g ((i + m) * 3) (cs.drop (i * 3))) := fun ty dc sc =>
    run_copy_wide w.drew _ _ ty 41 3 g ((i + m) * 3) (n + m - (i + m)) dc ⟨g, i * 3, none⟩ (n + m - i) sc (cs.drop (i * 3)) Tryd.underlying25 hsz (by rw [hdl]; simp only [Nat.min_def]; split <;> omega)
      (fun j v hj => by rw [Addr.add_lit]; exact hcs (i * 3 + j) v (by rwa [List.getElem?_drop] at hj))
      (fun j hj => hsp _ (by omega)) (fun j hj => hfz _) (fun v hv => h1c v (List.mem_of_mem_drop hv))
  obtain ⟨W1, hW1⟩ : ∃ W1, W1 = w.drew.setCells g ((i + m) * 3) (cs.drop (i * 3)) := ⟨_, rfl⟩
  have hsp1 : ∀ k, k < (n + m) * 3 → (W1.cell? ⟨g, k, none⟩).isSome = true := fun k hk => by
    rw [hW1]
    exact isSome_setCells g (cs.drop (i * 3)) ((i + m) * 3) w.drew (fun j hj => hsp ((i + m) * 3 + j) (by rw [hdl] at hj; omega)) k (hsp k hk)
  have hcp2 : ∀ (W : World), (∀ x, W.cell? x = W1.cell? x) → (∀ x, W.frozen? x = W1.frozen? x) → ∀ ty dc, (Builtin.copy_ #[25, 25] ty #[.slice (some ⟨g, i * 3, none⟩) (n + m - i) dc, .slice (some ⟨vb, 0, none⟩) m vc]).run Tryd.prog W = .ok (goInt (Nat.min m (n + m - i))) (W.setCells g (i * 3) vs) := fun W hWc hWf ty dc =>
    run_copy_wide W _ _ ty 41 3 g (i * 3) (n + m - i) dc ⟨vb, 0, none⟩ m vc vs Tryd.underlying25 hsz (by rw [hvl]; simp only [Nat.min_def]; split <;> omega)
      (fun j v hj => by
        rw [Addr.add_lit, hWc, hW1, World.cell?_setCells_out g _ _ _ _ (fun h _ => absurd h hvb), Nat.zero_add]
        exact hvs j v hj)
      (fun j hj => by rw [hWc]; exact hsp1 _ (by omega)) (fun j hj => by rw [hWf, hW1, World.frozen?_setCells]; exact hfz _) h1v
  rw [← hW1] at hcp1
  go_enter Tryd.func32, Tryd.ntmps32
  have mixed : Tryd.prog.follows .mixedOrders = true := by kernel_rfl
  go_wp2_with (simp only [hov])
  go_region_law_o (refine step_copy_runI rfl _ _ 25 25 rfl _ _ (by simp [Act.eval, Act.put]) (by simp [Act.eval, Act.put]) (hcp1 _ _ _) ?_)
  go_wp2_with (at_builtin; refine wpList_copy_runI _ rfl _ _ 25 25 rfl _ _ rfl rfl (hcp2 _ (fun _ => rfl) (fun _ => rfl) _ _) ?_)
  go_ret
  first | exact ⟨rfl, rfl⟩ | exact ⟨rfl, by rw [hW1]⟩
end Go.Proofs.YtpigbffaacilfaaDoor.P
end
section
/- Rows of structs as rows of cells, and back; copy and clear over elements of several cells; slices.DeleteFunc and slices.Insert over what is kept; impl.SetKept. -/
namespace Go.Proofs.YtpigbffaacilfaaDoor.P
open Go.RowKit Go.Proofs.YtpigbffaacilfaaDoor.X Go.Proofs.YtpigbffaacilfaaDoorW.PrintWords Go.Proofs.YtpigbffaacilfaaDoorW.PrintLast Go.Proofs.YtpigbffaacilfaaDoorW.PrintMore
set_option linter.unusedVariables false
set_option linter.unusedSimpArgs false
abbrev zK : Array Value := #[.string (⟨#[]⟩ : ByteArray), .slice none 0 0, .int .i64 0]
set_option maxHeartbeats 4000000 in
set_option maxRecDepth 100000 in
/-- slices.Insert ahead of an element, where there is no room: a new row. -/
theorem sk_ins_grow (g n c i vb m vc : Nat) (cs vs : List Value) (w : World) (hi : i < n) (hm : 0 < m) (hnc : n ≤ c) (hroom : c < n + m) (hbig : (n + m) * 48 ≤ 140737488355328) (hcl : cs.length = n * 3) (hvl : vs.length = m * 3)
    (hcs : ∀ j v, cs[j]? = some v → w.cell? ⟨g, j, none⟩ = some v) (hvs : ∀ j v, vs[j]? = some v → w.cell? ⟨vb, j, none⟩ = some v) (h1c : ∀ v ∈ cs, v.oneCell' = true) (h1v : ∀ v ∈ vs, v.oneCell' = true) :
    Calls Tryd.prog 32 #[.slice (some ⟨g, 0, none⟩) n c, .int .i64 i, .slice (some ⟨vb, 0, none⟩) m vc] w fun e w' =>
      e = .returned (.slice (some ⟨w.heap.size, 0, none⟩) (n + m) (grownCap w (n + m) c 41)) ∧
      w' = (((w.alloc (.cells ((cs.take (i * 3)).toArray ++ Builtin.zeroCells (Value.agg zK).cells (n + m - i) ++ Builtin.zeroCells (Value.agg zK).cells (grownCap w (n + m) c 41 - (n + m))) 41)).drew.setCells w.heap.size (i * 3) vs).drew).setCells w.heap.size ((i + m) * 3) (cs.drop (i * 3)) := by
  have mixed : Tryd.prog.follows .mixedOrders = true := by kernel_rfl
  obtain ⟨i0, hi0, hz0, hzs, hzb⟩ := info_parts info41
  have hz1 : ¬ ((m : Int) = 0) := by omega
  have hz2 : ¬ ((i : Int) = (n : Int)) := by omega
  have hz3 : (c : Int) < (n : Int) + (m : Int) := by omega
  have hsz : (Tryd.prog.info? 41).map (·.size) = some 3 := by kernel_rfl
  have hbw : g < w.heap.size := block_lt_of_cell (hcs 0 _ (List.getElem?_eq_getElem (by omega)))
  have hvw : vb < w.heap.size := block_lt_of_cell (hvs 0 _ (List.getElem?_eq_getElem (by omega)))
  have hkk : (n : Int) + (m : Int) - (i : Int) = ((n + m - i : Nat) : Int) := by omega
  have hik : i + (n + m - i) = n + m := by omega
  have hold : (Builtin.firstCells i0.size i (.slice (some ⟨g, 0, none⟩) i c)).run Tryd.prog w.drew = .ok (cs.take (i * 3)).toArray w.drew := by
    rw [hzs]
    exact run_firstCells_some w.drew 3 i ⟨g, 0, none⟩ i c (cs.take (i * 3)) (by rw [List.length_take]; omega) (fun j v hj => by
      rw [Addr.add_lit, Nat.zero_add]
      rw [List.getElem?_take] at hj
      split at hj
      · exact hcs j v hj
      · cases hj)
  have hrz : ∀ ty, (Builtin.append_ #[25, 3] ty #[.slice (some ⟨g, 0, none⟩) i c, .int .i64 ((n : Int) + (m : Int) - (i : Int))]).run Tryd.prog w =
      .ok (.slice (some ⟨w.heap.size, 0, none⟩) (n + m) (grownCap w (n + m) c 41)) (w.drew.alloc (.cells ((cs.take (i * 3)).toArray ++ Builtin.zeroCells (Value.agg zK).cells (n + m - i) ++ Builtin.zeroCells (Value.agg zK).cells (grownCap w (n + m) c 41 - (n + m))) 41)) := fun ty => by
    have h := Go.Lib.run_append_grow_zeros w 25 3 ty 41 i0 _ .i64 .i64 Tryd.underlying25 Tryd.underlying3 hi0 hz0 (some ⟨g, 0, none⟩) i c (cs.take (i * 3)) hold (n + m - i) (by omega) (by omega) (by omega) (by omega) (by rw [hzb]; omega) (by rw [hzb, hik]; exact growslice_fits hroom hbig)
    rw [hik] at h
    rw [hkk]
    exact h
  obtain ⟨G, hG⟩ : ∃ G, G = grownCap w (n + m) c 41 := ⟨_, rfl⟩
  obtain ⟨ROW, hROW⟩ : ∃ ROW : Array Value, ROW = (cs.take (i * 3)).toArray ++ Builtin.zeroCells (Value.agg zK).cells (n + m - i) ++ Builtin.zeroCells (Value.agg zK).cells (G - (n + m)) := ⟨_, rfl⟩
  rw [← hG] at hrz ⊢
  rw [← hROW] at hrz ⊢
  have hRl : (n + m) * 3 ≤ ROW.size := by
    rw [hROW]
    simp [Builtin.zeroCells, Value.cells]
    omega
  obtain ⟨W1, hW1⟩ : ∃ W1, W1 = w.drew.alloc (.cells ROW 41) := ⟨_, rfl⟩
  rw [← hW1] at hrz
  have hN : ∀ j, j < (n + m) * 3 → (W1.cell? ⟨w.heap.size, j, none⟩).isSome = true := fun j hj => by
    rw [hW1, World.cell?_alloc_at (w := w.drew) ROW _ w.heap.size j rfl, Array.getElem?_eq_getElem (by omega)]; rfl
  have hNf : ∀ j, W1.frozen? ⟨w.heap.size, j, none⟩ = false := fun j => by rw [hW1]; exact World.frozen?_alloc_at (w := w.drew) ROW _ w.heap.size j rfl
  have hOb : ∀ j v, w.cell? ⟨g, j, none⟩ = some v → W1.cell? ⟨g, j, none⟩ = some v := fun j v h => by rw [hW1, World.cell?_alloc_past (w := w.drew) _ g j hbw]; exact h
  have hOv : ∀ j v, w.cell? ⟨vb, j, none⟩ = some v → W1.cell? ⟨vb, j, none⟩ = some v := fun j v h => by rw [hW1, World.cell?_alloc_past (w := w.drew) _ vb j hvw]; exact h
  have hcpA : ∀ (W : World), (∀ x, W.cell? x = W1.cell? x) → (∀ x, W.frozen? x = W1.frozen? x) → ∀ ty dc, (Builtin.copy_ #[25, 25] ty #[.slice (some ⟨w.heap.size, i * 3, none⟩) (n + m - i) dc, .slice (some ⟨vb, 0, none⟩) m vc]).run Tryd.prog W = .ok (goInt (Nat.min m (n + m - i))) (W.setCells w.heap.size (i * 3) vs) := fun W hWc hWf ty dc =>
    run_copy_wide W _ _ ty 41 3 w.heap.size (i * 3) (n + m - i) dc ⟨vb, 0, none⟩ m vc vs Tryd.underlying25 hsz (by rw [hvl]; simp only [Nat.min_def]; split <;> omega)
      (fun j v hj => by rw [Addr.add_lit, hWc, Nat.zero_add]; exact hOv _ v (hvs j v hj))
      (fun j hj => by rw [hWc]; exact hN _ (by omega)) (fun j hj => by rw [hWf]; exact hNf _) h1v
  have hGn : n + m ≤ G := by rw [hG]; exact grownCap_ge w _ _ _
  have hG63 : G ≤ 9223372036854775807 := by
    have := grownCap_le_maxLen w (n + m) c 41 (by unfold maxLen; omega)
    rw [← hG] at this
    unfold maxLen at this
    omega
  have hGi : ¬ (G = i) := by omega
  have hGim : ¬ (G = i + m) := by omega
  have hci : ¬ (c = i) := by omega
  have hbN : g ≠ w.heap.size := by omega
  have hdl : (cs.drop (i * 3)).length = (n - i) * 3 := by rw [List.length_drop, hcl]; omega
  have hcpB : ∀ (W : World), (∀ x, W.cell? x = (W1.setCells w.heap.size (i * 3) vs).cell? x) → (∀ x, W.frozen? x = (W1.setCells w.heap.size (i * 3) vs).frozen? x) → ∀ ty dc sc, (Builtin.copy_ #[25, 25] ty #[.slice (some ⟨w.heap.size, (i + m) * 3, none⟩) (n + m - (i + m)) dc, .slice (some ⟨g, i * 3, none⟩) (n - i) sc]).run Tryd.prog W = .ok (goInt (Nat.min (n - i) (n + m - (i + m)))) (W.setCells w.heap.size ((i + m) * 3) (cs.drop (i * 3))) := fun W hWc hWf ty dc sc =>
    run_copy_wide W _ _ ty 41 3 w.heap.size ((i + m) * 3) (n + m - (i + m)) dc ⟨g, i * 3, none⟩ (n - i) sc (cs.drop (i * 3)) Tryd.underlying25 hsz (by rw [hdl]; simp only [Nat.min_def]; split <;> omega)
      (fun j v hj => by
        rw [Addr.add_lit, hWc, World.cell?_setCells_out _ _ _ _ _ (fun h _ => absurd h hbN)]
        exact hOb _ v (hcs (i * 3 + j) v (by rwa [List.getElem?_drop] at hj)))
      (fun j hj => by rw [hWc]; exact isSome_setCells w.heap.size vs (i * 3) W1 (fun q hq => hN (i * 3 + q) (by rw [hvl] at hq; omega)) _ (hN _ (by rw [hdl] at hj; omega)))
      (fun j hj => by rw [hWf, World.frozen?_setCells]; exact hNf _) (fun v hv => h1c v (List.mem_of_mem_drop hv))
  subst hW1
  have hE1 : ∀ x, ((w.alloc (.cells ROW 41)).drew).cell? x = (w.drew.alloc (.cells ROW 41)).cell? x := fun x => rfl
  have hE2 : ∀ x, ((w.alloc (.cells ROW 41)).drew).frozen? x = (w.drew.alloc (.cells ROW 41)).frozen? x := fun x => rfl
  have hF1 : ∀ x, (((w.alloc (.cells ROW 41)).drew.setCells w.heap.size (i * 3) vs).drew).cell? x = ((w.drew.alloc (.cells ROW 41)).setCells w.heap.size (i * 3) vs).cell? x := fun x => rfl
  have hF2 : ∀ x, (((w.alloc (.cells ROW 41)).drew.setCells w.heap.size (i * 3) vs).drew).frozen? x = ((w.drew.alloc (.cells ROW 41)).setCells w.heap.size (i * 3) vs).frozen? x := fun x => rfl
  have hw1 : IntKind.i64.wrap ((i : Int) + (m : Int)) = (i : Int) + (m : Int) := by rw [IntKind.wrap_i64]; omega
  have hb1 : (0 : Int) ≤ (i : Int) + (m : Int) := by omega
  have hin : i ≤ n := by omega
  have htn : ((i : Int) + (m : Int)).toNat = i + m := by omega
  have hb3 : (i : Int) ≤ (n : Int) := by omega
  clear hkk hik hold hROW hG hRl
  go_enter Tryd.func32, Tryd.ntmps32
  go_wp2_with (first
    | (at_builtin; refine Go.Lib.wpList_append_run _ rfl _ _ _ _ rfl _ _ rfl rfl _ _ (hrz _) ?_)
    | (at_builtin; refine wpList_copy_runI _ rfl _ _ 25 25 rfl _ _ rfl rfl (hcpA _ hE1 hE2 _ _) ?_)
    | (at_builtin; refine wpList_copy_runI _ rfl _ _ 25 25 rfl _ _ rfl rfl (hcpB _ (fun _ => rfl) (fun _ => rfl) _ _ _) ?_))
  go_region_law_o (refine step_copy_runI rfl _ _ 25 25 rfl (.slice (some ⟨w.heap.size, (i + m) * 3, none⟩) (n + m - (i + m)) (G - (i + m))) (.slice (some ⟨g, i * 3, none⟩) (n - i) (c - i)) (by simp [Act.eval, Act.put]) (by simp [Act.eval, Act.put]) (hcpB _ hF1 hF2 3 (G - (i + m)) (c - i)) ?_)
  go_wp2
  go_ret
  exact ⟨rfl, rfl⟩
end Go.Proofs.YtpigbffaacilfaaDoor.P
end
section
/- Rows of structs as rows of cells, and back; copy and clear over elements of several cells; slices.DeleteFunc and slices.Insert over what is kept; impl.SetKept. -/
namespace Go.Proofs.YtpigbffaacilfaaDoor.P
open Go.RowKit Go.Proofs.YtpigbffaacilfaaDoor.X Go.Proofs.YtpigbffaacilfaaDoorW.PrintWords Go.Proofs.YtpigbffaacilfaaDoorW.PrintLast Go.Proofs.YtpigbffaacilfaaDoorW.PrintMore
set_option linter.unusedVariables false
set_option linter.unusedSimpArgs false
theorem setCells_take {g e o : Nat} {vs : List Value} {W : World} {cur : Array Value} (hh : W.heap[g]? = some (.cells cur e (0, 0))) (hf : o + vs.length ≤ cur.size) : ∃ c2, (W.setCells g o vs).heap[g]? = some (.cells c2 e (0, 0)) ∧ c2.size = cur.size ∧ c2.toList.take o = cur.toList.take o ∧ (c2.toList.drop o).take vs.length = vs ∧ c2.toList.drop (o + vs.length) = cur.toList.drop (o + vs.length) := by
  obtain ⟨c2, h1, h2, h3⟩ := setCells_row vs o W cur hh hf
  have hl : (cur.toList.take o).length = o := by rw [List.length_take, Array.length_toList]; omega
  refine ⟨c2, h1, h2, ?_, ?_, ?_⟩
  · rw [h3, List.append_assoc, List.take_append_of_le_length (by omega), List.take_of_length_le (by omega)]
  · rw [h3, List.append_assoc, List.drop_left' hl, List.take_left' rfl]
  · rw [h3, List.drop_left' (by rw [List.length_append, hl])]
/-- Two writes, one behind the other, fill the row's head. -/
theorem two_writes {x1 x2 y : List Value} {a b : Nat} {p v s : List Value} (h1 : x1.take a = p) (h2 : (y.drop a).take v.length = v) (h2t : y.take a = x2.take a) (h2d : y.drop (a + v.length) = x2.drop (a + v.length)) (h3 : x2.take a = p) (h4 : (x2.drop (a + v.length)).take s.length = s) (hb : b = a + v.length + s.length) (ha : p.length = a) : y.take b = p ++ v ++ s := by
  subst hb
  have e : y = y.take a ++ ((y.drop a).take v.length ++ (y.drop (a + v.length))) := by
    rw [← List.drop_drop, List.take_append_drop, List.take_append_drop]
  rw [e, h2, h2t, h3, h2d, ← List.append_assoc, Nat.add_assoc, show a + (v.length + s.length) = (p ++ v).length + s.length from by rw [List.length_append, ha]; omega, List.take_length_add_append, h4]
theorem ins_len (ts : List CK) (c : CK) (i : Nat) (hi : i ≤ ts.length) : (ts.take i ++ c :: ts.drop i).length = ts.length + 1 := by
  rw [List.length_append, List.length_cons, List.length_take, List.length_drop]; omega
theorem ins_flat (ts : List CK) (c : CK) (i : Nat) : (ts.take i ++ c :: ts.drop i).flatMap ck = (ts.take i).flatMap ck ++ ck c ++ (ts.drop i).flatMap ck := by
  rw [List.flatMap_append, List.flatMap_cons, List.append_assoc]
theorem sk_insert.calls (ts : List CK) (c : CK) (A : Option Addr) (n cap base i vb : Nat) (w : World) (hR : RW w base (.slice A n cap) ts) (hi : i ≤ n) (hV : w.heap[vb]? = some (.cells #[.string c.1, c.2.1, .int .i64 c.2.2] 41 (0, 0))) (h1 : c.2.1.oneCell' = true)
    (hne : ∀ ad, A = some ad → ad.block ≠ vb) (hb : base ≤ w.heap.size) (hbig : (n + 1) * 48 ≤ 140737488355328) :
    Calls Tryd.prog 32 #[.slice A n cap, .int .i64 i, .slice (some ⟨vb, 0, none⟩) 1 1] w fun e w' => ∃ v', e = .returned v' ∧ RW w' base v' (ts.take i ++ c :: ts.drop i) ∧ w.grownBy w' (Value.slice A n cap).ownBlock ∧ (v'.ownBlock = (Value.slice A n cap).ownBlock ∨ ∃ b, v'.ownBlock = some b ∧ w.heap.size ≤ b) := by
  have hn := rw_len hR
  have hVR := box_row (base := 0) c h1 hV (Nat.zero_le _)
  by_cases hin : i = n
  · subst hin
    have := sk_ins_end ts c A i cap base vb w hR hVR hb hbig
    rw [List.take_of_length_le (by omega), List.drop_of_length_le (by omega)]
    exact this
  · obtain ⟨g, rfl, hgl, hgb⟩ := rw_form hR (by omega)
    obtain ⟨cur, hh, _, hc1, hc2, hsz, htk, _, hone⟩ := rw_open hR
    have hcl : (ts.flatMap ck).length = n * 3 := by rw [flat_len, ← hn]
    have hvl : (ck c).length = 1 * 3 := rfl
    have hcs : ∀ j v, (ts.flatMap ck)[j]? = some v → w.cell? ⟨g, j, none⟩ = some v := by
      intro j v hj
      rw [← htk, List.getElem?_take] at hj
      split at hj
      · rw [cell_of_row w g j cur 41 (0, 0) hh]; simpa using hj
      · cases hj
    have hvs : ∀ j v, (ck c)[j]? = some v → w.cell? ⟨vb, j, none⟩ = some v := by
      intro j v hj
      rw [cell_of_row w vb j _ 41 (0, 0) hV]
      simpa [ck] using hj
    have h1c : ∀ v ∈ ts.flatMap ck, v.oneCell' = true := by
      intro v hv
      obtain ⟨x, hx, hv⟩ := List.mem_flatMap.1 hv
      exact one_ck x (hone x hx) v hv
    have h1v := one_ck c h1
    have hd : (ts.flatMap ck).drop (i * 3) = (ts.drop i).flatMap ck := flat_drop ts i
    have hdl : ((ts.drop i).flatMap ck).length = (n - i) * 3 := by rw [flat_len, List.length_drop, ← hn]
    have htl : ((ts.take i).flatMap ck).length = i * 3 := by rw [flat_len, List.length_take]; omega
    have hnew : ∀ x ∈ ts.take i ++ c :: ts.drop i, x.2.1.oneCell' = true := by
      intro x hx
      rcases List.mem_append.1 hx with hx | hx
      · exact hone x (List.mem_of_mem_take hx)
      · rcases List.mem_cons.1 hx with rfl | hx
        · exact h1
        · exact hone x (List.mem_of_mem_drop hx)
    have hil := ins_len ts c i (by omega)
    by_cases hroom : n + 1 ≤ cap
    · refine (sk_ins_shift g n cap i vb 1 1 (ts.flatMap ck) (ck c) w (by omega) (by omega) hroom (by unfold maxLen at hc2; omega) (fun e => hne _ rfl e.symm) hcl hvl hcs (fun j hj => by rw [cell_of_row w g j cur 41 (0, 0) hh, Array.getElem?_eq_getElem (by omega)]; rfl) (fun j => blk_frozen hh _) hvs h1c h1v
        41 41 3 cur.size (by simp [World.shape?, hV]) (by simp [World.shape?, hh]) (by omega) (blk_frozen hV _) (blk_frozen hV _)).mono ?_
      rintro e w' ⟨rfl, rfl⟩
      obtain ⟨c1, a1, a2, a3, a4, a5⟩ := setCells_take (W := w.drew) (o := (i + 1) * 3) (vs := (ts.flatMap ck).drop (i * 3)) hh (by rw [hd, hdl, hsz]; omega)
      obtain ⟨c2, b1, b2, b3, b4, b5⟩ := setCells_take (o := i * 3) (vs := ck c) a1 (by rw [a2, hsz, hvl]; omega)
      have hg : w.grownBy ((w.drew.setCells g ((i + 1) * 3) ((ts.flatMap ck).drop (i * 3))).setCells g (i * 3) (ck c)) (some g) := by
        have q1 := setCells_grown w.drew g ((i + 1) * 3) ((ts.flatMap ck).drop (i * 3))
        have q2 := World.grownBy.andThen q1 (setCells_grown _ g (i * 3) (ck c)) (fun q hq => .inr hq)
        exact ⟨q2.os, q2.tape, q2.output, q2.size, q2.block⟩
      refine ⟨_, rfl, ?_, hg, .inl rfl⟩
      have hkey : c2.toList.take ((n + 1) * 3) = (ts.take i).flatMap ck ++ ck c ++ (ts.drop i).flatMap ck := by
        have e1 : c1.toList.take (i * 3) = (ts.take i).flatMap ck := by
          have := congrArg (List.take (i * 3)) a3
          rw [List.take_take, List.take_take, Nat.min_eq_left (by omega)] at this
          rw [this, ← flat_take, ← htk, List.take_take, Nat.min_eq_left (by omega)]
        rw [hd] at a4
        exact two_writes (x1 := c1.toList) (x2 := c1.toList) (a := i * 3) e1 b4 b3 b5 e1 (by rw [hvl, show i * 3 + 1 * 3 = (i + 1) * 3 from by omega]; exact a4) (by rw [hvl, hdl]; omega) htl
      have := rw_make (ts := ts.take i ++ c :: ts.drop i) (cap := cap) b1 hgb (by rw [hil]; omega) hc2 (by rw [b2, a2, hsz]) (by rw [hil, ins_flat, ← hn]; exact hkey) hnew
      rwa [hil, ← hn] at this
    · refine (sk_ins_grow g n cap i vb 1 1 (ts.flatMap ck) (ck c) w (by omega) (by omega) hc1 (by omega) hbig hcl hvl hcs hvs h1c h1v).mono ?_
      rintro e w' ⟨rfl, rfl⟩
      have hGe : n + 1 ≤ grownCap w (n + 1) cap 41 := grownCap_ge w _ _ _
      have hGm : grownCap w (n + 1) cap 41 ≤ maxLen := grownCap_le_maxLen w (n + 1) cap 41 (by unfold maxLen; omega)
      generalize hGG : grownCap w (n + 1) cap 41 = G at hGe hGm
      have hRs : (((ts.flatMap ck).take (i * 3)).toArray ++ Builtin.zeroCells (Value.agg zK).cells (n + 1 - i) ++ Builtin.zeroCells (Value.agg zK).cells (G - (n + 1))).size = G * 3 := by
        simp [Builtin.zeroCells, Value.cells, hcl]
        omega
      have hRt : (((ts.flatMap ck).take (i * 3)).toArray ++ Builtin.zeroCells (Value.agg zK).cells (n + 1 - i) ++ Builtin.zeroCells (Value.agg zK).cells (G - (n + 1))).toList.take (i * 3) = (ts.take i).flatMap ck := by
        rw [Array.toList_append, Array.toList_append, List.append_assoc, List.take_left' (by rw [List.toList_toArray, flat_take, htl]), List.toList_toArray, flat_take]
      generalize ((ts.flatMap ck).take (i * 3)).toArray ++ Builtin.zeroCells (Value.agg zK).cells (n + 1 - i) ++ Builtin.zeroCells (Value.agg zK).cells (G - (n + 1)) = ROW at hRs hRt
      have h0 : ((w.alloc (.cells ROW 41)).drew).heap[w.heap.size]? = some (.cells ROW 41 (0, 0)) := blk_new w _
      obtain ⟨c1, a1, a2, a3, a4, a5⟩ := setCells_take (o := i * 3) (vs := ck c) h0 (by rw [hvl, hRs]; omega)
      obtain ⟨c2, b1, b2, b3, b4, b5⟩ := setCells_take (W := (((w.alloc (.cells ROW 41)).drew).setCells w.heap.size (i * 3) (ck c)).drew) (o := (i + 1) * 3) (vs := (ts.flatMap ck).drop (i * 3)) a1 (by rw [hd, hdl, a2, hRs]; omega)
      have hg : w.grownBy (((((w.alloc (.cells ROW 41)).drew).setCells w.heap.size (i * 3) (ck c)).drew).setCells w.heap.size ((i + 1) * 3) ((ts.flatMap ck).drop (i * 3))) (some g) := by
        have q0 : w.grownBy (w.alloc (.cells ROW 41)).drew (some g) := by
          have hb0 := below_drew (below_alloc (Below.refl w.heap.size w) (.cells ROW 41))
          exact ⟨hb0.os, hb0.tape, hb0.output, hb0.size, fun k hk _ => hb0.block k hk⟩
        have q1 := World.grownBy.andThen q0 (setCells_grown _ w.heap.size (i * 3) (ck c)) (fun q hq => .inl (by injection hq with hq; omega))
        have q2 : w.grownBy ((((w.alloc (.cells ROW 41)).drew).setCells w.heap.size (i * 3) (ck c)).drew) (some g) := ⟨q1.os, q1.tape, q1.output, q1.size, q1.block⟩
        exact World.grownBy.andThen q2 (setCells_grown _ w.heap.size ((i + 1) * 3) ((ts.flatMap ck).drop (i * 3))) (fun q hq => .inl (by injection hq with hq; omega))
      refine ⟨_, rfl, ?_, hg, .inr ⟨w.heap.size, rfl, Nat.le_refl _⟩⟩
      have hkey : c2.toList.take ((n + 1) * 3) = ((ts.take i).flatMap ck ++ ck c) ++ (ts.drop i).flatMap ck := by
        have e1 : c1.toList.take ((i + 1) * 3) = (ts.take i).flatMap ck ++ ck c := by
          have e2 : c1.toList = c1.toList.take (i * 3) ++ (c1.toList.drop (i * 3)) := (List.take_append_drop _ _).symm
          rw [e2, a3, hRt, show (i + 1) * 3 = ((ts.take i).flatMap ck).length + (ck c).length from by rw [htl, hvl]; omega, List.take_length_add_append, a4]
        have e3 : c2.toList = c2.toList.take ((i + 1) * 3) ++ c2.toList.drop ((i + 1) * 3) := (List.take_append_drop _ _).symm
        rw [hd] at b4
        rw [e3, b3, e1, show (n + 1) * 3 = ((ts.take i).flatMap ck ++ ck c).length + ((ts.drop i).flatMap ck).length from by rw [List.length_append, htl, hvl, hdl]; omega, List.take_length_add_append, b4]
      have := rw_make (ts := ts.take i ++ c :: ts.drop i) (cap := G) b1 hb (by rw [hil]; omega) hGm (by rw [b2, a2, hRs]) (by rw [hil, ins_flat, ← hn]; exact hkey) hnew
      rwa [hil, ← hn] at this
end Go.Proofs.YtpigbffaacilfaaDoor.P
end
section
/- Rows of structs as rows of cells, and back; copy and clear over elements of several cells; slices.DeleteFunc and slices.Insert over what is kept; impl.SetKept. -/
namespace Go.Proofs.YtpigbffaacilfaaDoor.P
open Go.RowKit Go.Proofs.YtpigbffaacilfaaDoor.X Go.Proofs.YtpigbffaacilfaaDoorW.PrintWords Go.Proofs.YtpigbffaacilfaaDoorW.PrintLast Go.Proofs.YtpigbffaacilfaaDoorW.PrintMore
set_option linter.unusedVariables false
set_option linter.unusedSimpArgs false
/-- Elements, each with its cells and its own blocks. -/
abbrev UK := S41 × CK × (Nat → Prop)
def UGood (W : World) (base : Nat) (okk : Nat → Prop) (us : List UK) : Prop :=
  (∀ u ∈ us, u.2.1.1 = u.1.f0 ∧ u.2.1.2.2 = u.1.f2 ∧ (Kd.int .u8).R 5 W base u.2.2 u.2.1.2.1 u.1.f1 ∧ ∀ k, u.2.2 k → okk k) ∧ us.Pairwise (fun a b => ∀ k, a.2.2 k → ¬ b.2.2 k)
theorem us_open {W : World} {base : Nat} {ok : Nat → Prop} {v : Value} {xs : List S41} (h : Kd.S k41 41 W base ok v xs) :
    ∃ us : List UK, us.map (fun u => u.1) = xs ∧ RW W base v (us.map (fun u => u.2.1)) ∧ UGood W base (fun k => ok k ∧ some k ≠ v.ownBlock) us := by
  obtain ⟨f, rows, hl, hR, hM⟩ := S_open h
  have hM' : ∀ j x, xs[j]? = some x → ∃ v1, rows[j]? = some (ck (x.f0, v1, x.f2)) ∧ (Kd.int .u8).R 5 W base (fun k => (ok k ∧ some k ≠ v.ownBlock) ∧ f k = j) v1 x.f1 := by
    intro j x hx
    obtain ⟨c, hc, hm⟩ := hM j x hx
    obtain ⟨v1, rfl, hr⟩ := k41_openM hm
    exact ⟨v1, hc, hr⟩
  clear hM
  suffices hs : ∀ (n : Nat) (ys : List S41) (rs : List (List Value)), rs.length = ys.length → (∀ j x, ys[j]? = some x → ∃ v1, rs[j]? = some (ck (x.f0, v1, x.f2)) ∧ (Kd.int .u8).R 5 W base (fun k => (ok k ∧ some k ≠ v.ownBlock) ∧ f k = n + j) v1 x.f1) →
      ∃ us : List UK, us.map (fun u => u.1) = ys ∧ (us.map (fun u => u.2.1)).map ck = rs ∧ UGood W base (fun k => ok k ∧ some k ≠ v.ownBlock) us ∧ ∀ u ∈ us, ∀ k, u.2.2 k → n ≤ f k by
    obtain ⟨us, h1, h2, h3, _⟩ := hs 0 xs rows hl (fun j x hx => by rw [Nat.zero_add]; exact hM' j x hx)
    refine ⟨us, h1, ?_, h3⟩
    unfold RW
    rw [h2]
    exact hR
  intro n ys
  induction ys generalizing n with
  | nil =>
    intro rs hrs _
    refine ⟨[], rfl, (List.eq_nil_of_length_eq_zero hrs).symm, ⟨fun u hu => (by cases hu), List.Pairwise.nil⟩, fun u hu => (by cases hu)⟩
  | cons y r ih =>
    intro rs hrs hm
    cases rs with
    | nil => simp at hrs
    | cons c cs =>
      obtain ⟨v1, hc, hr⟩ := hm 0 y rfl
      have hc' : c = ck (y.f0, v1, y.f2) := by simpa using hc
      subst hc'
      obtain ⟨us, h1, h2, h3, h4⟩ := ih (n + 1) cs (by simpa using hrs) (fun j x hx => by
        obtain ⟨v2, e2, r2⟩ := hm (j + 1) x (by simpa using hx)
        exact ⟨v2, by simpa using e2, Kd.R_mono r2 (fun k hk => ⟨hk.1, by rw [hk.2]; omega⟩)⟩)
      refine ⟨(y, (y.f0, v1, y.f2), fun k => (ok k ∧ some k ≠ v.ownBlock) ∧ f k = n) :: us, by rw [List.map_cons, h1], by rw [List.map_cons, List.map_cons, h2], ⟨?_, List.Pairwise.cons ?_ h3.2⟩, ?_⟩
      · intro u hu
        rcases List.mem_cons.1 hu with rfl | hu
        · exact ⟨rfl, rfl, hr, fun k hk => hk.1⟩
        · exact h3.1 u hu
      · intro b hb k hk hk2
        have := h4 b hb k hk2
        have := hk.2
        omega
      · intro u hu k hk
        rcases List.mem_cons.1 hu with rfl | hu
        · have := hk.2; omega
        · have := h4 u hu k hk; omega
theorem us_close {W : World} {base : Nat} {ok : Nat → Prop} {v : Value} (us : List UK) (hR : RW W base v (us.map (fun u => u.2.1))) (hG : UGood W base (fun k => ok k ∧ some k ≠ v.ownBlock) us) (hown : ∀ k, v.ownBlock = some k → ok k) : Kd.S k41 41 W base ok v (us.map (fun u => u.1)) := by
  refine S_close (d := k41) hR (us.map (fun u => u.1)) (by simp) (fun j k => ∃ u, us[j]? = some u ∧ u.2.2 k) ?_ ?_ hown ?_
  · rintro i j k ⟨u, hu, huk⟩ ⟨u', hu', huk'⟩
    obtain ⟨hi, rfl⟩ := List.getElem?_eq_some_iff.1 hu
    obtain ⟨hj, rfl⟩ := List.getElem?_eq_some_iff.1 hu'
    have hp := List.pairwise_iff_getElem.1 hG.2
    rcases Nat.lt_trichotomy i j with h | h | h
    · exact absurd huk' (hp i j hi hj h k huk)
    · exact h
    · exact absurd huk (hp j i hj hi h k huk')
  · rintro j k ⟨u, hu, huk⟩
    obtain ⟨hi, rfl⟩ := List.getElem?_eq_some_iff.1 hu
    exact (hG.1 _ (List.getElem_mem hi)).2.2.2 k huk
  · intro j x c hx hc
    rw [List.getElem?_map] at hx
    obtain ⟨u, hu, rfl⟩ := Option.map_eq_some_iff.1 hx
    rw [List.getElem?_map, List.getElem?_map, hu] at hc
    have hc' : c = ck u.2.1 := by simpa using hc.symm
    subst hc'
    obtain ⟨hi, hg⟩ := List.getElem?_eq_some_iff.1 hu
    obtain ⟨e1, e2, hr, _⟩ := hG.1 u (by rw [← hg]; exact List.getElem_mem hi)
    have : ck u.2.1 = [.string u.1.f0, u.2.1.2.1, .int .i64 u.1.f2] := by unfold ck; rw [e1, e2]
    rw [this]
    exact k41_mkM W base _ u.1 (Kd.R_mono hr (fun k hk => ⟨u, hu, hk⟩))
theorem UGood.grown {W w1 : World} {base : Nat} {okk okk' : Nat → Prop} {us : List UK} {row : Option Nat} (h : UGood W base okk us) (hg : W.grownBy w1 row) (hne : ∀ k, okk k → some k ≠ row) (hok : ∀ k, okk k → okk' k) : UGood w1 base okk' us :=
  ⟨fun u hu => ⟨(h.1 u hu).1, (h.1 u hu).2.1, Kd.R_grown (h.1 u hu).2.2.1 hg (fun k hk => hne k ((h.1 u hu).2.2.2 k hk)), fun k hk => hok k ((h.1 u hu).2.2.2 k hk)⟩, h.2⟩
/-- What is kept but for one topic. -/
def dropK (t : ByteArray) (xs : List S41) : List S41 := xs.filter (fun x => !(x.f0.toList == t.toList))
theorem set_delete.calls (B : Nat) (t : ByteArray) (xs : List S41) (n cap base : Nat) (A : Option Addr) (W : World) (hS : Kd.S k41 41 W base (fun _ => True) (.slice A n cap) xs) (hB : W.cell? ⟨B, 0, none⟩ = some (.string t)) (hne : ∀ ad, A = some ad → ad.block ≠ B) :
    Calls Tryd.prog 30 #[.slice A n cap, .func (.func 31) #[] #[.pointer (some ⟨B, 0, none⟩)]] W fun e w' => ∃ v', e = .returned v' ∧ Kd.S k41 41 w' base (fun _ => True) v' (dropK t xs) ∧ W.grownBy w' (Value.slice A n cap).ownBlock := by
  obtain ⟨us, rfl, hR, hG⟩ := us_open hS
  refine (sk_delete.calls B t _ A n cap base W hR hB hne).mono ?_
  rintro e w' ⟨m, rfl, hR', hg⟩
  refine ⟨_, rfl, ?_, hg⟩
  have hf : (us.map (fun u => u.2.1)).filter (kp t) = (us.filter (fun u => kp t u.2.1)).map (fun u => u.2.1) := by rw [List.filter_map]; rfl
  rw [hf] at hR'
  have hx : dropK t (us.map (fun u => u.1)) = (us.filter (fun u => kp t u.2.1)).map (fun u => u.1) := by
    unfold dropK
    rw [List.filter_map]
    congr 1
    refine List.filter_congr (fun u hu => ?_)
    unfold kp hitK
    rw [(hG.1 u hu).1]
    rfl
  rw [hx]
  have hG2 := hG.grown (okk' := fun k => True ∧ some k ≠ (Value.slice A m cap).ownBlock) hg (fun k hk => hk.2) (fun k hk => ⟨trivial, by cases A <;> exact hk.2⟩)
  exact us_close _ hR' ⟨fun u hu => hG2.1 u (List.mem_filter.1 hu).1, hG2.2.filter _⟩ (fun _ _ => trivial)
theorem set_insert.calls (xs : List S41) (x : S41) (vj : Value) (i n cap base N vb : Nat) (A : Option Addr) (W : World) (hS : Kd.S k41 41 W base (fun k => k < N) (.slice A n cap) xs) (hJ : (Kd.int .u8).R 5 W base (fun k => N ≤ k) vj x.f1) (hi : i ≤ n) (hN : N ≤ W.heap.size)
    (hV : W.heap[vb]? = some (.cells #[.string x.f0, vj, .int .i64 x.f2] 41 (0, 0))) (hvb : N ≤ vb) (hb : base ≤ W.heap.size) (hbig : (n + 1) * 48 ≤ 140737488355328) :
    Calls Tryd.prog 32 #[.slice A n cap, .int .i64 i, .slice (some ⟨vb, 0, none⟩) 1 1] W fun e w' => ∃ v', e = .returned v' ∧ Kd.S k41 41 w' base (fun _ => True) v' (xs.take i ++ x :: xs.drop i) ∧ W.grownBy w' (Value.slice A n cap).ownBlock := by
  obtain ⟨us, rfl, hR, hG⟩ := us_open hS
  have hown : ∀ g, (Value.slice A n cap).ownBlock = some g → g < N := fun g hg => (Kd.S_R hS).1 g hg
  refine (sk_insert.calls _ (x.f0, vj, x.f2) A n cap base i vb W hR hi hV (Kd.R_val hJ).2 (fun ad e he => ?_) hb hbig).mono ?_
  · have := hown ad.block (by rw [e]; rfl)
    omega
  · rintro e w' ⟨v', rfl, hR', hg, hat⟩
    refine ⟨_, rfl, ?_, hg⟩
    have hJ' := Kd.R_grown (Kd.R_bound hJ) hg (fun k hk he => by have := hown k he.symm; have := hk.1; omega)
    have hv' : ∀ k, k < W.heap.size → some k ≠ (Value.slice A n cap).ownBlock → some k ≠ v'.ownBlock := by
      intro k hk hne he
      rcases hat with h | ⟨b, h, hb⟩
      · exact hne (by rw [he, h])
      · rw [h] at he
        injection he with he
        omega
    have hG2 := hG.grown (okk' := fun k => k < N ∧ some k ≠ v'.ownBlock) hg (fun k hk => hk.2) (fun k hk => ⟨hk.1, hv' k (by have := hk.1; omega) hk.2⟩)
    have hxs : ((us.map (fun u => u.1)).take i ++ x :: (us.map (fun u => u.1)).drop i) = (us.take i ++ (x, (x.f0, vj, x.f2), fun k => N ≤ k ∧ some k ≠ v'.ownBlock) :: us.drop i).map (fun u => u.1) := by
      rw [List.map_append, List.map_cons, List.map_take, List.map_drop]
    have hts : ((us.map (fun u => u.2.1)).take i ++ (x.f0, vj, x.f2) :: (us.map (fun u => u.2.1)).drop i) = (us.take i ++ (x, (x.f0, vj, x.f2), fun k => N ≤ k ∧ some k ≠ v'.ownBlock) :: us.drop i).map (fun u => u.2.1) := by
      rw [List.map_append, List.map_cons, List.map_take, List.map_drop]
    rw [hts] at hR'
    rw [hxs]
    refine us_close _ hR' ⟨fun u hu => ?_, ?_⟩ (fun _ _ => trivial)
    · have hu' : u = (x, (x.f0, vj, x.f2), fun k => N ≤ k ∧ some k ≠ v'.ownBlock) ∨ u ∈ us := by
        rcases List.mem_append.1 hu with hu | hu
        · exact .inr (List.mem_of_mem_take hu)
        · rcases List.mem_cons.1 hu with hu | hu
          · exact .inl hu
          · exact .inr (List.mem_of_mem_drop hu)
      rcases hu' with rfl | hu'
      · refine ⟨rfl, rfl, Kd.R_mono hJ' (fun k hk => ⟨hk.1, hv' k hk.2.2.1 (fun he => ?_)⟩), fun k hk => ⟨trivial, hk.2⟩⟩
        have := hown k he.symm
        have := hk.1
        omega
      · obtain ⟨a1, a2, a3, a4⟩ := hG2.1 u hu'
        exact ⟨a1, a2, a3, fun k hk => ⟨trivial, (a4 k hk).2⟩⟩
    · refine (List.Perm.pairwise_iff (fun {a b} hab k hb ha => hab k ha hb) (List.perm_middle.trans (List.Perm.cons _ (by rw [List.take_append_drop])))).2 (List.Pairwise.cons (fun b hb k hk hk2 => ?_) hG2.2)
      have := ((hG2.1 b hb).2.2.2 k hk2).1
      have := hk.1
      omega
end Go.Proofs.YtpigbffaacilfaaDoor.P
end
section
/- Rows of structs as rows of cells, and back; copy and clear over elements of several cells; slices.DeleteFunc and slices.Insert over what is kept; impl.SetKept. -/
namespace Go.Proofs.YtpigbffaacilfaaDoor.P
open Go.RowKit Go.Proofs.YtpigbffaacilfaaDoor.X Go.Proofs.YtpigbffaacilfaaDoorW.PrintWords Go.Proofs.YtpigbffaacilfaaDoorW.PrintLast Go.Proofs.YtpigbffaacilfaaDoorW.PrintMore
set_option linter.unusedVariables false
set_option linter.unusedSimpArgs false
section
variable {P : Program} {md : Region.Mode} {ops : Array Oper} {Q : Exit → Act → World → Prop} {S : World → Prop} {ds : List Nat} {fuel : Nat} {l : Array Bool} {a a' : Act} {w : World} {oi : Oper} {v : Value}
/-- The same without a table. -/
theorem py_ (i N : Nat) (l' : Array Bool) (h : wpAnyLast P md ops Q S ds fuel l' a' w) (hi : ops[i]? = some oi := by exact rfl) (hN : oi.dst = some N := by exact rfl) (hc : anyB md ops l l' i = true := by kernel_rfl)
    (hQ : ∀ c a w, Q (.panic c) (a.put oi.dst v) w → Q (.panic c) a w := by exact fun _ _ _ h => h) (hw : Region.wanted oi (yielded ops a.tmps) = true := by rfl) (hy : ∀ w', (execOp a.eval oi).run P w' = .ok (.value v) w' := by (intro w'; go_simp; with_reducible rfl))
    (ha : a.put (some N) v = a' := by (simp only [Act.put, List.setIfInBounds_toArray, List.set_cons_zero, List.set_cons_succ, i64_w, i32_w]; rfl)) : wpAnyLast P md ops Q S ds (fuel + 1) l a w :=
  pure_ l' hi hN hc hQ (Or.inl ⟨hw, hy⟩) ha h
theorem ty_ (hS : S w) (i N : Nat) (l' : Array Bool) (h : wpAnyLast P md ops Q S ds fuel l' a' w) (hi : ops[i]? = some oi := by exact rfl) (hN : oi.dst = some N := by exact rfl) (hc : takeB md ops ds l l' i = true := by kernel_rfl)
    (hQ : ∀ c a w, Q (.panic c) (a.put oi.dst v) w → Q (.panic c) a w := by exact fun _ _ _ h => h) (hw : Region.wanted oi (yielded ops a.tmps) = true := by rfl) (hy : ∀ w', S w' → (execOp a.eval oi).run P w' = .ok (.value v) w' := by (intro w' hs; (try dsimp only at hs); go_simp; with_reducible rfl))
    (ha : a.put (some N) v = a' := by (simp only [Act.put, List.setIfInBounds_toArray, List.set_cons_zero, List.set_cons_succ, i64_w, i32_w]; rfl)) : wpAnyLast P md ops Q S ds (fuel + 1) l a w :=
  take_ l' hi hN hc hQ (Or.inl ⟨hw, hy⟩) hS ha h
end
def insK (x : S41) : List S41 → List S41
  | [] => [x]
  | y :: r => if Op.bytesLess y.f0.toList x.f0.toList = true then y :: insK x r else x :: y :: r
theorem insK_at (x : S41) : ∀ (l : List S41) (i : Nat), i ≤ l.length → (∀ j y, j < i → l[j]? = some y → Op.bytesLess y.f0.toList x.f0.toList = true) → (∀ y, l[i]? = some y → Op.bytesLess y.f0.toList x.f0.toList = false) → insK x l = l.take i ++ x :: l.drop i
  | [], i, hi, _, _ => by
    have : i = 0 := by simpa using hi
    subst this
    rfl
  | y :: r, 0, _, _, hn => by
    have := hn y rfl
    show (if _ then _ else _) = _
    rw [this, if_neg (by decide)]
    rfl
  | y :: r, i + 1, hi, hl, hn => by
    have h0 := hl 0 y (by omega) rfl
    show (if _ then _ else _) = _
    rw [if_pos h0, insK_at x r i (by simpa using hi) (fun j z hj hz => hl (j + 1) z (by omega) (by simpa using hz)) (fun z hz => hn z (by simpa using hz))]
    rfl
theorem insK_len (x : S41) (l : List S41) : (insK x l).length = l.length + 1 := by
  induction l with
  | nil => rfl
  | cons y r ih =>
    show (if _ then y :: insK x r else x :: y :: r).length = _
    split
    · rw [List.length_cons, ih, List.length_cons]
    · rfl
theorem heapK : Kd.Heap k41 := Kd.heap_iso _ (Kd.heap_pair Kd.heap_string (Kd.heap_pair (Kd.heap_slice _ (Kd.heap_int _)) (Kd.heap_int _)))
def impl_SetKept.bad (k : Nat) (l0 : List S41) (a1 : ByteArray) (l2 : List Int) (a3 : Int) : Option Bool := (impl_KeptOk.f k l0).bind fun b => if b = true then ((impl_TopicOk.f a1).bind fun b => if b = true then (if (l2.length : Int) > 40 then some true else (impl_isQos.f a3).bind fun b => some (!b)) else some true) else some true
def impl_SetKept.fin (k : Nat) (l0 out : List S41) : Option (List S41 × Bool) := (impl_KeptOk.f k out).bind fun b => if b = true then some (out, true) else (impl_copyKept.f k l0).bind fun c => some (c, false)
/-- impl.SetKept: what is kept but for the topic's own, and the new one in its place. -/
def impl_SetKept.f (k : Nat) (l0 : List S41) (a1 : ByteArray) (l2 : List Int) (a3 : Int) : Option (List S41 × Bool) := (impl_SetKept.bad k l0 a1 l2 a3).bind fun b => if b = true then ((impl_copyKept.f k l0).bind fun c => some (c, false)) else ((impl_copyKept.f k l0).bind fun c => if (l2.length : Int) > 0 then ((impl_joined.f k [l2]).bind fun j => if (c.length + 2) * 48 ≤ 140737488355328 then impl_SetKept.fin k l0 (insK ⟨a1, j, a3⟩ (dropK a1 c)) else none) else impl_SetKept.fin k l0 (dropK a1 c))
theorem impl_SetKept.mono : ∀ a0 a1 a2 a3 k, LeO (impl_SetKept.f k a0 a1 a2 a3) (impl_SetKept.f (k + 1) a0 a1 a2 a3) := by
  intro a0 a1 a2 a3 k
  unfold impl_SetKept.f impl_SetKept.bad impl_SetKept.fin
  repeat' first
      | (with_reducible exact impl_KeptOk.mono _ _)
      | (with_reducible exact impl_copyKept.mono _ _)
      | (with_reducible exact impl_joined.mono _ _)
      | (with_reducible exact LeO.refl _)
      | (with_reducible exact LeO.none _)
      | (with_reducible refine LeO.ite ?_ ?_)
      | (with_reducible refine LeO.bind ?_ (fun _ => ?_))
      | exact LeO.refl _
theorem below_own {w W w1 : World} {v : Value} {base : Nat} (hB : Below w.heap.size w W) (hg : W.grownBy w1 v.ownBlock) (hbase : ∀ k, v.ownBlock = some k → base ≤ k) (hle : w.heap.size ≤ base) : Below w.heap.size w w1 :=
  ⟨hg.os.trans hB.os, hg.tape.trans hB.tape, hg.output.trans hB.output, Nat.le_trans hB.size hg.size, fun k hk => (hg.block k (Nat.lt_of_lt_of_le hk hB.size) (fun e => by have := hbase k e.symm; omega)).trans (hB.block k hk)⟩
set_option maxHeartbeats 8000000 in
set_option maxRecDepth 100000 in
theorem impl_SetKept.calls (k : Nat) (A0 : Option Addr) (c0 : Nat) (l0 : List S41) (a1 : ByteArray) (A2 : Option Addr) (c2 : Nat) (l2 : List Int) (a3 : Int) (r1 : List S41) (r2 : Bool) (w : World) (hr0 : Kd.C k41 w A0 l0.length l0) (hc0 : l0.length ≤ c0) (hr2 : Kd.C (Kd.int .u8) w A2 l2.length l2) (hc2 : l2.length ≤ c2) (hT : Tabs w) (h : impl_SetKept.f k l0 a1 l2 a3 = some (r1, r2)) :
    Calls Tryd.prog 9 #[.slice A0 l0.length c0, .string a1, .slice A2 l2.length c2, .int .i64 a3] w fun e w' => ∃ v0_ : Value, e = .returned (.tuple #[v0_, .bool r2]) ∧ Kd.S k41 41 w' w.heap.size (fun _ => True) v0_ r1 ∧ Below w.heap.size w w' := by
  have hu1 := Tryd.underlying41
  have HT := Aside0.mk hT
  have HR0 := Aside0.mk hr0
  have HC0 := Aside0.mk hc0
  have HR2 := Aside0.mk hr2
  have HC2 := Aside0.mk hc2
  have HB := Aside0.mk (Below.refl w.heap.size w)
  clear hT hr0 hc0 hr2 hc2
  unfold impl_SetKept.f at h
  obtain ⟨bad, A1_, h2⟩ := Option.bind_eq_some_iff.mp h
  clear h
  have A1 := Aside0.mk A1_
  have H' := Aside0.mk h2
  clear A1_ h2
  go_enter Tryd.func9, Tryd.ntmps9
  go_upto_region 1 with (first | ((with_reducible refine gate_dst (N := 5) rfl ?_); refine box_event ?hg (N := 5) ?hd (cs := #[.string a1]) (t := 9) ?hr ?_; (case hd => rfl); (case hg => rfl); (case hr => first | (go_simp; done) | (go_simp; rfl)); intro gb hg w1 hbox hb; have BK := Aside0.mk hbox; have GB := Aside0.mk (Nat.le_of_eq hg.symm); replace HB := Aside0.mk (below_step HB.out hb); clear hbox hg hb))
  go_cut [29] (fun v29 wc => v29 = .bool bad ∧ Aside0 (Below w.heap.size w wc) ∧ Aside0 (wc.heap[gb]? = some (.cells #[.string a1] 9 (0, 0))))
  case first =>
    clear H'
    have hbx : w1.cell? ⟨gb, 0, none⟩ = some (.string a1) := (blk_cell BK.out 0).trans rfl
    have A := A1.out
    clear A1
    unfold impl_SetKept.bad at A
    obtain ⟨b1, B1_, A2⟩ := Option.bind_eq_some_iff.mp A
    clear A
    have B1 := Aside0.mk B1_
    clear B1_
    cases b1 with
    | false =>
      rw [if_neg (by decide)] at A2
      obtain rfl := Option.some.inj A2
      clear A2
      go_wp2_with (first | (go_at_call 17; (with_reducible refine (impl_KeptOk.calls k _ _ l0 false _ ?side1 ?side2 ?side3 B1.out).mono ?_); (case side1 => exact Kd.C_below HR0.out HB.out); (case side2 => exact HC0.out); (case side3 => exact Tabs.below HT.out HB.out); rintro e w2 ⟨rfl, hb⟩; replace HB := Aside0.mk (below_step HB.out hb); replace BK := Aside0.mk (blk_below BK.out hb); clear hbx; have hbx : w2.cell? ⟨gb, 0, none⟩ = some (.string a1) := (blk_cell BK.out 0).trans rfl; clear hb))
      go_meet
      case rel => exact ⟨by first | rfl | (simp; done) | (simp [*]; done), ⟨HB.out⟩, ⟨BK.out⟩⟩
    | true =>
      rw [if_pos rfl] at A2
      obtain ⟨b2, B2_, A3⟩ := Option.bind_eq_some_iff.mp A2
      clear A2
      have B2 := Aside0.mk B2_
      clear B2_
      cases b2 with
      | false =>
        rw [if_neg (by decide)] at A3
        obtain rfl := Option.some.inj A3
        clear A3
        go_wp2_with (first | (go_at_call 17; (with_reducible refine (impl_KeptOk.calls k _ _ l0 true _ ?side1 ?side2 ?side3 B1.out).mono ?_); (case side1 => exact Kd.C_below HR0.out HB.out); (case side2 => exact HC0.out); (case side3 => exact Tabs.below HT.out HB.out); rintro e w2 ⟨rfl, hb⟩; replace HB := Aside0.mk (below_step HB.out hb); replace BK := Aside0.mk (blk_below BK.out hb); clear hbx; have hbx : w2.cell? ⟨gb, 0, none⟩ = some (.string a1) := (blk_cell BK.out 0).trans rfl; clear hb) | (go_at_call 27; (with_reducible refine (impl_TopicOk.calls a1 false _ ?side1 B2.out).mono ?_); (case side1 => exact Tabs.below HT.out HB.out); rintro e w3 ⟨rfl, hb⟩; replace HB := Aside0.mk (below_step HB.out hb); replace BK := Aside0.mk (blk_below BK.out hb); clear hbx; have hbx : w3.cell? ⟨gb, 0, none⟩ = some (.string a1) := (blk_cell BK.out 0).trans rfl; clear hb))
        go_meet
        case rel => exact ⟨by first | rfl | (simp; done) | (simp [*]; done), ⟨HB.out⟩, ⟨BK.out⟩⟩
      | true =>
        rw [if_pos rfl] at A3
        by_cases c4 : (l2.length : Int) > 40
        · rw [if_pos c4] at A3
          obtain rfl := Option.some.inj A3
          clear A3
          have c4b0 : decide (40 < (l2.length : Int)) = true := decide_eq_true c4
          have c4b1 : decide (40 < l2.length) = true := decide_eq_true (by omega)
          clear c4
          go_wp2_with (first | (go_at_call 17; (with_reducible refine (impl_KeptOk.calls k _ _ l0 true _ ?side1 ?side2 ?side3 B1.out).mono ?_); (case side1 => exact Kd.C_below HR0.out HB.out); (case side2 => exact HC0.out); (case side3 => exact Tabs.below HT.out HB.out); rintro e w2 ⟨rfl, hb⟩; replace HB := Aside0.mk (below_step HB.out hb); replace BK := Aside0.mk (blk_below BK.out hb); clear hbx; have hbx : w2.cell? ⟨gb, 0, none⟩ = some (.string a1) := (blk_cell BK.out 0).trans rfl; clear hb) | (go_at_call 27; (with_reducible refine (impl_TopicOk.calls a1 true _ ?side1 B2.out).mono ?_); (case side1 => exact Tabs.below HT.out HB.out); rintro e w3 ⟨rfl, hb⟩; replace HB := Aside0.mk (below_step HB.out hb); replace BK := Aside0.mk (blk_below BK.out hb); clear hbx; have hbx : w3.cell? ⟨gb, 0, none⟩ = some (.string a1) := (blk_cell BK.out 0).trans rfl; clear hb))
          go_meet
          case rel => exact ⟨by first | rfl | (simp; done) | (simp [*]; done), ⟨HB.out⟩, ⟨BK.out⟩⟩
        · rw [if_neg c4] at A3
          have c4b0 : decide (40 < (l2.length : Int)) = false := decide_eq_false c4
          have c4b1 : decide (40 < l2.length) = false := decide_eq_false (by omega)
          clear c4
          obtain ⟨b4, B4_, A5⟩ := Option.bind_eq_some_iff.mp A3
          clear A3
          have B4 := Aside0.mk B4_
          clear B4_
          obtain rfl := Option.some.inj A5
          clear A5
          cases b4 with
          | true =>
            go_wp2_with (first | (go_at_call 17; (with_reducible refine (impl_KeptOk.calls k _ _ l0 true _ ?side1 ?side2 ?side3 B1.out).mono ?_); (case side1 => exact Kd.C_below HR0.out HB.out); (case side2 => exact HC0.out); (case side3 => exact Tabs.below HT.out HB.out); rintro e w2 ⟨rfl, hb⟩; replace HB := Aside0.mk (below_step HB.out hb); replace BK := Aside0.mk (blk_below BK.out hb); clear hbx; have hbx : w2.cell? ⟨gb, 0, none⟩ = some (.string a1) := (blk_cell BK.out 0).trans rfl; clear hb) | (go_at_call 27; (with_reducible refine (impl_TopicOk.calls a1 true _ ?side1 B2.out).mono ?_); (case side1 => exact Tabs.below HT.out HB.out); rintro e w3 ⟨rfl, hb⟩; replace HB := Aside0.mk (below_step HB.out hb); replace BK := Aside0.mk (blk_below BK.out hb); clear hbx; have hbx : w3.cell? ⟨gb, 0, none⟩ = some (.string a1) := (blk_cell BK.out 0).trans rfl; clear hb) | (go_at_call 28; (with_reducible refine (impl_isQos.calls a3 true _ B4.out).mono ?_); rintro e w4 ⟨rfl, hd⟩; have hb := Drawn0.below hd; replace HB := Aside0.mk (below_step HB.out hb); replace BK := Aside0.mk (blk_below BK.out hb); clear hbx; have hbx : w4.cell? ⟨gb, 0, none⟩ = some (.string a1) := (blk_cell BK.out 0).trans rfl; clear hb hd))
            go_meet
            case rel => exact ⟨by first | rfl | (simp; done) | (simp [*]; done), ⟨HB.out⟩, ⟨BK.out⟩⟩
          | false =>
            go_wp2_with (first | (go_at_call 17; (with_reducible refine (impl_KeptOk.calls k _ _ l0 true _ ?side1 ?side2 ?side3 B1.out).mono ?_); (case side1 => exact Kd.C_below HR0.out HB.out); (case side2 => exact HC0.out); (case side3 => exact Tabs.below HT.out HB.out); rintro e w2 ⟨rfl, hb⟩; replace HB := Aside0.mk (below_step HB.out hb); replace BK := Aside0.mk (blk_below BK.out hb); clear hbx; have hbx : w2.cell? ⟨gb, 0, none⟩ = some (.string a1) := (blk_cell BK.out 0).trans rfl; clear hb) | (go_at_call 27; (with_reducible refine (impl_TopicOk.calls a1 true _ ?side1 B2.out).mono ?_); (case side1 => exact Tabs.below HT.out HB.out); rintro e w3 ⟨rfl, hb⟩; replace HB := Aside0.mk (below_step HB.out hb); replace BK := Aside0.mk (blk_below BK.out hb); clear hbx; have hbx : w3.cell? ⟨gb, 0, none⟩ = some (.string a1) := (blk_cell BK.out 0).trans rfl; clear hb) | (go_at_call 28; (with_reducible refine (impl_isQos.calls a3 false _ B4.out).mono ?_); rintro e w4 ⟨rfl, hd⟩; have hb := Drawn0.below hd; replace HB := Aside0.mk (below_step HB.out hb); replace BK := Aside0.mk (blk_below BK.out hb); clear hbx; have hbx : w4.cell? ⟨gb, 0, none⟩ = some (.string a1) := (blk_cell BK.out 0).trans rfl; clear hb hd))
            go_meet
            case rel => exact ⟨by first | rfl | (simp; done) | (simp [*]; done), ⟨HB.out⟩, ⟨BK.out⟩⟩
  case rest =>
    clear A1 HB BK
    obtain ⟨rfl, HB, BK⟩ := hcut
    cases bad with
    | true =>
      have h := H'.out
      clear H'
      rw [if_pos rfl] at h
      obtain ⟨c, C1_, h2⟩ := Option.bind_eq_some_iff.mp h
      clear h
      have C1 := Aside0.mk C1_
      clear C1_
      simp only [Option.some.injEq, Prod.mk.injEq] at h2
      obtain ⟨rfl, rfl⟩ := h2
      go_wp2_with (first | (go_at_call 29; (with_reducible refine (impl_copyKept.callsS k (fun k_ => k_ < w.heap.size) _ _ l0 c _ ?side1 C1.out).mono ?_); (case side1 => exact Kd.V_mk HC0.out (Kd.F_below (Kd.C_F heapK HR0.out) HB.out)); rintro e wz ⟨v, rfl, hs, hb⟩; have HS := Aside0.mk (Kd.S_lower hs HB.out.size); replace HB := Aside0.mk (below_step HB.out hb); clear hb hs))
      go_ret2
      exact ⟨_, by first | rfl | (simp; done), HS.out, HB.out⟩
    | false =>
      have h := H'.out
      clear H'
      rw [if_neg (by decide)] at h
      obtain ⟨c, C1_, h2⟩ := Option.bind_eq_some_iff.mp h
      clear h
      have C1 := Aside0.mk C1_
      have H2 := Aside0.mk h2
      clear C1_ h2
      go_upto_region 4 with (first | (go_at_call 29; (with_reducible refine (impl_copyKept.callsS k (fun k_ => k_ < w.heap.size) _ _ l0 c _ ?side1 C1.out).mono ?_); (case side1 => exact Kd.V_mk HC0.out (Kd.F_below (Kd.C_F heapK HR0.out) HB.out)); rintro e wz ⟨v, rfl, hs, hb⟩; obtain ⟨Ac, cc, rfl⟩ := Kd.S_slice hs; have HS := Aside0.mk hs; have HN := Aside0.mk HB.out.size; have HL := Aside0.mk (blk_lt BK.out); replace HB := Aside0.mk (below_step HB.out hb); replace BK := Aside0.mk (blk_below BK.out hb); clear hb hs) | (go_at_call 30; refine (set_delete.calls gb a1 c _ cc _ Ac _ HS.out ((blk_cell BK.out 0).trans rfl) (fun ad ea eb => by have e1 := Kd.S_base HS.out ad.block (by rw [ea]; rfl); have := HL.out; omega)).mono ?_; rintro e w4 ⟨v', rfl, hs', hg⟩; replace HB := Aside0.mk (below_own HB.out hg (Kd.S_base HS.out) HN.out); replace BK := Aside0.mk (blk_grown BK.out hg (fun e1 => by have e2 := Kd.S_base HS.out gb e1.symm; have := HL.out; omega)); clear HS; have HS := Aside0.mk (Kd.S_lower hs' HN.out); obtain ⟨Ad, cd, rfl⟩ := Kd.S_slice hs'; clear hs' hg HN HL))
      by_cases c5 : (l2.length : Int) > 0
      · have c5b0 : decide (0 < (l2.length : Int)) = true := decide_eq_true c5
        have c5b1 : decide (0 < l2.length) = true := decide_eq_true (by omega)
        have h2 := H2.out
        clear H2
        rw [if_pos c5] at h2
        clear c5
        obtain ⟨j, J1_, h3⟩ := Option.bind_eq_some_iff.mp h2
        clear h2
        have J1 := Aside0.mk J1_
        clear J1_
        by_cases c6 : (c.length + 2) * 48 ≤ 140737488355328
        · rw [if_pos c6] at h3
          have LM := Aside0.mk c6
          have H3 := Aside0.mk h3
          clear c6 h3
          have HD := Aside0.mk (show (dropK a1 c).length ≤ c.length from List.length_filter_le _ _)
          generalize dropK a1 c = d at HS H3 HD ⊢
          go_upto_block 0 with (fail)
          go_cut [11] from 39 to 53 (fun v11 wc => ∃ i : Nat, v11 = .int .i64 i ∧ Aside0 (insK ⟨a1, j, a3⟩ d = d.take i ++ ⟨a1, j, a3⟩ :: d.drop i) ∧ Aside0 (i ≤ d.length) ∧ Aside0 (Kd.S k41 41 wc w.heap.size (fun _ => True) (.slice Ad d.length cd) d) ∧ Aside0 (Below w.heap.size w wc) ∧ Aside0 (wc.heap[gb]? = some (.cells #[.string a1] 9 (0, 0))))
          case first =>
            clear H3 J1
            go_wp2_with (fail)
            go_loopg [11] d.length (fun gg v11 wr => ∃ i : Nat, v11 = .int .i64 i ∧ d.length - i ≤ gg ∧ Aside0 (i ≤ d.length) ∧ Aside0 (∀ j y, j < i → d[j]? = some y → Op.bytesLess y.f0.toList a1.toList = true) ∧ Aside0 (Kd.S k41 41 wr w.heap.size (fun _ => True) (.slice Ad d.length cd) d) ∧ Aside0 (Below w.heap.size w wr) ∧ Aside0 (wr.heap[gb]? = some (.cells #[.string a1] 9 (0, 0))))
            case atStart => exact ⟨0, rfl, by omega, ⟨Nat.zero_le _⟩, ⟨fun j y hj => absurd hj (Nat.not_lt_zero _)⟩, ⟨HS.out⟩, ⟨HB.out⟩, ⟨BK.out⟩⟩
            case round =>
              clear HS HB BK
              obtain ⟨i, rfl, hg, HI, HA, HS, HB, BK⟩ := hrel
              have hbx : wr.cell? ⟨gb, 0, none⟩ = some (.string a1) := (blk_cell BK.out 0).trans rfl
              by_cases hlt : i < d.length
              · have hz : (i : Int) < (d.length : Int) := by omega
                have hzb : decide ((i : Int) < (d.length : Int)) = true := decide_eq_true hz
                have hz0 : (0 : Int) ≤ (i : Int) := by omega
                obtain ⟨gd, cd', ed, _, _, _⟩ := Kd.S_form HS.out (by omega)
                injection ed with ed1 ed2 ed3
                subst ed1
                obtain ⟨ad, A_, c_, eA, hx0, hx1, hx2, hl1, hi1⟩ := at_T41 (Kd.S_reads' HS.out).2.2 (i : Int) hz0 hz
                injection eA with eA
                subst eA
                clear hx1 hx2 hl1 hi1 ed2 ed3
                replace hx0 : wr.cell? ⟨gd, i * 3, none⟩ = _ := (congrArg wr.cell? (show (⟨gd, i * 3, none⟩ : Addr) = Addr.add ⟨gd, 0, none⟩ ((i : Int).toNat * 3) by simp [Addr.add])).trans hx0
                have hget : d[i]? = some (rd_T41 d (i : Int)) := by rw [List.getElem?_eq_getElem hlt]; exact congrArg some (by simp [rd_T41, hlt])
                have HE := Aside0.mk hget
                have HLT := Aside0.mk hlt
                clear hget hlt
                generalize rd_T41 d (i : Int) = y at hx0 HE
                cases hq : Op.bytesLess y.f0.toList a1.toList with
                | true =>
                  have HQ := Aside0.mk hq
                  go_upto_region 6 with (fail)
                  go_region
                  go_wp2
                  go_roundg (d.length - (i + 1))
                  case measure => have := HLT.out; omega
                  case rel =>
                    refine ⟨i + 1, by (have := LM.out; have := HD.out; have := HLT.out; congr 1; unfold wrap64; omega), by omega, ⟨HLT.out⟩, ⟨fun j z hj hz2 => ?_⟩, ⟨by (with_reducible repeat (first | apply Kd.S_alloc | apply Kd.S_drewN | apply Kd.S_drew)); exact HS.out⟩, ⟨by (repeat (first | exact HB.out | (with_reducible first | apply pw_below_drewN | apply below_drew1)))⟩, ⟨by ((with_reducible repeat (first | refine blk_drewN ?_ _ | refine blk_drew ?_)); exact BK.out)⟩⟩
                    by_cases e : j = i
                    · subst e
                      obtain rfl := Option.some.inj (HE.out.symm.trans hz2)
                      exact HQ.out
                    · exact HA.out j z (by omega) hz2
                | false =>
                  have HQ := Aside0.mk hq
                  go_upto_region 6 with (fail)
                  go_region
                  go_wp2
                  go_meet
                  case rel =>
                    refine ⟨i, by first | rfl | (simp; done), ⟨insK_at ⟨a1, j, a3⟩ d i HI.out (fun j z hj hz2 => HA.out j z hj hz2) (fun z hz2 => ?_)⟩, HI, ⟨by (with_reducible repeat (first | apply Kd.S_alloc | apply Kd.S_drewN | apply Kd.S_drew)); exact HS.out⟩, ⟨by (repeat (first | exact HB.out | (with_reducible first | apply pw_below_drewN | apply below_drew1)))⟩, ⟨by ((with_reducible repeat (first | refine blk_drewN ?_ _ | refine blk_drew ?_)); exact BK.out)⟩⟩
                    obtain rfl := Option.some.inj (HE.out.symm.trans hz2)
                    exact HQ.out
              · have hz : ¬ (i : Int) < (d.length : Int) := by omega
                have hzb : decide ((i : Int) < (d.length : Int)) = false := decide_eq_false hz
                have HLT := Aside0.mk hlt
                clear hlt
                go_upto_region 6 with (fail)
                go_region
                go_wp2
                go_meet
                case rel =>
                  refine ⟨i, by first | rfl | (simp; done), ⟨insK_at ⟨a1, j, a3⟩ d i HI.out (fun j z hj hz2 => HA.out j z hj hz2) (fun z hz2 => ?_)⟩, HI, ⟨by (with_reducible repeat (first | apply Kd.S_alloc | apply Kd.S_drewN | apply Kd.S_drew)); exact HS.out⟩, ⟨by (repeat (first | exact HB.out | (with_reducible first | apply pw_below_drewN | apply below_drew1)))⟩, ⟨by ((with_reducible repeat (first | refine blk_drewN ?_ _ | refine blk_drew ?_)); exact BK.out)⟩⟩
                  exact absurd (List.getElem?_eq_some_iff.1 hz2).1 HLT.out
          case rest =>
            clear HS HB BK
            obtain ⟨i, rfl, HX, HI, HS, HB, BK⟩ := hcut
            rw [HX.out] at H3
            clear HX
            have H0 := H3
            clear H3
            go_upto_region 8 with (fail)
            replace HS := Aside0.mk (Kd.S_drew HS.out)
            replace HB := Aside0.mk (below_drew1 HB.out)
            replace BK := Aside0.mk (blk_drew BK.out)
            refine start_ (n := 11) (S := fun w' => w'.cell? ⟨gb, 0, none⟩ = some (.string a1)) (ds := []) #[false, false, false, false, false, false, false, false, false, false, false] (by kernel_rfl) rfl rfl ((blk_cell BK.out 0).trans rfl) (fun hHeld => ?_)
            generalize wc.drew = wd at HS HB BK hHeld ⊢
            refine py_ 0 54 #[true, false, false, false, false, false, false, false, false, false, false] ?_
            refine py_ 1 55 #[true, true, false, false, false, false, false, false, false, false, false] ?_
            refine py_ 3 57 #[true, true, false, true, false, false, false, false, false, false, false] ?_
            refine py_ 6 60 #[true, true, false, true, false, false, true, false, false, false, false] ?_
            refine ty_ hHeld 2 56 #[true, true, true, true, false, false, true, false, false, false, false] ?_
            refine one_ (i := 4) (N := some 58) #[true, true, true, true, true, false, true, false, false, false, false] rfl rfl (by kernel_rfl) (by decide) (fun K hK => ?_)
            refine Kd.N_lit_step (Kd.slice 5 (Kd.int .u8)) _ 23 ?hg (N' := 58) ?hd (xs := ([l2] : List (List Int))) (inner := [.slice A2 l2.length c2]) (ok := fun _ => True) (okp := fun _ => True) ?hr ?hp (fun _ hk => hk) trivial (Below.refl _ _) (Nat.le_refl _) (by simp) ?_; (case hd => rfl); (case hg => rfl); (case hr => first | (go_simp; done) | (go_simp; rfl)); (case hp => exact Reps.one (Kd.FK_slice_mk HC2.out (Kd.F_mono (Kd.F_below (Kd.C_F (Kd.heap_int .u8) HR2.out) HB.out) (fun _ _ => trivial))) (Reps.none _ _))
            intro vj wj hj hb hg_ hnew_
            clear hg_ hnew_
            replace HS := Aside0.mk (Kd.S_below HS.out hb)
            replace BK := Aside0.mk (blk_below BK.out hb)
            replace HB := Aside0.mk (below_step HB.out hb)
            clear hb
            obtain ⟨Aj, cj, rfl⟩ := Kd.N_slice hj
            have HJ := Aside0.mk hj
            clear hj
            refine hK.out _ _ ((blk_cell BK.out 0).trans rfl) (fun hHeld => ?_)
            clear hK K
            refine norm_ (a' := ?_) ?_ ?_
            rotate_left
            · show Act.put _ (some 58) _ = _
              simp only [Act.put, List.setIfInBounds_toArray, List.set_cons_zero, List.set_cons_succ, i64_w, i32_w]
              rfl
            refine one_ (i := 5) (N := some 59) #[true, true, true, true, true, true, true, false, false, false, false] rfl rfl (by kernel_rfl) (by decide) (fun K hK => ?_)
            refine goes_ Tryd.func33 (by kernel_rfl) rfl #[.slice Aj ([l2] : List (List Int)).length cj] (by rfl) rfl rfl ar_ ?_
            with_reducible refine (impl_joined.calls k _ _ [l2] j _ ?side1 ?side2 J1.out).mono ?_
            (case side1 => exact (Kd.N_reads' HJ.out).2.2)
            (case side2 => exact (Kd.N_reads' HJ.out).2.1)
            rintro e wk ⟨v9, rfl, ho9, hb⟩
            refine ⟨_, rfl, ?_⟩
            replace HS := Aside0.mk (Kd.S_below (Kd.S_mono (ok' := fun k_ => k_ < wj.heap.size) (Kd.S_bound HS.out) (fun k_ hk => hk.2.2.1)) hb)
            have HV := Aside0.mk (Kd.R_lower (Kd.R_mono (ok' := fun k_ => wj.heap.size ≤ k_) (Kd.R_bound ho9) (fun k_ hk => hk.2.1)) HB.out.size)
            have HW := Aside0.mk (HB.out.size : w.heap.size ≤ wj.heap.size)
            have HX := Aside0.mk (hb.size : wj.heap.size ≤ wk.heap.size)
            replace BK := Aside0.mk (blk_below BK.out hb)
            replace HB := Aside0.mk (below_step HB.out hb)
            obtain ⟨A9, c9, rfl⟩ := Kd.R_slice ho9
            clear hb ho9 HJ
            generalize wj.heap.size = N at HS HV HW HX
            refine hK.out _ _ ((blk_cell BK.out 0).trans rfl) (fun hHeld => ?_)
            clear hK K
            refine norm_ (a' := ?_) ?_ ?_
            rotate_left
            · show Act.put _ (some 59) _ = _
              simp only [Act.put, List.setIfInBounds_toArray, List.set_cons_zero, List.set_cons_succ, i64_w, i32_w]
              rfl
            refine py_ 7 61 #[true, true, true, true, true, true, true, true, false, false, false] ?_
            refine one_ (i := 8) (N := some 62) #[true, true, true, true, true, true, true, true, true, false, false] rfl rfl (by kernel_rfl) (by decide) (fun K hK => ?_)
            refine value_ (w1 := wk.alloc (.cells #[.string a1, .slice A9 j.length c9, .int .i64 a3] 41 (0, 0))) (v := .slice (some ⟨wk.heap.size, 0, none⟩) 1 1) (by rfl) rfl ?_ ?_
            · first | (go_simp; done) | (go_simp; rfl) | (go_simp; constructor <;> rfl)
            have VB := Aside0.mk (blk_new wk (.cells #[.string a1, .slice A9 j.length c9, .int .i64 a3] 41 (0, 0)))
            replace HS := Aside0.mk (Kd.S_alloc HS.out (.cells #[.string a1, .slice A9 j.length c9, .int .i64 a3] 41 (0, 0)))
            replace HV := Aside0.mk (Kd.R_alloc HV.out (.cells #[.string a1, .slice A9 j.length c9, .int .i64 a3] 41 (0, 0)))
            replace BK := Aside0.mk (blk_alloc BK.out (.cells #[.string a1, .slice A9 j.length c9, .int .i64 a3] 41 (0, 0)))
            replace HB := Aside0.mk (below_alloc HB.out (.cells #[.string a1, .slice A9 j.length c9, .int .i64 a3] 41 (0, 0)))
            have HS2 := Aside0.mk (below_size (below_alloc (Below.refl _ _) _) : wk.heap.size ≤ (wk.alloc (.cells #[.string a1, .slice A9 j.length c9, .int .i64 a3] 41 (0, 0))).heap.size)
            generalize wk.alloc (.cells #[.string a1, .slice A9 j.length c9, .int .i64 a3] 41 (0, 0)) = wl at VB HS HV BK HB HS2 ⊢
            generalize wk.heap.size = vb at VB HX HS2 ⊢
            refine hK.out _ _ ((blk_cell BK.out 0).trans rfl) (fun hHeld => ?_)
            clear hK K
            refine norm_ (a' := ?_) ?_ ?_
            rotate_left
            · show Act.put _ (some 62) _ = _
              simp only [Act.put, List.setIfInBounds_toArray, List.set_cons_zero, List.set_cons_succ, i64_w, i32_w]
              rfl
            refine one_ (i := 9) (N := some 63) #[true, true, true, true, true, true, true, true, true, true, false] rfl rfl (by kernel_rfl) (by decide) (fun K hK => ?_)
            refine goes_ Tryd.func32 (by kernel_rfl) rfl #[.slice Ad d.length cd, .int .i64 i, .slice (some ⟨vb, 0, none⟩) 1 1] (by rfl) rfl rfl ar_ ?_
            refine (set_insert.calls d ⟨a1, j, a3⟩ (.slice A9 j.length c9) i d.length cd w.heap.size N vb Ad _ HS.out HV.out HI.out (by have := HX.out; have := HS2.out; omega) VB.out HX.out (by have := HW.out; have := HX.out; have := HS2.out; omega) (by have := LM.out; have := HD.out; omega)).mono ?_
            rintro e wm ⟨v', rfl, hs', hg⟩
            refine ⟨_, rfl, ?_⟩
            replace BK := Aside0.mk (blk_grown BK.out hg (fun e1 => by obtain ⟨cs, hcs⟩ := Kd.S_typed HS.out gb e1.symm; exact blk_ne BK.out hcs (by decide) rfl))
            replace HB := Aside0.mk (below_own HB.out hg (Kd.S_base HS.out) (Nat.le_refl _))
            clear HS HV VB
            have HS := Aside0.mk hs'
            obtain ⟨Ao, co, rfl⟩ := Kd.S_slice hs'
            clear hs' hg
            generalize d.take i ++ ⟨a1, j, a3⟩ :: d.drop i = o at H0 HS ⊢
            refine hK.out _ _ ((blk_cell BK.out 0).trans rfl) (fun hHeld => ?_)
            clear hK K
            refine norm_ (a' := ?_) ?_ ?_
            rotate_left
            · show Act.put _ (some 63) _ = _
              simp only [Act.put, List.setIfInBounds_toArray, List.set_cons_zero, List.set_cons_succ, i64_w, i32_w]
              rfl
            refine py_ 10 10 #[true, true, true, true, true, true, true, true, true, true, true] ?_
            refine done_ (by kernel_rfl) ?_
            have HF := H0.out
            clear H0
            unfold impl_SetKept.fin at HF
            obtain ⟨b5, B5_, HG⟩ := Option.bind_eq_some_iff.mp HF
            clear HF
            have B5 := Aside0.mk B5_
            clear B5_
            cases b5 with
            | true =>
              rw [if_pos rfl] at HG
              simp only [Option.some.injEq, Prod.mk.injEq] at HG
              obtain ⟨rfl, rfl⟩ := HG
              go_wp2_with (first | (go_at_call 17; (with_reducible refine (impl_KeptOk.calls k _ _ _ true _ ?side1 ?side2 ?side3 B5.out).mono ?_); (case side1 => exact (Kd.S_reads' HS.out).2.2); (case side2 => exact (Kd.S_reads' HS.out).2.1); (case side3 => exact Tabs.below HT.out HB.out); rintro e wq ⟨rfl, hb⟩; replace HB := Aside0.mk (below_step HB.out hb); replace HS := Aside0.mk (Kd.S_below HS.out hb); clear hb))
              go_ret2
              exact ⟨_, by first | rfl | (simp; done), HS.out, HB.out⟩
            | false =>
              rw [if_neg (by decide)] at HG
              obtain ⟨c9, C9_, HG2⟩ := Option.bind_eq_some_iff.mp HG
              clear HG
              have C9 := Aside0.mk C9_
              clear C9_
              simp only [Option.some.injEq, Prod.mk.injEq] at HG2
              obtain ⟨rfl, rfl⟩ := HG2
              go_wp2_with (first | (go_at_call 17; (with_reducible refine (impl_KeptOk.calls k _ _ _ false _ ?side1 ?side2 ?side3 B5.out).mono ?_); (case side1 => exact (Kd.S_reads' HS.out).2.2); (case side2 => exact (Kd.S_reads' HS.out).2.1); (case side3 => exact Tabs.below HT.out HB.out); rintro e wq ⟨rfl, hb⟩; replace HB := Aside0.mk (below_step HB.out hb); clear hb) | (go_at_call 29; (with_reducible refine (impl_copyKept.callsS k (fun k_ => k_ < w.heap.size) _ _ l0 c9 _ ?side1 C9.out).mono ?_); (case side1 => exact Kd.V_mk HC0.out (Kd.F_below (Kd.C_F heapK HR0.out) HB.out)); rintro e wz9 ⟨v, rfl, hs, hb⟩; have HS9 := Aside0.mk (Kd.S_lower hs HB.out.size); replace HB := Aside0.mk (below_step HB.out hb); clear hb hs))
              go_ret2
              exact ⟨_, by first | rfl | (simp; done), HS9.out, HB.out⟩
        · rw [if_neg c6] at h3
          exact absurd h3 (by simp)
      · have c5b0 : decide (0 < (l2.length : Int)) = false := decide_eq_false c5
        have c5b1 : decide (0 < l2.length) = false := decide_eq_false (by omega)
        have h2 := H2.out
        clear H2
        rw [if_neg c5] at h2
        clear c5
        have H0 := Aside0.mk h2
        clear h2
        have HF := H0.out
        clear H0
        unfold impl_SetKept.fin at HF
        obtain ⟨b5, B5_, HG⟩ := Option.bind_eq_some_iff.mp HF
        clear HF
        have B5 := Aside0.mk B5_
        clear B5_
        cases b5 with
        | true =>
          rw [if_pos rfl] at HG
          simp only [Option.some.injEq, Prod.mk.injEq] at HG
          obtain ⟨rfl, rfl⟩ := HG
          go_wp2_with (first | (go_at_call 17; (with_reducible refine (impl_KeptOk.calls k _ _ _ true _ ?side1 ?side2 ?side3 B5.out).mono ?_); (case side1 => exact (Kd.S_reads' HS.out).2.2); (case side2 => exact (Kd.S_reads' HS.out).2.1); (case side3 => exact Tabs.below HT.out HB.out); rintro e wq ⟨rfl, hb⟩; replace HB := Aside0.mk (below_step HB.out hb); replace HS := Aside0.mk (Kd.S_below HS.out hb); clear hb))
          go_ret2
          exact ⟨_, by first | rfl | (simp; done), HS.out, HB.out⟩
        | false =>
          rw [if_neg (by decide)] at HG
          obtain ⟨c9, C9_, HG2⟩ := Option.bind_eq_some_iff.mp HG
          clear HG
          have C9 := Aside0.mk C9_
          clear C9_
          simp only [Option.some.injEq, Prod.mk.injEq] at HG2
          obtain ⟨rfl, rfl⟩ := HG2
          go_wp2_with (first | (go_at_call 17; (with_reducible refine (impl_KeptOk.calls k _ _ _ false _ ?side1 ?side2 ?side3 B5.out).mono ?_); (case side1 => exact (Kd.S_reads' HS.out).2.2); (case side2 => exact (Kd.S_reads' HS.out).2.1); (case side3 => exact Tabs.below HT.out HB.out); rintro e wq ⟨rfl, hb⟩; replace HB := Aside0.mk (below_step HB.out hb); clear hb) | (go_at_call 29; (with_reducible refine (impl_copyKept.callsS k (fun k_ => k_ < w.heap.size) _ _ l0 c9 _ ?side1 C9.out).mono ?_); (case side1 => exact Kd.V_mk HC0.out (Kd.F_below (Kd.C_F heapK HR0.out) HB.out)); rintro e wz9 ⟨v, rfl, hs, hb⟩; have HS9 := Aside0.mk (Kd.S_lower hs HB.out.size); replace HB := Aside0.mk (below_step HB.out hb); clear hb hs))
          go_ret2
          exact ⟨_, by first | rfl | (simp; done), HS9.out, HB.out⟩
end Go.Proofs.YtpigbffaacilfaaDoor.P
end
