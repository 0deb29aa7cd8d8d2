/- Boxes that are written whole; slices.EqualFunc over what is kept; impl.SameRoot; the law FnExactSameRoot's walk: what each Go function answers is what the plain function answers. -/
import Derived.Laws.Cover1
import Derived.Test.YtggokdobijhdhaaDoorPx0
import Derived.Test.YtggokdobijhdhaaDoorS
import Derived.Test.YtggokdobijhdhaaDoorS
namespace Go.Proofs.YtggokdobijhdhaaDoor.P
open Go.RowKit Go.Proofs.YtggokdobijhdhaaDoor.X Go.Proofs.YtggokdobijhdhaaDoorW.PrintWords Go.Proofs.YtggokdobijhdhaaDoorW.PrintLast Go.Proofs.YtggokdobijhdhaaDoorW.PrintMore
set_option linter.unusedVariables false
set_option linter.unusedSimpArgs false
section
variable {P : Program} {ops : Array Oper} {rest : List Oper} {o : Oper} {a : Act} {Q : Exit → Act → World → Prop}
/-- A box is written whole. -/
theorem box_store {W : World} (hN : o.dst = none) (hgd : o.guard = none) (t : TypeId) (p x : Operand) (ho : o.op = .store t p x) {g : Nat} {cs : Array Value} (vs : List Value) (haddr : a.eval p = .pointer (some ⟨g, 0, none⟩)) (hx : a.eval x = .agg vs.toArray)
    (ht : (P.info? t).map (·.size) = some vs.length) (h1 : ∀ q ∈ vs, q.oneCell' = true) (hu : (Value.agg vs.toArray).cells.toList = vs) (hb : W.heap[g]? = some (.cells cs t (0, 0))) (hs : cs.size = vs.length)
    (h : ∀ w1, w1.heap[g]? = some (.cells vs.toArray t (0, 0)) → W.grownBy w1 (some g) → wpList P ops Q rest a w1) : wpList P ops Q (o :: rest) a W := by
  obtain ⟨cur, h3, h4, h5⟩ := setCells_row vs 0 W cs hb (by omega)
  have e : cur = vs.toArray := by
    apply Array.ext'
    rw [h5, List.take_zero, List.nil_append, List.drop_of_length_le (by rw [Array.length_toList]; omega), List.append_nil]
  rw [e] at h3
  have hg : W.grownBy (W.setCells g 0 vs) (some g) := by
    obtain ⟨s1, s2, s3, s4⟩ := setCells_same g vs 0 W
    exact ⟨s1, s2, s3, by rw [s4]; exact Nat.le_refl _, fun k _ hk => setCells_far vs 0 k (fun e => hk (by rw [e]))⟩
  refine wpList_plain hgd fun K hK => ?_
  have hrun : (Instr.storeAt t (.pointer (some ⟨g, 0, none⟩)) (.agg vs.toArray)).run P W = .ok () (W.setCells g 0 vs) := run_store_run t (.agg vs.toArray) vs hb hu ht (by omega) h1
  unfold Oper.wp execOp
  simp only [ho, haddr, hx, Sem.run_bind, Sem.run_pure, Result.andThen_ok, hrun]
  show K (a.put o.dst undef) _
  rw [hN]
  exact hK a _ (h _ h3 hg)
end
/-! Steps of a drawn region without a table. -/
section
variable {P : Program} {md : Region.Mode} {ops : Array Oper} {Q : Exit → Act → World → Prop} {S : World → Prop} {ds : List Nat} {fuel n m m' N : Nat} {a a' : Act} {w : World} {oi : Oper} {v : Value}
theorem qp_ (i : Nat) (h : wpAnyLast P md ops Q S ds fuel (bs_ n m') a' w) (hi : ops[i]? = some oi := by exact rfl) (hN : oi.dst = some N := by exact rfl) (_hm : m + 2 ^ i = m' := by (simp only [Nat.reducePow, Nat.reduceAdd]; rfl)) (hc : anyB md ops (bs_ n m) (bs_ n m') i = true := by kernel_rfl)
    (hQ : ∀ c a w, Q (.panic c) (a.put oi.dst v) w → Q (.panic c) a w := by exact fun _ _ _ h => h) (hw : Region.wanted oi (yielded ops a.tmps) = true := by rfl) (hy : ∀ w', (execOp a.eval oi).run P w' = .ok (.value v) w' := by (intro w'; go_simp; with_reducible rfl))
    (ha : a.put (some N) v = a' := by (simp only [Act.put, List.setIfInBounds_toArray, List.set_cons_zero, List.set_cons_succ, i64_w, i32_w]; rfl)) : wpAnyLast P md ops Q S ds (fuel + 1) (bs_ n m) a w := pure_ (bs_ n m') hi hN hc hQ (Or.inl ⟨hw, hy⟩) ha h
theorem qt_ (hS : S w) (i : Nat) (h : wpAnyLast P md ops Q S ds fuel (bs_ n m') a' w) (hi : ops[i]? = some oi := by exact rfl) (hN : oi.dst = some N := by exact rfl) (_hm : m + 2 ^ i = m' := by (simp only [Nat.reducePow, Nat.reduceAdd]; rfl)) (hc : takeB md ops ds (bs_ n m) (bs_ n m') i = true := by kernel_rfl)
    (hQ : ∀ c a w, Q (.panic c) (a.put oi.dst v) w → Q (.panic c) a w := by exact fun _ _ _ h => h) (hw : Region.wanted oi (yielded ops a.tmps) = true := by rfl) (hy : ∀ w', S w' → (execOp a.eval oi).run P w' = .ok (.value v) w' := by (intro w' hs; (try dsimp only at hs); go_simp; with_reducible rfl))
    (ha : a.put (some N) v = a' := by (simp only [Act.put, List.setIfInBounds_toArray, List.set_cons_zero, List.set_cons_succ, i64_w, i32_w]; rfl)) : wpAnyLast P md ops Q S ds (fuel + 1) (bs_ n m) a w := take_ (bs_ n m') hi hN hc hQ (Or.inl ⟨hw, hy⟩) hS ha h
theorem qo_ (i : Nat) (h : ∀ K : Act → World → Prop, Shut (∀ a' w', S w' → (S w' → wpAnyLast P md ops Q S ds fuel (bs_ n m') a' w') → K a' w') → if Region.wanted oi (yielded ops a.tmps) = true then Oper.wp P oi a w K Q else K (a.put (some N) undef) w)
    (hi : ops[i]? = some oi := by exact rfl) (hN : oi.dst = some N := by exact rfl) (_hm : m + 2 ^ i = m' := by (simp only [Nat.reducePow, Nat.reduceAdd]; rfl)) (hc : readyB md ops (bs_ n m) (bs_ n m') i = true := by kernel_rfl) (hd : i ∉ ds := by decide) : wpAnyLast P md ops Q S ds (fuel + 1) (bs_ n m) a w := one_ (bs_ n m') hi hN hc hd h
theorem qs_ {id k : Nat} (hS : S w.drew) (h : S w.drew → wpAnyLast P .any ops Q S [] k (bs_ k 0) a w.drew) (hn : ops.size = k := by rfl) (hm : P.follows .mixedOrders = true := by kernel_rfl) (hl : Array.replicate k false = bs_ k 0 := by rfl) : (Code.region id ops true).wp P Q a w := start_ (ds := []) (bs_ k 0) hm hn hl hS h
end
theorem below_far {w W w1 : World} {g : Nat} (hB : Below w.heap.size w W) (hg : W.grownBy w1 (some g)) (hle : w.heap.size ≤ g) : Below w.heap.size w w1 :=
  ⟨hg.os.trans hB.os, hg.tape.trans hB.tape, hg.output.trans hB.output, Nat.le_trans hB.size hg.size, fun k hk => (hg.block k (Nat.lt_of_lt_of_le hk hB.size) (fun e => by injection e with e; omega)).trans (hB.block k hk)⟩
end Go.Proofs.YtggokdobijhdhaaDoor.P
