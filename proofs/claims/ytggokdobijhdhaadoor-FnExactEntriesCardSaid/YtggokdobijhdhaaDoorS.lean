/- Proved: the steps of a drawn region, with their own side goals told once and for all; no condition. -/
import Derived.Test.YtggokdobijhdhaaDoorWTab
import Derived.Test.YtggokdobijhdhaaDoorWLast
import Derived.Test.YtggokdobijhdhaaDoorWd
namespace Go.Proofs.YtggokdobijhdhaaDoor.X
open Go.RowKit Go.Proofs.YtggokdobijhdhaaDoorW.PrintWords Go.Proofs.YtggokdobijhdhaaDoorW.PrintLast Go.Proofs.YtggokdobijhdhaaDoorW.PrintMore
section
variable {P : Program} {md : Region.Mode} {ops : Array Oper} {Q : Exit → Act → World → Prop} {S : World → Prop} {ds : List Nat} {fuel : Nat} {l : Array Bool} {a a' : Act} {w : World} {oi : Oper} {v : Value} {T : Bool × List (List Nat × List Nat)} {B : List Nat}
/-! What the walks show by the same few words at each step: told once, the words run where they are asked. -/
theorem be_ {p : Prop} (h : p := by repeat (first | (with_reducible first | exact HB.out | apply below_alloc | apply pw_below_drewN | apply below_drew1 | refine below_set ?_ (Aside0.out (by first | (with_reducible assumption) | assumption))) | exact HB.out)) : p := h
theorem bk_ {p : Prop} (h : p := by ((with_reducible repeat (first | refine blk_drewN ?_ _ | refine blk_drew ?_ | refine blk_alloc ?_ _)); exact Aside0.out (by first | (with_reducible assumption) | assumption))) : p := h
theorem as_ {p : Prop} (h : p := by first | (with_reducible assumption) | assumption) : p := h
theorem ar_ {p : Prop} (h : p := by (try simp only [List.map_toArray, List.map_cons, List.map_nil]); first | done | rfl | (simp only [List.length_drop, List.length_take]; rfl)) : p := h
theorem sz_ {p : Prop} (h : p := by rw [hg]; exact (below_size be_)) : p := h
/-- A row of bools by the bits of a number. -/
def bs_ (n m : Nat) : Array Bool := ⟨(List.range n).map fun i => m.testBit i⟩
/-- An operation that yields in every world. -/
theorem pu_ (hT : Aside0 (rtab md ops = T)) (i N : Nat) (l' : Array Bool) (h : wpAnyLast P md ops Q S ds fuel l' a' w) (hi : ops[i]? = some oi := by exact rfl) (hN : oi.dst = some N := by exact rfl) (hc : anyT T l.toList l'.toList i = true := by kernel_rfl)
    (hQ : ∀ c a w, Q (.panic c) (a.put oi.dst v) w → Q (.panic c) a w := by exact fun _ _ _ h => h) (hw : Region.wanted oi (yielded ops a.tmps) = true := by rfl) (hy : ∀ w', (execOp a.eval oi).run P w' = .ok (.value v) w' := by (intro w'; go_simp; with_reducible rfl))
    (ha : a.put (some N) v = a' := by (simp only [Act.put, List.setIfInBounds_toArray, List.set_cons_zero, List.set_cons_succ, i64_w, i32_w]; rfl)) : wpAnyLast P md ops Q S ds (fuel + 1) l a w :=
  pure_ l' hi hN (any_of hT.out hc) hQ (Or.inl ⟨hw, hy⟩) ha h
/-- One that is not wanted. -/
theorem un_ (hT : Aside0 (rtab md ops = T)) (i N : Nat) (l' : Array Bool) (h : wpAnyLast P md ops Q S ds fuel l' a' w) (hi : ops[i]? = some oi := by exact rfl) (hN : oi.dst = some N := by exact rfl) (hc : anyT T l.toList l'.toList i = true := by kernel_rfl)
    (hQ : ∀ c a w, Q (.panic c) (a.put oi.dst undef) w → Q (.panic c) a w := by exact fun _ _ _ h => h) (hw : Region.wanted oi (yielded ops a.tmps) = false := by rfl)
    (ha : a.put (some N) undef = a' := by (simp only [Act.put, List.setIfInBounds_toArray, List.set_cons_zero, List.set_cons_succ, i64_w, i32_w]; rfl)) : wpAnyLast P md ops Q S ds (fuel + 1) l a w :=
  pure_ l' hi hN (any_of hT.out hc) hQ (Or.inr ⟨hw, rfl⟩) ha h
/-- One that reads what is held. -/
theorem ta_ (hT : Aside0 (rtab md ops = T)) (hW : Aside0 (waitsOk T.2 B = true)) (hS : S w) (i N : Nat) (l' : Array Bool) (h : wpAnyLast P md ops Q S ds fuel l' a' w) (hi : ops[i]? = some oi := by exact rfl) (hN : oi.dst = some N := by exact rfl) (hc : takeW T B ds l.toList l'.toList i = true := by kernel_rfl)
    (hQ : ∀ c a w, Q (.panic c) (a.put oi.dst v) w → Q (.panic c) a w := by exact fun _ _ _ h => h) (hw : Region.wanted oi (yielded ops a.tmps) = true := by rfl) (hy : ∀ w', S w' → (execOp a.eval oi).run P w' = .ok (.value v) w' := by (intro w' hs; (try dsimp only at hs); go_simp; with_reducible rfl))
    (ha : a.put (some N) v = a' := by (simp only [Act.put, List.setIfInBounds_toArray, List.set_cons_zero, List.set_cons_succ, i64_w, i32_w]; rfl)) : wpAnyLast P md ops Q S ds (fuel + 1) l a w :=
  take_ l' hi hN (take_ofW hT.out hW.out hc) hQ (Or.inl ⟨hw, hy⟩) hS ha h
end
/-! Words for what is carried over an event: the fact is named, the world's steps between are found. -/
section
variable {w : World}
variable {α : Type} {d : Kd α} {e base n c : Nat} {ok : Nat → Prop} {w0 w1 : World} {vv : Value} {xs : List α} {A : Option Addr}
theorem lR_ (E : Kd.R d e w0 base ok vv xs) (h : Kd.R d e w0 base ok vv xs → Kd.R d e w base ok vv xs := by (intro hE_; (with_reducible repeat (first | apply Kd.R_alloc | apply Kd.R_drewN | apply Kd.R_drew)); exact hE_)) : Kd.R d e w base ok vv xs := h E
theorem bR_ (E : Aside0 (Kd.R d e w0 base ok vv xs)) (hb : Below w.heap.size w w1) (h : Kd.R d e w0 base ok vv xs → Kd.R d e w base ok vv xs := by (intro hE_; (with_reducible repeat (first | apply Kd.R_alloc | apply Kd.R_drewN | apply Kd.R_drew)); exact hE_)) : Aside0 (Kd.R d e w1 base ok vv xs) := ⟨Kd.R_below (h E.out) hb⟩
theorem eR_ {u : Value} (E : Aside0 (Kd.R d e w0 base ok vv xs)) (hu : ∀ k, u.ownBlock = some k → w.heap.size ≤ k) (hb : Below w.heap.size w w1) (h : Kd.R d e w0 base ok vv xs → Kd.R d e w base ok vv xs := by (intro hE_; (with_reducible repeat (first | apply Kd.R_alloc | apply Kd.R_drewN | apply Kd.R_drew)); exact hE_)) : Aside0 (Kd.R d e w1 base (fun k => ok k ∧ some k ≠ u.ownBlock) vv xs) := ⟨Kd.R_elder' (h E.out) hu hb⟩
theorem cR_ (E : Aside0 (Kd.R d e w0 base ok (.slice A n c) xs)) (h : Kd.C d w0 A xs.length xs → Kd.C d w A xs.length xs := by (intro hE_; repeat (first | exact hE_ | (with_reducible refine Kd.C_alloc ?_ _) | (with_reducible refine Kd.C_drewN ?_ _) | (with_reducible refine Kd.C_drew ?_)))) : Kd.C d w A xs.length xs := h (Kd.R_reads' E.out).2.2
theorem lS_ (E : Kd.S d e w0 base ok vv xs) (h : Kd.S d e w0 base ok vv xs → Kd.S d e w base ok vv xs := by (intro hE_; (with_reducible repeat (first | apply Kd.S_alloc | apply Kd.S_drewN | apply Kd.S_drew)); exact hE_)) : Kd.S d e w base ok vv xs := h E
theorem bw_ (hb : Below w.heap.size w w1) {v0 : World} (h : Below v0.heap.size v0 w := by repeat (first | (with_reducible first | exact HB.out | apply below_alloc | apply pw_below_drewN | apply below_drew1 | refine below_set ?_ (Aside0.out (by first | (with_reducible assumption) | assumption))) | exact HB.out)) : Aside0 (Below v0.heap.size v0 w1) := ⟨below_step h hb⟩
theorem kb_ {g : Nat} {o : Obj} (E : Aside0 (w0.heap[g]? = some o)) (hb : Below w.heap.size w w1) (h : w0.heap[g]? = some o → w.heap[g]? = some o := by (intro hE_; (with_reducible repeat (first | refine blk_drewN ?_ _ | refine blk_drew ?_ | refine blk_alloc ?_ _)); exact hE_)) : Aside0 (w1.heap[g]? = some o) := ⟨blk_below (h E.out) hb⟩
theorem cl_ {w2 : World} {a : Addr} {v : Value} (E : Aside0 (Below w.heap.size w w2)) (h : w.cell? a = some v) (hh : w2.cell? a = some v → w1.cell? a = some v := by exact fun h => h) : w1.cell? a = some v := hh ((E.out.cell (World.block_lt_of_cell? w _ h)).trans h)
theorem bc_ {g ty : Nat} {cs : Array Value} {v : Value} (E : Aside0 (w.heap[g]? = some (.cells cs ty (0, 0)))) (i : Nat) (h : cs[i]? = some v := by rfl) : w.cell? ⟨g, i, none⟩ = some v := (blk_cell E.out i).trans h
end
theorem er_ {p : Prop} (h : p := by first | rfl | (simp [errW_none, errW_some] <;> rfl) | (simp [*, errW_none, errW_some] <;> rfl)) : p := h
theorem rs_ {p : Prop} (h : p := by first | rfl | (simp; done) | (simp [*]; done)) : p := h
theorem dr_ {p : Prop} (h : p := by repeat (first | exact Drawn0.refl _ | apply Drawn0.step)) : p := h
theorem dt_ {p : Prop} [Decidable p] (h : decide p = true := by first | (with_reducible assumption) | assumption) : p := of_decide_eq_true h
theorem bo_ {α β : Type} {o : Option α} {f : α → Option β} {r : β} (h : o.bind f = some r) : ∃ a, Aside0 (o = some a) ∧ f a = some r := by
  obtain ⟨a, h1, h2⟩ := Option.bind_eq_some_iff.mp h
  exact ⟨a, ⟨h1⟩, h2⟩
theorem bt_ {α : Type} {x y : Option α} {r : α} (h : (if true = true then x else y) = some r) : x = some r := by rwa [if_pos rfl] at h
theorem bf_ {α : Type} {x y : Option α} {r : α} (h : (if false = true then x else y) = some r) : y = some r := by rwa [if_neg (by decide)] at h
theorem ys_ {α β : Type} {a b : α} {f : α → Option β} {r : β} (e : b = a) (h : (some a).bind f = some r) : f b = some r := by subst e; exact h
section
variable {P : Program} {md : Region.Mode} {ops : Array Oper} {Q : Exit → Act → World → Prop} {S : World → Prop} {ds : List Nat} {fuel : Nat} {l : Array Bool} {a a' : Act} {w : World} {oi : Oper} {T : Bool × List (List Nat × List Nat)}
theorem on_ (hT : Aside0 (rtab md ops = T)) (i N : Nat) (l' : Array Bool) (h : ∀ K : Act → World → Prop, Shut (∀ a' w', S w' → (S w' → wpAnyLast P md ops Q S ds fuel l' a' w') → K a' w') → if Region.wanted oi (yielded ops a.tmps) = true then Oper.wp P oi a w K Q else K (a.put (some N) undef) w)
    (hi : ops[i]? = some oi := by exact rfl) (hN : oi.dst = some N := by exact rfl) (hc : (readyT T.2 l.toList == [i] && l.toList.set i true == l'.toList) = true := by kernel_rfl) (hd : i ∉ ds := by decide) : wpAnyLast P md ops Q S ds (fuel + 1) l a w := one_ l' hi hN (one_of hT.out hc) hd h
theorem nm_ (N : Nat) {v : Value} (h : wpAnyLast P md ops Q S ds fuel l a' w) (ha : a.put (some N) v = a' := by (simp only [Act.put, List.setIfInBounds_toArray, List.set_cons_zero, List.set_cons_succ, i64_w, i32_w]; rfl)) : wpAnyLast P md ops Q S ds fuel l (a.put (some N) v) w := norm_ ha h
theorem ca_ {rest : List Oper} (N : Nat) {f : FuncId} {fn : Func} {as : Array Operand} {ts : Array TypeId} (hf : P.funcs[f]? = some fn) (args : Array Value) (h : Calls P f args w fun e w' => ∃ v, e = .returned v ∧ wpList P ops Q rest (a.put (some N) v) w') (hd : oi.dst = some N := by exact rfl) (hg : oi.guard = none := by exact rfl)
    (hname : (fn.name == "runtime.NumGoroutine") = false := by kernel_rfl) (hb : fn.body.isSome = true := by exact rfl) (hop : oi.op = .call { callee := .value (.func f), args := as, argTypes := ts } := by exact rfl) (hargs : as.map a.eval = args := by (try simp only [List.map_toArray, List.map_cons, List.map_nil]); first | done | rfl | (simp only [List.length_drop, List.length_take]; rfl)) : wpList P ops Q (oi :: rest) a w := goesL_ (some N) hd hg hf hname hb args hop hargs h
end
/-! The same with the rows of bools found by the step. -/
section
variable {P : Program} {md : Region.Mode} {ops : Array Oper} {Q : Exit → Act → World → Prop} {S : World → Prop} {ds : List Nat} {fuel n m m' N : Nat} {a a' : Act} {w : World} {oi : Oper} {v : Value} {T : Bool × List (List Nat × List Nat)} {B : List Nat}
theorem pv_ (hT : Aside0 (rtab md ops = T)) (i : Nat) (h : wpAnyLast P md ops Q S ds fuel (bs_ n m') a' w) (hi : ops[i]? = some oi := by exact rfl) (hN : oi.dst = some N := by exact rfl) (_hm : m + 2 ^ i = m' := by (simp only [Nat.reducePow, Nat.reduceAdd]; rfl)) (hc : anyT T (bs_ n m).toList (bs_ n m').toList i = true := by kernel_rfl)
    (hQ : ∀ c a w, Q (.panic c) (a.put oi.dst v) w → Q (.panic c) a w := by exact fun _ _ _ h => h) (hw : Region.wanted oi (yielded ops a.tmps) = true := by rfl) (hy : ∀ w', (execOp a.eval oi).run P w' = .ok (.value v) w' := by (intro w'; go_simp; with_reducible rfl))
    (ha : a.put (some N) v = a' := by (simp only [Act.put, List.setIfInBounds_toArray, List.set_cons_zero, List.set_cons_succ, i64_w, i32_w]; rfl)) : wpAnyLast P md ops Q S ds (fuel + 1) (bs_ n m) a w := pu_ hT i N (bs_ n m') h hi hN hc hQ hw hy ha
theorem uv_ (hT : Aside0 (rtab md ops = T)) (i : Nat) (h : wpAnyLast P md ops Q S ds fuel (bs_ n m') a' w) (hi : ops[i]? = some oi := by exact rfl) (hN : oi.dst = some N := by exact rfl) (_hm : m + 2 ^ i = m' := by (simp only [Nat.reducePow, Nat.reduceAdd]; rfl)) (hc : anyT T (bs_ n m).toList (bs_ n m').toList i = true := by kernel_rfl)
    (hQ : ∀ c a w, Q (.panic c) (a.put oi.dst undef) w → Q (.panic c) a w := by exact fun _ _ _ h => h) (hw : Region.wanted oi (yielded ops a.tmps) = false := by rfl)
    (ha : a.put (some N) undef = a' := by (simp only [Act.put, List.setIfInBounds_toArray, List.set_cons_zero, List.set_cons_succ, i64_w, i32_w]; rfl)) : wpAnyLast P md ops Q S ds (fuel + 1) (bs_ n m) a w := un_ hT i N (bs_ n m') h hi hN hc hQ hw ha
theorem tv_ (hT : Aside0 (rtab md ops = T)) (hW : Aside0 (waitsOk T.2 B = true)) (hS : S w) (i : Nat) (h : wpAnyLast P md ops Q S ds fuel (bs_ n m') a' w) (hi : ops[i]? = some oi := by exact rfl) (hN : oi.dst = some N := by exact rfl) (_hm : m + 2 ^ i = m' := by (simp only [Nat.reducePow, Nat.reduceAdd]; rfl)) (hc : takeW T B ds (bs_ n m).toList (bs_ n m').toList i = true := by kernel_rfl)
    (hQ : ∀ c a w, Q (.panic c) (a.put oi.dst v) w → Q (.panic c) a w := by exact fun _ _ _ h => h) (hw : Region.wanted oi (yielded ops a.tmps) = true := by rfl) (hy : ∀ w', S w' → (execOp a.eval oi).run P w' = .ok (.value v) w' := by (intro w' hs; (try dsimp only at hs); go_simp; with_reducible rfl))
    (ha : a.put (some N) v = a' := by (simp only [Act.put, List.setIfInBounds_toArray, List.set_cons_zero, List.set_cons_succ, i64_w, i32_w]; rfl)) : wpAnyLast P md ops Q S ds (fuel + 1) (bs_ n m) a w := ta_ hT hW hS i N (bs_ n m') h hi hN hc hQ hw hy ha
theorem ov_ (hT : Aside0 (rtab md ops = T)) (i : Nat) (h : ∀ K : Act → World → Prop, Shut (∀ a' w', S w' → (S w' → wpAnyLast P md ops Q S ds fuel (bs_ n m') a' w') → K a' w') → if Region.wanted oi (yielded ops a.tmps) = true then Oper.wp P oi a w K Q else K (a.put (some N) undef) w)
    (hi : ops[i]? = some oi := by exact rfl) (hN : oi.dst = some N := by exact rfl) (_hm : m + 2 ^ i = m' := by (simp only [Nat.reducePow, Nat.reduceAdd]; rfl)) (hc : (readyT T.2 (bs_ n m).toList == [i] && (bs_ n m).toList.set i true == (bs_ n m').toList) = true := by kernel_rfl) (hd : i ∉ ds := by decide) : wpAnyLast P md ops Q S ds (fuel + 1) (bs_ n m) a w := on_ hT i N (bs_ n m') h hi hN hc hd
theorem aa_ {i m : Int} {Q : Prop} (h : 0 ≤ i → i < m → Q) (h0 : 0 ≤ i := by exact dt_) (h1 : i < m := by exact dt_) : (0 ≤ i) = True ∧ (i < m) = True ∧ Q := ⟨eq_true h0, eq_true h1, h h0 h1⟩
end
end Go.Proofs.YtggokdobijhdhaaDoor.X
