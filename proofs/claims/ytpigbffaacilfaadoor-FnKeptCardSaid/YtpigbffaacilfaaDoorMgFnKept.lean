/- Plain lemmas of several texts in one (a claim holds at most 60 files). -/
import Derived.Test.YtpigbffaacilfaaDoorRows
import Derived.Test.YtpigbffaacilfaaDoorSh
import Derived.Test.YtpigbffaacilfaaDoorX1
import Derived.Lib.LaidIn
import Derived.Lib.LaidU8T
import Derived.Deep.DeepHandedRow
import Derived.Deep.DeepWitnessRowRef
import Derived.ProofKit
import Derived.Test.YtpigbffaacilfaaDoorK
import Derived.Test.YtpigbffaacilfaaDoorPx0
import Derived.Test.YtpigbffaacilfaaDoorPx14
import Derived.Test.YtpigbffaacilfaaDoorPx17
import Derived.Laws.BitsLemmas
import Derived.Test.YtpigbffaacilfaaDoorPx11
import Derived.Test.YtpigbffaacilfaaDoorPx7
import Derived.Test.YtpigbffaacilfaaDoorPx1
import Derived.Test.YtpigbffaacilfaaDoorPx12
import Derived.Test.YtpigbffaacilfaaDoorPx8
import Derived.Test.YtpigbffaacilfaaDoorPx2
import Derived.Lib.DecodeN
import Derived.Lib.TrimUEq
import Derived.Lib.ValidLaws
import Derived.Lib.RuneCount
import Derived.Lib.FieldsU
import Derived.Laws.BytesArg
import Derived.Test.YtpigbffaacilfaaDoorPx3
import Derived.Test.YtpigbffaacilfaaDoorX5
import Derived.Test.YtpigbffaacilfaaDoorX7
import Derived.Test.YtpigbffaacilfaaDoorX6
import Derived.Lib.Split
import Derived.Lib.SplitLaws
import Derived.Lib.CountLaws
import Derived.Lib.IndexBytes
import Derived.WideShapes
import Derived.Lib.Join
import Derived.Lib.IndexAny
import Derived.Test.YtpigbffaacilfaaDoorX12
import Derived.Test.YtpigbffaacilfaaDoorPx4
import Derived.Test.YtpigbffaacilfaaDoorPx9
import Derived.Test.YtpigbffaacilfaaDoorPx10
import Derived.Test.YtpigbffaacilfaaDoorPx5
import Derived.Test.YtpigbffaacilfaaDoorPx19
import Derived.Test.YtpigbffaacilfaaDoorPx20
import Derived.Test.YtpigbffaacilfaaDoorPx21
import Derived.Test.YtpigbffaacilfaaDoorMgIKept
import Derived.Test.YtpigbffaacilfaaDoorPx6
import Derived.Test.YtpigbffaacilfaaDoorPx15
import Derived.Test.YtpigbffaacilfaaDoorPx16
import Derived.Test.YtpigbffaacilfaaDoorPx18
import Derived.Test.YtpigbffaacilfaaDoorPx22
section
/- The laid world of this seat: the settled world with the listed tables laid; the tables' fact out of the row's own premise. Laid out by a program of this work (tied.py) after the kit's DeepOkProofs.lean. -/
namespace Go.Proofs.YtpigbffaacilfaaDoor.Laid
open Go.Shelf Go.RowKit Go.Lib
theorem own : ownKnob Tryd.prog.godebug = none := by kernel_rfl
def lst : List (String × DataW Unit) := [("unicode/utf8.acceptRanges", Rows.laid_unicode_utf8_acceptRanges), ("unicode/utf8.first", Rows.laid_unicode_utf8_first)]
noncomputable def world (os : Os) : World :=
  let w0 := World.holding Tryd.prog os ⟨#[], #[], []⟩
  let put (h : Array Obj) (g : Nat) (cs : Array Value) : Array Obj := h.modify g fun
    | .cells _ t frozen => .cells cs t frozen
    | o => o
  let h1 := put w0.heap 0 (Lib.firstTab.map fun z => Value.int .u8 z).toArray
  let h2 := put h1 1 ((List.range 16).flatMap fun i => [Value.int .u8 (Lib.accLo i), Value.int .u8 (Lib.accHi i)]).toArray
  { w0 with heap := h2 }
theorem laid_met (os : Os) (args : Array Value) : laidMet Tryd.prog lst ((world os).forCall (fun _ _ => 0) ⟨#[], args, []⟩).memory :=
  (LaidIn.of_run (l := lst) [0, 1] 8 (by kernel_rfl) (by kernel_rfl) (by kernel_rfl) (by kernel_rfl)).met
theorem eFirst : (Rows.laid_unicode_utf8_first : DataW Unit) = Lib.firstData := by kernel_rfl
theorem eAccept : (Rows.laid_unicode_utf8_acceptRanges : DataW Unit) = Lib.acceptData := by kernel_rfl
theorem mFirst : ("unicode/utf8.first", Lib.firstData) ∈ lst := by
  rw [← eFirst]
  unfold lst
  exact List.mem_cons_of_mem _ (List.mem_cons_self)
theorem mAccept : ("unicode/utf8.acceptRanges", Lib.acceptData) ∈ lst := by
  rw [← eAccept]
  unfold lst
  exact List.mem_cons_self
theorem tabs {W : World} (hL : laidMet Tryd.prog lst W) (hs : W.ShapedOpen Tryd.prog) : X.Tabs W :=
  ⟨utf8Tabs_of_readsT (U8Types.of196 Tryd.lays196) ⟨by kernel_rfl, by kernel_rfl, by kernel_rfl, by kernel_rfl, by kernel_rfl, by kernel_rfl, by kernel_rfl⟩ (Lib.laidMet.reads hL mFirst) (Lib.laidMet.reads hL mAccept), Tryd.laysM146.s1_3 W hs⟩
end Go.Proofs.YtpigbffaacilfaaDoor.Laid
end
section
/- What is drawn of bytes: a place in them that never leaves them, numbers below a bound, bytes. No program in sight. -/
namespace Go.Proofs.YtpigbffaacilfaaDoor.Pure
open Go.RowKit Go.Proofs.YtpigbffaacilfaaDoor.P Go.Proofs.YtpigbffaacilfaaDoorW.PrintWords Go.Proofs.YtpigbffaacilfaaDoorW.PrintLast Go.Proofs.YtpigbffaacilfaaDoorW.PrintMore Go.Proofs.YtpigbffaacilfaaDoor.K
set_option linter.unusedVariables false
set_option linter.unusedSimpArgs false
theorem same_eq (a b : List Int) (h : a = b) : laws_same.f a b = some true := by
  subst h
  unfold laws_same.f
  rw [beq_self_eq_true]
theorem big_ev (l : List Int) (f : Nat → Bool → Option Bool) (hs : l.length ≤ 1048576 → Ev (fun k => f k false) true) (hb : Ev (fun k => f k true) true) : Ev (fun k => (laws_big.f l).bind (f k)) true := by
  unfold laws_big.f
  by_cases q : (l.length : Int) > 1048576
  · refine ev_b (a := true) (by rw [decide_eq_true q]) hb
  · refine ev_b (a := false) (by rw [decide_eq_false q]) (hs (by omega))
end Go.Proofs.YtpigbffaacilfaaDoor.Pure
end
section
/- What the small functions of the laws and of the program come to: copies, comparisons, marks of bytes and numbers; joined; PutWord, GetWord, PutBytes, GetBytes, PutLen. No program in sight. -/
namespace Go.Proofs.YtpigbffaacilfaaDoor.Pure
open Go.RowKit Go.Proofs.YtpigbffaacilfaaDoor.P Go.Proofs.YtpigbffaacilfaaDoorW.PrintWords Go.Proofs.YtpigbffaacilfaaDoorW.PrintLast Go.Proofs.YtpigbffaacilfaaDoor.K
set_option linter.unusedVariables false
set_option linter.unusedSimpArgs false

theorem toByteS_ev (l : List Int) (hl : l.length ≤ 35184372088832) : Ev (fun k => laws_toByteS.f k l) l := by
  unfold laws_toByteS.f
  refine ev_pos (by omega) (ev_pos (by omega) ?_)
  refine copy_loop l (fun k y i => laws_toByteS.l0 k l y i) ?_ ?_ l.length 0 (List.replicate ((l.length : Int) : Int).toNat 0) (by omega) (by simp) (by simp)
  · intro i y r hi hy h
    refine Ev.step (fun k => ?_) h
    simp only [laws_toByteS.l0]
    rw [if_pos (by omega), if_pos (by omega), if_pos (by omega), rd_get hi, w64s hi (by omega)]
    rfl
  · intro y hy
    refine Ev.step (fun k => ?_) (Ev.now y)
    simp only [laws_toByteS.l0]
    rw [if_neg (by omega)]
theorem eqByteS_ev (a b : List Int) (ha : a.length ≤ 35184372088832) : Ev (fun k => laws_eqByteS.f k a b) (decide (a = b)) := by
  unfold laws_eqByteS.f
  refine ev_ite (fun e => ?_) (fun e => ev_some ?_)
  · have hl : a.length = b.length := by omega
    refine eq_loop a b hl (fun k i => laws_eqByteS.l0 k a b i) ?_ ?_ ?_ a.length 0 (by omega)
    · intro i r hi hx h
      refine Ev.step (fun k => ?_) h
      simp only [laws_eqByteS.l0]
      rw [if_pos (by omega), if_pos (by omega), if_pos (by omega), rd_get hi, rd_get (hl ▸ hi), if_pos hx, w64s hi (by omega)]
    · intro i hi hx
      refine Ev.step (fun k => ?_) (Ev.now false)
      simp only [laws_eqByteS.l0]
      rw [if_pos (by omega), if_pos (by omega), if_pos (by omega), rd_get hi, rd_get (hl ▸ hi), if_neg hx]
    · refine Ev.step (fun k => ?_) (Ev.now true)
      simp only [laws_eqByteS.l0]
      rw [if_neg (by omega)]
  · symm
    simp only [decide_eq_false_iff_not]
    intro h
    subst h
    exact e rfl
end Go.Proofs.YtpigbffaacilfaaDoor.Pure
end
section
/- What is kept, in plain Lean: copies, sizes, comparisons of lists of kept texts; KeptOk. No program in sight. -/
namespace Go.Proofs.YtpigbffaacilfaaDoor.Pure
open Go.RowKit Go.Proofs.YtpigbffaacilfaaDoor.X Go.Proofs.YtpigbffaacilfaaDoor.P Go.Proofs.YtpigbffaacilfaaDoorW.PrintWords Go.Proofs.YtpigbffaacilfaaDoorW.PrintLast Go.Proofs.YtpigbffaacilfaaDoor.K
set_option linter.unusedVariables false
set_option linter.unusedSimpArgs false
def tk (y : S43) : S41 := ⟨y.f0, y.f1, y.f2⟩
theorem rdLK {l : List S43} {i : Nat} (h : i < l.length) : rd_T43 l (i : Int) = l[i] := getD_get h
theorem rdIK {l : List S41} {i : Nat} (h : i < l.length) : rd_T41 l (i : Int) = l[i] := getD_get h
theorem toKeptS_ev (l : List S43) (hl : l.length ≤ 1048576) (hb : ∀ x ∈ l, x.f1.length ≤ 1048576) : Ev (fun k => laws_toKeptS.f k l) (l.map tk) := by
  unfold laws_toKeptS.f
  refine ev_pos (by omega) (ev_pos (by omega) ?_)
  refine copy_loop (l.map tk) (fun k y i => laws_toKeptS.l0 k l y i) ?_ ?_ l.length 0 (List.replicate ((l.length : Int) : Int).toNat z41) (by simp) (by simp) (by simp)
  · intro i y r hi hy h
    rw [List.length_map] at hi hy
    have hx := hb _ (List.getElem_mem hi)
    refine Ev.step (fun k => by rw [laws_toKeptS.l0]) (ev_pos (by omega) (ev_pos (by omega) ?_))
    rw [rdLK hi, w64s (i := i) (n := l.length) hi (by omega)]
    have ht : Ev (fun k => laws_toKept.f k l[i].f0 l[i].f1 l[i].f2) (l[i].f0, l[i].f1, l[i].f2) := by
      unfold laws_toKept.f
      exact Ev.bind (toByteS_ev _ (by omega)) (Ev.now _)
    refine Ev.bind ht (ev_pos (by omega) ?_)
    rw [List.getElem_map] at h
    exact h
  · intro y hy
    rw [List.length_map] at hy ⊢
    exact Ev.step (fun k => by rw [laws_toKeptS.l0]) (ev_neg (by omega) (Ev.now _))
theorem szKept_eq (x : S43) (a : Int) (h0 : 0 ≤ a) (h1 : a ≤ 4611686018427387904) (hx : x.f0.size ≤ 140737488351232 ∧ x.f1.length ≤ 140737488351232) :
    ∃ r, laws_szKept.f x.f0 x.f1 x.f2 a = some r ∧ (¬ r < 0 → (x.f0.size : Int) ≤ a ∧ (x.f1.length : Int) ≤ a) ∧ r ≤ a := by
  unfold laws_szKept.f laws_szByteS.f
  rw [w64 (x := a - (x.f0.size : Int)) (by omega) (by omega), w64 (x := a - (x.f0.size : Int) - (x.f1.length : Int)) (by omega) (by omega)]
  by_cases q : a - (x.f0.size : Int) < 0
  · exact ⟨-1, by rw [if_pos q], fun h => absurd (by omega) h, by omega⟩
  · rw [if_neg q]
    by_cases q2 : a - (x.f0.size : Int) - (x.f1.length : Int) < 0
    · exact ⟨-1, by rw [if_pos q2]; rfl, fun h => absurd (by omega) h, by omega⟩
    · refine ⟨a - (x.f0.size : Int) - (x.f1.length : Int), ?_, fun _ => by omega, by omega⟩
      rw [if_neg q2]
      simp only [Option.bind_some]
      rw [if_neg q2]
theorem szKeptS_l (l : List S43) (hl : l.length ≤ 140737488351232) (hs : ∀ x ∈ l, x.f0.size ≤ 140737488351232 ∧ x.f1.length ≤ 140737488351232) : ∀ (d i : Nat) (a : Int), i + d = l.length → 0 ≤ a → a ≤ 4611686018427387904 →
    ∃ r, Ev (fun k => laws_szKeptS.l0 k l a (i : Int)) r ∧ (¬ r < 0 → ∀ x ∈ l.drop i, (x.f0.size : Int) ≤ a ∧ (x.f1.length : Int) ≤ a) ∧ r ≤ a
  | 0, i, a, hd, h0, h1 => by
    refine ⟨a, Ev.step (fun k => by rw [laws_szKeptS.l0]) (ev_neg (by omega) (Ev.now _)), fun _ x hx => ?_, by omega⟩
    rw [List.drop_of_length_le (by omega)] at hx
    cases hx
  | d + 1, i, a, hd, h0, h1 => by
    have hi : i < l.length := by omega
    obtain ⟨b, hb, hq, hle⟩ := szKept_eq l[i] a h0 h1 (hs _ (List.getElem_mem hi))
    by_cases q : b < 0
    · refine ⟨-1, Ev.step (fun k => by rw [laws_szKeptS.l0]) (ev_pos (by omega) (ev_pos (by omega) ?_)), fun h => absurd (by omega) h, by omega⟩
      rw [rdLK hi]
      exact ev_b hb (ev_pos q (Ev.now _))
    · obtain ⟨r, hr, hx, hle2⟩ := szKeptS_l l hl hs d (i + 1) b (by omega) (by omega) (by omega)
      refine ⟨r, Ev.step (fun k => by rw [laws_szKeptS.l0]) (ev_pos (by omega) (ev_pos (by omega) ?_)), fun h x hm => ?_, by omega⟩
      · rw [rdLK hi, w64s (i := i) (n := l.length) hi (by omega)]
        exact ev_b hb (ev_neg q hr)
      · rw [List.drop_eq_getElem_cons hi] at hm
        rcases List.mem_cons.1 hm with rfl | hm
        · exact hq q
        · have := hx h x hm
          omega
theorem szKeptS_ev (l : List S43) (a : Int) (h0 : 0 ≤ a) (h1 : a ≤ 4611686018427387904) (hl : l.length ≤ 140737488351232) (hs : ∀ x ∈ l, x.f0.size ≤ 140737488351232 ∧ x.f1.length ≤ 140737488351232) :
    ∃ r, Ev (fun k => laws_szKeptS.f k l a) r ∧ (¬ r < 0 → (l.length : Int) ≤ a ∧ ∀ x ∈ l, (x.f0.size : Int) ≤ a ∧ (x.f1.length : Int) ≤ a) ∧ r ≤ a := by
  unfold laws_szKeptS.f
  rw [w64 (x := a - (l.length : Int)) (by omega) (by omega)]
  by_cases q : a - (l.length : Int) < 0
  · exact ⟨-1, ev_pos q (Ev.now _), fun h => absurd (by omega) h, by omega⟩
  · obtain ⟨r, hr, hx, hle⟩ := szKeptS_l l hl hs l.length 0 (a - (l.length : Int)) (by omega) (by omega) (by omega)
    refine ⟨r, ev_neg q hr, fun h => ⟨by omega, fun x hm => ?_⟩, by omega⟩
    have := hx h x (by simpa using hm)
    omega
theorem eqKeptS_ev (l : List S41) (hl : l.length ≤ 1048576) (hb : ∀ x ∈ l, x.f1.length ≤ 1048576) : Ev (fun k => laws_eqKeptS.f k l l) true := by
  unfold laws_eqKeptS.f
  refine ev_pos rfl ?_
  suffices h : ∀ (d i : Nat), i + d = l.length → Ev (fun k => laws_eqKeptS.l0 k l l (i : Int)) true from h l.length 0 (by omega)
  intro d
  induction d with
  | zero =>
    intro i hi
    exact Ev.step (fun k => by rw [laws_eqKeptS.l0]) (ev_neg (by omega) (Ev.now _))
  | succ d ih =>
    intro i hi
    have hil : i < l.length := by omega
    have hx := hb _ (List.getElem_mem hil)
    refine Ev.step (fun k => by rw [laws_eqKeptS.l0]) (ev_pos (by omega) (ev_pos (by omega) (ev_pos (by omega) ?_)))
    rw [rdIK hil, w64s (i := i) (n := l.length) hil (by omega)]
    have he : Ev (fun k => laws_eqKept.f k l[i].f0 l[i].f1 l[i].f2 l[i].f0 l[i].f1 l[i].f2) true := by
      unfold laws_eqKept.f
      exact ev_pos rfl (Ev.bind (eqByteS_ev _ _ (by omega)) (ev_pos (by simp) (ev_pos rfl (Ev.now _))))
    exact Ev.bind he (ev_pos rfl (ih (i + 1) (by omega)))
end Go.Proofs.YtpigbffaacilfaaDoor.Pure
end
section
/- What the small functions of the laws and of the program come to: copies, comparisons, marks of bytes and numbers; joined; PutWord, GetWord, PutBytes, GetBytes, PutLen. No program in sight. -/
namespace Go.Proofs.YtpigbffaacilfaaDoor.Pure
open Go.RowKit Go.Proofs.YtpigbffaacilfaaDoor.P Go.Proofs.YtpigbffaacilfaaDoorW.PrintWords Go.Proofs.YtpigbffaacilfaaDoorW.PrintLast Go.Proofs.YtpigbffaacilfaaDoor.K
set_option linter.unusedVariables false
set_option linter.unusedSimpArgs false

theorem l1In_eq (a b c : Int) : spec_l1In.f a b c = some (decide (b ≤ a ∧ a ≤ c)) := by
  unfold spec_l1In.f
  by_cases h : a ≥ b
  · rw [if_pos h]; congr 1; simp; omega
  · rw [if_neg h]; congr 1; symm; simp; omega
theorem within_eq (a b c : Int) : impl_within.f a b c = some (decide (b ≤ a ∧ a ≤ c)) := by
  unfold impl_within.f
  by_cases h : a ≥ b
  · rw [if_pos h]; congr 1; simp; omega
  · rw [if_neg h]; congr 1; symm; simp; omega
end Go.Proofs.YtpigbffaacilfaaDoor.Pure
end
section
/- The signs of bytes: what spec.RuneAt and impl.RuneAt, spec.CountRunes, TextOk of the program and of the reference come to, all in the words of the model's own decoder. No program in sight. -/
namespace Go.Proofs.YtpigbffaacilfaaDoor.Pure
open Go.RowKit Go.Proofs.YtpigbffaacilfaaDoor.X Go.Proofs.YtpigbffaacilfaaDoor.P Go.Proofs.YtpigbffaacilfaaDoorW.PrintWords Go.Proofs.YtpigbffaacilfaaDoorW.PrintLast Go.Proofs.YtpigbffaacilfaaDoor.K
set_option linter.unusedVariables false
set_option linter.unusedSimpArgs false
theorem i64_and31 {x : Int} (h0 : 0 ≤ x) (h1 : x < 9223372036854775808) : Go.bits .and .i64 x 31 = x % 32 :=
  bits_mask .i64 63 (by decide) wraps_i64 5 (by decide) x h0 h1
theorem i64_and15 {x : Int} (h0 : 0 ≤ x) (h1 : x < 9223372036854775808) : Go.bits .and .i64 x 15 = x % 16 :=
  bits_mask .i64 63 (by decide) wraps_i64 4 (by decide) x h0 h1
theorem i64_and7 {x : Int} (h0 : 0 ≤ x) (h1 : x < 9223372036854775808) : Go.bits .and .i64 x 7 = x % 8 :=
  bits_mask .i64 63 (by decide) wraps_i64 3 (by decide) x h0 h1
/-- The sign at a place, by the model's own decoder. -/
def dec (l : List Int) (a : Nat) : Nat × Nat := Lib.decodeN (l.length - a) (l.getD a 0).toNat (l.getD (a + 1) 0).toNat (l.getD (a + 2) 0).toNat (l.getD (a + 3) 0).toNat
def runeAtP (l : List Int) (a : Int) : Int × Int × Bool :=
  if 0 ≤ a ∧ a < l.length then (if (dec l a.toNat).1 = 65533 ∧ (dec l a.toNat).2 = 1 then (0, 0, false) else (((dec l a.toNat).1 : Int), a + ((dec l a.toNat).2 : Int), true)) else (0, 0, false)
theorem runeAt_end (l : List Int) (a x8 x9 v i : Int) (r : Int × Int × Bool) (h : x8 < i) (ha : -1 ≤ a) (ha1 : a ≤ 35184372088832) (h8 : 0 ≤ x8) (h81 : x8 ≤ 3)
    (hr : r = if v < x9 ∨ 1114111 < v ∨ (55296 ≤ v ∧ v ≤ 57343) then (0, 0, false) else (v, a + 1 + x8, true)) : Ev (fun k => spec_RuneAt.l0 k l a x8 x9 v i) r := by
  refine Ev.step (fun k => by rw [spec_RuneAt.l0]) ?_
  refine ev_neg (by omega) ?_
  by_cases h1 : v < x9
  · rw [if_pos (.inl h1)] at hr
    exact ev_pos h1 (ev_some hr.symm)
  refine ev_neg h1 ?_
  by_cases h2 : v > 1114111
  · rw [if_pos (.inr (.inl h2))] at hr
    exact ev_pos h2 (ev_some hr.symm)
  refine ev_neg h2 (ev_b (l1In_eq v 55296 57343) ?_)
  by_cases h3 : 55296 ≤ v ∧ v ≤ 57343
  · rw [if_pos (.inr (.inr h3))] at hr
    exact ev_pos (by simpa using h3) (ev_some hr.symm)
  · rw [if_neg (by omega)] at hr
    refine ev_neg (by simpa using h3) (ev_some ?_)
    rw [hr, w64 (x := a + 1) (by omega) (by omega), w64 (by omega) (by omega)]
theorem runeAt_more (l : List Int) (a x8 x9 v i : Int) (r : Int × Int × Bool) (hb : Bytes l) (h : i ≤ x8) (ha : 0 ≤ a) (h0 : 1 ≤ i) (h8 : x8 ≤ 3) (hlt : a + i < l.length) (hl : l.length ≤ 35184372088832) (hv : 0 ≤ v) (hv1 : v ≤ 1073741824)
    (hbad : rd l (a + i) / 64 ≠ 2 → r = (0, 0, false)) (hok : rd l (a + i) / 64 = 2 → Ev (fun k => spec_RuneAt.l0 k l a x8 x9 (v * 64 + rd l (a + i) % 64) (i + 1)) r) : Ev (fun k => spec_RuneAt.l0 k l a x8 x9 v i) r := by
  have hy := bytes_rd hb (a + i)
  refine Ev.step (fun k => by rw [spec_RuneAt.l0]) ?_
  rw [w64 (x := a + i) (by omega) (by omega), w64 (x := rd l (a + i)) (by omega) (by omega)]
  refine ev_pos h (ev_pos (by omega) (ev_pos hlt ?_))
  by_cases h1 : rd l (a + i) < 128
  · exact ev_pos h1 (ev_some (hbad (by omega)).symm)
  refine ev_neg h1 ?_
  by_cases h2 : rd l (a + i) > 191
  · exact ev_pos h2 (ev_some (hbad (by omega)).symm)
  refine ev_neg h2 ?_
  rw [w64 (x := v * 64) (by omega) (by omega), w64 (x := v * 64 + rd l (a + i)) (by omega) (by omega), w64 (x := v * 64 + rd l (a + i) - 128) (by omega) (by omega), w64 (x := i + 1) (by omega) (by omega)]
  have e : v * 64 + rd l (a + i) - 128 = v * 64 + rd l (a + i) % 64 := by omega
  rw [e]
  exact hok (by omega)
/-- A number of the list and its Nat. -/
theorem rd_nat {l : List Int} (hb : Bytes l) (a : Int) (ha : 0 ≤ a) (j : Nat) : rd l (a + (j : Int)) = ((l.getD (a.toNat + j) 0).toNat : Int) ∧ (l.getD (a.toNat + j) 0).toNat ≤ 255 := by
  have h := bytes_rd hb (a + (j : Int))
  have e : (a + (j : Int)).toNat = a.toNat + j := by omega
  unfold rd at h ⊢
  rw [e] at h ⊢
  omega
set_option maxHeartbeats 1000000 in
theorem specRuneAt_ev (l : List Int) (a : Int) (hb : Bytes l) (hl : l.length ≤ 35184372088832) : Ev (fun k => spec_RuneAt.f k l a) (runeAtP l a) := by
  unfold spec_RuneAt.f runeAtP
  by_cases h0 : a < 0
  · rw [if_neg (by omega)]
    refine ev_pos h0 (Ev.step (fun k => by rw [spec_RuneAt.j0]) (ev_pos rfl (Ev.now _)))
  refine ev_neg h0 (Ev.step (fun k => by rw [spec_RuneAt.j0]) ?_)
  by_cases h1 : a ≥ (l.length : Int)
  · rw [if_neg (by omega)]
    exact ev_pos (by simpa using h1) (Ev.now _)
  rw [if_pos (by omega)]
  have d0 := rd_nat hb a (by omega) 0
  have d1 := rd_nat hb a (by omega) 1
  have d2 := rd_nat hb a (by omega) 2
  have d3 := rd_nat hb a (by omega) 3
  unfold dec
  simp only [Nat.add_zero, Int.natCast_zero, Int.add_zero] at d0
  generalize hg0 : (l.getD a.toNat 0).toNat = b0 at d0 ⊢
  generalize hg1 : (l.getD (a.toNat + 1) 0).toNat = b1 at d1 ⊢
  generalize hg2 : (l.getD (a.toNat + 2) 0).toNat = b2 at d2 ⊢
  generalize hg3 : (l.getD (a.toNat + 3) 0).toNat = b3 at d3 ⊢
  clear hg0 hg1 hg2 hg3
  generalize hn : l.length - a.toNat = n
  have e0 : wrap64 (rd l a) = rd l a := w64 (by omega) (by omega)
  rw [e0, d0.1]
  refine ev_neg (by simp; omega) (ev_pos (by omega) (ev_pos (by omega) ?_))
  by_cases c0 : b0 < 128
  · refine ev_pos (by omega) (ev_some ?_)
    rw [w64 (x := a + 1) (by omega) (by omega)]
    unfold Lib.decodeN
    rw [if_pos c0]
    rw [if_neg (by simp only; omega)]
    rfl
  refine ev_neg (by omega) ?_
  obtain ⟨R, hR⟩ : ∃ R : Int × Int × Bool, R = if (Lib.decodeN n b0 b1 b2 b3).1 = 65533 ∧ (Lib.decodeN n b0 b1 b2 b3).2 = 1 then (0, 0, false) else (((Lib.decodeN n b0 b1 b2 b3).1 : Int), a + ((Lib.decodeN n b0 b1 b2 b3).2 : Int), true) := ⟨_, rfl⟩
  rw [← hR]
  have bad : Lib.decodeN n b0 b1 b2 b3 = (65533, 1) → R = (0, 0, false) := fun h => by rw [hR, h]; rfl
  have good : ∀ c k, k ≠ 1 → Lib.decodeN n b0 b1 b2 b3 = (c, k) → R = ((c : Int), a + (k : Int), true) := fun c k hk h => by
    rw [hR, h, if_neg (fun q => hk q.2)]
  clear hR
  have hc0 : b0 ≤ 255 := by omega
  have nA : ∀ h : b0 < 192 ∨ 248 ≤ b0, Lib.decodeN n b0 b1 b2 b3 = (65533, 1) := fun h => by
    unfold Lib.decodeN
    rw [if_neg (by omega), if_neg (by omega), if_neg (by omega), if_neg (by omega)]
  by_cases c1 : b0 < 192
  · refine ev_neg (by omega) (Ev.step (fun k => by rw [spec_RuneAt.j1]) (ev_neg (by simp) (ev_neg (by omega) ?_)))
    exact Ev.step (fun k => by rw [spec_RuneAt.j2]) (ev_neg (by simp) (ev_neg (by omega) (ev_some (bad (nA (.inl c1))).symm)))
  refine ev_pos (by omega) (Ev.step (fun k => by rw [spec_RuneAt.j1]) ?_)
  have el : wrap64 ((l.length : Int) - 1) = (l.length : Int) - 1 := w64 (by omega) (by omega)
  by_cases c2 : b0 < 224
  · refine ev_pos (by simp; omega) (Ev.step (fun k => by rw [spec_RuneAt.j3]) ?_)
    rw [el, w64 (x := (l.length : Int) - 1 - 1) (by omega) (by omega), i64_and31 (by omega) (by omega)]
    by_cases n1 : 1 < n
    · refine ev_neg (by omega) (runeAt_more l a 1 128 _ 1 R hb (by omega) (by omega) (by omega) (by omega) (by omega) hl (by omega) (by omega) (fun h => bad ?_) (fun h => ?_))
      · have := d1.1
        simp only [Int.natCast_one] at this
        unfold Lib.decodeN
        rw [if_neg (by omega), if_neg (by omega), if_neg (by omega), if_neg (by omega)]
      · have h1 := d1.1
        simp only [Int.natCast_one] at h1
        rw [h1]
        rw [h1] at h
        refine runeAt_end l a 1 128 _ _ R (by omega) (by omega) (by omega) (by omega) (by omega) ?_
        by_cases q : b0 % 32 * 64 + b1 % 64 ≥ 128
        · rw [if_neg (by omega), good (b0 % 32 * 64 + b1 % 64) 2 (by omega) (by unfold Lib.decodeN; rw [if_neg (by omega), if_pos (by omega), if_pos q])]
          simp only [Prod.mk.injEq, and_true]
          omega
        · rw [if_pos (by omega), bad (by unfold Lib.decodeN; rw [if_neg (by omega), if_pos (by omega), if_neg q])]
    · refine ev_pos (by omega) (ev_some (bad ?_).symm)
      unfold Lib.decodeN
      rw [if_neg (by omega), if_neg (by omega), if_neg (by omega), if_neg (by omega)]
  refine ev_neg (by simp; omega) (ev_pos (by omega) (Ev.step (fun k => by rw [spec_RuneAt.j2]) ?_))
  by_cases c3 : b0 < 240
  · refine ev_pos (by simp; omega) (Ev.step (fun k => by rw [spec_RuneAt.j3]) ?_)
    rw [el, w64 (x := (l.length : Int) - 1 - 2) (by omega) (by omega), i64_and15 (by omega) (by omega)]
    by_cases n2 : 2 < n
    · refine ev_neg (by omega) (runeAt_more l a 2 2048 _ 1 R hb (by omega) (by omega) (by omega) (by omega) (by omega) hl (by omega) (by omega) (fun h => bad ?_) (fun h => ?_))
      · have := d1.1
        simp only [Int.natCast_one] at this
        unfold Lib.decodeN
        rw [if_neg (by omega), if_neg (by omega), if_neg (by omega), if_neg (by omega)]
      · have h1 := d1.1
        simp only [Int.natCast_one] at h1
        rw [h1]
        rw [h1] at h
        have h2 := d2.1
        have e2 : ((2 : Nat) : Int) = 1 + 1 := rfl
        rw [e2] at h2
        refine runeAt_more l a 2 2048 _ (1 + 1) R hb (by omega) (by omega) (by omega) (by omega) (by omega) hl (by omega) (by omega) (fun g => bad ?_) (fun g => ?_)
        · unfold Lib.decodeN
          rw [if_neg (by omega), if_neg (by omega), if_neg (by omega), if_neg (by omega)]
        · rw [h2]
          rw [h2] at g
          refine runeAt_end l a 2 2048 _ _ R (by omega) (by omega) (by omega) (by omega) (by omega) ?_
          have ec : ((b0 : Int) % 16 * 64 + (b1 : Int) % 64) * 64 + (b2 : Int) % 64 = ((b0 % 16 * 4096 + b1 % 64 * 64 + b2 % 64 : Nat) : Int) := by omega
          rw [ec]
          generalize hc : b0 % 16 * 4096 + b1 % 64 * 64 + b2 % 64 = c
          by_cases q : c ≥ 2048 ∧ (c < 55296 ∨ (57344 ≤ c ∧ c ≤ 1114111))
          · rw [if_neg (by omega), good c 3 (by omega) (by unfold Lib.decodeN; rw [if_neg (by omega), if_neg (by omega), if_pos (by omega), hc, if_pos q])]
            simp only [Prod.mk.injEq, and_true, true_and]
            omega
          · rw [if_pos (by omega), bad (by unfold Lib.decodeN; rw [if_neg (by omega), if_neg (by omega), if_pos (by omega), hc, if_neg q])]
    · refine ev_pos (by omega) (ev_some (bad ?_).symm)
      unfold Lib.decodeN
      rw [if_neg (by omega), if_neg (by omega), if_neg (by omega), if_neg (by omega)]
  refine ev_neg (by simp; omega) (ev_pos (by omega) ?_)
  by_cases c4 : b0 < 248
  · refine ev_pos (by omega) (Ev.step (fun k => by rw [spec_RuneAt.j3]) ?_)
    rw [el, w64 (x := (l.length : Int) - 1 - 3) (by omega) (by omega), i64_and7 (by omega) (by omega)]
    by_cases n3 : 3 < n
    · refine ev_neg (by omega) (runeAt_more l a 3 65536 _ 1 R hb (by omega) (by omega) (by omega) (by omega) (by omega) hl (by omega) (by omega) (fun h => bad ?_) (fun h => ?_))
      · have := d1.1
        simp only [Int.natCast_one] at this
        unfold Lib.decodeN
        rw [if_neg (by omega), if_neg (by omega), if_neg (by omega), if_neg (by omega)]
      · have h1 := d1.1
        simp only [Int.natCast_one] at h1
        rw [h1]
        rw [h1] at h
        have h2 := d2.1
        have e2 : ((2 : Nat) : Int) = 1 + 1 := rfl
        rw [e2] at h2
        refine runeAt_more l a 3 65536 _ (1 + 1) R hb (by omega) (by omega) (by omega) (by omega) (by omega) hl (by omega) (by omega) (fun g => bad ?_) (fun g => ?_)
        · unfold Lib.decodeN
          rw [if_neg (by omega), if_neg (by omega), if_neg (by omega), if_neg (by omega)]
        · rw [h2]
          rw [h2] at g
          have h3 := d3.1
          have e3 : ((3 : Nat) : Int) = 1 + 1 + 1 := rfl
          rw [e3] at h3
          refine runeAt_more l a 3 65536 _ (1 + 1 + 1) R hb (by omega) (by omega) (by omega) (by omega) (by omega) hl (by omega) (by omega) (fun f => bad ?_) (fun f => ?_)
          · unfold Lib.decodeN
            rw [if_neg (by omega), if_neg (by omega), if_neg (by omega), if_neg (by omega)]
          · rw [h3]
            rw [h3] at f
            refine runeAt_end l a 3 65536 _ _ R (by omega) (by omega) (by omega) (by omega) (by omega) ?_
            have ec : (((b0 : Int) % 8 * 64 + (b1 : Int) % 64) * 64 + (b2 : Int) % 64) * 64 + (b3 : Int) % 64 = ((b0 % 8 * 262144 + b1 % 64 * 4096 + b2 % 64 * 64 + b3 % 64 : Nat) : Int) := by omega
            rw [ec]
            generalize hc : b0 % 8 * 262144 + b1 % 64 * 4096 + b2 % 64 * 64 + b3 % 64 = c
            by_cases q : c ≥ 65536 ∧ (c < 55296 ∨ (57344 ≤ c ∧ c ≤ 1114111))
            · rw [if_neg (by omega), good c 4 (by omega) (by unfold Lib.decodeN; rw [if_neg (by omega), if_neg (by omega), if_neg (by omega), if_pos (by omega), hc, if_pos q])]
              simp only [Prod.mk.injEq, and_true, true_and]
              omega
            · rw [if_pos (by omega), bad (by unfold Lib.decodeN; rw [if_neg (by omega), if_neg (by omega), if_neg (by omega), if_pos (by omega), hc, if_neg q])]
    · refine ev_pos (by omega) (ev_some (bad ?_).symm)
      unfold Lib.decodeN
      rw [if_neg (by omega), if_neg (by omega), if_neg (by omega), if_neg (by omega)]
  · exact ev_neg (by omega) (ev_some (bad (nA (.inr (by omega)))).symm)
theorem dec_ge1 (l : List Int) (a : Nat) : 1 ≤ (dec l a).2 := Lib.decodeN_ge1 _ _ _ _ _
theorem dec_rune (l : List Int) (a : Nat) (hb : Bytes l) : (dec l a).1 ≤ 1114111 := by
  have h := rd_nat hb (a : Int) (by omega) 0
  simp only [Int.toNat_natCast, Nat.add_zero] at h
  exact Lib.decodeN_rune_le _ _ _ _ _ (by omega)
theorem dec_width (l : List Int) (a : Nat) (h : a < l.length) : (dec l a).2 ≤ l.length - a := Lib.decodeN_le_n' _ _ _ _ _ (by omega)
end Go.Proofs.YtpigbffaacilfaaDoor.Pure
end
section
/- The signs of bytes: what spec.RuneAt and impl.RuneAt, spec.CountRunes, TextOk of the program and of the reference come to, all in the words of the model's own decoder. No program in sight. -/
namespace Go.Proofs.YtpigbffaacilfaaDoor.Pure
open Go.RowKit Go.Proofs.YtpigbffaacilfaaDoor.X Go.Proofs.YtpigbffaacilfaaDoor.P Go.Proofs.YtpigbffaacilfaaDoorW.PrintWords Go.Proofs.YtpigbffaacilfaaDoorW.PrintLast Go.Proofs.YtpigbffaacilfaaDoor.K
set_option linter.unusedVariables false
set_option linter.unusedSimpArgs false
theorem bytesOf_bytes (s : ByteArray) : Bytes (bytesOf s) := by
  intro x hx
  unfold bytesOf at hx
  obtain ⟨b, _, rfl⟩ := List.mem_map.1 hx
  have := b.toNat_lt
  omega
theorem bytesOf_at (s : ByteArray) (j : Nat) : ((bytesOf s).getD j 0).toNat = (s.data.toList.getD j 0).toNat := by
  unfold bytesOf
  simp only [List.getD_eq_getElem?_getD, List.getElem?_map]
  cases s.data.toList[j]? <;> simp
theorem dec_bytesOf (s : ByteArray) (pos : Nat) : dec (bytesOf s) pos = Utf8.decode s pos := by
  rw [Lib.decode_N]
  unfold dec
  rw [bytesOf_at, bytesOf_at, bytesOf_at, bytesOf_at]
  have : (bytesOf s).length = s.data.toList.length := by unfold bytesOf; rw [List.length_map]
  rw [this]
/-- From pos on all is valid. -/
def validFrom (s : ByteArray) (pos : Nat) : Bool := Lib.validD (s.data.toList.drop pos)
theorem len_data (s : ByteArray) : s.data.toList.length = s.size := by rw [Array.length_toList]; rfl
theorem validFrom_end (s : ByteArray) (pos : Nat) (h : ¬ pos < s.size) : validFrom s pos = true := by
  unfold validFrom
  rw [List.drop_of_length_le (by rw [len_data]; omega)]
  rfl
theorem validFrom_step (s : ByteArray) (pos : Nat) (h : pos < s.size) : validFrom s pos = if (Utf8.decode s pos).1 = 65533 ∧ (Utf8.decode s pos).2 = 1 then false else validFrom s (pos + (Utf8.decode s pos).2) := by
  unfold validFrom
  have hne : s.data.toList.drop pos ≠ [] := by
    intro e
    have := congrArg List.length e
    rw [List.length_drop, len_data] at this
    simp at this
    omega
  rw [Lib.validD_step _ hne, Lib.decodeL_drop, List.drop_drop]
theorem count_l (s : ByteArray) (hs : s.size ≤ 1048576) : ∀ (b pos n : Nat), s.size ≤ pos + b → pos ≤ s.size + 4 → n ≤ pos →
    Ev (fun k => spec_CountRunes.l0 k (bytesOf s) (n : Int) (pos : Int)) (cond (noZero s b pos && validFrom s pos) ((n + Lib.runeCountFrom s b pos : Nat) : Int) (-1))
  | 0, pos, n, hb, hp, hn => by
    have hpos : ¬ pos < s.size := by omega
    rw [validFrom_end s pos hpos]
    refine ev_to (Ev.step (fun k => ?_) (Ev.now (n : Int))) (by simp [noZero, Lib.runeCountFrom])
    simp only [spec_CountRunes.l0]
    rw [bytesOf_length, if_neg (by omega)]
  | b + 1, pos, n, hb, hp, hn => by
    by_cases hpos : pos < s.size
    · have hl := bytesOf_length s
      have hr := specRuneAt_ev (bytesOf s) (pos : Int) (bytesOf_bytes s) (by omega)
      refine Ev.step (f := fun k => (spec_RuneAt.f k (bytesOf s) (pos : Int)).bind fun t => (if t.2.2 = true then (if t.1 = 0 then some (-1) else spec_CountRunes.l0 k (bytesOf s) (wrap64 ((n : Int) + 1)) t.2.1) else some (-1))) (fun k => ?_) (Ev.bind hr ?_)
      · simp only [spec_CountRunes.l0]
        rw [if_pos (by omega)]
      · unfold runeAtP
        rw [if_pos (by omega), Int.toNat_natCast, dec_bytesOf, validFrom_step s pos hpos]
        simp only [noZero, Lib.runeCountFrom]
        rw [if_pos hpos, if_pos hpos]
        have hw := dec_width (bytesOf s) pos (by omega)
        have hg := dec_ge1 (bytesOf s) pos
        rw [dec_bytesOf] at hw hg
        by_cases e : (Utf8.decode s pos).1 = 65533 ∧ (Utf8.decode s pos).2 = 1
        · rw [if_pos e, if_pos e]
          refine ev_neg (by simp) (ev_some ?_)
          simp
        · rw [if_neg e, if_neg e]
          refine ev_pos rfl ?_
          by_cases z : (Utf8.decode s pos).1 = 0
          · refine ev_pos (by simp only; omega) (ev_some ?_)
            rw [if_pos z]
            simp
          · refine ev_neg (by simp only; omega) ?_
            rw [if_neg z]
            have e1 : wrap64 ((n : Int) + 1) = ((n + 1 : Nat) : Int) := w64s (show n < n + 1 by omega) (by omega)
            have e2 : (pos : Int) + ((Utf8.decode s pos).2 : Int) = ((pos + (Utf8.decode s pos).2 : Nat) : Int) := by omega
            rw [e1, e2]
            refine ev_to (count_l s hs b (pos + (Utf8.decode s pos).2) (n + 1) (by omega) (by omega) (by omega)) ?_
            have e3 : n + 1 + Lib.runeCountFrom s b (pos + (Utf8.decode s pos).2) = n + (1 + Lib.runeCountFrom s b (pos + (Utf8.decode s pos).2)) := by omega
            rw [e3]
    · rw [validFrom_end s pos hpos]
      refine ev_to (Ev.step (fun k => ?_) (Ev.now (n : Int))) (by simp [noZero, Lib.runeCountFrom, hpos])
      simp only [spec_CountRunes.l0]
      rw [bytesOf_length, if_neg (by omega)]
/-- How many signs (-1: it is no text). -/
def countP (s : ByteArray) : Int := if textOkP s = true then (Lib.runeCount s : Int) else -1
theorem specCountRunes_ev (s : ByteArray) : Ev (fun k => spec_CountRunes.f k s) (countP s) := by
  unfold spec_CountRunes.f countP textOkP
  by_cases h : (s.size : Int) > 60
  · refine ev_pos h (ev_some ?_)
    rw [decide_eq_false (by omega)]
    simp
  · refine ev_neg h (ev_to (count_l s (by omega) s.size 0 0 (by omega) (by omega) (by omega)) ?_)
    rw [decide_eq_true (by omega)]
    unfold validFrom Lib.runeCount
    simp only [List.drop_zero, Bool.and_true, Nat.zero_add]
    cases (noZero s s.size 0 && Lib.validD s.data.toList) <;> rfl
theorem implTextOk_eq (s : ByteArray) (hs : s.size ≤ 140737488351232) : impl_TextOk.f s = some (textOkP s) := by
  unfold impl_TextOk.f
  rw [if_pos (by omega)]
theorem specTextOk_ev (s : ByteArray) : Ev (fun k => spec_TextOk.f k s) (textOkP s) := by
  unfold spec_TextOk.f
  refine Ev.bind (specCountRunes_ev s) (ev_some ?_)
  unfold countP
  by_cases h : textOkP s = true
  · rw [if_pos h, h]
    exact decide_eq_true (by omega)
  · rw [if_neg h]
    have h' : textOkP s = false := by simpa using h
    rw [h']
    rfl
theorem textOkP_size {s : ByteArray} (h : textOkP s = true) : s.size ≤ 60 := by
  unfold textOkP at h
  simp only [Bool.and_eq_true, decide_eq_true_eq] at h
  exact h.2.2
end Go.Proofs.YtpigbffaacilfaaDoor.Pure
end
section
/- The levels of a text: spec.Levels and strings.Split come to the same pieces; the marks of a list of texts are laid and found again. No program in sight. -/
namespace Go.Proofs.YtpigbffaacilfaaDoor.Pure
open Go.RowKit Go.Proofs.YtpigbffaacilfaaDoor.X Go.Proofs.YtpigbffaacilfaaDoor.P Go.Proofs.YtpigbffaacilfaaDoorW.PrintWords Go.Proofs.YtpigbffaacilfaaDoorW.PrintLast Go.Proofs.YtpigbffaacilfaaDoor.K
set_option linter.unusedVariables false
set_option linter.unusedSimpArgs false
def stroke : ByteArray := ⟨#[47]⟩
theorem ext_data (s : ByteArray) (a b : Nat) : (s.extract a b).data.toList = (s.data.toList.take b).drop a := by
  rw [Lib.extract_data]
  rw [List.drop_take]
theorem len_d (s : ByteArray) : s.data.toList.length = s.size := by rw [Array.length_toList]; rfl
theorem rest_size (s : ByteArray) (a : Nat) (h : a ≤ s.size) : (s.extract a s.size).size = s.size - a := by
  rw [← len_d, ext_data, List.length_drop, List.length_take, len_d]; omega
theorem rest_rest (s : ByteArray) (a d : Nat) (h : a + d ≤ s.size) : (s.extract a s.size).extract d (s.extract a s.size).size = s.extract (a + d) s.size := by
  refine Go.WideShapes.bytes_inj ?_
  have e : s.data.toList.take s.size = s.data.toList := List.take_of_length_le (by rw [len_d]; omega)
  rw [ext_data, ext_data, ext_data, rest_size s a (by omega), e, List.take_of_length_le (by rw [List.length_drop, len_d]; omega), List.drop_drop]
theorem rest_head (s : ByteArray) (a i : Nat) (h1 : a ≤ i) (h : i ≤ s.size) : (s.extract a s.size).extract 0 (i - a) = s.extract a i := by
  refine Go.WideShapes.bytes_inj ?_
  rw [ext_data, ext_data, ext_data, ← len_d, List.take_length, List.drop_zero, List.drop_take]
theorem occ_bt (s : ByteArray) (a i : Nat) (h1 : a ≤ i) (h : i < s.size) : Lib.occAt (s.extract a s.size).data.toList stroke.data.toList (i - a) = decide (bt s (i : Int) = 47) := by
  rw [ext_data, ← len_d, List.take_length]
  unfold Lib.occAt
  rw [List.drop_drop, show a + (i - a) = i from by omega]
  have hi : i < s.data.toList.length := by rw [len_d]; exact h
  rw [List.drop_eq_getElem_cons hi]
  have hb : bt s (i : Int) = ((s.data.toList[i]).toNat : Int) := by
    unfold bt
    rw [dif_pos (by simpa using h)]
    rfl
  rw [hb]
  show List.isPrefixOf [47] _ = _
  rw [List.isPrefixOf_cons_cons]
  simp only [List.isPrefixOf_nil_left, Bool.and_true]
  have e : (((s.data.toList[i]).toNat : Int) = 47) ↔ (47 : UInt8) = s.data.toList[i] := by
    constructor
    · intro q
      refine UInt8.toNat_inj.1 ?_
      show 47 = _
      omega
    · intro q
      rw [← q]
      rfl
  by_cases q : (47 : UInt8) = s.data.toList[i]
  · rw [decide_eq_true (e.2 q)]
    exact beq_iff_eq.2 q
  · rw [decide_eq_false (fun z => q (e.1 z))]
    exact beq_eq_false_iff_ne.2 q
def restP (s : ByteArray) (a : Nat) : List ByteArray := pieces (s.extract a s.size) stroke
theorem restP_end (s : ByteArray) (a : Nat) (h : a ≤ s.size) (hno : Lib.NoOccB (s.extract a s.size) stroke (s.size - a)) : restP s a = [s.extract a s.size] := by
  unfold restP pieces
  exact Lib.splitB_miss _ _ _ _ (Lib.past _ _ (s.size - a) hno (by decide) (by rw [rest_size s a h]; show s.size - a < s.size - a + 1; omega))
theorem restP_hit (s : ByteArray) (a i : Nat) (h1 : a ≤ i) (h : i < s.size) (hno : Lib.NoOccB (s.extract a s.size) stroke (i - a)) (hb : bt s (i : Int) = 47) : restP s a = s.extract a i :: restP s (i + 1) := by
  have hx : Lib.indexB (s.extract a s.size) stroke = ((i - a : Nat) : Int) := by
    refine Lib.index_hit hno ?_ ?_
    · rw [len_d, rest_size s a (by omega)]; omega
    · rw [occ_bt s a i h1 h]; exact decide_eq_true hb
  have hr : (s.extract a s.size).extract (i - a + stroke.size) (s.extract a s.size).size = s.extract (i + 1) s.size := by
    rw [rest_rest s a (i - a + stroke.size) (by show a + (i - a + 1) ≤ _; omega)]
    congr 1
    show a + (i - a + 1) = i + 1
    omega
  unfold restP pieces
  rw [Lib.countB_hit _ _ (i - a) (by decide) hx, Nat.add_comm 1, Lib.splitB_hit _ _ _ _ (i - a) hx, hr, Nat.add_zero, rest_head s a i h1 (by omega)]
theorem levels_l (s : ByteArray) (hs : s.size ≤ 1073741824) : ∀ (b i a : Nat) (acc : List ByteArray), i + b = s.size → a ≤ i → acc.length ≤ i → Lib.NoOccB (s.extract a s.size) stroke (i - a) →
    Ev (fun k => spec_Levels.l0 k s acc (a : Int) (i : Int)) (acc ++ restP s a)
  | 0, i, a, acc, hb, ha, hl, hno => by
    have hi : i = s.size := by omega
    subst hi
    refine Ev.step (fun k => by rw [spec_Levels.l0]) ?_
    refine ev_pos (by omega) (ev_pos rfl (ev_pos (by omega) (ev_pos (by omega) (ev_pos (by omega) ?_))))
    refine Ev.step (fun k => by rw [spec_Levels.l0]) ?_
    rw [w64 (by omega) (by omega)]
    refine ev_neg (by omega) (ev_some ?_)
    rw [restP_end s a ha hno]
    rfl
  | b + 1, i, a, acc, hb, ha, hl, hno => by
    refine Ev.step (fun k => by rw [spec_Levels.l0]) ?_
    refine ev_pos (by omega) (ev_neg (by omega) (ev_pos (by omega) (ev_pos (by omega) ?_)))
    rw [w64s (i := i) (n := s.size) (by omega) (by omega)]
    by_cases q : bt s (i : Int) = 47
    · refine ev_pos q (ev_pos (by omega) (ev_pos (by omega) (ev_pos (by omega) ?_)))
      rw [restP_hit s a i ha (by omega) hno q]
      refine ev_to (levels_l s hs b (i + 1) (i + 1) _ (by omega) (Nat.le_refl _) (by simp only [List.length_append, List.length_cons, List.length_nil]; omega) (by rw [Nat.sub_self]; exact Lib.NoOcc.zero _ _)) ?_
      rw [List.append_assoc]
      rfl
    · refine ev_neg q (levels_l s hs b (i + 1) a acc (by omega) (by omega) (by omega) ?_)
      have e : i + 1 - a = (i - a) + 1 := by omega
      rw [e]
      refine Lib.NoOcc.succ hno ?_
      rw [occ_bt s a i ha (by omega)]
      exact decide_eq_false q
theorem specLevels_ev (s : ByteArray) (hs : s.size ≤ 1073741824) : Ev (fun k => spec_Levels.f k s) (pieces s stroke) := by
  unfold spec_Levels.f
  refine ev_to (levels_l s hs s.size 0 0 [] (by omega) (Nat.le_refl _) (by simp) (Lib.NoOcc.zero _ _)) ?_
  unfold restP
  rw [List.nil_append]
  congr 1
  refine Go.WideShapes.bytes_inj ?_
  rw [ext_data, ← len_d, List.take_length, List.drop_zero]
theorem implLevels_eq (s : ByteArray) (hs : s.size ≤ 1073741824) : impl_Levels.f s = some (pieces s stroke) := by
  unfold impl_Levels.f strings_Split.f
  rw [if_pos ⟨by omega, rfl⟩]
  rfl
theorem pieces_length (s : ByteArray) : (pieces s stroke).length ≤ s.size + 1 := by
  have h := Lib.splitB_length_le stroke 0 (Lib.countB s stroke) s
  have h2 := Lib.countB_le stroke (by decide) s.size s (Nat.le_refl _)
  unfold pieces
  omega
end Go.Proofs.YtpigbffaacilfaaDoor.Pure
end
section
/- Topics and filters, in plain lists: a text cut at its strokes, levels that fit levels, what is hidden, what is loose; a filter that covers. No program in sight. -/
namespace Go.Proofs.YtpigbffaacilfaaDoor.Pure
open Go.RowKit Go.Proofs.YtpigbffaacilfaaDoor.X Go.Proofs.YtpigbffaacilfaaDoor.P Go.Proofs.YtpigbffaacilfaaDoorW.PrintWords Go.Proofs.YtpigbffaacilfaaDoorW.PrintLast Go.Proofs.YtpigbffaacilfaaDoor.K
set_option linter.unusedVariables false
set_option linter.unusedSimpArgs false
/-- A text cut at its strokes. -/
def cutL : List UInt8 → List (List UInt8)
  | [] => [[]]
  | b :: t => if b = 47 then [] :: cutL t else match cutL t with
    | [] => [[b]]
    | h :: r => (b :: h) :: r
theorem cutL_ex : ∀ s : List UInt8, ∃ h r, cutL s = h :: r
  | [] => ⟨_, _, rfl⟩
  | b :: t => by
    obtain ⟨h, r, e⟩ := cutL_ex t
    unfold cutL
    by_cases q : b = 47
    · rw [if_pos q]; exact ⟨_, _, rfl⟩
    · rw [if_neg q, e]; exact ⟨_, _, rfl⟩
theorem split_cut : ∀ s : List UInt8, Lib.splitK [47] 0 (Lib.count s [47]) s = cutL s
  | [] => rfl
  | b :: t => by
    have ih := split_cut t
    by_cases q : b = 47
    · subst q
      have hix : Lib.index (47 :: t) [47] = 0 := by rw [Lib.index]; simp [List.isPrefixOf]
      rw [Lib.count_cons_eq, Nat.add_comm 1, Lib.splitK, hix, cutL, if_pos rfl, ← ih]
      rfl
    · have hp : ([47] : List UInt8).isPrefixOf (b :: t) = false := by simp [List.isPrefixOf, Ne.symm q]
      have hix : Lib.index (b :: t) [47] = if Lib.index t [47] == -1 then -1 else Lib.index t [47] + 1 := by rw [Lib.index, hp]; simp
      rw [Lib.count_cons_ne b 47 t q, cutL, if_neg q, ← ih]
      cases Lib.count t [47] with
      | zero => rfl
      | succ n =>
        rw [Lib.splitK, Lib.splitK, hix]
        by_cases m : Lib.index t [47] = -1
        · rw [m]; rfl
        · have hge := Lib.index_ge t [47]
          obtain ⟨j, hj⟩ : ∃ j : Nat, Lib.index t [47] = j := ⟨(Lib.index t [47]).toNat, by omega⟩
          have h1 : (Lib.index t [47] == -1) = false := beq_eq_false_iff_ne.2 m
          have h2 : ((j : Int) == -1) = false := beq_eq_false_iff_ne.2 (by omega)
          have h3 : ((j : Int) + 1 == -1) = false := beq_eq_false_iff_ne.2 (by omega)
          rw [hj]
          simp only [h2, h3, Bool.false_eq_true, if_false]
          have h4 : ((j : Int) + 1).toNat = j + 1 := by omega
          have h5 : (j : Int).toNat = j := by omega
          rw [h4, h5]
          rfl
/-- The first level begins as the text does, but for a stroke. -/
theorem cutL_head : ∀ (s h : List UInt8) (r : List (List UInt8)), cutL s = h :: r → (h.head? = s.head? ∧ s.head? ≠ some 47) ∨ (h = [] ∧ s.head? = some 47)
  | [], h, r, e => by
    injection e with e1 e2
    subst e1
    exact .inl ⟨rfl, by simp⟩
  | b :: t, h, r, e => by
    obtain ⟨h', r', e'⟩ := cutL_ex t
    unfold cutL at e
    by_cases q : b = 47
    · rw [if_pos q] at e
      injection e with e1 e2
      exact .inr ⟨e1.symm, by rw [q]; rfl⟩
    · rw [if_neg q, e'] at e
      injection e with e1 e2
      subst e1
      exact .inl ⟨rfl, by simpa using q⟩
theorem join_cut : ∀ s : List UInt8, Lib.join (cutL s) [47] = s
  | [] => rfl
  | b :: t => by
    have ih := join_cut t
    obtain ⟨h, r, e⟩ := cutL_ex t
    unfold cutL
    rw [e] at ih
    by_cases q : b = 47
    · rw [if_pos q, e, Lib.join_cons]
      have : Lib.joinTail [47] (h :: r) = [47] ++ Lib.join (h :: r) [47] := by rw [Lib.join_cons]; simp [Lib.joinTail]
      rw [this, ih, q]
      rfl
    · rw [if_neg q, e]
      simp only
      rw [Lib.join_cons] at ih ⊢
      rw [List.cons_append, ih]
theorem cutL_inj {s t : List UInt8} (h : cutL s = cutL t) : s = t := by rw [← join_cut s, h, join_cut t]
theorem cutL_no : ∀ (s : List UInt8) (x : List UInt8), x ∈ cutL s → (47 : UInt8) ∉ x
  | [], x, hx => by
    have : x = [] := by simpa [cutL] using hx
    subst this
    simp
  | b :: t, x, hx => by
    have ih := cutL_no t
    obtain ⟨h, r, e⟩ := cutL_ex t
    unfold cutL at hx
    by_cases q : b = 47
    · rw [if_pos q] at hx
      rcases List.mem_cons.1 hx with rfl | hx
      · simp
      · exact ih x hx
    · rw [if_neg q, e] at hx
      simp only at hx
      rcases List.mem_cons.1 hx with rfl | hx
      · intro hm
        rcases List.mem_cons.1 hm with hm | hm
        · exact q hm.symm
        · exact ih h (by rw [e]; exact List.mem_cons_self) hm
      · exact ih x (by rw [e]; exact List.mem_cons_of_mem _ hx)
theorem cutL_one : ∀ s : List UInt8, (47 : UInt8) ∉ s → cutL s = [s]
  | [], _ => rfl
  | b :: t, h => by
    have ih := cutL_one t (fun m => h (List.mem_cons_of_mem _ m))
    unfold cutL
    rw [if_neg (fun q => h (by rw [q]; exact List.mem_cons_self)), ih]
theorem cutL_sub : ∀ (s : List UInt8) (x : List UInt8) (b : UInt8), x ∈ cutL s → b ∈ x → b ∈ s
  | [], x, b, hx, hb => by
    have : x = [] := by simpa [cutL] using hx
    subst this
    exact hb
  | c :: t, x, b, hx, hb => by
    have ih := cutL_sub t
    obtain ⟨h, r, e⟩ := cutL_ex t
    unfold cutL at hx
    by_cases q : c = 47
    · rw [if_pos q] at hx
      rcases List.mem_cons.1 hx with rfl | hx
      · cases hb
      · exact List.mem_cons_of_mem _ (ih x b hx hb)
    · rw [if_neg q, e] at hx
      simp only at hx
      rcases List.mem_cons.1 hx with rfl | hx
      · rcases List.mem_cons.1 hb with hb | hb
        · rw [hb]; exact List.mem_cons_self
        · exact List.mem_cons_of_mem _ (ih h b (by rw [e]; exact List.mem_cons_self) hb)
      · exact List.mem_cons_of_mem _ (ih x b (by rw [e]; exact List.mem_cons_of_mem _ hx) hb)
/-! ### levels that fit levels -/
def fitsG {α : Type} [DecidableEq α] (p h : α) : List α → List α → Bool
  | [], g => g.isEmpty
  | x :: f, g => if x = h then true else match g with
    | [] => false
    | y :: g' => if (x = p ∧ y = h) ∨ (x ≠ p ∧ x ≠ y) then false else fitsG p h f g'
theorem fitsG_hash {α : Type} [DecidableEq α] (p h : α) (f g : List α) : fitsG p h (h :: f) g = true := by unfold fitsG; rw [if_pos rfl]
theorem fitsG_cons {α : Type} [DecidableEq α] {p h x y : α} {f g : List α} (q : x ≠ h) : fitsG p h (x :: f) (y :: g) = (!(decide ((x = p ∧ y = h) ∨ (x ≠ p ∧ x ≠ y))) && fitsG p h f g) := by
  rw [fitsG, if_neg q]
  by_cases c : (x = p ∧ y = h) ∨ (x ≠ p ∧ x ≠ y)
  · simp [c]
  · simp [c]
theorem fitsG_refl {α : Type} [DecidableEq α] (p h : α) : ∀ f : List α, fitsG p h f f = true
  | [] => rfl
  | x :: f => by
    by_cases q : x = h
    · rw [q]; exact fitsG_hash p h f _
    · rw [fitsG_cons q, fitsG_refl p h f]
      simp
      exact Or.inr q
theorem fitsG_trans {α : Type} [DecidableEq α] (p h : α) (hph : p ≠ h) : ∀ f g k : List α, fitsG p h f g = true → fitsG p h g k = true → fitsG p h f k = true
  | [], g, k, h1, h2 => by
    have : g = [] := by simpa [fitsG] using h1
    subst this
    exact h2
  | x :: f, g, k, h1, h2 => by
    by_cases q : x = h
    · rw [q]; exact fitsG_hash p h f _
    · cases g with
      | nil => rw [fitsG, if_neg q] at h1; cases h1
      | cons y g =>
        rw [fitsG_cons q] at h1
        simp only [Bool.and_eq_true, Bool.not_eq_true', decide_eq_false_iff_not, not_or, not_and] at h1
        obtain ⟨⟨a1, a2⟩, a3⟩ := h1
        have hy : y ≠ h := by
          by_cases e : x = p
          · exact a1 e
          · have := a2 e
            intro z
            exact q (by rw [← z]; exact Decidable.of_not_not this)
        cases k with
        | nil => rw [fitsG, if_neg hy] at h2; cases h2
        | cons z k =>
          rw [fitsG_cons hy] at h2
          simp only [Bool.and_eq_true, Bool.not_eq_true', decide_eq_false_iff_not, not_or, not_and] at h2
          obtain ⟨⟨b1, b2⟩, b3⟩ := h2
          have ih := fitsG_trans p h hph f g k a3 b3
          rw [fitsG_cons q, ih]
          simp only [Bool.and_true, Bool.not_eq_true', decide_eq_false_iff_not, not_or, not_and]
          have hz : z ≠ h := by
            by_cases e : y = p
            · exact b1 e
            · intro w
              exact hy (by rw [← w]; exact Decidable.of_not_not (b2 e))
          refine ⟨fun _ => hz, fun e w => ?_⟩
          have exy : x = y := Decidable.of_not_not (a2 e)
          exact w (exy.trans (Decidable.of_not_not (b2 (exy ▸ e))))
theorem fitsG_plain {α : Type} [DecidableEq α] (p h : α) : ∀ f g : List α, p ∉ f → h ∉ f → fitsG p h f g = decide (f = g)
  | [], g, _, _ => by cases g <;> rfl
  | x :: f, g, hp, hh => by
    have q : x ≠ h := fun e => hh (by rw [e]; exact List.mem_cons_self)
    have q2 : x ≠ p := fun e => hp (by rw [e]; exact List.mem_cons_self)
    cases g with
    | nil => rw [fitsG, if_neg q]; rfl
    | cons y g =>
      rw [fitsG_cons q, fitsG_plain p h f g (fun m => hp (List.mem_cons_of_mem _ m)) (fun m => hh (List.mem_cons_of_mem _ m))]
      by_cases e : x = y
      · subst e
        simp [q2]
      · simp [q2, e]
/-- A first level that is not wild is the other's. -/
theorem fitsG_first {α : Type} [DecidableEq α] {p h x y : α} {f g : List α} (h1 : x ≠ p) (h2 : x ≠ h) (k : fitsG p h (x :: f) (y :: g) = true) : x = y := by
  rw [fitsG_cons h2] at k
  simp only [Bool.and_eq_true, Bool.not_eq_true', decide_eq_false_iff_not, not_or, not_and] at k
  exact Decidable.of_not_not (k.1.2 h1)
end Go.Proofs.YtpigbffaacilfaaDoor.Pure
end
section
/- Topics and filters, in plain lists: a text cut at its strokes, levels that fit levels, what is hidden, what is loose; a filter that covers. No program in sight. -/
namespace Go.Proofs.YtpigbffaacilfaaDoor.Pure
open Go.RowKit Go.Proofs.YtpigbffaacilfaaDoor.X Go.Proofs.YtpigbffaacilfaaDoor.P Go.Proofs.YtpigbffaacilfaaDoorW.PrintWords Go.Proofs.YtpigbffaacilfaaDoorW.PrintLast Go.Proofs.YtpigbffaacilfaaDoor.K
set_option linter.unusedVariables false
set_option linter.unusedSimpArgs false
theorem rdOf_get {l : List ByteArray} {i : Nat} (h : i < l.length) : rdOf ByteArray.empty l (i : Int) = l[i] := getD_get h
abbrev dl (x : ByteArray) : List UInt8 := x.data.toList
theorem dl_len (x : ByteArray) : (dl x).length = x.size := by rw [Array.length_toList]; rfl
theorem dl_inj {x y : ByteArray} : x = y ↔ dl x = dl y := ⟨fun h => by rw [h], fun h => Go.WideShapes.bytes_inj h⟩
theorem bt_get {s : ByteArray} {i : Nat} (h : i < s.size) : bt s (i : Int) = (((dl s)[i]'(by rw [dl_len]; exact h)).toNat : Int) := by
  have := bt_at s i h
  rw [← this]
  rfl
theorem bt_head {s : ByteArray} (h : 0 < s.size) (c : UInt8) : bt s 0 = (c.toNat : Int) ↔ (dl s).head? = some c := by
  have e : bt s 0 = (((dl s)[0]'(by rw [dl_len]; exact h)).toNat : Int) := bt_get (i := 0) h
  rw [e, List.head?_eq_getElem?, List.getElem?_eq_getElem (by rw [dl_len]; exact h)]
  simp only [Option.some.injEq]
  constructor
  · intro q; exact UInt8.toNat_inj.1 (by omega)
  · intro q; rw [q]
theorem empty_dl {s : ByteArray} (h : ¬ 0 < s.size) : dl s = [] := List.length_eq_zero_iff.1 (by rw [dl_len]; omega)
/-! ### what is wild, hidden, loose -/
def wildL (l : List UInt8) : Bool := l.contains 43 || l.contains 35
theorem containsAny_wild : ∀ l : List UInt8, Lib.containsAny l [43, 35] = wildL l
  | [] => rfl
  | b :: l => by
    have ih := containsAny_wild l
    unfold Lib.containsAny at ih ⊢
    have hge := Lib.indexAny_ge [43, 35] l
    rw [Lib.indexAny]
    unfold wildL at ih ⊢
    have c1 : (b :: l).contains 43 = ((43 : UInt8) == b || l.contains 43) := List.contains_cons
    have c2 : (b :: l).contains 35 = ((35 : UInt8) == b || l.contains 35) := List.contains_cons
    rw [c1, c2]
    clear c1 c2
    by_cases q : ([43, 35] : List UInt8).contains b = true
    · rw [if_pos q]
      simp only [List.contains_cons, List.contains_nil, Bool.or_false, Bool.or_eq_true, beq_iff_eq] at q
      rcases q with rfl | rfl
      · rfl
      · simp
    · rw [if_neg q]
      simp only [List.contains_cons, List.contains_nil, Bool.or_false, Bool.or_eq_true, beq_iff_eq, not_or] at q
      have q1 : ((43 : UInt8) == b) = false := beq_eq_false_iff_ne.2 (fun e => q.1 e.symm)
      have q2 : ((35 : UInt8) == b) = false := beq_eq_false_iff_ne.2 (fun e => q.2 e.symm)
      rw [q1, q2, Bool.false_or, Bool.false_or, ← ih]
      by_cases m : Lib.indexAny l [43, 35] = -1
      · rw [m]; rfl
      · rw [if_neg (by simpa using m)]
        rw [decide_eq_true (by omega), decide_eq_true (by omega)]
theorem containsAny_eq (s : ByteArray) (hs : s.size ≤ 1073741824) : strings_ContainsAny.f s ⟨#[43, 35]⟩ = some (wildL (dl s)) := by
  unfold strings_ContainsAny.f
  rw [if_pos ⟨by omega, rfl⟩]
  congr 1
  exact containsAny_wild (dl s)
theorem has_l (s : ByteArray) (c : UInt8) (hs : s.size ≤ 1073741824) : ∀ (d i : Nat), i + d = s.size → Ev (fun k => spec_l3Has.l0 k s (c.toNat : Int) (i : Int)) (((dl s).drop i).contains c)
  | 0, i, hd => by
    refine Ev.step (fun k => by rw [spec_l3Has.l0]) (ev_neg (by omega) (ev_some ?_))
    rw [List.drop_of_length_le (by rw [dl_len]; omega)]
    rfl
  | d + 1, i, hd => by
    have hi : i < s.size := by omega
    have hi' : i < (dl s).length := by rw [dl_len]; exact hi
    refine Ev.step (fun k => by rw [spec_l3Has.l0]) (ev_pos (by omega) (ev_pos (by omega) ?_))
    rw [bt_get hi, w64s (i := i) (n := s.size) hi (by omega), List.drop_eq_getElem_cons hi', List.contains_cons]
    by_cases q : (((dl s)[i]'hi').toNat : Int) = (c.toNat : Int)
    · refine ev_pos q (ev_some ?_)
      have : (dl s)[i]'hi' = c := UInt8.toNat_inj.1 (by omega)
      simp [this]
    · refine ev_neg q (ev_to (has_l s c hs d (i + 1) (by omega)) ?_)
      have : (c == (dl s)[i]'hi') = false := beq_eq_false_iff_ne.2 (fun e => q (by rw [← e]))
      rw [this, Bool.false_or]
theorem has43_ev (s : ByteArray) (hs : s.size ≤ 1073741824) : Ev (fun k => spec_l3Has.f k s 43) ((dl s).contains 43) := by
  unfold spec_l3Has.f
  exact has_l s 43 hs s.size 0 (by omega)
theorem has35_ev (s : ByteArray) (hs : s.size ≤ 1073741824) : Ev (fun k => spec_l3Has.f k s 35) ((dl s).contains 35) := by
  unfold spec_l3Has.f
  exact has_l s 35 hs s.size 0 (by omega)
theorem pieces_cut (s : ByteArray) : (pieces s stroke).map dl = cutL (dl s) := by
  unfold pieces
  rw [Lib.splitB_data]
  exact split_cut (dl s)
theorem pieces_len (s : ByteArray) : (cutL (dl s)).length = (pieces s stroke).length := by rw [← pieces_cut, List.length_map]
def topicL (s : ByteArray) : Bool := textOkP s && !(dl s).isEmpty && !wildL (dl s) && decide ((cutL (dl s)).length ≤ 6)
theorem ne_dl (s : ByteArray) : (s.toList = ([] : List UInt8)) ↔ (dl s).isEmpty = true := by
  rw [Lib.toList_data, List.isEmpty_iff]
theorem six (s : ByteArray) : decide (((pieces s stroke).length : Int) ≤ 6) = decide ((cutL (dl s)).length ≤ 6) := by
  rw [pieces_len]
  exact decide_eq_decide.2 (by omega)
theorem specTopicOk_ev (s : ByteArray) (hs : s.size ≤ 1073741824) : Ev (fun k => spec_TopicOk.f k s) (topicL s) := by
  unfold spec_TopicOk.f topicL
  refine Ev.bind (specTextOk_ev s) (ev_ite (fun h => ?_) (fun h => ?_))
  · rw [h, Bool.true_and]
    refine ev_ite (fun e => ?_) (fun e => ?_)
    · rw [(ne_dl s).1 e]
      exact Ev.now _
    · have e' : (dl s).isEmpty = false := Bool.eq_false_iff.2 (fun z => e ((ne_dl s).2 z))
      rw [e']
      refine Ev.bind (has43_ev s hs) (ev_ite (fun q => ?_) (fun q => ?_))
      · refine ev_some ?_
        unfold wildL; rw [q]; rfl
      · refine Ev.bind (has35_ev s hs) (ev_ite (fun r => ?_) (fun r => ?_))
        · refine ev_some ?_
          unfold wildL; rw [r, Bool.or_true]; rfl
        · refine Ev.bind (specLevels_ev s hs) (ev_some ?_)
          unfold wildL
          rw [Bool.eq_false_iff.2 q, Bool.eq_false_iff.2 r, six]; rfl
  · rw [Bool.eq_false_iff.2 h]
    exact Ev.now _
theorem implTopicOk_eq (s : ByteArray) (hs : s.size ≤ 1073741824) : impl_TopicOk.f s = some (topicL s) := by
  unfold impl_TopicOk.f topicL
  rw [implTextOk_eq s (by omega), containsAny_eq s hs, implLevels_eq s hs]
  simp only [Option.bind_some]
  by_cases h : textOkP s = true
  · rw [if_pos h, h, Bool.true_and]
    by_cases e : (dl s).isEmpty = true
    · rw [if_pos ((ne_dl s).2 e), e]; rfl
    · rw [if_neg (fun z => e ((ne_dl s).1 z)), Bool.eq_false_iff.2 e]
      by_cases q : wildL (dl s) = true
      · rw [if_pos q, q]; rfl
      · rw [if_neg q, Bool.eq_false_iff.2 q, six]; rfl
  · rw [if_neg h, Bool.eq_false_iff.2 h]; rfl
end Go.Proofs.YtpigbffaacilfaaDoor.Pure
end
section
/- What is kept, in plain Lean: copies, sizes, comparisons of lists of kept texts; KeptOk. No program in sight. -/
namespace Go.Proofs.YtpigbffaacilfaaDoor.Pure
open Go.RowKit Go.Proofs.YtpigbffaacilfaaDoor.X Go.Proofs.YtpigbffaacilfaaDoor.P Go.Proofs.YtpigbffaacilfaaDoorW.PrintWords Go.Proofs.YtpigbffaacilfaaDoorW.PrintLast Go.Proofs.YtpigbffaacilfaaDoor.K
set_option linter.unusedVariables false
set_option linter.unusedSimpArgs false
theorem specIn_eq (a lo hi : Int) : spec_l1In.f a lo hi = some (decide (lo ≤ a) && decide (a ≤ hi)) := by
  unfold spec_l1In.f
  by_cases h : a ≥ lo
  · rw [if_pos h, decide_eq_true h, Bool.true_and]
  · rw [if_neg h, decide_eq_false h, Bool.false_and]
theorem implIn_eq (a lo hi : Int) : impl_within.f a lo hi = some (decide (lo ≤ a) && decide (a ≤ hi)) := by
  unfold impl_within.f
  by_cases h : a ≥ lo
  · rw [if_pos h, decide_eq_true h, Bool.true_and]
  · rw [if_neg h, decide_eq_false h, Bool.false_and]
theorem isQos_eq (a : Int) : impl_isQos.f a = some (decide (0 ≤ a) && decide (a ≤ 2)) := by
  unfold impl_isQos.f
  rw [implIn_eq]
  rfl
def okK (x : S41) : Bool := topicL x.f0 && ((decide (1 ≤ (x.f1.length : Int)) && decide ((x.f1.length : Int) ≤ 40)) && (decide (0 ≤ x.f2) && decide (x.f2 ≤ 2)))
def risesAt (l : List S41) (i : Nat) : Bool := decide (i = 0) || Op.bytesLess (rd_T41 l ((i : Int) - 1)).f0.toList (rd_T41 l (i : Int)).f0.toList
/-- From place i on all is right. -/
def keptFrom (l : List S41) : Nat → Nat → Bool
  | 0, _ => decide ((l.length : Int) ≤ 8)
  | d + 1, i => okK (rd_T41 l (i : Int)) && (risesAt l i && keptFrom l d (i + 1))
def keptL (l : List S41) : Bool := keptFrom l l.length 0
theorem specKept_l (l : List S41) (hl : l.length ≤ 1073741824) (hs : ∀ x ∈ l, x.f0.size ≤ 1073741824) : ∀ (d i : Nat), i + d = l.length → Ev (fun k => spec_KeptOk.l0 k l (i : Int)) (keptFrom l d i)
  | 0, i, hd => by
    refine Ev.step (fun k => by rw [spec_KeptOk.l0]) (ev_neg (by omega) (ev_some ?_))
    rfl
  | d + 1, i, hd => by
    have hi : i < l.length := by omega
    have ih := specKept_l l hl hs d (i + 1) (by omega)
    have hx := hs _ (List.getElem_mem hi)
    refine Ev.step (fun k => by rw [spec_KeptOk.l0]) (ev_pos (by omega) (ev_pos (by omega) ?_))
    rw [w64s (i := i) (n := l.length) hi (by omega), w64 (x := (i : Int) - 1) (by omega) (by omega), specIn_eq, specIn_eq]
    unfold keptFrom okK risesAt
    have hr := rdIK hi
    rw [← hr] at hx
    refine Ev.bind (specTopicOk_ev _ hx) (ev_ite (fun a => ?_) (fun a => ?_))
    · rw [a, Bool.true_and]
      refine ev_b rfl (ev_ite (fun b => ?_) (fun b => ?_))
      · rw [b, Bool.true_and]
        refine ev_b rfl (ev_ite (fun c => ?_) (fun c => ?_))
        · rw [c, Bool.true_and]
          by_cases z : i = 0
          · refine ev_neg (by omega) (ev_to ih ?_)
            rw [decide_eq_true z]; rfl
          · refine ev_pos (by omega) (ev_pos (by omega) (ev_pos (by omega) ?_))
            rw [decide_eq_false z, Bool.false_or]
            refine ev_ite (fun e => ?_) (fun e => ?_)
            · rw [e, Bool.true_and]; exact ih
            · rw [Bool.eq_false_iff.2 e]; exact Ev.now _
        · rw [Bool.eq_false_iff.2 c]; exact Ev.now _
      · rw [Bool.eq_false_iff.2 b]; exact Ev.now _
    · rw [Bool.eq_false_iff.2 a]; exact Ev.now _
theorem implKept_l (l : List S41) (hl : l.length ≤ 1073741824) (hs : ∀ x ∈ l, x.f0.size ≤ 1073741824) : ∀ (d i : Nat), i + d = l.length → Ev (fun k => impl_KeptOk.l0 k l l (l.length : Int) (i : Int)) (keptFrom l d i)
  | 0, i, hd => by
    refine Ev.step (fun k => by rw [impl_KeptOk.l0]) (ev_neg (by omega) (ev_some ?_))
    rfl
  | d + 1, i, hd => by
    have hi : i < l.length := by omega
    have ih := implKept_l l hl hs d (i + 1) (by omega)
    have hx := hs _ (List.getElem_mem hi)
    refine Ev.step (fun k => by rw [impl_KeptOk.l0]) (ev_pos (by omega) (ev_pos (by omega) (ev_pos (by omega) ?_)))
    rw [w64s (i := i) (n := l.length) hi (by omega), w64 (x := (i : Int) - 1) (by omega) (by omega), implIn_eq, isQos_eq]
    unfold keptFrom okK risesAt
    have hr := rdIK hi
    rw [← hr] at hx
    refine ev_b (implTopicOk_eq _ hx) (ev_ite (fun a => ?_) (fun a => ?_))
    · rw [a, Bool.true_and]
      refine ev_b rfl (ev_ite (fun b => ?_) (fun b => ?_))
      · rw [b, Bool.true_and]
        refine ev_b rfl (ev_ite (fun c => ?_) (fun c => ?_))
        · rw [c, Bool.true_and]
          by_cases z : i = 0
          · refine ev_neg (by omega) (ev_to ih ?_)
            rw [decide_eq_true z]; rfl
          · refine ev_pos (by omega) (ev_pos (by omega) (ev_pos (by omega) ?_))
            rw [decide_eq_false z, Bool.false_or]
            refine ev_ite (fun e => ?_) (fun e => ?_)
            · rw [e, Bool.true_and]; exact ih
            · rw [Bool.eq_false_iff.2 e]; exact Ev.now _
        · rw [Bool.eq_false_iff.2 c]; exact Ev.now _
      · rw [Bool.eq_false_iff.2 b]; exact Ev.now _
    · rw [Bool.eq_false_iff.2 a]; exact Ev.now _
theorem specKeptOk_ev (l : List S41) (hl : l.length ≤ 1073741824) (hs : ∀ x ∈ l, x.f0.size ≤ 1073741824) : Ev (fun k => spec_KeptOk.f k l) (keptL l) := by
  unfold spec_KeptOk.f
  exact specKept_l l hl hs l.length 0 (by omega)
theorem implKeptOk_ev (l : List S41) (hl : l.length ≤ 1073741824) (hs : ∀ x ∈ l, x.f0.size ≤ 1073741824) : Ev (fun k => impl_KeptOk.f k l) (keptL l) := by
  unfold impl_KeptOk.f
  exact implKept_l l hl hs l.length 0 (by omega)
end Go.Proofs.YtpigbffaacilfaaDoor.Pure
end
section
/- What the small functions of the laws and of the program come to: copies, comparisons, marks of bytes and numbers; joined; PutWord, GetWord, PutBytes, GetBytes, PutLen. No program in sight. -/
namespace Go.Proofs.YtpigbffaacilfaaDoor.Pure
open Go.RowKit Go.Proofs.YtpigbffaacilfaaDoor.P Go.Proofs.YtpigbffaacilfaaDoorW.PrintWords Go.Proofs.YtpigbffaacilfaaDoorW.PrintLast Go.Proofs.YtpigbffaacilfaaDoor.K
set_option linter.unusedVariables false
set_option linter.unusedSimpArgs false

theorem joined_l (xs : List (List Int)) (hn : xs.length ≤ 4611686018427387904) : ∀ (d i : Nat) (acc : List Int), i + d = xs.length → acc.length + (xs.drop i).flatten.length < 140737488355328 → Ev (fun k => impl_joined.l0 k acc xs (xs.length : Int) (i : Int)) (acc ++ (xs.drop i).flatten)
  | 0, i, acc, hd, hl => by
    have hi : i = xs.length := by omega
    subst hi
    refine ev_to (Ev.step (fun k => ?_) (Ev.now acc)) (by simp)
    simp only [impl_joined.l0]
    rw [if_neg (by omega)]
  | d + 1, i, acc, hd, hl => by
    have hi : i < xs.length := by omega
    rw [List.drop_eq_getElem_cons hi, List.flatten_cons] at hl ⊢
    simp only [List.length_append] at hl
    have hr : rd_L2 xs (i : Int) = xs[i] := by unfold rd_L2; exact getD_get hi
    refine ev_to (Ev.step (fun k => ?_) (joined_l xs hn d (i + 1) (acc ++ xs[i]) (by omega) (by simp only [List.length_append]; omega))) (by simp)
    simp only [impl_joined.l0]
    rw [if_pos (by omega), if_pos (by omega), if_pos (by omega), hr, if_pos (by omega), w64s hi (by omega)]
theorem joined_ev (xs : List (List Int)) (hn : xs.length ≤ 4611686018427387904) (hl : xs.flatten.length < 140737488355328) : Ev (fun k => impl_joined.f k xs) xs.flatten := by
  unfold impl_joined.f
  have h := joined_l xs hn xs.length 0 [] (by omega) (by simpa using hl)
  simpa using h
theorem joined1_ev (a : List Int) (hl : a.length < 140737488355328) : Ev (fun k => impl_joined.f k [a]) a :=
  ev_to (joined_ev [a] (by simp) (by simpa using hl)) (by simp)
theorem joined2_ev (a b : List Int) (hl : a.length + b.length < 140737488355328) : Ev (fun k => impl_joined.f k [a, b]) (a ++ b) :=
  ev_to (joined_ev [a, b] (by simp) (by simpa using hl)) (by simp)
end Go.Proofs.YtpigbffaacilfaaDoor.Pure
end
section
/- What is kept of a filter, in plain Lean: marks laid and found again; KeptFor on both sides. No program in sight. -/
namespace Go.Proofs.YtpigbffaacilfaaDoor.Pure
open Go.RowKit Go.Proofs.YtpigbffaacilfaaDoor.X Go.Proofs.YtpigbffaacilfaaDoor.P Go.Proofs.YtpigbffaacilfaaDoorW.PrintWords Go.Proofs.YtpigbffaacilfaaDoorW.PrintLast Go.Proofs.YtpigbffaacilfaaDoor.K
set_option linter.unusedVariables false
set_option linter.unusedSimpArgs false
abbrev KI := S41
theorem l9Copy_ev (l : List KI) (hl : l.length ≤ 1048576) (hb : ∀ x ∈ l, x.f1.length ≤ 1048576) : Ev (fun k => spec_l9Copy.f k l) l := by
  unfold spec_l9Copy.f
  suffices h : ∀ (d i : Nat), i + d = l.length → Ev (fun k => spec_l9Copy.l0 k l (l.take i) (i : Int)) l from h l.length 0 (by omega)
  intro d
  induction d with
  | zero =>
    intro i hi
    refine Ev.step (fun k => by rw [spec_l9Copy.l0]) (ev_neg (by omega) (ev_some ?_))
    exact List.take_of_length_le (by omega)
  | succ d ih =>
    intro i hi
    have hil : i < l.length := by omega
    have hx := hb _ (List.getElem_mem hil)
    have e1 : rd_T41 l (i : Int) = l[i] := getD_get hil
    refine Ev.step (fun k => by rw [spec_l9Copy.l0]) (ev_pos (by omega) (ev_pos (by omega) ?_))
    rw [e1, w64s (i := i) (n := l.length) hil (by omega)]
    refine ev_bs (ev_pos (by simp only [List.length_nil]; omega) (ev_pos (by rw [List.length_take]; omega) ?_))
    have h := ih (i + 1) (by omega)
    rw [List.take_succ_eq_append_getElem hil] at h
    exact h
theorem copyKept_ev (l : List KI) (hl : l.length ≤ 1048576) (hb : ∀ x ∈ l, x.f1.length ≤ 1048576) : Ev (fun k => impl_copyKept.f k l) l := by
  unfold impl_copyKept.f
  suffices h : ∀ (d i : Nat), i + d = l.length → Ev (fun k => impl_copyKept.l0 k (l.take i) l (l.length : Int) (i : Int)) l from h l.length 0 (by omega)
  intro d
  induction d with
  | zero =>
    intro i hi
    refine Ev.step (fun k => by rw [impl_copyKept.l0]) (ev_neg (by omega) (ev_some ?_))
    exact List.take_of_length_le (by omega)
  | succ d ih =>
    intro i hi
    have hil : i < l.length := by omega
    have hx := hb _ (List.getElem_mem hil)
    have e1 : rd_T41 l (i : Int) = l[i] := getD_get hil
    refine Ev.step (fun k => by rw [impl_copyKept.l0]) (ev_pos (by omega) (ev_pos (by omega) (ev_pos (by omega) ?_)))
    rw [e1, w64s (i := i) (n := l.length) hil (by omega)]
    refine Ev.bind (joined1_ev l[i].f1 (by omega)) (ev_pos (by rw [List.length_take]; omega) ?_)
    have h := ih (i + 1) (by omega)
    rw [List.take_succ_eq_append_getElem hil] at h
    exact h
end Go.Proofs.YtpigbffaacilfaaDoor.Pure
end
section
/- Topics and filters, in plain lists: a text cut at its strokes, levels that fit levels, what is hidden, what is loose; a filter that covers. No program in sight. -/
namespace Go.Proofs.YtpigbffaacilfaaDoor.Pure
open Go.RowKit Go.Proofs.YtpigbffaacilfaaDoor.X Go.Proofs.YtpigbffaacilfaaDoor.P Go.Proofs.YtpigbffaacilfaaDoorW.PrintWords Go.Proofs.YtpigbffaacilfaaDoorW.PrintLast Go.Proofs.YtpigbffaacilfaaDoor.K
set_option linter.unusedVariables false
set_option linter.unusedSimpArgs false
def levelL (x : List UInt8) (last : Bool) : Bool := !wildL x || x == [43] || (x == [35] && last)
def allL : List (List UInt8) → Bool
  | [] => true
  | x :: r => levelL x r.isEmpty && allL r
def filterL (s : ByteArray) : Bool := allL (cutL (dl s)) && textOkP s && !(dl s).isEmpty && decide ((cutL (dl s)).length ≤ 6)
theorem lens_mem : ∀ (l : List (List UInt8)) (x : List UInt8), x ∈ l → x.length ≤ Lib.lens l
  | a :: r, x, hx => by
    have e : Lib.lens (a :: r) = a.length + Lib.lens r := by simp [Lib.lens]
    rcases List.mem_cons.1 hx with rfl | h
    · omega
    · have := lens_mem r x h
      omega
theorem piece_size (s : ByteArray) (i : Nat) (h : i < (pieces s stroke).length) : (pieces s stroke)[i].size ≤ s.size := by
  have e : dl (pieces s stroke)[i] ∈ cutL (dl s) := by
    rw [← pieces_cut]
    exact List.mem_map_of_mem (List.getElem_mem h)
  have hj := join_cut (dl s)
  rw [← dl_len, ← dl_len s]
  have key : ∀ (l : List (List UInt8)) (x : List UInt8), x ∈ l → x.length ≤ (Lib.join l [47]).length := by
    intro l x hx
    cases l with
    | nil => cases hx
    | cons a r =>
      rw [Lib.join_length]
      have := lens_mem (a :: r) x hx
      omega
  have := key _ _ e
  rwa [hj] at this
theorem drop_dl (l : List ByteArray) (i : Nat) (h : i < l.length) : (l.map dl).drop i = dl l[i] :: (l.map dl).drop (i + 1) := by
  rw [List.drop_eq_getElem_cons (by simpa using h)]
  simp
theorem drop_end (l : List ByteArray) (i : Nat) (h : l.length ≤ i) : (l.map dl).drop i = [] := List.drop_of_length_le (by simpa using h)
theorem drop_last (l : List ByteArray) (i : Nat) (h : i < l.length) : ((l.map dl).drop (i + 1)).isEmpty = decide (i + 1 = l.length) := by
  by_cases e : i + 1 = l.length
  · rw [drop_end l (i + 1) (by omega), decide_eq_true e]; rfl
  · rw [drop_dl l (i + 1) (by omega), decide_eq_false e]; rfl
theorem levelOk_eq (x : ByteArray) (last : Bool) (hs : x.size ≤ 1073741824) : impl_levelOk.f x last = some (levelL (dl x) last) := by
  unfold impl_levelOk.f levelL
  rw [containsAny_eq x hs]
  simp only [Option.bind_some, Lib.toList_data]
  by_cases q : wildL (dl x) = true
  · rw [if_pos q, q]
    by_cases a : dl x = [43]
    · rw [if_pos a, a]; rfl
    · rw [if_neg a]
      have a' : (dl x == [43]) = false := beq_eq_false_iff_ne.2 a
      rw [a']
      by_cases b : dl x = [35]
      · rw [if_pos b, b]
        cases last <;> rfl
      · rw [if_neg b]
        have b' : (dl x == [35]) = false := beq_eq_false_iff_ne.2 b
        rw [b']; rfl
  · rw [if_neg q, Bool.eq_false_iff.2 q]; rfl
theorem implFilter_l (s : ByteArray) (P : List ByteArray) (hs : s.size ≤ 1073741824) (hP : P.length ≤ 1073741825) (hsz : ∀ (i : Nat) (h : i < P.length), P[i].size ≤ 1073741824) : ∀ (d i : Nat), i + d = P.length →
    Ev (fun k => impl_FilterOk.l0 k s P P (P.length : Int) (i : Int)) (allL ((P.map dl).drop i) && textOkP s && !(dl s).isEmpty && decide ((P.length : Int) ≤ 6))
  | 0, i, hd => by
    refine Ev.step (fun k => by rw [impl_FilterOk.l0]) (ev_neg (by omega) ?_)
    rw [drop_end P i (by omega), implTextOk_eq s (by omega), allL, Bool.true_and]
    refine ev_b rfl (ev_ite (fun h => ?_) (fun h => ?_))
    · rw [h, Bool.true_and]
      refine ev_ite (fun e => ?_) (fun e => ?_)
      · rw [(ne_dl s).1 e]; exact Ev.now _
      · rw [Bool.eq_false_iff.2 (fun z => e ((ne_dl s).2 z))]; exact Ev.now _
    · rw [Bool.eq_false_iff.2 h]; exact Ev.now _
  | d + 1, i, hd => by
    have hi : i < P.length := by omega
    refine Ev.step (fun k => by rw [impl_FilterOk.l0]) (ev_pos (by omega) (ev_pos (by omega) (ev_pos (by omega) ?_)))
    rw [rdOf_get hi, w64s (i := i) (n := P.length) hi (by omega), w64 (x := (P.length : Int) - 1) (by omega) (by omega), levelOk_eq _ _ (hsz i hi), drop_dl P i hi, allL, drop_last P i hi]
    have e : (((i : Int) == (P.length : Int) - 1)) = decide (i + 1 = P.length) := by
      by_cases z : i + 1 = P.length
      · rw [decide_eq_true z]; exact beq_iff_eq.2 (by omega)
      · rw [decide_eq_false z]; exact beq_eq_false_iff_ne.2 (by omega)
    rw [e]
    refine ev_b rfl (ev_ite (fun h => ?_) (fun h => ?_))
    · rw [h, Bool.true_and]
      exact implFilter_l s P hs hP hsz d (i + 1) (by omega)
    · rw [Bool.eq_false_iff.2 h]; exact Ev.now _
theorem implFilterOk_ev (s : ByteArray) (hs : s.size ≤ 1073741824) : Ev (fun k => impl_FilterOk.f k s) (filterL s) := by
  unfold impl_FilterOk.f
  have hl := pieces_length s
  refine ev_b (implLevels_eq s hs) (ev_to (implFilter_l s (pieces s stroke) hs (by omega) (fun i h => by have := piece_size s i h; omega) (pieces s stroke).length 0 (by omega)) ?_)
  unfold filterL
  rw [six, List.drop_zero, pieces_cut]
end Go.Proofs.YtpigbffaacilfaaDoor.Pure
end
section
/- Topics and filters, in plain lists: a text cut at its strokes, levels that fit levels, what is hidden, what is loose; a filter that covers. No program in sight. -/
namespace Go.Proofs.YtpigbffaacilfaaDoor.Pure
open Go.RowKit Go.Proofs.YtpigbffaacilfaaDoor.X Go.Proofs.YtpigbffaacilfaaDoor.P Go.Proofs.YtpigbffaacilfaaDoorW.PrintWords Go.Proofs.YtpigbffaacilfaaDoorW.PrintLast Go.Proofs.YtpigbffaacilfaaDoor.K
set_option linter.unusedVariables false
set_option linter.unusedSimpArgs false
def hiddenL (l : List UInt8) : Bool := l.head? == some 36
def looseL (l : List UInt8) : Bool := l.head? == some 43 || l.head? == some 35
theorem bt_is {s : ByteArray} (h : 0 < s.size) (c : UInt8) (n : Int) (hc : n = (c.toNat : Int)) : (bt s 0 == n) = ((dl s).head? == some c) := by
  subst hc
  by_cases q : bt s 0 = (c.toNat : Int)
  · rw [beq_iff_eq.2 q, beq_iff_eq.2 ((bt_head h c).1 q)]
  · rw [beq_eq_false_iff_ne.2 q, beq_eq_false_iff_ne.2 (fun e => q ((bt_head h c).2 e))]
theorem cut1 (s : ByteArray) (h : 0 < s.size) : (s.extract 0 1).data.toList = [(dl s)[0]'(by rw [dl_len]; exact h)] := by
  rw [ext_data, List.drop_zero]
  have h' : 0 < (dl s).length := by rw [dl_len]; exact h
  have key : ∀ (l : List UInt8) (hl : 0 < l.length), l.take 1 = [l[0]] := by
    intro l hl
    cases l with
    | nil => simp at hl
    | cons a r => rfl
  exact key _ h'
theorem implHidden_hid (s : ByteArray) : impl_Hidden.f s = some (hiddenL (dl s)) := by
  unfold impl_Hidden.f strings_HasPrefix.f stringslite_HasPrefix.f
  have e1 : ((⟨#[36]⟩ : ByteArray).size : Int) = 1 := rfl
  have e2 : (⟨#[36]⟩ : ByteArray).toList = [36] := by rw [Lib.toList_data]
  by_cases h : 0 < s.size
  · rw [if_pos (by rw [e1]; omega), if_pos (by rw [e1]; omega), if_pos (by rw [e1]; omega), e1, e2]
    simp only [Option.bind_some]
    have h1 : ((1 : Int)).toNat = 1 := rfl
    have h' : 0 < (dl s).length := by rw [dl_len]; exact h
    rw [h1, Lib.toList_data, cut1 s h]
    unfold hiddenL
    rw [List.head?_eq_getElem?, List.getElem?_eq_getElem h']
    congr 1
    by_cases q : (dl s)[0] = 36
    · rw [q]; rfl
    · rw [beq_eq_false_iff_ne.2 (by simpa using q), beq_eq_false_iff_ne.2 (by simpa using q)]
  · rw [if_neg (by rw [e1]; omega), empty_dl h]; rfl
theorem implLoose_eq (s : ByteArray) (h : 0 < s.size) : impl_beginsWild.f s = some (looseL (dl s)) := by
  unfold impl_beginsWild.f looseL
  rw [if_pos (by omega)]
  by_cases q : bt s 0 = 43
  · rw [if_pos q, beq_iff_eq.2 ((bt_head h 43).1 q)]; rfl
  · rw [if_neg q, beq_eq_false_iff_ne.2 (fun e => q ((bt_head h 43).2 e)), bt_is h 35 35 rfl, Bool.false_or]
abbrev fitsL (f g : List (List UInt8)) : Bool := fitsG [43] [35] f g
theorem implFits_l (f g : List ByteArray) (hf : f.length ≤ 1073741825) : ∀ (d i : Nat), i + d = f.length → i ≤ g.length → Ev (fun k => impl_fits.l0 k f g f (f.length : Int) (i : Int)) (fitsL ((f.map dl).drop i) ((g.map dl).drop i))
  | 0, i, hd, hi => by
    refine Ev.step (fun k => by rw [impl_fits.l0]) (ev_neg (by omega) (ev_some ?_))
    rw [drop_end f i (by omega)]
    by_cases e : i = g.length
    · rw [drop_end g i (by omega)]
      show _ = true
      exact beq_iff_eq.2 (by omega)
    · rw [drop_dl g i (by omega)]
      show _ = false
      exact beq_eq_false_iff_ne.2 (by omega)
  | d + 1, i, hd, hi => by
    have hlt : i < f.length := by omega
    refine Ev.step (fun k => by rw [impl_fits.l0]) (ev_pos (by omega) (ev_pos (by omega) (ev_pos (by omega) ?_)))
    rw [rdOf_get hlt, drop_dl f i hlt]
    simp only [Lib.toList_data]
    by_cases q : dl f[i] = [35]
    · refine ev_pos q (ev_some ?_)
      rw [q]
      exact (fitsG_hash _ _ _ _).symm
    · refine ev_neg q ?_
      by_cases hg : i < g.length
      · have ih := implFits_l f g hf d (i + 1) (by omega) (by omega)
        refine ev_neg (by omega) ?_
        rw [rdOf_get hg, drop_dl g i hg]
        unfold fitsL
        rw [fitsG_cons q]
        by_cases p : dl f[i] = [43]
        · refine ev_pos p (ev_pos (by omega) (Ev.step (fun k => by rw [impl_fits.j1]) ?_))
          simp only [Lib.toList_data]
          rw [w64s (i := i) (n := f.length) hlt (by omega)]
          by_cases h : dl g[i] = [35]
          · refine ev_pos (beq_iff_eq.2 h) (ev_some ?_)
            rw [decide_eq_true (Or.inl ⟨p, h⟩)]; rfl
          · refine ev_neg (by simpa using h) (ev_pos p (ev_to ih ?_))
            rw [decide_eq_false (fun z => z.elim (fun z => h z.2) (fun z => z.1 p))]; rfl
        · refine ev_neg p (Ev.step (fun k => by rw [impl_fits.j1]) (ev_neg (by simp) (ev_neg (by rw [Lib.toList_data]; exact p) (ev_pos (by omega) (ev_pos (by omega) ?_)))))
          simp only [Lib.toList_data]
          rw [rdOf_get hg, w64s (i := i) (n := f.length) hlt (by omega)]
          by_cases h : dl f[i] = dl g[i]
          · refine ev_pos h (ev_to ih ?_)
            rw [decide_eq_false (fun z => z.elim (fun z => p z.1) (fun z => z.2 h))]; rfl
          · refine ev_neg h (ev_some ?_)
            rw [decide_eq_true (Or.inr ⟨p, h⟩)]; rfl
      · refine ev_pos (by omega) (ev_some ?_)
        rw [drop_end g i (by omega)]
        unfold fitsL
        rw [fitsG, if_neg q]
theorem implFits_ev (s t : ByteArray) (hs : s.size ≤ 1073741824) : Ev (fun k => impl_fits.f k (pieces s stroke) (pieces t stroke)) (fitsL (cutL (dl s)) (cutL (dl t))) := by
  unfold impl_fits.f
  have hl := pieces_length s
  refine ev_to (implFits_l _ _ (by omega) (pieces s stroke).length 0 (by omega) (by omega)) ?_
  rw [List.drop_zero, List.drop_zero, pieces_cut, pieces_cut]
theorem filterL_ne {s : ByteArray} (h : filterL s = true) : 0 < s.size := by
  unfold filterL at h
  simp only [Bool.and_eq_true, Bool.not_eq_true'] at h
  rcases Nat.eq_zero_or_pos s.size with e | e
  · have := empty_dl (s := s) (by omega)
    rw [this] at h
    exact absurd h.1.2 (by decide)
  · exact e
end Go.Proofs.YtpigbffaacilfaaDoor.Pure
end
section
/- Topics and filters, in plain lists: a text cut at its strokes, levels that fit levels, what is hidden, what is loose; a filter that covers. No program in sight. -/
namespace Go.Proofs.YtpigbffaacilfaaDoor.Pure
open Go.RowKit Go.Proofs.YtpigbffaacilfaaDoor.X Go.Proofs.YtpigbffaacilfaaDoor.P Go.Proofs.YtpigbffaacilfaaDoorW.PrintWords Go.Proofs.YtpigbffaacilfaaDoorW.PrintLast Go.Proofs.YtpigbffaacilfaaDoor.K
set_option linter.unusedVariables false
set_option linter.unusedSimpArgs false
def matchL (f t : ByteArray) : Bool := filterL f && topicL t && !(looseL (dl f) && hiddenL (dl t)) && fitsL (cutL (dl f)) (cutL (dl t))
theorem implMatch_ev (f t : ByteArray) (hf : f.size ≤ 1073741824) (ht : t.size ≤ 1073741824) : Ev (fun k => impl_Match.f k f t) (matchL f t) := by
  have hj : ∀ b : Bool, Ev (fun k => impl_Match.j0 k f t b) (!b && fitsL (cutL (dl f)) (cutL (dl t))) := by
    intro b
    refine Ev.step (fun k => by rw [impl_Match.j0]) ?_
    cases b with
    | true => exact ev_pos rfl (Ev.now _)
    | false => exact ev_neg (by simp) (ev_b (implLevels_eq f hf) (ev_b (implLevels_eq t ht) (Ev.bind (implFits_ev f t hf) (Ev.now _))))
  unfold impl_Match.f matchL
  refine Ev.bind (implFilterOk_ev f hf) (ev_ite (fun h => ?_) (fun h => ?_))
  · rw [h, Bool.true_and]
    refine ev_b (implTopicOk_eq t ht) (ev_ite (fun h2 => ?_) (fun h2 => ?_))
    · rw [h2, Bool.true_and, implLoose_eq f (filterL_ne h), implHidden_hid]
      refine ev_b rfl (ev_ite (fun h3 => ?_) (fun h3 => ?_))
      · rw [h3]
        exact ev_b rfl (hj _)
      · rw [Bool.eq_false_iff.2 h3]
        exact hj false
    · rw [Bool.eq_false_iff.2 h2]
      exact hj true
  · rw [Bool.eq_false_iff.2 h]
    exact hj true
end Go.Proofs.YtpigbffaacilfaaDoor.Pure
end
section
/- What is kept of a filter, in plain Lean: marks laid and found again; KeptFor on both sides. No program in sight. -/
namespace Go.Proofs.YtpigbffaacilfaaDoor.Pure
open Go.RowKit Go.Proofs.YtpigbffaacilfaaDoor.X Go.Proofs.YtpigbffaacilfaaDoor.P Go.Proofs.YtpigbffaacilfaaDoorW.PrintWords Go.Proofs.YtpigbffaacilfaaDoorW.PrintLast Go.Proofs.YtpigbffaacilfaaDoor.K
set_option linter.unusedVariables false
set_option linter.unusedSimpArgs false
/-- Those that a filter fits. -/
def fitK (a : ByteArray) (l : List KI) : List KI := l.filter (fun x => matchL a x.f0)
theorem fitK_mem {a : ByteArray} {l : List KI} {x : KI} (h : x ∈ fitK a l) : x ∈ l := (List.mem_filter.1 h).1
theorem fitK_len (a : ByteArray) (l : List KI) : (fitK a l).length ≤ l.length := List.length_filter_le _ _
theorem implKeptFor_l (a : ByteArray) (l : List KI) (ha : a.size ≤ 1073741824) (hl : l.length ≤ 1048576) (hb : ∀ x ∈ l, x.f0.size ≤ 1048576 ∧ x.f1.length ≤ 1048576) : ∀ (d i : Nat) (acc : List KI), i + d = l.length → acc.length ≤ i → (∀ x ∈ acc, x ∈ l) →
    Ev (fun k => impl_KeptFor.l0 k a acc l (l.length : Int) (i : Int)) (acc ++ fitK a (l.drop i))
  | 0, i, acc, hd, hc, hm => by
    refine Ev.step (fun k => by rw [impl_KeptFor.l0]) (ev_neg (by omega) ?_)
    rw [List.drop_of_length_le (by omega)]
    refine Ev.bind (copyKept_ev acc (by omega) (fun x hx => (hb x (hm x hx)).2)) (ev_some ?_)
    simp [fitK]
  | d + 1, i, acc, hd, hc, hm => by
    have hi : i < l.length := by omega
    have hx := hb _ (List.getElem_mem hi)
    have e1 : rd_T41 l (i : Int) = l[i] := getD_get hi
    refine Ev.step (fun k => by rw [impl_KeptFor.l0]) (ev_pos (by omega) (ev_pos (by omega) (ev_pos (by omega) ?_)))
    rw [e1, w64s (i := i) (n := l.length) hi (by omega), List.drop_eq_getElem_cons hi]
    refine Ev.bind (implMatch_ev a l[i].f0 ha (by omega)) (ev_ite (fun q => ev_pos (by omega) ?_) (fun q => ?_))
    · refine ev_to (implKeptFor_l a l ha hl hb d (i + 1) (acc ++ [l[i]]) (by omega) (by rw [List.length_append]; simp only [List.length_cons, List.length_nil]; omega) (fun x hx => ?_)) ?_
      · rcases List.mem_append.1 hx with hx | hx
        · exact hm x hx
        · rw [List.mem_singleton] at hx; rw [hx]; exact List.getElem_mem hi
      · unfold fitK
        rw [List.filter_cons, if_pos q, List.append_assoc]
        rfl
    · refine ev_to (implKeptFor_l a l ha hl hb d (i + 1) acc (by omega) (by omega) hm) ?_
      unfold fitK
      rw [List.filter_cons, if_neg q]
theorem implKeptFor_ev (a : ByteArray) (l : List KI) (ha : a.size ≤ 1073741824) (hl : l.length ≤ 1048576) (hb : ∀ x ∈ l, x.f0.size ≤ 1048576 ∧ x.f1.length ≤ 1048576) : Ev (fun k => impl_KeptFor.f k l a) (fitK a l) :=
  implKeptFor_l a l ha hl hb l.length 0 [] (by omega) (by simp) (fun x hx => by cases hx)
end Go.Proofs.YtpigbffaacilfaaDoor.Pure
end
section
/- What is kept of a filter, in plain Lean: marks laid and found again; KeptFor on both sides. No program in sight. -/
namespace Go.Proofs.YtpigbffaacilfaaDoor.Pure
open Go.RowKit Go.Proofs.YtpigbffaacilfaaDoor.X Go.Proofs.YtpigbffaacilfaaDoor.P Go.Proofs.YtpigbffaacilfaaDoorW.PrintWords Go.Proofs.YtpigbffaacilfaaDoorW.PrintLast Go.Proofs.YtpigbffaacilfaaDoor.K
set_option linter.unusedVariables false
set_option linter.unusedSimpArgs false
theorem less_asymm : ∀ (a b : List UInt8), Op.bytesLess a b = true → Op.bytesLess b a = false
  | [], [], h => by simp [Op.bytesLess] at h
  | [], b :: y, _ => rfl
  | a :: x, [], h => by simp [Op.bytesLess] at h
  | a :: x, b :: y, h => by
    simp only [Op.bytesLess, Bool.or_eq_true, Bool.and_eq_true, decide_eq_true_eq, beq_iff_eq] at h
    simp only [Op.bytesLess, Bool.or_eq_false_iff, Bool.and_eq_false_iff, decide_eq_false_iff_not, beq_eq_false_iff_ne, ne_eq]
    rcases h with h | ⟨h1, h2⟩
    · exact ⟨fun h' => absurd (UInt8.lt_trans h h') (UInt8.lt_irrefl _), .inl (fun e => by subst e; exact UInt8.lt_irrefl _ h)⟩
    · subst h1
      exact ⟨UInt8.lt_irrefl _, .inr (less_asymm x y h2)⟩
theorem less_irrefl (a : List UInt8) : Op.bytesLess a a = false := by
  cases h : Op.bytesLess a a with
  | false => rfl
  | true => exact absurd (less_asymm a a h) (by rw [h]; decide)
/-- The reference's way: the new one ahead of the first that is not less; none of the same topic. -/
def putK (x : KI) : Bool → List KI → List KI
  | done, [] => if done then [] else [x]
  | done, y :: r => (if !done && !(Op.bytesLess y.f0.toList x.f0.toList) then [x] else []) ++ ((if y.f0.toList == x.f0.toList then [] else [y]) ++ putK x (done || !(Op.bytesLess y.f0.toList x.f0.toList)) r)
theorem putK_true (x : KI) (l : List KI) : putK x true l = dropK x.f0 l := by
  induction l with
  | nil => rfl
  | cons y r ih =>
    rw [putK]
    simp only [Bool.not_true, Bool.false_and, Bool.false_eq_true, if_false, List.nil_append, Bool.true_or, ih]
    unfold dropK
    rw [List.filter_cons]
    by_cases h : (y.f0.toList == x.f0.toList) = true
    · rw [if_pos h, if_neg (by rw [h]; decide)]; rfl
    · rw [if_neg h, if_pos (by rw [Bool.eq_false_iff.2 h]; decide)]; rfl
/-- Each is less than the next. -/
def risesK : List KI → Prop
  | [] => True
  | [_] => True
  | y :: z :: r => Op.bytesLess y.f0.toList z.f0.toList = true ∧ risesK (z :: r)
theorem risesK_tail {y : KI} {r : List KI} (h : risesK (y :: r)) : risesK r := by
  cases r with
  | nil => exact trivial
  | cons z r => exact h.2
theorem putK_false (x : KI) : ∀ (l : List KI), risesK l → putK x false l = insK x (dropK x.f0 l)
  | [], _ => rfl
  | y :: r, hr => by
    rw [putK]
    have ih := putK_false x r (risesK_tail hr)
    by_cases hl : Op.bytesLess y.f0.toList x.f0.toList = true
    · have hne : ¬ (y.f0.toList == x.f0.toList) = true := by
        intro e
        rw [beq_iff_eq] at e
        rw [e, less_irrefl] at hl
        cases hl
      have hd : dropK x.f0 (y :: r) = y :: dropK x.f0 r := by
        unfold dropK
        rw [List.filter_cons, if_pos (by rw [Bool.eq_false_iff.2 hne]; decide)]
      rw [hd, insK, if_pos hl, hl, if_neg hne]
      simp only [Bool.not_true, Bool.and_false, Bool.false_eq_true, if_false, List.nil_append, Bool.or_false, List.cons_append, ih]
    · have hf := Bool.eq_false_iff.2 hl
      rw [hf]
      simp only [Bool.not_false, Bool.and_true, if_true, Bool.or_true, putK_true]
      by_cases he : (y.f0.toList == x.f0.toList) = true
      · rw [if_pos he]
        have hd : dropK x.f0 (y :: r) = dropK x.f0 r := by
          unfold dropK
          rw [List.filter_cons, if_neg (by rw [he]; decide)]
        rw [hd]
        show x :: dropK x.f0 r = insK x (dropK x.f0 r)
        cases r with
        | nil => rfl
        | cons z r =>
          have hz := hr.1
          rw [beq_iff_eq] at he
          rw [he] at hz
          have hz2 := less_asymm _ _ hz
          have hne : ¬ (z.f0.toList == x.f0.toList) = true := by
            intro e
            rw [beq_iff_eq] at e
            rw [e, less_irrefl] at hz
            cases hz
          have hd2 : dropK x.f0 (z :: r) = z :: dropK x.f0 r := by
            unfold dropK
            rw [List.filter_cons, if_pos (by rw [Bool.eq_false_iff.2 hne]; decide)]
          rw [hd2, insK, hz2, if_neg (by decide)]
      · rw [if_neg he]
        have hd : dropK x.f0 (y :: r) = y :: dropK x.f0 r := by
          unfold dropK
          rw [List.filter_cons, if_pos (by rw [Bool.eq_false_iff.2 he]; decide)]
        rw [hd, insK, if_neg (by rw [hf]; decide)]
        rfl
theorem keptFrom_rises (l : List KI) : ∀ (d i : Nat), i + d = l.length → keptFrom l d i = true → risesK (l.drop i) ∧ (∀ x ∈ l.drop i, okK x = true) ∧ l.length ≤ 8
  | 0, i, hd, h => by
    rw [List.drop_of_length_le (by omega)]
    refine ⟨trivial, fun x hx => (by cases hx), ?_⟩
    have := of_decide_eq_true h
    omega
  | d + 1, i, hd, h => by
    have hi : i < l.length := by omega
    unfold keptFrom at h
    simp only [Bool.and_eq_true] at h
    obtain ⟨h1, h2, h3⟩ := h
    obtain ⟨a, b, c⟩ := keptFrom_rises l d (i + 1) (by omega) h3
    rw [rdIK hi] at h1
    rw [List.drop_eq_getElem_cons hi]
    refine ⟨?_, fun x hx => ?_, c⟩
    · rcases Nat.lt_or_ge (i + 1) l.length with hj | hj
      · rw [List.drop_eq_getElem_cons hj] at a ⊢
        refine ⟨?_, a⟩
        cases d with
        | zero => omega
        | succ d =>
          unfold keptFrom at h3
          simp only [Bool.and_eq_true] at h3
          have h4 := h3.2.1
          unfold risesAt at h4
          rw [decide_eq_false (by omega), Bool.false_or, show ((i + 1 : Nat) : Int) - 1 = (i : Int) from by omega, rdIK hi, rdIK hj] at h4
          exact h4
      · rw [List.drop_of_length_le hj]
        exact trivial
    · rcases List.mem_cons.1 hx with rfl | hx
      · exact h1
      · exact b x hx
theorem keptL_parts {l : List KI} (h : keptL l = true) : risesK l ∧ (∀ x ∈ l, okK x = true) ∧ l.length ≤ 8 := by
  have := keptFrom_rises l l.length 0 (by omega) h
  simpa using this
/-- What is kept when something is told of a topic. -/
def setL (l : List KI) (t : ByteArray) (b : List Int) (q : Int) : List KI := if b.length = 0 then dropK t l else insK ⟨t, b, q⟩ (dropK t l)
def setOk (l : List KI) (t : ByteArray) (b : List Int) (q : Int) : Bool := keptL l && (topicL t && (decide ((b.length : Int) ≤ 40) && (decide (0 ≤ q) && decide (q ≤ 2))))
def setR (l : List KI) (t : ByteArray) (b : List Int) (q : Int) : List KI × Bool := if setOk l t b q = true then (if keptL (setL l t b q) = true then (setL l t b q, true) else (l, false)) else (l, false)
theorem dropK_mem {t : ByteArray} {l : List KI} {x : KI} (h : x ∈ dropK t l) : x ∈ l := (List.mem_filter.1 h).1
theorem insK_mem {x z : KI} : ∀ {l : List KI}, z ∈ insK x l → z = x ∨ z ∈ l
  | [], h => .inl (by simpa [insK] using h)
  | y :: r, h => by
    rw [insK] at h
    split at h
    · rcases List.mem_cons.1 h with h | h
      · exact .inr (by rw [h]; exact List.mem_cons_self)
      · exact (insK_mem h).imp id (List.mem_cons_of_mem _)
    · rcases List.mem_cons.1 h with h | h
      · exact .inl h
      · exact .inr h
theorem setL_mem {l : List KI} {t : ByteArray} {b : List Int} {q : Int} {x : KI} (h : x ∈ setL l t b q) : x = ⟨t, b, q⟩ ∨ x ∈ l := by
  unfold setL at h
  split at h
  · exact .inr (dropK_mem h)
  · exact (insK_mem h).imp id dropK_mem
theorem dropK_len (t : ByteArray) (l : List KI) : (dropK t l).length ≤ l.length := List.length_filter_le _ _
theorem setL_len (l : List KI) (t : ByteArray) (b : List Int) (q : Int) : (setL l t b q).length ≤ l.length + 1 := by
  have := dropK_len t l
  unfold setL
  split
  · omega
  · rw [insK_len]; omega
/-! #### the program's -/
theorem implSet_fin (l o : List KI) (hl : l.length ≤ 1048576) (hb : ∀ x ∈ l, x.f0.size ≤ 1073741824 ∧ x.f1.length ≤ 1048576) (ho : o.length ≤ 1048577) (hob : ∀ x ∈ o, x.f0.size ≤ 1073741824) : Ev (fun k => impl_SetKept.fin k l o) (if keptL o = true then (o, true) else (l, false)) := by
  unfold impl_SetKept.fin
  refine Ev.bind (implKeptOk_ev o (by omega) hob) (ev_ite (fun h => ?_) (fun h => ?_))
  · rw [if_pos h]; exact Ev.now _
  · rw [if_neg h]
    exact Ev.bind (copyKept_ev l hl (fun x hx => (hb x hx).2)) (Ev.now _)
theorem implSetKept_ev (l : List KI) (t : ByteArray) (b : List Int) (q : Int) (hl : l.length ≤ 1048576) (hb : ∀ x ∈ l, x.f0.size ≤ 1073741824 ∧ x.f1.length ≤ 1048576) (ht : t.size ≤ 1073741824) (hbl : b.length ≤ 1048576) : Ev (fun k => impl_SetKept.f k l t b q) (setR l t b q) := by
  have hbad : Ev (fun k => impl_SetKept.bad k l t b q) (!setOk l t b q) := by
    unfold impl_SetKept.bad setOk
    refine Ev.bind (implKeptOk_ev l (by omega) (fun x hx => (hb x hx).1)) (ev_ite (fun h => ?_) (fun h => ?_))
    · rw [h, Bool.true_and]
      refine ev_b (implTopicOk_eq t ht) (ev_ite (fun h2 => ?_) (fun h2 => ?_))
      · rw [h2, Bool.true_and]
        refine ev_ite (fun h3 => ?_) (fun h3 => ?_)
        · rw [decide_eq_false (by omega : ¬ (b.length : Int) ≤ 40)]; exact Ev.now _
        · rw [decide_eq_true (by omega : (b.length : Int) ≤ 40), Bool.true_and]
          exact ev_b (isQos_eq q) (Ev.now _)
      · rw [Bool.eq_false_iff.2 h2]; exact Ev.now _
    · rw [Bool.eq_false_iff.2 h]; exact Ev.now _
  unfold impl_SetKept.f setR
  have hc := copyKept_ev l hl (fun x hx => (hb x hx).2)
  refine Ev.bind hbad (ev_ite (fun h => ?_) (fun h => ?_))
  · rw [if_neg (by intro e; rw [e] at h; cases h)]
    exact Ev.bind hc (Ev.now _)
  · have hok : setOk l t b q = true := by simpa using h
    rw [if_pos hok]
    have h8 : l.length ≤ 8 := by
      unfold setOk at hok
      simp only [Bool.and_eq_true] at hok
      exact (keptL_parts hok.1).2.2
    have hd := dropK_len t l
    refine Ev.bind hc (ev_ite (fun h2 => ?_) (fun h2 => ?_))
    · have e : setL l t b q = insK ⟨t, b, q⟩ (dropK t l) := by unfold setL; rw [if_neg (by omega)]
      rw [e]
      refine Ev.bind (joined1_ev b (by omega)) (ev_pos (by omega) (implSet_fin l _ hl hb (by rw [insK_len]; omega) (fun x hx => ?_)))
      rcases insK_mem hx with rfl | hx
      · exact ht
      · exact (hb x (dropK_mem hx)).1
    · have e : setL l t b q = dropK t l := by unfold setL; rw [if_pos (by omega)]
      rw [e]
      exact implSet_fin l _ hl hb (by omega) (fun x hx => (hb x (dropK_mem hx)).1)
/-! #### the reference's -/
theorem specSet_l (l : List KI) (t : ByteArray) (b : List Int) (q : Int) (hl : l.length ≤ 8) (hb : ∀ x ∈ l, x.f0.size ≤ 1073741824 ∧ x.f1.length ≤ 1048576) (R : List KI × Bool) : ∀ (d i : Nat) (acc : List KI) (done : Bool), i + d = l.length → acc.length ≤ 2 * i →
    Ev (fun k => spec_SetKept.j3 k l (acc ++ putK ⟨t, b, q⟩ done (l.drop i))) R → Ev (fun k => spec_SetKept.l0 k l t acc done (i : Int) t b q) R
  | 0, i, acc, done, hd, hc, h => by
    rw [List.drop_of_length_le (by omega), putK] at h
    refine Ev.step (fun k => by rw [spec_SetKept.l0]) (ev_neg (by omega) (ev_ite (fun e => ?_) (fun e => ?_)))
    · rw [if_pos e, List.append_nil] at h
      exact h
    · rw [if_neg e] at h
      exact ev_pos (by omega) h
  | d + 1, i, acc, done, hd, hc, h => by
    have hi : i < l.length := by omega
    rw [List.drop_eq_getElem_cons hi, putK] at h
    have ih := specSet_l l t b q hl hb R d (i + 1)
    have e1 : rd_T41 l (i : Int) = l[i] := rdIK hi
    refine Ev.step (fun k => by rw [spec_SetKept.l0]) (ev_pos (by omega) ?_)
    -- the second half of a round, from what is done behind the first
    have half : ∀ (acc2 : List KI) (done2 : Bool), acc2.length ≤ 2 * i + 1 → Ev (fun k => spec_SetKept.j3 k l (acc2 ++ ((if l[i].f0.toList == t.toList then [] else [l[i]]) ++ putK ⟨t, b, q⟩ done2 (l.drop (i + 1))))) R →
        Ev (fun k => if 0 ≤ (i : Int) then (if (i : Int) < (l.length : Int) then (if ((rd_T41 l (i : Int)).f0).toList = t.toList then (spec_SetKept.l0 k l t acc2 done2 (wrap64 ((i : Int) + 1)) t b q) else (if acc2.length < 2932031007402 then (spec_SetKept.l0 k l t (acc2 ++ [(⟨(rd_T41 l (i : Int)).f0, (rd_T41 l (i : Int)).f1, (rd_T41 l (i : Int)).f2⟩ : KI)]) done2 (wrap64 ((i : Int) + 1)) t b q) else (none))) else (none)) else (none)) R := by
      intro acc2 done2 hc2 h2
      refine ev_pos (by omega) (ev_pos (by omega) ?_)
      rw [e1, w64s (i := i) (n := l.length) hi (by omega)]
      refine ev_ite (fun e => ?_) (fun e => ?_)
      · rw [if_pos (beq_iff_eq.2 e), List.nil_append] at h2
        exact ih acc2 done2 (by omega) (by omega) h2
      · rw [if_neg (fun e' => e (beq_iff_eq.1 e')), ← List.append_assoc] at h2
        exact ev_pos (by omega) (ih (acc2 ++ [l[i]]) done2 (by omega) (by rw [List.length_append]; simp only [List.length_cons, List.length_nil]; omega) h2)
    refine ev_ite (fun e => ?_) (fun e => ?_)
    · subst e
      simp only [Bool.not_true, Bool.false_and, Bool.false_eq_true, if_false, List.nil_append, Bool.true_or] at h
      refine Ev.step (fun k => by rw [spec_SetKept.j2]) (ev_neg (by simp) (half acc true (by omega) h))
    · rw [Bool.eq_false_iff.2 e] at h ⊢
      refine ev_pos (by omega) ?_
      rw [e1]
      by_cases hq : Op.bytesLess l[i].f0.toList t.toList = true
      · rw [hq] at h ⊢
        simp only [Bool.not_true, Bool.and_false, Bool.false_eq_true, if_false, List.nil_append, Bool.or_false] at h
        exact Ev.step (fun k => by rw [spec_SetKept.j2]) (ev_neg (by simp) (half acc false (by omega) h))
      · rw [Bool.eq_false_iff.2 hq] at h ⊢
        simp only [Bool.not_false, Bool.and_true, if_true, Bool.or_true] at h
        rw [← List.append_assoc] at h
        refine Ev.step (fun k => by rw [spec_SetKept.j2]) ?_
        refine ev_pos rfl ?_
        refine ev_pos (by omega) ?_
        exact half (acc ++ [⟨t, b, q⟩]) true (by rw [List.length_append]; simp only [List.length_cons, List.length_nil]; omega) h
theorem specSetKept_ev (l : List KI) (t : ByteArray) (b : List Int) (q : Int) (hl : l.length ≤ 1048576) (hb : ∀ x ∈ l, x.f0.size ≤ 1073741824 ∧ x.f1.length ≤ 1048576) (ht : t.size ≤ 1073741824) (hbl : b.length ≤ 1048576) : Ev (fun k => spec_SetKept.f k l t b q) (setR l t b q) := by
  have hc := l9Copy_ev l hl (fun x hx => (hb x hx).2)
  have hj : Ev (fun k => spec_SetKept.j0 k l t b q (!setOk l t b q)) (setR l t b q) := by
    refine Ev.step (fun k => by rw [spec_SetKept.j0]) (ev_ite (fun h => ?_) (fun h => ?_))
    · unfold setR
      rw [if_neg (by intro e; rw [e] at h; cases h)]
      exact Ev.bind hc (Ev.now _)
    · have hok : setOk l t b q = true := by simpa using h
      have hk := hok
      unfold setOk at hk
      simp only [Bool.and_eq_true] at hk
      obtain ⟨hr, _, h8⟩ := keptL_parts hk.1
      unfold setR
      rw [if_pos hok]
      refine ev_bs (ev_pos (by simp only [List.length_nil]; omega) ?_)
      rw [List.nil_append]
      refine specSet_l l t b q h8 hb _ l.length 0 [] _ (by omega) (by simp) ?_
      rw [List.nil_append, List.drop_zero]
      have hput : putK ⟨t, b, q⟩ ((b.length : Int) == 0) l = setL l t b q := by
        unfold setL
        by_cases e : b.length = 0
        · rw [if_pos e, beq_iff_eq.2 (by omega : (b.length : Int) = 0)]; exact putK_true _ l
        · rw [if_neg e, beq_eq_false_iff_ne.2 (by omega : (b.length : Int) ≠ 0)]; exact putK_false _ l hr
      rw [hput]
      have hlen := setL_len l t b q
      refine Ev.step (fun k => by rw [spec_SetKept.j3]) (Ev.bind (specKeptOk_ev _ (by omega) (fun x hx => ?_)) (ev_ite (fun h2 => ?_) (fun h2 => ?_)))
      · rcases setL_mem hx with rfl | hx
        · exact ht
        · exact (hb x hx).1
      · rw [if_pos h2]
        refine Ev.bind (l9Copy_ev _ (by omega) (fun x hx => ?_)) (Ev.now _)
        rcases setL_mem hx with rfl | hx
        · exact hbl
        · exact (hb x hx).2
      · rw [if_neg h2]
        exact Ev.bind hc (Ev.now _)
  unfold spec_SetKept.f
  unfold setOk at hj
  refine Ev.bind (specKeptOk_ev l (by omega) (fun x hx => (hb x hx).1)) (ev_ite (fun h => ?_) (fun h => ?_))
  · rw [h, Bool.true_and] at hj
    refine Ev.bind (specTopicOk_ev t ht) (ev_ite (fun h2 => ?_) (fun h2 => ?_))
    · rw [h2, Bool.true_and] at hj
      refine ev_ite (fun h3 => ?_) (fun h3 => ?_)
      · rw [decide_eq_false (by omega : ¬ (b.length : Int) ≤ 40)] at hj; exact hj
      · rw [decide_eq_true (by omega : (b.length : Int) ≤ 40), Bool.true_and] at hj
        exact ev_b (specIn_eq q 0 2) hj
    · rw [Bool.eq_false_iff.2 h2] at hj; exact hj
  · rw [Bool.eq_false_iff.2 h] at hj; exact hj
end Go.Proofs.YtpigbffaacilfaaDoor.Pure
end
section
/- What is drawn of bytes: a place in them that never leaves them, numbers below a bound, bytes. No program in sight. -/
namespace Go.Proofs.YtpigbffaacilfaaDoor.Pure
open Go.RowKit Go.Proofs.YtpigbffaacilfaaDoor.P Go.Proofs.YtpigbffaacilfaaDoorW.PrintWords Go.Proofs.YtpigbffaacilfaaDoorW.PrintLast Go.Proofs.YtpigbffaacilfaaDoorW.PrintMore Go.Proofs.YtpigbffaacilfaaDoor.K
set_option linter.unusedVariables false
set_option linter.unusedSimpArgs false
theorem and255_any (x : Int) : 0 ≤ Go.bits .and .i64 x 255 ∧ Go.bits .and .i64 x 255 ≤ 255 := by
  have h : (BitVec.ofInt 64 x &&& BitVec.ofInt 64 255).toNat ≤ 255 := by
    rw [BitVec.toNat_and]
    exact Nat.le_trans Nat.and_le_right (by decide)
  show 0 ≤ IntKind.i64.wrap ((BitVec.ofInt 64 x &&& BitVec.ofInt 64 255).toNat : Int) ∧ IntKind.i64.wrap ((BitVec.ofInt 64 x &&& BitVec.ofInt 64 255).toNat : Int) ≤ 255
  rw [IntKind.wrap_i64]
  omega
/-- A place in the bytes. -/
def Pos (l : List Int) (a : Int) : Prop := 0 ≤ a ∧ a ≤ l.length ∧ l.length ≤ 1048576
theorem l1New_l (l : List Int) (hl : l.length ≤ 1048576) : ∀ (d i : Nat) (c : Int), i + d = l.length → ∃ z, Ev (fun k => spec_l1New.l0 k l c (i : Int)) (l, 0, z)
  | 0, i, c, hd => ⟨_, Ev.step (fun k => by rw [spec_l1New.l0]) (ev_neg (by omega) (Ev.now _))⟩
  | d + 1, i, c, hd => by
    by_cases h : (i : Int) < 4000
    · obtain ⟨z, hz⟩ := l1New_l l hl d (i + 1) (Go.bits .and .i64 (wrap64 ((wrap64 ((wrap64 (c * 137)) + (wrap64 (rd l (i : Int))))) + 11)) 1073741823) (by omega)
      refine ⟨z, Ev.step (fun k => by rw [spec_l1New.l0]) (ev_pos (by omega) (ev_pos h (ev_pos (by omega) ?_)))⟩
      rw [w64s (i := i) (n := l.length) (by omega) (by omega)]
      exact hz
    · exact ⟨_, Ev.step (fun k => by rw [spec_l1New.l0]) (ev_pos (by omega) (ev_neg h (Ev.now _)))⟩
theorem l1New_ev (l : List Int) (hl : l.length ≤ 1048576) : ∃ c, Ev (fun k => spec_l1New.f k l) (l, 0, c) := by
  unfold spec_l1New.f
  exact l1New_l l hl l.length 0 _ (by omega)
theorem l1Byte_eq (l : List Int) (a c : Int) (h : Pos l a) : ∃ v a' c', spec_l1Byte.f l a c = some (v, a', c') ∧ 0 ≤ v ∧ v ≤ 255 ∧ Pos l a' := by
  obtain ⟨h0, h1, h2⟩ := h
  unfold spec_l1Byte.f
  by_cases q : a < (l.length : Int)
  · rw [if_pos q, if_pos h0, w64 (x := a + 1) (by omega) (by omega)]
    exact ⟨_, _, _, rfl, (and255_any _).1, (and255_any _).2, by omega, by omega, h2⟩
  · rw [if_neg q]
    exact ⟨_, _, _, rfl, (and255_any _).1, (and255_any _).2, h0, h1, h2⟩
theorem l1Below_eq (l : List Int) (a c m : Int) (h : Pos l a) : ∃ v a' c', spec_l1Below.f l a c m = some (v, a', c') ∧ 0 ≤ v ∧ (0 < m → v < m) ∧ Pos l a' := by
  unfold spec_l1Below.f
  by_cases q : m ≤ 0
  · rw [if_pos q]
    exact ⟨_, _, _, rfl, by omega, by omega, h⟩
  rw [if_neg q]
  have hm : ∀ x : Int, 0 ≤ x → Int.tmod x m = x % m := fun x hx => Int.tmod_eq_emod_of_nonneg hx
  by_cases q2 : m ≤ 256
  · rw [if_pos q2]
    obtain ⟨v, a', c', e, h0, h1, hp⟩ := l1Byte_eq l a c h
    rw [e, Option.bind_some, if_neg (by omega), hm v h0]
    exact ⟨_, _, _, rfl, Int.emod_nonneg _ (by omega), fun _ => Int.emod_lt_of_pos _ (by omega), hp⟩
  · rw [if_neg q2]
    obtain ⟨v, a', c', e, h0, h1, hp⟩ := l1Byte_eq l a c h
    rw [e, Option.bind_some]
    obtain ⟨v2, a2, c2, e2, h02, h12, hp2⟩ := l1Byte_eq l a' c' hp
    rw [e2, Option.bind_some]
    obtain ⟨v3, a3, c3, e3, h03, h13, hp3⟩ := l1Byte_eq l a2 c2 hp2
    rw [e3, Option.bind_some, if_neg (by omega)]
    dsimp only
    rw [w64 (x := v * 65536) (by omega) (by omega), w64 (x := v2 * 256) (by omega) (by omega), w64 (x := v * 65536 + v2 * 256) (by omega) (by omega), w64 (by omega) (by omega), hm _ (by omega)]
    exact ⟨_, _, _, rfl, Int.emod_nonneg _ (by omega), fun _ => Int.emod_lt_of_pos _ (by omega), hp3⟩
theorem l1Once_eq (l : List Int) (a c m : Int) (h : Pos l a) : ∃ v a' c', spec_l1Once.f l a c m = some (v, a', c') ∧ Pos l a' := by
  unfold spec_l1Once.f
  obtain ⟨v, a', c', e, _, _, hp⟩ := l1Below_eq l a c m h
  rw [e, Option.bind_some]
  exact ⟨_, _, _, rfl, hp⟩
theorem l1Bytes_l (l : List Int) (n : Nat) (hn : n ≤ 1048576) : ∀ (d i : Nat) (acc : List Int) (a c : Int), i + d = n → Pos l a → acc.length = i → Bytes acc →
    ∃ r a' c', Ev (fun k => spec_l1Bytes.l0 k (n : Int) acc (i : Int) l a c) (r, a', c') ∧ r.length = n ∧ Bytes r ∧ Pos l a'
  | 0, i, acc, a, c, hd, hp, hl, hb => ⟨_, _, _, Ev.step (fun k => by rw [spec_l1Bytes.l0]) (ev_neg (by omega) (Ev.now _)), by omega, hb, hp⟩
  | d + 1, i, acc, a, c, hd, hp, hl, hb => by
    obtain ⟨v, a1, c1, e, h0, h1, hp1⟩ := l1Byte_eq l a c hp
    obtain ⟨r, a', c', hr, hrl, hrb, hp'⟩ := l1Bytes_l l n hn d (i + 1) (acc ++ [v % 256]) a1 c1 (by omega) hp1 (by simp [hl]) (by
      intro x hx
      rcases List.mem_append.1 hx with q | q
      · exact hb x q
      · obtain rfl := List.mem_singleton.1 q
        omega)
    refine ⟨r, a', c', ?_, hrl, hrb, hp'⟩
    refine Ev.step (fun k => by rw [spec_l1Bytes.l0]) ?_
    refine ev_pos (by omega) (ev_b e ?_)
    refine ev_pos (by omega) ?_
    rw [w64s (i := i) (n := n) (by omega) (by omega)]
    exact hr
theorem l1Bytes_ev (l : List Int) (a c n : Int) (h : Pos l a) (h0 : 0 ≤ n) (h1 : n ≤ 1048576) : ∃ r a' c', Ev (fun k => spec_l1Bytes.f k l a c n) (r, a', c') ∧ (r.length : Int) = n ∧ Bytes r ∧ Pos l a' := by
  obtain ⟨m, rfl⟩ := Int.eq_ofNat_of_zero_le h0
  unfold spec_l1Bytes.f
  obtain ⟨r, a', c', hr, hl, hb, hp⟩ := l1Bytes_l l m (by omega) m 0 [] a c (by omega) h rfl (fun x hx => by cases hx)
  exact ⟨r, a', c', hr, by omega, hb, hp⟩
theorem l1Int_eq (l : List Int) (a c : Int) (xs : List Int) (h : Pos l a) (hx : 0 < xs.length) : ∃ v a' c', spec_l1Int.f l a c xs = some (v, a', c') ∧ v ∈ xs ∧ Pos l a' := by
  unfold spec_l1Int.f
  obtain ⟨v, a', c', e, h0, h1, hp⟩ := l1Below_eq l a c (xs.length : Int) h
  have h2 := h1 (by omega)
  rw [e, Option.bind_some, if_pos h0, if_pos h2]
  refine ⟨_, _, _, rfl, ?_, hp⟩
  obtain ⟨m, rfl⟩ := Int.eq_ofNat_of_zero_le h0
  show rd xs (m : Int) ∈ xs
  rw [rd_get (by omega)]
  exact List.getElem_mem _
end Go.Proofs.YtpigbffaacilfaaDoor.Pure
end
section
/- Topics and filters, in plain lists: a text cut at its strokes, levels that fit levels, what is hidden, what is loose; a filter that covers. No program in sight. -/
namespace Go.Proofs.YtpigbffaacilfaaDoor.Pure
open Go.RowKit Go.Proofs.YtpigbffaacilfaaDoor.X Go.Proofs.YtpigbffaacilfaaDoor.P Go.Proofs.YtpigbffaacilfaaDoorW.PrintWords Go.Proofs.YtpigbffaacilfaaDoorW.PrintLast Go.Proofs.YtpigbffaacilfaaDoor.K
set_option linter.unusedVariables false
set_option linter.unusedSimpArgs false
theorem l1Str_eq (l : List Int) (a c : Int) (xs : List ByteArray) (h : Pos l a) (hx : 0 < xs.length) (hs : ∀ x ∈ xs, x.size ≤ 61) : ∃ s a' c', spec_l1Str.f l a c xs = some (s, a', c') ∧ s.size ≤ 61 ∧ Pos l a' := by
  obtain ⟨v, a1, c1, h1, h0, hv, hp⟩ := l1Below_eq l a c (xs.length : Int) h
  have hv' := hv (by omega)
  have hn : v.toNat < xs.length := by omega
  refine ⟨xs[v.toNat], a1, c1, ?_, hs _ (List.getElem_mem hn), hp⟩
  unfold spec_l1Str.f
  rw [h1]
  simp only [Option.bind_some]
  rw [if_pos h0, if_pos hv']
  congr 2
  unfold rdOf
  simp [List.getD_eq_getElem?_getD, hn]
theorem l1Str_bind (l : List Int) (a c : Int) (xs : List ByteArray) (h : Pos l a) (hx : 0 < xs.length) (hs : xs.all (fun x => decide (x.size ≤ 61)) = true) : ∃ s a' c', ((spec_l1Str.f l a c xs).bind fun bt => some (bt.1, bt.2.1, bt.2.2)) = some (s, a', c') ∧ s.size ≤ 61 ∧ Pos l a' := by
  obtain ⟨s, a1, c1, h1, hs, hp⟩ := l1Str_eq l a c xs h hx (fun x hm => by simpa using List.all_eq_true.1 hs x hm)
  exact ⟨s, a1, c1, by rw [h1]; rfl, hs, hp⟩
theorem l3Topic_eq (l : List Int) (a c : Int) (h : Pos l a) : ∃ s a' c', spec_l3Topic.f l a c = some (s, a', c') ∧ s.size ≤ 61 ∧ Pos l a' := by
  unfold spec_l3Topic.f
  exact l1Str_bind l a c _ h (by decide) (by decide)
theorem l3Filter_eq (l : List Int) (a c : Int) (h : Pos l a) : ∃ s a' c', spec_l3Filter.f l a c = some (s, a', c') ∧ s.size ≤ 61 ∧ Pos l a' := by
  obtain ⟨o, a1, c1, h1, hp1⟩ := l1Once_eq l a c 3 h
  unfold spec_l3Filter.f
  rw [h1]
  simp only [Option.bind_some]
  cases o with
  | true =>
    obtain ⟨s, a2, c2, h2, hs, hp⟩ := l3Topic_eq l a1 c1 hp1
    exact ⟨s, a2, c2, by rw [if_pos rfl, h2]; rfl, hs, hp⟩
  | false =>
    rw [if_neg (by simp)]
    exact l1Str_bind l a1 c1 _ hp1 (by decide) (by decide)
theorem l3Any_eq (l : List Int) (a c : Int) (h : Pos l a) : ∃ s a' c', spec_l3Any.f l a c = some (s, a', c') ∧ s.size ≤ 61 ∧ Pos l a' := by
  obtain ⟨v, a1, c1, h1, h0, hv, hp1⟩ := l1Below_eq l a c 3 h
  unfold spec_l3Any.f
  rw [h1]
  simp only [Option.bind_some]
  by_cases e0 : v = 0
  · obtain ⟨s, a2, c2, h2, hs, hp⟩ := l3Topic_eq l a1 c1 hp1
    exact ⟨s, a2, c2, by rw [if_pos e0, h2]; rfl, hs, hp⟩
  by_cases e1 : v = 1
  · obtain ⟨s, a2, c2, h2, hs, hp⟩ := l3Filter_eq l a1 c1 hp1
    exact ⟨s, a2, c2, by rw [if_neg e0, if_pos e1, h2]; rfl, hs, hp⟩
  simp only [if_neg e0, if_neg e1]
  exact l1Str_bind l a1 c1 _ hp1 (by decide) (by decide)
end Go.Proofs.YtpigbffaacilfaaDoor.Pure
end
section
/- Topics and filters, in plain lists: a text cut at its strokes, levels that fit levels, what is hidden, what is loose; a filter that covers. No program in sight. -/
namespace Go.Proofs.YtpigbffaacilfaaDoor.Pure
open Go.RowKit Go.Proofs.YtpigbffaacilfaaDoor.X Go.Proofs.YtpigbffaacilfaaDoor.P Go.Proofs.YtpigbffaacilfaaDoorW.PrintWords Go.Proofs.YtpigbffaacilfaaDoorW.PrintLast Go.Proofs.YtpigbffaacilfaaDoor.K
set_option linter.unusedVariables false
set_option linter.unusedSimpArgs false
theorem allL_of : ∀ l : List (List UInt8), (∀ x ∈ l, wildL x = false) → allL l = true
  | [], _ => rfl
  | x :: r, h => by
    rw [allL, allL_of r (fun y hy => h y (List.mem_cons_of_mem _ hy)), Bool.and_true]
    unfold levelL
    rw [h x List.mem_cons_self]
    rfl
theorem wildL_iff (l : List UInt8) : wildL l = false ↔ (43 : UInt8) ∉ l ∧ (35 : UInt8) ∉ l := by
  unfold wildL
  simp only [Bool.or_eq_false_iff, List.contains_eq_mem, decide_eq_false_iff_not]
theorem cut_plain {s : List UInt8} (h : wildL s = false) : ∀ x ∈ cutL s, wildL x = false := by
  intro x hx
  rw [wildL_iff] at h ⊢
  exact ⟨fun m => h.1 (cutL_sub s x 43 hx m), fun m => h.2 (cutL_sub s x 35 hx m)⟩
theorem topic_parts {s : ByteArray} (h : topicL s = true) : textOkP s = true ∧ (dl s).isEmpty = false ∧ wildL (dl s) = false ∧ (cutL (dl s)).length ≤ 6 := by
  unfold topicL at h
  simpa [and_assoc] using h
theorem topic_of {s : ByteArray} (h1 : textOkP s = true) (h2 : (dl s).isEmpty = false) (h3 : wildL (dl s) = false) (h4 : (cutL (dl s)).length ≤ 6) : topicL s = true := by
  unfold topicL
  rw [h1, h2, h3, decide_eq_true h4]; rfl
theorem filter_parts {s : ByteArray} (h : filterL s = true) : allL (cutL (dl s)) = true ∧ textOkP s = true ∧ (dl s).isEmpty = false ∧ (cutL (dl s)).length ≤ 6 := by
  unfold filterL at h
  simpa [and_assoc] using h
theorem topic_filter {s : ByteArray} (h : topicL s = true) : filterL s = true := by
  obtain ⟨h1, h2, h3, h4⟩ := topic_parts h
  unfold filterL
  rw [allL_of _ (cut_plain h3), h1, h2, decide_eq_true h4]; rfl
theorem plain_notLoose {l : List UInt8} (h : wildL l = false) : looseL l = false := by
  rw [wildL_iff] at h
  unfold looseL
  cases l with
  | nil => rfl
  | cons b r =>
    simp only [List.head?_cons, Bool.or_eq_false_iff, beq_eq_false_iff_ne, ne_eq, Option.some.injEq]
    exact ⟨fun e => h.1 (by rw [e]; exact List.mem_cons_self), fun e => h.2 (by rw [e]; exact List.mem_cons_self)⟩
theorem plain_notIn {l : List UInt8} (h : wildL l = false) : ([43] : List UInt8) ∉ cutL l ∧ ([35] : List UInt8) ∉ cutL l := by
  constructor
  · intro m
    have := cut_plain h _ m
    exact absurd this (by decide)
  · intro m
    have := cut_plain h _ m
    exact absurd this (by decide)
theorem match_self {t : ByteArray} (h : topicL t = true) : matchL t t = true := by
  unfold matchL
  rw [topic_filter h, h, plain_notLoose (topic_parts h).2.2.1, fitsL, fitsG_refl]; rfl
theorem match_plain {f t : ByteArray} (hf : filterL f = true) (hw : wildL (dl f) = false) (ht : topicL t = true) : matchL f t = decide (dl f = dl t) := by
  unfold matchL
  obtain ⟨h1, h2⟩ := plain_notIn hw
  rw [hf, ht, plain_notLoose hw, fitsL, fitsG_plain _ _ _ _ h1 h2]
  simp only [Bool.false_and, Bool.not_false, Bool.true_and]
  exact decide_eq_decide.2 ⟨cutL_inj, fun e => by rw [e]⟩
def hashB : ByteArray := ⟨#[35]⟩
theorem hash_filter : filterL hashB = true := by decide
theorem match_hash {t : ByteArray} (ht : topicL t = true) : matchL hashB t = !hiddenL (dl t) := by
  unfold matchL
  have e : cutL (dl hashB) = [[35]] := rfl
  have e2 : looseL (dl hashB) = true := rfl
  rw [hash_filter, ht, e, e2, fitsL, fitsG_hash]
  simp
/-! ### a filter that covers -/
theorem loose_hidden (l : List UInt8) : (looseL l && hiddenL l) = false := by
  unfold looseL hiddenL
  cases l with
  | nil => rfl
  | cons b r =>
    simp only [List.head?_cons]
    by_cases e : b = 36
    · subst e; rfl
    · have : (some b == some (36 : UInt8)) = false := beq_eq_false_iff_ne.2 (fun z => e (Option.some.inj z))
      rw [this, Bool.and_false]
/-- What covers what fits, fits. -/
theorem chain {f g k : List UInt8} (h1 : (looseL f && hiddenL g) = false) (h2 : fitsL (cutL f) (cutL g) = true) (h3 : (looseL g && hiddenL k) = false) (h4 : fitsL (cutL g) (cutL k) = true) :
    (looseL f && hiddenL k) = false ∧ fitsL (cutL f) (cutL k) = true := by
  refine ⟨?_, fitsG_trans _ _ (by decide) _ _ _ h2 h4⟩
  cases hf : looseL f
  · rfl
  · rw [hf, Bool.true_and] at h1
    cases hk : hiddenL k
    · rfl
    · exfalso
      rw [hk, Bool.and_true] at h3
      obtain ⟨x, r, ex⟩ := cutL_ex g
      obtain ⟨y, r', ey⟩ := cutL_ex k
      have kx := cutL_head g x r ex
      have ky := cutL_head k y r' ey
      have hk' : k.head? = some 36 := by simpa [hiddenL] using hk
      have hy : y.head? = some 36 := by
        rcases ky with ⟨e, _⟩ | ⟨_, e⟩
        · rw [e, hk']
        · rw [hk'] at e; exact absurd e (by decide)
      have hg : g.head? ≠ some 43 ∧ g.head? ≠ some 35 := by simpa [looseL] using h3
      have hg2 : g.head? ≠ some 36 := by simpa [hiddenL] using h1
      have hx43 : x ≠ [43] := by
        intro e
        rcases kx with ⟨q, _⟩ | ⟨q, _⟩
        · rw [e] at q; exact hg.1 q.symm
        · rw [e] at q; cases q
      have hx35 : x ≠ [35] := by
        intro e
        rcases kx with ⟨q, _⟩ | ⟨q, _⟩
        · rw [e] at q; exact hg.2 q.symm
        · rw [e] at q; cases q
      rw [ex, ey] at h4
      have hxy := fitsG_first hx43 hx35 h4
      rw [hxy] at kx
      rcases kx with ⟨q, _⟩ | ⟨q, _⟩
      · rw [hy] at q; exact hg2 q.symm
      · rw [q] at hy; cases hy
end Go.Proofs.YtpigbffaacilfaaDoor.Pure
end
section
/- What is kept of a filter, in plain Lean: marks laid and found again; KeptFor on both sides. No program in sight. -/
namespace Go.Proofs.YtpigbffaacilfaaDoor.Pure
open Go.RowKit Go.Proofs.YtpigbffaacilfaaDoor.X Go.Proofs.YtpigbffaacilfaaDoor.P Go.Proofs.YtpigbffaacilfaaDoorW.PrintWords Go.Proofs.YtpigbffaacilfaaDoorW.PrintLast Go.Proofs.YtpigbffaacilfaaDoor.K
set_option linter.unusedVariables false
set_option linter.unusedSimpArgs false
theorem less_trans : ∀ (a b c : List UInt8), Op.bytesLess a b = true → Op.bytesLess b c = true → Op.bytesLess a c = true
  | [], [], _, h, _ => by simp [Op.bytesLess] at h
  | a :: x, [], _, h, _ => by simp [Op.bytesLess] at h
  | _, b :: y, [], _, h => by simp [Op.bytesLess] at h
  | [], b :: y, c :: z, _, _ => rfl
  | a :: x, b :: y, c :: z, h, h2 => by
    simp only [Op.bytesLess, Bool.or_eq_true, Bool.and_eq_true, decide_eq_true_eq, beq_iff_eq] at h h2 ⊢
    rcases h with h | ⟨rfl, h⟩
    · rcases h2 with h2 | ⟨rfl, h2⟩
      · exact .inl (UInt8.lt_trans h h2)
      · exact .inl h
    · rcases h2 with h2 | ⟨rfl, h2⟩
      · exact .inl h2
      · exact .inr ⟨rfl, less_trans x y z h h2⟩
theorem rises_all : ∀ (y : KI) (r : List KI), risesK (y :: r) → ∀ z ∈ r, Op.bytesLess y.f0.toList z.f0.toList = true
  | y, [], _, z, hz => by cases hz
  | y, u :: r, h, z, hz => by
    rcases List.mem_cons.1 hz with rfl | hz
    · exact h.1
    · exact less_trans _ _ _ h.1 (rises_all u r h.2 z hz)
theorem drop_none {t : ByteArray} {l : List KI} (h : ∀ z ∈ l, (z.f0.toList == t.toList) = false) : dropK t l = l := List.filter_eq_self.2 (fun z hz => by rw [h z hz]; rfl)
/-- What is dropped is one at most: of those that P picks one at most is gone. -/
theorem drop_count (P : KI → Bool) (t : ByteArray) : ∀ (l : List KI), risesK l → ∃ n, n ≤ 1 ∧ (l.filter P).length = ((dropK t l).filter P).length + n ∧ (0 < n → ∃ y ∈ l, y.f0.toList = t.toList ∧ P y = true)
  | [], _ => ⟨0, by omega, rfl, fun h => absurd h (by omega)⟩
  | y :: r, hr => by
    by_cases e : (y.f0.toList == t.toList) = true
    · have e' := beq_iff_eq.1 e
      have hn : dropK t r = r := drop_none (fun z hz => by
        have := rises_all y r hr z hz
        rw [e'] at this
        refine beq_eq_false_iff_ne.2 (fun e2 => ?_)
        rw [e2, less_irrefl] at this
        cases this)
      have hd : dropK t (y :: r) = r := by
        have : dropK t (y :: r) = dropK t r := by unfold dropK; rw [List.filter_cons, if_neg (by rw [e]; decide)]
        rw [this, hn]
      rw [hd, List.filter_cons]
      by_cases p : P y = true
      · rw [if_pos p, List.length_cons]
        exact ⟨1, by omega, rfl, fun _ => ⟨y, List.mem_cons_self, e', p⟩⟩
      · rw [if_neg p]
        exact ⟨0, by omega, rfl, fun h => absurd h (by omega)⟩
    · obtain ⟨n, h1, h2, h3⟩ := drop_count P t r (risesK_tail hr)
      have hd : dropK t (y :: r) = y :: dropK t r := by unfold dropK; rw [List.filter_cons, if_pos (by rw [Bool.eq_false_iff.2 e]; decide)]
      rw [hd, List.filter_cons, List.filter_cons]
      refine ⟨n, h1, ?_, fun h => ?_⟩
      · split
        · rw [List.length_cons, List.length_cons, h2]; omega
        · exact h2
      · obtain ⟨z, hz, q⟩ := h3 h
        exact ⟨z, List.mem_cons_of_mem _ hz, q⟩
theorem insK_split (x : KI) (l : List KI) : ∃ a b, l = a ++ b ∧ insK x l = a ++ x :: b := by
  induction l with
  | nil => exact ⟨[], [], rfl, rfl⟩
  | cons y r ih =>
    rw [insK]
    split
    · obtain ⟨a, b, e, h⟩ := ih
      exact ⟨y :: a, b, by rw [e]; rfl, by rw [h]; rfl⟩
    · exact ⟨[], y :: r, rfl, rfl⟩
theorem insK_filter (x : KI) (l : List KI) (P : KI → Bool) : ((insK x l).filter P).length = (l.filter P).length + (if P x then 1 else 0) := by
  obtain ⟨a, b, e, h⟩ := insK_split x l
  rw [h, e, List.filter_append, List.filter_append, List.length_append, List.length_append, List.filter_cons]
  split <;> simp <;> omega
theorem topic_len_pos {s : ByteArray} (h : topicL s = true) : filterL s = true := topic_filter h
/-- Of topics a topic fits itself alone. -/
theorem fitK_topic {t : ByteArray} (ht : topicL t = true) {l : List KI} (hl : ∀ x ∈ l, topicL x.f0 = true) : fitK t l = l.filter (fun x => decide (dl t = dl x.f0)) := by
  unfold fitK
  refine List.filter_congr (fun x hx => ?_)
  rw [match_plain (topic_filter ht) (topic_parts ht).2.2.1 (hl x hx)]
def KW (l : List KI) : Prop := l.length ≤ 9 ∧ ∀ x ∈ l, x.f0.size ≤ 61 ∧ x.f1.length ≤ 41
theorem KW_big {l : List KI} (h : KW l) : l.length ≤ 1048576 ∧ ∀ x ∈ l, x.f0.size ≤ 1073741824 ∧ x.f1.length ≤ 1048576 := ⟨by have := h.1; omega, fun x hx => by have := h.2 x hx; omega⟩
theorem setR_small {l : List KI} {t : ByteArray} {b : List Int} {q : Int} (h : KW l) (h8 : l.length ≤ 8) (ht : t.size ≤ 61) (hb : b.length ≤ 41) : KW (setR l t b q).1 ∧ (setR l t b q).1.length ≤ 8 := by
  unfold setR
  split
  · split
    · rename_i hk
      refine ⟨⟨by have := (keptL_parts hk).2.2; show (setL l t b q).length ≤ 9; omega, fun x hx => ?_⟩, (keptL_parts hk).2.2⟩
      rcases setL_mem hx with rfl | hx
      · exact ⟨ht, hb⟩
      · exact h.2 x hx
    · exact ⟨h, h8⟩
  · exact ⟨h, h8⟩
theorem l9Draw_l (l : List Int) : ∀ (d : Nat) (acc : List KI) (a c : Int), d ≤ 1000 → KW acc → acc.length ≤ 8 → Pos l a → ∃ r a' c', Ev (fun k => spec_l9Draw.l0 k acc (d : Int) l a c) (r, a', c') ∧ KW r ∧ Pos l a'
  | 0, acc, a, c, _, h, _, hp => ⟨acc, a, c, Ev.step (fun k => by rw [spec_l9Draw.l0]) (ev_neg (by omega) (Ev.now _)), h, hp⟩
  | d + 1, acc, a, c, hd, h, h8, hp => by
    obtain ⟨t, a1, c1, e1, ht, hp1⟩ := l3Topic_eq l a c hp
    obtain ⟨n, a2, c2, e2, hn0, hn1, hp2⟩ := l1Below_eq l a1 c1 3 hp1
    have hn2 := hn1 (by omega)
    have ew : wrap64 (1 + n) = 1 + n := w64 (by omega) (by omega)
    obtain ⟨b, a3, c3, e3, hb, _, hp3⟩ := l1Bytes_ev l a2 c2 (1 + n) hp2 (by omega) (by omega)
    obtain ⟨q, a4, c4, e4, _, _, hp4⟩ := l1Below_eq l a3 c3 3 hp3
    have hbig := KW_big h
    have e5 := specSetKept_ev acc t b q hbig.1 hbig.2 (by omega) (by omega)
    obtain ⟨s1, s2⟩ := setR_small (t := t) (b := b) (q := q) h h8 ht (by omega)
    obtain ⟨r, a5, c5, e6, hr, hp5⟩ := l9Draw_l l d (setR acc t b q).1 a4 c4 (by omega) s1 s2 hp4
    refine ⟨r, a5, c5, ?_, hr, hp5⟩
    refine Ev.step (fun k => by rw [spec_l9Draw.l0]) (ev_pos (by omega) (ev_b e1 (ev_b e2 ?_)))
    have ed : wrap64 (((d + 1 : Nat) : Int) - 1) = (d : Int) := by rw [w64 (by omega) (by omega)]; omega
    rw [ed]
    show Ev (fun k => (spec_l1Bytes.f k l a2 c2 (wrap64 (1 + n))).bind _) _
    rw [ew]
    exact Ev.bind e3 (ev_b e4 (Ev.bind e5 e6))
theorem l9Draw_ev (l : List Int) (a c m : Int) (hm0 : 0 ≤ m) (hm : m ≤ 100) (hp : Pos l a) : ∃ r a' c', Ev (fun k => spec_l9Draw.f k l a c m) (r, a', c') ∧ KW r ∧ Pos l a' := by
  unfold spec_l9Draw.f
  have ew : wrap64 (m + 1) = m + 1 := w64 (by omega) (by omega)
  obtain ⟨n, a1, c1, e1, hn0, hn1, hp1⟩ := l1Below_eq l a c (m + 1) hp
  have hn2 := hn1 (by omega)
  obtain ⟨r, a2, c2, e2, hr, hp2⟩ := l9Draw_l l n.toNat [] a1 c1 (by omega) ⟨by simp, fun x hx => by cases hx⟩ (by simp) hp1
  have e : ((n.toNat : Nat) : Int) = n := by omega
  rw [e] at e2
  rw [ew]
  exact ⟨r, a2, c2, ev_b e1 e2, hr, hp2⟩
theorem KW_set {l : List KI} (h : KW l) (i : Nat) (x : KI) (hx : x.f0.size ≤ 61 ∧ x.f1.length ≤ 41) : KW (l.set i x) := by
  refine ⟨by rw [List.length_set]; exact h.1, fun y hy => ?_⟩
  rcases List.mem_or_eq_of_mem_set hy with hy | rfl
  · exact h.2 y hy
  · exact hx
def KX (l : List KI) : Prop := l.length ≤ 10 ∧ ∀ x ∈ l, x.f0.size ≤ 61 ∧ x.f1.length ≤ 41
theorem l9Any_ev (l : List Int) (a c : Int) (hp : Pos l a) : ∃ r a' c', Ev (fun k => spec_l9Any.f k l a c) (r, a', c') ∧ KX r ∧ Pos l a' := by
  unfold spec_l9Any.f
  obtain ⟨r, a1, c1, e1, hr, hp1⟩ := l9Draw_ev l a c 14 (by omega) (by omega) hp
  have hX : ∀ {r : List KI}, KW r → KX r := fun h => ⟨by have := h.1; omega, h.2⟩
  by_cases h0 : (r.length : Int) = 0
  · exact ⟨r, a1, c1, Ev.bind e1 (ev_pos h0 (Ev.now _)), hX hr, hp1⟩
  obtain ⟨i, a2, c2, e2, hi0, hi1, hp2⟩ := l1Below_eq l a1 c1 (r.length : Int) hp1
  have hi := hi1 (by omega)
  obtain ⟨v, a3, c3, e3, _, _, hp3⟩ := l1Below_eq l a2 c2 10 hp2
  have hx : (rd_T41 r i).f0.size ≤ 61 ∧ (rd_T41 r i).f1.length ≤ 41 := by
    have hin : i.toNat < r.length := by omega
    have hh := rdIK hin
    rw [show ((i.toNat : Nat) : Int) = i from by omega] at hh
    rw [hh]
    exact hr.2 _ (List.getElem_mem hin)
  by_cases h1 : v = 0
  · obtain ⟨s, a4, c4, e4, hs, hp4⟩ := l3Any_eq l a3 c3 hp3
    exact ⟨_, a4, c4, Ev.bind e1 (ev_neg h0 (ev_b e2 (ev_b e3 (ev_pos h1 (ev_b e4 (ev_pos hi0 (ev_pos hi (Ev.now _)))))))), hX (KW_set hr _ _ ⟨hs, hx.2⟩), hp4⟩
  by_cases h2 : v = 1
  · obtain ⟨n, a4, c4, e4, hn, hp4⟩ := l1Int_eq l a3 c3 [0, 40, 41] hp3 (by simp)
    have hn2 : 0 ≤ n ∧ n ≤ 41 := by simp at hn; omega
    obtain ⟨b, a5, c5, e5, hb, _, hp5⟩ := l1Bytes_ev l a4 c4 n hp4 (by omega) (by omega)
    exact ⟨_, a5, c5, Ev.bind e1 (ev_neg h0 (ev_b e2 (ev_b e3 (ev_neg h1 (ev_pos h2 (ev_b e4 (Ev.bind e5 (ev_pos hi0 (ev_pos hi (Ev.now _)))))))))), hX (KW_set hr _ _ ⟨hx.1, by show b.length ≤ 41; omega⟩), hp5⟩
  by_cases h3 : v = 2
  · obtain ⟨n, a4, c4, e4, hn, hp4⟩ := l1Int_eq l a3 c3 [3, (-1)] hp3 (by simp)
    exact ⟨_, a4, c4, Ev.bind e1 (ev_neg h0 (ev_b e2 (ev_b e3 (ev_neg h1 (ev_neg h2 (ev_pos h3 (ev_b e4 (ev_pos hi0 (ev_pos hi (Ev.now _)))))))))), hX (KW_set hr _ _ hx), hp4⟩
  by_cases h4 : v = 3
  · refine ⟨r ++ [⟨(rd_T41 r i).f0, (rd_T41 r i).f1, (rd_T41 r i).f2⟩], a3, c3, Ev.bind e1 (ev_neg h0 (ev_b e2 (ev_b e3 (ev_neg h1 (ev_neg h2 (ev_neg h3 (ev_pos h4 (ev_pos hi0 (ev_pos hi (ev_pos (by have := hr.1; show r.length < _; omega) (Ev.now _))))))))))), ⟨by rw [List.length_append]; have := hr.1; simp only [List.length_cons, List.length_nil]; omega, fun x hx2 => ?_⟩, hp3⟩
    rcases List.mem_append.1 hx2 with hx2 | hx2
    · exact hr.2 x hx2
    · rw [List.mem_singleton] at hx2
      rw [hx2]
      exact hx
  · exact ⟨r, a3, c3, Ev.bind e1 (ev_neg h0 (ev_b e2 (ev_b e3 (ev_neg h1 (ev_neg h2 (ev_neg h3 (ev_neg h4 (Ev.now _)))))))), hX hr, hp3⟩
theorem DrawSetKept_ev (l : List Int) (hl : l.length ≤ 1048576) : ∃ r t b q, Ev (fun k => spec_DrawSetKept.f k l) (r, t, b, q) ∧ KX r ∧ t.size ≤ 61 ∧ b.length ≤ 41 := by
  unfold spec_DrawSetKept.f
  obtain ⟨c0, h0⟩ := l1New_ev l hl
  obtain ⟨r, a1, c1, e1, hr, hp1⟩ := l9Any_ev l 0 c0 ⟨by omega, by omega, hl⟩
  obtain ⟨t, a2, c2, e2, ht, hp2⟩ := l3Topic_eq l a1 c1 hp1
  obtain ⟨o, a3, c3, e3, hp3⟩ := l1Once_eq l a2 c2 8 hp2
  by_cases h1 : o = true
  · obtain ⟨s, a4, c4, e4, hs, hp4⟩ := l3Any_eq l a3 c3 hp3
    obtain ⟨n, a5, c5, e5, hn, hp5⟩ := l1Int_eq l a4 c4 [0, 1, 2, 3, 40, 41, 0, 1] hp4 (by simp)
    have hn2 : 0 ≤ n ∧ n ≤ 41 := by simp at hn; omega
    obtain ⟨b, a6, c6, e6, hb, _, hp6⟩ := l1Bytes_ev l a5 c5 n hp5 (by omega) (by omega)
    obtain ⟨q, a7, c7, e7, _, hp7⟩ := l1Int_eq l a6 c6 [0, 1, 2, 0, 1, 2, 3, (-1)] hp6 (by simp)
    exact ⟨r, s, b, q, Ev.bind h0 (Ev.bind e1 (ev_b e2 (ev_b e3 (ev_pos h1 (ev_b e4 (ev_b e5 (Ev.bind e6 (ev_b e7 (Ev.now _))))))))), hr, hs, by omega⟩
  · obtain ⟨n, a5, c5, e5, hn, hp5⟩ := l1Int_eq l a3 c3 [0, 1, 2, 3, 40, 41, 0, 1] hp3 (by simp)
    have hn2 : 0 ≤ n ∧ n ≤ 41 := by simp at hn; omega
    obtain ⟨b, a6, c6, e6, hb, _, hp6⟩ := l1Bytes_ev l a5 c5 n hp5 (by omega) (by omega)
    obtain ⟨q, a7, c7, e7, _, hp7⟩ := l1Int_eq l a6 c6 [0, 1, 2, 0, 1, 2, 3, (-1)] hp6 (by simp)
    exact ⟨r, t, b, q, Ev.bind h0 (Ev.bind e1 (ev_b e2 (ev_b e3 (ev_neg h1 (ev_b e5 (Ev.bind e6 (ev_b e7 (Ev.now _)))))))), hr, ht, by omega⟩
theorem sameKept_ev (l : List KI) (hl : l.length ≤ 1048576) : Ev (fun k => laws_sameKept.f k l l) true := by
  unfold laws_sameKept.f
  refine ev_pos rfl ?_
  suffices h : ∀ (d i : Nat), i + d = l.length → Ev (fun k => laws_sameKept.l0 k l l (i : Int)) true from h l.length 0 (by omega)
  intro d
  induction d with
  | zero =>
    intro i hi
    exact Ev.step (fun k => by rw [laws_sameKept.l0]) (ev_neg (by omega) (Ev.now _))
  | succ d ih =>
    intro i hi
    have hil : i < l.length := by omega
    refine Ev.step (fun k => by rw [laws_sameKept.l0]) (ev_pos (by omega) (ev_pos (by omega) (ev_pos (by omega) (ev_pos rfl (ev_b (same_eq _ _ rfl) (ev_pos rfl (ev_pos rfl ?_)))))))
    rw [w64s (i := i) (n := l.length) hil (by omega)]
    exact ih (i + 1) (by omega)
end Go.Proofs.YtpigbffaacilfaaDoor.Pure
end
section
/- The law FnKept answers true of all bytes. -/
namespace Go.Proofs.YtpigbffaacilfaaDoor.Pure
open Go.RowKit Go.Proofs.YtpigbffaacilfaaDoor.X Go.Proofs.YtpigbffaacilfaaDoor.P Go.Proofs.YtpigbffaacilfaaDoorW.PrintWords Go.Proofs.YtpigbffaacilfaaDoorW.PrintLast Go.Proofs.YtpigbffaacilfaaDoor.K
set_option linter.unusedVariables false
theorem FnKept : laws_FnKept.Pure := by
  intro code _ _ _
  refine Ev.rounds ?_
  unfold laws_FnKept.f
  refine big_ev code _ (fun hl => ev_neg (by simp) ?_) (ev_pos rfl (Ev.now _))
  obtain ⟨l, t, b, q, hD, hX, ht, hb⟩ := DrawSetKept_ev code hl
  have hlb : l.length ≤ 1048576 := by have := hX.1; omega
  have hxb : ∀ x ∈ l, x.f0.size ≤ 1073741824 ∧ x.f1.length ≤ 1048576 := fun x hx => by have := hX.2 x hx; omega
  have h1 := implSetKept_ev l t b q hlb hxb (by omega) (by omega)
  have h2 := specSetKept_ev l t b q hlb hxb (by omega) (by omega)
  have h3 := implKeptOk_ev l (by omega) (fun x hx => (hxb x hx).1)
  have h4 := specKeptOk_ev l (by omega) (fun x hx => (hxb x hx).1)
  refine Ev.bind hD (Ev.bind h1 (Ev.bind h2 (ev_neg (by simp) (Ev.bind h3 (Ev.bind h4 ?_)))))
  refine Ev.step (fun k => by rw [laws_FnKept.j0]) (ev_neg (by simp) ?_)
  have hcase : ((setR l t b q).2 = false ∧ (setR l t b q).1 = l) ∨ ((setR l t b q).2 = true ∧ (setR l t b q).1 = setL l t b q ∧ setOk l t b q = true ∧ keptL (setL l t b q) = true) := by
    unfold setR
    by_cases h : setOk l t b q = true
    · rw [if_pos h]
      by_cases h' : keptL (setL l t b q) = true
      · rw [if_pos h']; exact .inr ⟨rfl, rfl, h, h'⟩
      · rw [if_neg h']; exact .inl ⟨rfl, rfl⟩
    · rw [if_neg h]; exact .inl ⟨rfl, rfl⟩
  rcases hcase with ⟨e1, e2⟩ | ⟨e1, e2, hok, hk⟩
  · refine ev_neg (by rw [e1]; decide) ?_
    rw [e2]
    exact Ev.bind (sameKept_ev l hlb) (Ev.now _)
  · refine ev_pos e1 ?_
    rw [e2]
    unfold setOk at hok
    simp only [Bool.and_eq_true] at hok
    obtain ⟨hkl, htop, hb40, _⟩ := hok
    obtain ⟨hr, hokl, _⟩ := keptL_parts hkl
    obtain ⟨_, hoko, ho8⟩ := keptL_parts hk
    have topl : ∀ x ∈ l, topicL x.f0 = true := fun x hx => by have := hokl x hx; unfold okK at this; simp only [Bool.and_eq_true] at this; exact this.1
    have topo : ∀ x ∈ setL l t b q, topicL x.f0 = true := fun x hx => by have := hoko x hx; unfold okK at this; simp only [Bool.and_eq_true] at this; exact this.1
    have hob : ∀ x ∈ setL l t b q, x.f0.size ≤ 1048576 ∧ x.f1.length ≤ 1048576 := by
      intro x hx
      rcases setL_mem hx with rfl | hx
      · exact ⟨by show t.size ≤ _; omega, by show b.length ≤ _; omega⟩
      · have := hX.2 x hx; omega
    have k1 := implKeptFor_ev t (setL l t b q) (by omega) (by omega) hob
    have k2 := implKeptFor_ev hashB l (by decide) (by omega) (fun x hx => by have := hX.2 x hx; omega)
    have k3 := implKeptFor_ev hashB (setL l t b q) (by decide) (by omega) hob
    have k4 := implKeptOk_ev (setL l t b q) (by omega) (fun x hx => by have := (hob x hx).1; omega)
    rw [hk] at k4
    have hft := fitK_topic htop topo
    obtain ⟨n, hn1, hn2, hn3⟩ := drop_count (fun x => matchL hashB x.f0) t l hr
    have c2 : (fitK hashB l).length = ((dropK t l).filter (fun x => matchL hashB x.f0)).length + n := hn2
    have dne : ∀ x ∈ dropK t l, decide (dl t = dl x.f0) = false := by
      intro x hx
      have := (List.mem_filter.1 hx).2
      refine decide_eq_false (fun e => ?_)
      have e' := dl_inj.2 e
      rw [← e'] at this
      simp at this
    have hle : (fitK hashB l).length ≤ 10 := by have := fitK_len hashB l; have := hX.1; omega
    have hlo : (fitK hashB (setL l t b q)).length ≤ 8 := by have := fitK_len hashB (setL l t b q); omega
    refine Ev.bind k1 (Ev.bind k2 (Ev.bind k3 ?_))
    refine ev_ite (fun hz => ?_) (fun hz => ?_)
    · have hz' : (b.length : Int) = 0 := hz
      have es : setL l t b q = dropK t l := by unfold setL; rw [if_pos (by omega)]
      have e0 : fitK t (setL l t b q) = [] := by
        rw [hft, es]
        exact List.filter_eq_nil_iff.2 (fun x hx => by rw [dne x hx]; decide)
      have c3 : (fitK hashB (setL l t b q)).length = ((dropK t l).filter (fun x => matchL hashB x.f0)).length := by rw [es]; rfl
      have ew : wrap64 (((fitK hashB (setL l t b q)).length : Int) - ((fitK hashB l).length : Int)) = ((fitK hashB (setL l t b q)).length : Int) - ((fitK hashB l).length : Int) := w64 (by omega) (by omega)
      refine Ev.bind k4 (ev_pos rfl (ev_pos (by rw [e0]; rfl) (ev_pos ?_ (ev_some ?_))))
      · show wrap64 (((fitK hashB (setL l t b q)).length : Int) - ((fitK hashB l).length : Int)) ≤ 0
        rw [ew]; omega
      · refine decide_eq_true ?_
        show wrap64 (((fitK hashB (setL l t b q)).length : Int) - ((fitK hashB l).length : Int)) ≥ -1
        rw [ew]; omega
    · have es : setL l t b q = insK ⟨t, b, q⟩ (dropK t l) := by unfold setL; rw [if_neg (fun e => hz (by rw [e]; rfl))]
      have e0 : fitK t (setL l t b q) = [⟨t, b, q⟩] := by
        rw [hft, es]
        obtain ⟨u, v, e, h⟩ := insK_split ⟨t, b, q⟩ (dropK t l)
        rw [h, List.filter_append, List.filter_cons]
        rw [List.filter_eq_nil_iff.2 (fun x hx => by rw [dne x (by rw [e]; exact List.mem_append_left _ hx)]; decide), List.filter_eq_nil_iff.2 (fun x hx => by rw [dne x (by rw [e]; exact List.mem_append_right _ hx)]; decide)]
        simp
      have c3 : (fitK hashB (setL l t b q)).length = ((dropK t l).filter (fun x => matchL hashB x.f0)).length + (if matchL hashB t then 1 else 0) := by rw [es]; exact insK_filter _ _ _
      have hn4 : 0 < n → matchL hashB t = true := fun h => by
        obtain ⟨y, _, hy, hp⟩ := hn3 h
        have : y.f0 = t := by
          refine dl_inj.2 ?_
          simpa only [Lib.toList_data] using hy
        rw [← this]; exact hp
      have hd : ((fitK hashB (setL l t b q)).length : Int) - ((fitK hashB l).length : Int) ≥ 0 ∧ ((fitK hashB (setL l t b q)).length : Int) - ((fitK hashB l).length : Int) ≤ 1 := by
        by_cases hm : matchL hashB t = true
        · rw [if_pos hm] at c3; omega
        · rw [if_neg hm] at c3
          have : ¬ 0 < n := fun h => hm (hn4 h)
          omega
      have ew : wrap64 (((fitK hashB (setL l t b q)).length : Int) - ((fitK hashB l).length : Int)) = ((fitK hashB (setL l t b q)).length : Int) - ((fitK hashB l).length : Int) := w64 (by omega) (by omega)
      rw [e0]
      refine Ev.bind k4 (ev_pos rfl (ev_pos rfl (ev_pos (by simp) (ev_pos rfl (ev_b (same_eq _ _ rfl) (ev_pos rfl (ev_pos rfl (ev_pos ?_ (ev_some ?_)))))))))
      · show wrap64 (((fitK hashB (setL l t b q)).length : Int) - ((fitK hashB l).length : Int)) ≥ 0
        rw [ew]; exact hd.1
      · refine decide_eq_true ?_
        show wrap64 (((fitK hashB (setL l t b q)).length : Int) - ((fitK hashB l).length : Int)) ≤ 1
        rw [ew]; exact hd.2
end Go.Proofs.YtpigbffaacilfaaDoor.Pure
end
