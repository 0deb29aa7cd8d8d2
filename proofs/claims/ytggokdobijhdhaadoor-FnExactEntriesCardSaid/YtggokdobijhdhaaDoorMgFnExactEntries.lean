/- Plain lemmas of several texts in one (a claim holds at most 60 files). -/
import Derived.Test.YtggokdobijhdhaaDoorRows
import Derived.Test.YtggokdobijhdhaaDoorSh
import Derived.Test.YtggokdobijhdhaaDoorX1
import Derived.Lib.LaidIn
import Derived.Lib.LaidU8T
import Derived.Deep.DeepHandedRow
import Derived.Deep.DeepWitnessRowRef
import Derived.ProofKit
import Derived.Test.YtggokdobijhdhaaDoorL15
import Derived.Test.YtggokdobijhdhaaDoorPx0
import Derived.Test.YtggokdobijhdhaaDoorK
import Derived.Test.YtggokdobijhdhaaDoorPx24
import Derived.Test.YtggokdobijhdhaaDoorPx32
import Derived.Test.YtggokdobijhdhaaDoorX6
import Derived.Lib.Split
import Derived.Lib.SplitLaws
import Derived.Lib.CountLaws
import Derived.Lib.IndexBytes
import Derived.WideShapes
import Derived.Test.YtggokdobijhdhaaDoorPx12
import Derived.Test.YtggokdobijhdhaaDoorPx2
import Derived.Test.YtggokdobijhdhaaDoorPx25
import Derived.Test.YtggokdobijhdhaaDoorM1
import Derived.Test.YtggokdobijhdhaaDoorM2
import Derived.Test.YtggokdobijhdhaaDoorM3
import Derived.Test.YtggokdobijhdhaaDoorPx14
import Derived.Test.YtggokdobijhdhaaDoorPx3
import Derived.Test.YtggokdobijhdhaaDoorPx4
import Derived.Lib.DecodeN
import Derived.Lib.TrimUEq
import Derived.Lib.ValidLaws
import Derived.Lib.RuneCount
import Derived.Lib.FieldsU
import Derived.Laws.BytesArg
import Derived.Test.YtggokdobijhdhaaDoorPx5
import Derived.Test.YtggokdobijhdhaaDoorX5
import Derived.Test.YtggokdobijhdhaaDoorX7
import Derived.Test.YtggokdobijhdhaaDoorPx17
import Derived.Lib.Join
import Derived.Lib.IndexAny
import Derived.Test.YtggokdobijhdhaaDoorPx10
import Derived.Test.YtggokdobijhdhaaDoorPx22
import Derived.Test.YtggokdobijhdhaaDoorX12
import Derived.Test.YtggokdobijhdhaaDoorPx18
import Derived.Test.YtggokdobijhdhaaDoorPx6
import Derived.Test.YtggokdobijhdhaaDoorPx7
import Derived.Test.YtggokdobijhdhaaDoorPx15
import Derived.Test.YtggokdobijhdhaaDoorPx16
import Derived.Test.YtggokdobijhdhaaDoorPx19
import Derived.Test.YtggokdobijhdhaaDoorX13
import Derived.Test.YtggokdobijhdhaaDoorPx8
import Derived.Test.YtggokdobijhdhaaDoorPx20
import Derived.Test.YtggokdobijhdhaaDoorPx21
import Derived.Test.YtggokdobijhdhaaDoorPx9
import Derived.Test.YtggokdobijhdhaaDoorL11
import Derived.Test.YtggokdobijhdhaaDoorPx31
import Derived.Test.YtggokdobijhdhaaDoorPx33
import Derived.Test.YtggokdobijhdhaaDoorPx34
import Derived.Test.YtggokdobijhdhaaDoorWd
import Derived.ChangeArms
import Derived.ChangeShapes
import Derived.SizedLaws
section
/- The laid world of this seat: the settled world with the listed tables laid; the tables' fact out of the row's own premise. Laid out by a program of this work (tied.py) after the kit's DeepOkProofs.lean. -/
namespace Go.Proofs.YtggokdobijhdhaaDoor.Laid
open Go.Shelf Go.RowKit Go.Lib
theorem own : ownKnob Tryd.prog.godebug = none := by kernel_rfl
def lst : List (String × DataW Unit) := [("unicode/utf8.acceptRanges", Rows.laid_unicode_utf8_acceptRanges), ("unicode/utf8.first", Rows.laid_unicode_utf8_first)]
noncomputable def world (os : Os) : World :=
  let w0 := World.holding Tryd.prog os ⟨#[], #[], []⟩
  let put (h : Array Obj) (g : Nat) (cs : Array Value) : Array Obj := h.modify g fun
    | .cells _ t frozen => .cells cs t frozen
    | o => o
  let h1 := put w0.heap 0 (Lib.firstTab.map fun z => Value.int .u8 z).toArray
  let h2 := put h1 1 ((List.range 16).flatMap fun i => [Value.int .u8 (Lib.accLo i), Value.int .u8 (Lib.accHi i)]).toArray
  { w0 with heap := h2 }
theorem laid_met (os : Os) (args : Array Value) : laidMet Tryd.prog lst ((world os).forCall (fun _ _ => 0) ⟨#[], args, []⟩).memory :=
  (LaidIn.of_run (l := lst) [0, 1] 8 (by kernel_rfl) (by kernel_rfl) (by kernel_rfl) (by kernel_rfl)).met
theorem eFirst : (Rows.laid_unicode_utf8_first : DataW Unit) = Lib.firstData := by kernel_rfl
theorem eAccept : (Rows.laid_unicode_utf8_acceptRanges : DataW Unit) = Lib.acceptData := by kernel_rfl
theorem mFirst : ("unicode/utf8.first", Lib.firstData) ∈ lst := by
  rw [← eFirst]
  unfold lst
  exact List.mem_cons_of_mem _ (List.mem_cons_self)
theorem mAccept : ("unicode/utf8.acceptRanges", Lib.acceptData) ∈ lst := by
  rw [← eAccept]
  unfold lst
  exact List.mem_cons_self
theorem tabs {W : World} (hL : laidMet Tryd.prog lst W) (hs : W.ShapedOpen Tryd.prog) : X.Tabs W :=
  ⟨utf8Tabs_of_readsT (U8Types.of196 Tryd.lays196) ⟨by kernel_rfl, by kernel_rfl, by kernel_rfl, by kernel_rfl, by kernel_rfl, by kernel_rfl, by kernel_rfl⟩ (Lib.laidMet.reads hL mFirst) (Lib.laidMet.reads hL mAccept), Tryd.laysM146.s1_3 W hs⟩
end Go.Proofs.YtggokdobijhdhaaDoor.Laid
end
section
/- The row's side of the law FnExactEntries: its plain statement, and its walk behind the plain law. Laid out by a program of this work (row.py). -/
namespace Go.Proofs.YtggokdobijhdhaaDoor.P
open Go.RowKit Go.Proofs.YtggokdobijhdhaaDoor.X Go.Proofs.YtggokdobijhdhaaDoorW.PrintWords Go.Proofs.YtggokdobijhdhaaDoorW.PrintLast
inductive Fit26 : S26 → Prop
  | mk (n : S26) (h0 : (n.f0.length ≤ 140737488351232 ∧ ∀ y0 ∈ n.f0, y0.size ≤ 140737488351232)) (h1 : n.f1.length ≤ 140737488351232) (g1 : ∀ y ∈ n.f1, Fit26 y) (h2 : (n.f2.length ≤ 140737488351232 ∧ ∀ y0 ∈ n.f2, (y0.f0.size ≤ 140737488351232 ∧ (Lit.int .i64 y0.f1).wf = true ∧ (Lit.int .i64 y0.f2).wf = true))) : Fit26 n
def laws_FnExactEntries.Pure : Prop := ∀ (l0_0 : List ByteArray) (l0_1 : List S26) (l0_2 : List S83), (l0_0.length ≤ 140737488351232 ∧ ∀ y0 ∈ l0_0, y0.size ≤ 140737488351232) → (l0_1.length ≤ 140737488351232 ∧ ∀ y0 ∈ l0_1, Fit26 y0) → (l0_2.length ≤ 140737488351232 ∧ ∀ y0 ∈ l0_2, (y0.f0.size ≤ 140737488351232 ∧ (Lit.int .i64 y0.f1).wf = true ∧ (Lit.int .i64 y0.f2).wf = true)) → ∃ k, laws_FnExactEntries.f k l0_0 l0_1 l0_2 = some true
theorem laws_FnExactEntries.walk (P : laws_FnExactEntries.Pure) (A0_0 : Option Addr) (c0_0 : Nat) (l0_0 : List ByteArray) (A0_1 : Option Addr) (c0_1 : Nat) (l0_1 : List S26) (A0_2 : Option Addr) (c0_2 : Nat) (l0_2 : List S83) (w : World) (hr0_0 : Kd.C Kd.string w A0_0 l0_0.length l0_0) (hc0_0 : l0_0.length ≤ c0_0) (hr0_1 : Kd.C k26 w A0_1 l0_1.length l0_1) (hc0_1 : l0_1.length ≤ c0_1) (hr0_2 : Kd.C k83 w A0_2 l0_2.length l0_2) (hc0_2 : l0_2.length ≤ c0_2) (g0_0 : (l0_0.length ≤ 140737488351232 ∧ ∀ y0 ∈ l0_0, y0.size ≤ 140737488351232)) (g0_1 : (l0_1.length ≤ 140737488351232 ∧ ∀ y0 ∈ l0_1, Fit26 y0)) (g0_2 : (l0_2.length ≤ 140737488351232 ∧ ∀ y0 ∈ l0_2, (y0.f0.size ≤ 140737488351232 ∧ (Lit.int .i64 y0.f1).wf = true ∧ (Lit.int .i64 y0.f2).wf = true))) (hT : Tabs w) :
    Calls Tryd.prog 3 #[.agg #[.slice A0_0 l0_0.length c0_0, .slice A0_1 l0_1.length c0_1, .slice A0_2 l0_2.length c0_2]] w fun e w' => e = .returned (.bool true) ∧ Below w.heap.size w w' := by
  obtain ⟨k, h⟩ := P l0_0 l0_1 l0_2 g0_0 g0_1 g0_2
  refine (laws_FnExactEntries.calls k _ _ l0_0 _ _ l0_1 _ _ l0_2 true w hr0_0 hc0_0 hr0_1 hc0_1 hr0_2 hc0_2 hT h).mono ?_
  rintro e w' ⟨rfl, hd⟩
  exact ⟨rfl, hd⟩
end Go.Proofs.YtggokdobijhdhaaDoor.P
end
section
/- The levels of a text: spec.Levels and strings.Split come to the same pieces; the marks of a list of texts are laid and found again. No program in sight. -/
namespace Go.Proofs.YtggokdobijhdhaaDoor.Pure
open Go.RowKit Go.Proofs.YtggokdobijhdhaaDoor.X Go.Proofs.YtggokdobijhdhaaDoor.P Go.Proofs.YtggokdobijhdhaaDoorW.PrintWords Go.Proofs.YtggokdobijhdhaaDoorW.PrintLast Go.Proofs.YtggokdobijhdhaaDoor.K
set_option linter.unusedVariables false
set_option linter.unusedSimpArgs false
theorem eqStringS_ev (a b : List ByteArray) (ha : a.length ≤ 35184372088832) (e : a = b) : Ev (fun k => laws_eqStringS.f k a b) true := by
  subst e
  unfold laws_eqStringS.f
  refine ev_pos rfl ?_
  suffices h : ∀ (d i : Nat), i + d = a.length → Ev (fun k => laws_eqStringS.l0 k a a (i : Int)) true from h a.length 0 (by omega)
  intro d
  induction d with
  | zero =>
    intro i hi
    refine Ev.step (fun k => by rw [laws_eqStringS.l0]) ?_
    exact ev_neg (by omega) (Ev.now _)
  | succ d ih =>
    intro i hi
    refine Ev.step (fun k => by rw [laws_eqStringS.l0]) ?_
    rw [w64s (i := i) (n := a.length) (by omega) (by omega)]
    exact ev_pos (by omega) (ev_pos (by omega) (ev_pos (by omega) (ev_pos rfl (ih (i + 1) (by omega)))))
/-- The text that marks a number. -/
theorem markText_l : ∀ (b : Nat) (x : Int) (t : ByteArray), 0 ≤ x → x ≤ 9223372036854775807 → x.toNat ≤ b → t.size + b ≤ 9223372036854775800 → ∃ r, Ev (fun k => laws_markText.l0 k x t) r := by
  intro b
  induction b with
  | zero =>
    intro x t h0 h1 hb ht
    refine ⟨_, Ev.step (fun k => by rw [laws_markText.l0]) (ev_neg (by omega) (ev_pos (by omega) (Ev.now _)))⟩
  | succ b ih =>
    intro x t h0 h1 hb ht
    by_cases q : x > 0
    · have e : Int.tdiv x 10 = x / 10 := Int.tdiv_eq_ediv_of_nonneg h0
      obtain ⟨r, hr⟩ := ih (x / 10) (strOfNums [(wrap64 (48 + (Int.tmod x 10))) % 256] ++ t) (by omega) (by omega) (by omega) (by rw [ByteArray.size_append, strOfNums_size]; simp only [List.length_cons, List.length_nil]; omega)
      refine ⟨r, Ev.step (fun k => by rw [laws_markText.l0]) ?_⟩
      rw [e, w64 (x := x / 10) (by omega) (by omega)]
      exact ev_pos q (ev_b (a := [(wrap64 (48 + (Int.tmod x 10))) % 256]) rfl (ev_pos (by rw [strOfNums_size]; simp only [List.length_cons, List.length_nil]; omega) hr))
    · exact ⟨_, Ev.step (fun k => by rw [laws_markText.l0]) (ev_neg q (ev_pos (by omega) (Ev.now _)))⟩
theorem markText_ex (x : Int) (h0 : 0 ≤ x) (h1 : x ≤ 9223372036854775000) : ∃ r, Ev (fun k => laws_markText.f k x) r := by
  unfold laws_markText.f
  by_cases q : x ≤ 0
  · exact ⟨_, ev_pos q (Ev.now _)⟩
  · obtain ⟨r, hr⟩ := markText_l x.toNat x (⟨#[]⟩ : ByteArray) h0 (by omega) (Nat.le_refl _) (by show 0 + x.toNat ≤ _; omega)
    exact ⟨r, ev_neg q hr⟩
open Classical in
noncomputable def markT (x : Int) : ByteArray := if h : 0 ≤ x ∧ x ≤ 9223372036854775000 then (markText_ex x h.1 h.2).choose else ByteArray.empty
theorem markText_ev (x : Int) (h0 : 0 ≤ x) (h1 : x ≤ 9223372036854775000) : Ev (fun k => laws_markText.f k x) (markT x) := by
  unfold markT
  rw [dif_pos ⟨h0, h1⟩]
  exact (markText_ex x h0 h1).choose_spec
theorem markStringS_ev (l : List ByteArray) (c : Int) (h0 : 0 ≤ c) (h1 : c ≤ 4611686018427387904) (hl : l.length ≤ 35184372088832) : Ev (fun k => laws_markStringS.f k l c) (c + (l.length : Int), marks markT c l.length) := by
  unfold laws_markStringS.f
  refine ev_to (mark_loop markT l.length (fun k y c i => laws_markStringS.l0 k y c i) ?_ ?_ l.length 0 l c (by omega) rfl h0 (by omega)) (by simp)
  · intro i y c r hi hy h0 h1 hk
    refine Ev.step (fun k => by rw [laws_markStringS.l0]) ?_
    refine ev_pos (by omega) (Ev.bind (markText_ev c h0 (by omega)) (ev_pos (by omega) ?_))
    rw [w64 (x := c + 1) (by omega) (by omega), w64s (i := i) (n := l.length) (by omega) (by omega)]
    exact hk
  · intro y c hy
    refine Ev.step (fun k => by rw [laws_markStringS.l0]) ?_
    exact ev_neg (by omega) (Ev.now _)
end Go.Proofs.YtggokdobijhdhaaDoor.Pure
end
section
/- Trees (Node), in plain Lean: how large, copied, compared; NodeOk on both sides. No program in sight. -/
namespace Go.Proofs.YtggokdobijhdhaaDoor.Pure
open Go.RowKit Go.Proofs.YtggokdobijhdhaaDoor.X Go.Proofs.YtggokdobijhdhaaDoor.P Go.Proofs.YtggokdobijhdhaaDoorW.PrintWords Go.Proofs.YtggokdobijhdhaaDoorW.PrintLast Go.Proofs.YtggokdobijhdhaaDoor.K
set_option linter.unusedVariables false
set_option linter.unusedSimpArgs false
abbrev NL := S26
abbrev NI := S33
abbrev SL := S83
abbrev SI := S86
def ts (y : SL) : SI := ⟨y.f0, y.f1, y.f2⟩
theorem rdLS {l : List SL} {i : Nat} (h : i < l.length) : rd_T83 l (i : Int) = l[i] := getD_get h
theorem rdIS {l : List SI} {i : Nat} (h : i < l.length) : rd_T86 l (i : Int) = l[i] := getD_get h
theorem rdLN {l : List NL} {i : Nat} (h : i < l.length) : rd_T26 l (i : Int) = l[i] := getD_get h
theorem rdIN {l : List NI} {i : Nat} (h : i < l.length) : rd_T33 l (i : Int) = l[i] := getD_get h
mutual
def tn : NL → NI
  | ⟨a, b, c⟩ => ⟨a, tnL b, c.map ts⟩
def tnL : List NL → List NI
  | [] => []
  | x :: r => tn x :: tnL r
end
theorem tnL_map : ∀ l : List NL, tnL l = l.map tn
  | [] => rfl
  | x :: r => by rw [tnL, tnL_map r, List.map_cons]
theorem etaN (n : NI) : (⟨n.f0, n.f1, n.f2⟩ : NI) = n := by cases n; rfl
theorem tn0 (n : NL) : (tn n).f0 = n.f0 := by cases n; rw [tn]
theorem tn1 (n : NL) : (tn n).f1 = n.f1.map tn := by cases n; rw [tn, tnL_map]
theorem tn2 (n : NL) : (tn n).f2 = n.f2.map ts := by cases n; rw [tn]
/-- A tree of a size that the law takes. -/
inductive Bd : NI → Prop
  | mk (n : NI) (h0 : n.f0.length ≤ 1048576) (z0 : ∀ x ∈ n.f0, x.size ≤ 1048576) (h1 : n.f1.length ≤ 1048576) (h2 : n.f2.length ≤ 1048576) (z2 : ∀ x ∈ n.f2, x.f0.size ≤ 1048576) (hk : ∀ k ∈ n.f1, Bd k) : Bd n
mutual
def cnt : NI → Nat
  | ⟨a, b, c⟩ => a.length + c.length + cntL b
def cntL : List NI → Nat
  | [] => 0
  | k :: r => cnt k + cntL r
end
theorem cnt_eq (n : NI) : cnt n = n.f0.length + n.f2.length + cntL n.f1 := by cases n; rw [cnt]
theorem szSub_eq (x : SL) (a : Int) (h0 : 0 ≤ a) (h1 : a ≤ 4611686018427387904) (hx : x.f0.size ≤ 140737488351232) :
    ∃ r, laws_szSub.f x.f0 x.f1 x.f2 a = some r ∧ (¬ r < 0 → (x.f0.size : Int) ≤ a) ∧ r ≤ a := by
  unfold laws_szSub.f
  rw [w64 (x := a - (x.f0.size : Int)) (by omega) (by omega)]
  by_cases q : a - (x.f0.size : Int) < 0
  · exact ⟨-1, by rw [if_pos q], fun h => absurd (by omega) h, by omega⟩
  · exact ⟨a - (x.f0.size : Int), by rw [if_neg q], fun _ => by omega, by omega⟩
theorem szSubS_l (l : List SL) (hl : l.length ≤ 140737488351232) (hs : ∀ x ∈ l, x.f0.size ≤ 140737488351232) : ∀ (d i : Nat) (a : Int), i + d = l.length → 0 ≤ a → a ≤ 4611686018427387904 →
    ∃ r, Ev (fun k => laws_szSubS.l0 k l a (i : Int)) r ∧ (¬ r < 0 → ∀ x ∈ l.drop i, (x.f0.size : Int) ≤ a) ∧ r ≤ a
  | 0, i, a, hd, h0, h1 => by
    refine ⟨a, Ev.step (fun k => by rw [laws_szSubS.l0]) (ev_neg (by omega) (Ev.now _)), fun _ x hx => ?_, by omega⟩
    rw [List.drop_of_length_le (by omega)] at hx
    cases hx
  | d + 1, i, a, hd, h0, h1 => by
    have hi : i < l.length := by omega
    obtain ⟨b, hb, hq, hle⟩ := szSub_eq l[i] a h0 h1 (hs _ (List.getElem_mem hi))
    by_cases q : b < 0
    · refine ⟨-1, Ev.step (fun k => by rw [laws_szSubS.l0]) (ev_pos (by omega) (ev_pos (by omega) ?_)), fun h => absurd (by omega) h, by omega⟩
      rw [rdLS hi]
      exact ev_b hb (ev_pos q (Ev.now _))
    · obtain ⟨r, hr, hx, hle2⟩ := szSubS_l l hl hs d (i + 1) b (by omega) (by omega) (by omega)
      refine ⟨r, Ev.step (fun k => by rw [laws_szSubS.l0]) (ev_pos (by omega) (ev_pos (by omega) ?_)), fun h x hm => ?_, by omega⟩
      · rw [rdLS hi, w64s (i := i) (n := l.length) hi (by omega)]
        exact ev_b hb (ev_neg q hr)
      · rw [List.drop_eq_getElem_cons hi] at hm
        rcases List.mem_cons.1 hm with rfl | hm
        · exact hq q
        · have := hx h x hm
          omega
theorem szSubS_ev (l : List SL) (a : Int) (h0 : 0 ≤ a) (h1 : a ≤ 4611686018427387904) (hl : l.length ≤ 140737488351232) (hs : ∀ x ∈ l, x.f0.size ≤ 140737488351232) :
    ∃ r, Ev (fun k => laws_szSubS.f k l a) r ∧ (¬ r < 0 → (l.length : Int) + r ≤ a ∧ ∀ x ∈ l, (x.f0.size : Int) ≤ a) ∧ r ≤ a := by
  unfold laws_szSubS.f
  rw [w64 (x := a - (l.length : Int)) (by omega) (by omega)]
  by_cases q : a - (l.length : Int) < 0
  · exact ⟨-1, ev_pos q (Ev.now _), fun h => absurd (by omega) h, by omega⟩
  · obtain ⟨r, hr, hx, hle⟩ := szSubS_l l hl hs l.length 0 (a - (l.length : Int)) (by omega) (by omega) (by omega)
    refine ⟨r, ev_neg q hr, fun h => ⟨by omega, fun x hm => ?_⟩, by omega⟩
    have := hx h x (by simpa using hm)
    omega
theorem toSubS_ev (l : List SL) (hl : l.length ≤ 1048576) : Ev (fun k => laws_toSubS.f k l) (l.map ts) := by
  unfold laws_toSubS.f
  refine ev_pos (by omega) (ev_pos (by omega) ?_)
  refine copy_loop (l.map ts) (fun k y i => laws_toSubS.l0 k l y i) ?_ ?_ l.length 0 (List.replicate ((l.length : Int) : Int).toNat z86) (by simp) (by simp) (by simp)
  · intro i y r hi hy h
    rw [List.length_map] at hi hy
    refine Ev.step (fun k => by rw [laws_toSubS.l0]) (ev_pos (by omega) (ev_pos (by omega) ?_))
    rw [rdLS hi, w64s (i := i) (n := l.length) hi (by omega)]
    refine ev_b (by unfold laws_toSub.f; rfl) (ev_pos (by omega) ?_)
    rw [List.getElem_map] at h
    exact h
  · intro y hy
    rw [List.length_map] at hy ⊢
    exact Ev.step (fun k => by rw [laws_toSubS.l0]) (ev_neg (by omega) (Ev.now _))
theorem eqSubS_ev (l : List SI) (hl : l.length ≤ 1048576) : Ev (fun k => laws_eqSubS.f k l l) true := by
  unfold laws_eqSubS.f
  refine ev_pos rfl ?_
  suffices h : ∀ (d i : Nat), i + d = l.length → Ev (fun k => laws_eqSubS.l0 k l l (i : Int)) true from h l.length 0 (by omega)
  intro d
  induction d with
  | zero =>
    intro i hi
    exact Ev.step (fun k => by rw [laws_eqSubS.l0]) (ev_neg (by omega) (Ev.now _))
  | succ d ih =>
    intro i hi
    have hil : i < l.length := by omega
    refine Ev.step (fun k => by rw [laws_eqSubS.l0]) (ev_pos (by omega) (ev_pos (by omega) (ev_pos (by omega) ?_)))
    rw [rdIS hil, w64s (i := i) (n := l.length) hil (by omega)]
    exact ev_b (by unfold laws_eqSub.f; rw [if_pos rfl, if_pos rfl, if_pos rfl]) (ev_pos rfl (ih (i + 1) (by omega)))
end Go.Proofs.YtggokdobijhdhaaDoor.Pure
end
section
/- Lists of texts as a row holds them: how large they are, copied. No program in sight. -/
namespace Go.Proofs.YtggokdobijhdhaaDoor.Pure
open Go.RowKit Go.Proofs.YtggokdobijhdhaaDoor.X Go.Proofs.YtggokdobijhdhaaDoor.P Go.Proofs.YtggokdobijhdhaaDoorW.PrintWords Go.Proofs.YtggokdobijhdhaaDoorW.PrintLast Go.Proofs.YtggokdobijhdhaaDoor.K
set_option linter.unusedVariables false
set_option linter.unusedSimpArgs false
theorem strAt {l : List ByteArray} {i : Nat} (h : i < l.length) : rdOf ByteArray.empty l (i : Int) = l[i] := getD_get h
theorem toStringS_ev (l : List ByteArray) (hl : l.length ≤ 17592186044416) : Ev (fun k => laws_toStringS.f k l) l := by
  unfold laws_toStringS.f
  refine ev_pos (by omega) (ev_pos (by omega) ?_)
  refine copy_loop l (fun k y i => laws_toStringS.l0 k l y i) ?_ ?_ l.length 0 (List.replicate ((l.length : Int) : Int).toNat (⟨#[]⟩ : ByteArray)) (by omega) (by simp) (by simp)
  · intro i y r hi hy h
    refine Ev.step (fun k => ?_) h
    simp only [laws_toStringS.l0]
    rw [if_pos (by omega), if_pos (by omega), if_pos (by omega), strAt hi, w64s hi (by omega)]
    rfl
  · intro y hy
    refine Ev.step (fun k => ?_) (Ev.now y)
    simp only [laws_toStringS.l0]
    rw [if_neg (by omega)]
theorem szStringS_l (l : List ByteArray) (hl : l.length ≤ 140737488351232) (hs : ∀ x ∈ l, x.size ≤ 140737488351232) : ∀ (d i : Nat) (a : Int), i + d = l.length → 0 ≤ a → a ≤ 4611686018427387904 →
    ∃ r, Ev (fun k => laws_szStringS.l0 k l a (i : Int)) r ∧ (¬ r < 0 → ∀ x ∈ l.drop i, (x.size : Int) ≤ a) ∧ r ≤ a
  | 0, i, a, hd, h0, h1 => by
    refine ⟨a, Ev.step (fun k => by rw [laws_szStringS.l0]) (ev_neg (by omega) (Ev.now _)), fun _ x hx => ?_, by omega⟩
    rw [List.drop_of_length_le (by omega)] at hx
    cases hx
  | d + 1, i, a, hd, h0, h1 => by
    have hi : i < l.length := by omega
    have hz := hs _ (List.getElem_mem hi)
    by_cases q : a - (l[i].size : Int) < 0
    · refine ⟨-1, Ev.step (fun k => by rw [laws_szStringS.l0]) (ev_pos (by omega) (ev_pos (by omega) ?_)), fun h => absurd (by omega) h, by omega⟩
      rw [strAt hi, w64 (by omega) (by omega)]
      exact ev_pos q (Ev.now _)
    · obtain ⟨r, hr, hx, hle⟩ := szStringS_l l hl hs d (i + 1) (a - (l[i].size : Int)) (by omega) (by omega) (by omega)
      refine ⟨r, Ev.step (fun k => by rw [laws_szStringS.l0]) (ev_pos (by omega) (ev_pos (by omega) ?_)), fun h x hm => ?_, by omega⟩
      · rw [strAt hi, w64 (x := a - (l[i].size : Int)) (by omega) (by omega), w64s (i := i) (n := l.length) hi (by omega)]
        exact ev_neg q hr
      · rw [List.drop_eq_getElem_cons hi] at hm
        rcases List.mem_cons.1 hm with rfl | hm
        · omega
        · have := hx h x hm
          omega
theorem szStringS_ev (l : List ByteArray) (a : Int) (h0 : 0 ≤ a) (h1 : a ≤ 4611686018427387904) (hl : l.length ≤ 140737488351232) (hs : ∀ x ∈ l, x.size ≤ 140737488351232) :
    ∃ r, Ev (fun k => laws_szStringS.f k l a) r ∧ (¬ r < 0 → (l.length : Int) + r ≤ a ∧ ∀ x ∈ l, (x.size : Int) ≤ a) ∧ r ≤ a := by
  unfold laws_szStringS.f
  rw [w64 (x := a - (l.length : Int)) (by omega) (by omega)]
  by_cases q : a - (l.length : Int) < 0
  · exact ⟨-1, ev_pos q (Ev.now _), fun h => absurd (by omega) h, by omega⟩
  · obtain ⟨r, hr, hx, hle⟩ := szStringS_l l hl hs l.length 0 (a - (l.length : Int)) (by omega) (by omega) (by omega)
    refine ⟨r, ev_neg q hr, fun h => ⟨by omega, fun x hm => ?_⟩, by omega⟩
    have := hx h x (by simpa using hm)
    omega
end Go.Proofs.YtggokdobijhdhaaDoor.Pure
end
section
/- Trees (Node), in plain Lean: how large, copied, compared; NodeOk on both sides. No program in sight. -/
namespace Go.Proofs.YtggokdobijhdhaaDoor.Pure
open Go.RowKit Go.Proofs.YtggokdobijhdhaaDoor.X Go.Proofs.YtggokdobijhdhaaDoor.P Go.Proofs.YtggokdobijhdhaaDoorW.PrintWords Go.Proofs.YtggokdobijhdhaaDoorW.PrintLast Go.Proofs.YtggokdobijhdhaaDoor.K
set_option linter.unusedVariables false
set_option linter.unusedSimpArgs false
theorem szNodeS_l (l : List NL) (hl : l.length ≤ 140737488351232) (ih : ∀ x ∈ l, ∀ a : Int, 0 ≤ a → a ≤ 1048576 → ∃ r, Ev (fun k => laws_szNode.f k x.f0 x.f1 x.f2 a) r ∧ (¬ r < 0 → Bd (tn x) ∧ (cnt (tn x) : Int) + r ≤ a) ∧ r ≤ a) :
    ∀ (d i : Nat) (a : Int), i + d = l.length → 0 ≤ a → a ≤ 1048576 →
    ∃ r, Ev (fun k => laws_szNodeS.l0 k l a (i : Int)) r ∧ (¬ r < 0 → (∀ x ∈ l.drop i, Bd (tn x)) ∧ (cntL ((l.drop i).map tn) : Int) + r ≤ a) ∧ r ≤ a
  | 0, i, a, hd, h0, h1 => by
    refine ⟨a, Ev.step (fun k => by rw [laws_szNodeS.l0]) (ev_neg (by omega) (Ev.now _)), fun _ => ⟨fun x hx => ?_, ?_⟩, by omega⟩
    · rw [List.drop_of_length_le (by omega)] at hx
      cases hx
    · rw [List.drop_of_length_le (by omega), List.map_nil, cntL]; omega
  | d + 1, i, a, hd, h0, h1 => by
    have hi : i < l.length := by omega
    obtain ⟨b, hb, hq, hle⟩ := ih l[i] (List.getElem_mem hi) a h0 h1
    by_cases q : b < 0
    · refine ⟨-1, Ev.step (fun k => by rw [laws_szNodeS.l0]) (ev_pos (by omega) (ev_pos (by omega) ?_)), fun h => absurd (by omega) h, by omega⟩
      rw [rdLN hi]
      exact Ev.bind hb (ev_pos q (Ev.now _))
    · obtain ⟨r, hr, hx, hle2⟩ := szNodeS_l l hl ih d (i + 1) b (by omega) (by omega) (by omega)
      refine ⟨r, Ev.step (fun k => by rw [laws_szNodeS.l0]) (ev_pos (by omega) (ev_pos (by omega) ?_)), fun h => ⟨fun x hm => ?_, ?_⟩, by omega⟩
      · rw [rdLN hi, w64s (i := i) (n := l.length) hi (by omega)]
        exact Ev.bind hb (ev_neg q hr)
      · rw [List.drop_eq_getElem_cons hi] at hm
        rcases List.mem_cons.1 hm with rfl | hm
        · exact (hq q).1
        · exact (hx h).1 x hm
      · rw [List.drop_eq_getElem_cons hi, List.map_cons, cntL]
        have := (hq q).2
        have := (hx h).2
        omega
theorem szNodeS_ev (l : List NL) (hl : l.length ≤ 140737488351232) (ih : ∀ x ∈ l, ∀ a : Int, 0 ≤ a → a ≤ 1048576 → ∃ r, Ev (fun k => laws_szNode.f k x.f0 x.f1 x.f2 a) r ∧ (¬ r < 0 → Bd (tn x) ∧ (cnt (tn x) : Int) + r ≤ a) ∧ r ≤ a) (a : Int) (h0 : 0 ≤ a) (h1 : a ≤ 1048576) :
    ∃ r, Ev (fun k => laws_szNodeS.f k l a) r ∧ (¬ r < 0 → (l.length : Int) ≤ a ∧ (∀ x ∈ l, Bd (tn x)) ∧ (cntL (l.map tn) : Int) + r ≤ a) ∧ r ≤ a := by
  by_cases q : a - (l.length : Int) < 0
  · refine ⟨-1, Ev.step (fun k => by rw [laws_szNodeS.f]) (ev_pos ?_ (Ev.now _)), fun h => absurd (by omega) h, by omega⟩
    rw [w64 (x := a - (l.length : Int)) (by omega) (by omega)]
    exact q
  · obtain ⟨r, hr, hx, hle⟩ := szNodeS_l l hl ih l.length 0 (a - (l.length : Int)) (by omega) (by omega) (by omega)
    refine ⟨r, Ev.step (fun k => by rw [laws_szNodeS.f]) (ev_neg ?_ ?_), fun h => ⟨by omega, fun x hm => (hx h).1 x (by simpa using hm), by have := (hx h).2; rw [List.drop_zero] at this; omega⟩, by omega⟩
    · rw [w64 (x := a - (l.length : Int)) (by omega) (by omega)]
      exact q
    · rw [w64 (x := a - (l.length : Int)) (by omega) (by omega)]
      exact hr
theorem szNode3 (ns : List ByteArray) (ks : List NL) (ss : List SL) (h0 : ns.length ≤ 140737488351232 ∧ ∀ y ∈ ns, y.size ≤ 140737488351232) (h1 : ks.length ≤ 140737488351232) (h2 : ss.length ≤ 140737488351232 ∧ ∀ y ∈ ss, y.f0.size ≤ 140737488351232)
    (ih : ∀ x ∈ ks, ∀ a : Int, 0 ≤ a → a ≤ 1048576 → ∃ r, Ev (fun k => laws_szNode.f k x.f0 x.f1 x.f2 a) r ∧ (¬ r < 0 → Bd (tn x) ∧ (cnt (tn x) : Int) + r ≤ a) ∧ r ≤ a) (a : Int) (ha : 0 ≤ a) (hb : a ≤ 1048576) :
    ∃ r, Ev (fun k => laws_szNode.f k ns ks ss a) r ∧ (¬ r < 0 → Bd (tn ⟨ns, ks, ss⟩) ∧ (cnt (tn ⟨ns, ks, ss⟩) : Int) + r ≤ a) ∧ r ≤ a := by
  obtain ⟨r, hr, hq, hle⟩ := szStringS_ev ns a ha (by omega) h0.1 h0.2
  by_cases q : r < 0
  · exact ⟨-1, Ev.step (fun k => by rw [laws_szNode.f]) (Ev.bind hr (ev_pos q (Ev.now _))), fun h => absurd (by omega) h, by omega⟩
  obtain ⟨r2, hr2, hq2, hle2⟩ := szNodeS_ev ks h1 ih r (by omega) (by omega)
  by_cases q2 : r2 < 0
  · exact ⟨-1, Ev.step (fun k => by rw [laws_szNode.f]) (Ev.bind hr (ev_neg q (Ev.bind hr2 (ev_pos q2 (Ev.now _))))), fun h => absurd (by omega) h, by omega⟩
  obtain ⟨r3, hr3, hq3, hle3⟩ := szSubS_ev ss r2 (by omega) (by omega) h2.1 h2.2
  by_cases q3 : r3 < 0
  · exact ⟨-1, Ev.step (fun k => by rw [laws_szNode.f]) (Ev.bind hr (ev_neg q (Ev.bind hr2 (ev_neg q2 (Ev.bind hr3 (ev_pos q3 (Ev.now _))))))), fun h => absurd (by omega) h, by omega⟩
  · refine ⟨r3, Ev.step (fun k => by rw [laws_szNode.f]) (Ev.bind hr (ev_neg q (Ev.bind hr2 (ev_neg q2 (Ev.bind hr3 (ev_neg q3 (Ev.now _))))))), fun _ => ?_, by omega⟩
    obtain ⟨e1, e2⟩ := hq q
    obtain ⟨e3, e4, e7⟩ := hq2 q2
    obtain ⟨e5, e6⟩ := hq3 q3
    refine ⟨Bd.mk _ ?_ ?_ ?_ ?_ ?_ ?_, by rw [cnt_eq, tn0, tn1, tn2, List.length_map]; show ((ns.length + ss.length + cntL (ks.map tn) : Nat) : Int) + r3 ≤ a; omega⟩
    · rw [tn0]; show ns.length ≤ _; omega
    · rw [tn0]; intro x hx; have := e2 x hx; omega
    · rw [tn1, List.length_map]; show ks.length ≤ _; omega
    · rw [tn2, List.length_map]; show ss.length ≤ _; omega
    · rw [tn2]; intro x hx
      obtain ⟨y, hy, rfl⟩ := List.mem_map.1 hx
      have := e6 y hy
      show y.f0.size ≤ _
      omega
    · rw [tn1]; intro x hx
      obtain ⟨y, hy, rfl⟩ := List.mem_map.1 hx
      exact e4 y hy
theorem toNodeS_ev (l : List NL) (hl : l.length ≤ 1048576) (ih : ∀ x ∈ l, Ev (fun k => laws_toNode.f k x.f0 x.f1 x.f2) ((tn x).f0, (tn x).f1, (tn x).f2)) : Ev (fun k => laws_toNodeS.f k l) (l.map tn) := by
  refine Ev.step (fun k => by rw [laws_toNodeS.f]) (ev_pos (by omega) (ev_pos (by omega) ?_))
  refine copy_loop (l.map tn) (fun k y i => laws_toNodeS.l0 k l y i) ?_ ?_ l.length 0 (List.replicate ((l.length : Int) : Int).toNat z33) (by simp) (by simp) (by simp)
  · intro i y r hi hy h
    rw [List.length_map] at hi hy
    refine Ev.step (fun k => by rw [laws_toNodeS.l0]) (ev_pos (by omega) (ev_pos (by omega) ?_))
    rw [rdLN hi, w64s (i := i) (n := l.length) hi (by omega)]
    refine Ev.bind (ih l[i] (List.getElem_mem hi)) (ev_pos (by omega) ?_)
    rw [List.getElem_map] at h
    rw [← etaN (tn l[i])] at h
    exact h
  · intro y hy
    rw [List.length_map] at hy ⊢
    exact Ev.step (fun k => by rw [laws_toNodeS.l0]) (ev_neg (by omega) (Ev.now _))
theorem toNode_ev {m : NI} (hm : Bd m) : ∀ n : NL, tn n = m → Ev (fun k => laws_toNode.f k n.f0 n.f1 n.f2) ((tn n).f0, (tn n).f1, (tn n).f2) := by
  induction hm with
  | mk m h0 z0 h1 h2 z2 hk ih =>
    rintro n rfl
    rw [tn1, List.length_map] at h1
    rw [tn2, List.length_map] at h2
    rw [tn0] at h0
    have e := toNodeS_ev n.f1 h1 (fun x hx => ih (tn x) (by rw [tn1]; exact List.mem_map_of_mem hx) x rfl)
    rw [tn0, tn1, tn2]
    exact Ev.step (fun k => by rw [laws_toNode.f]) (Ev.bind (toStringS_ev n.f0 (by omega)) (Ev.bind e (Ev.bind (toSubS_ev n.f2 h2) (Ev.now (n.f0, n.f1.map tn, n.f2.map ts)))))
theorem eqNode_ev {m : NI} (hm : Bd m) : Ev (fun k => laws_eqNode.f k m.f0 m.f1 m.f2 m.f0 m.f1 m.f2) true := by
  induction hm with
  | mk m h0 z0 h1 h2 z2 hk ih =>
    have e : Ev (fun k => laws_eqNodeS.f k m.f1 m.f1) true := by
      refine Ev.step (fun k => by rw [laws_eqNodeS.f]) (ev_pos rfl ?_)
      suffices h : ∀ (d i : Nat), i + d = m.f1.length → Ev (fun k => laws_eqNodeS.l0 k m.f1 m.f1 (i : Int)) true from h m.f1.length 0 (by omega)
      intro d
      induction d with
      | zero =>
        intro i hi
        exact Ev.step (fun k => by rw [laws_eqNodeS.l0]) (ev_neg (by omega) (Ev.now _))
      | succ d ih2 =>
        intro i hi
        have hil : i < m.f1.length := by omega
        refine Ev.step (fun k => by rw [laws_eqNodeS.l0]) (ev_pos (by omega) (ev_pos (by omega) (ev_pos (by omega) ?_)))
        rw [rdIN hil, w64s (i := i) (n := m.f1.length) hil (by omega)]
        exact Ev.bind (ih _ (List.getElem_mem hil)) (ev_pos rfl (ih2 (i + 1) (by omega)))
    exact Ev.step (fun k => by rw [laws_eqNode.f]) (Ev.bind (eqStringS_ev m.f0 m.f0 (by omega) rfl) (ev_pos rfl (Ev.bind e (ev_pos rfl (Ev.bind (eqSubS_ev m.f2 h2) (ev_pos rfl (Ev.now _)))))))
end Go.Proofs.YtggokdobijhdhaaDoor.Pure
end
section
/- What the small functions of the laws and of the program come to: copies, comparisons, marks of bytes and numbers; joined; PutWord, GetWord, PutBytes, GetBytes, PutLen. No program in sight. -/
namespace Go.Proofs.YtggokdobijhdhaaDoor.Pure
open Go.RowKit Go.Proofs.YtggokdobijhdhaaDoor.P Go.Proofs.YtggokdobijhdhaaDoorW.PrintWords Go.Proofs.YtggokdobijhdhaaDoorW.PrintLast Go.Proofs.YtggokdobijhdhaaDoor.K
set_option linter.unusedVariables false
set_option linter.unusedSimpArgs false

theorem l1In_eq (a b c : Int) : spec_l1In.f a b c = some (decide (b ≤ a ∧ a ≤ c)) := by
  unfold spec_l1In.f
  by_cases h : a ≥ b
  · rw [if_pos h]; congr 1; simp; omega
  · rw [if_neg h]; congr 1; symm; simp; omega
end Go.Proofs.YtggokdobijhdhaaDoor.Pure
end
section
/- The signs of bytes: what spec.RuneAt and impl.RuneAt, spec.CountRunes, TextOk of the program and of the reference come to, all in the words of the model's own decoder. No program in sight. -/
namespace Go.Proofs.YtggokdobijhdhaaDoor.Pure
open Go.RowKit Go.Proofs.YtggokdobijhdhaaDoor.X Go.Proofs.YtggokdobijhdhaaDoor.P Go.Proofs.YtggokdobijhdhaaDoorW.PrintWords Go.Proofs.YtggokdobijhdhaaDoorW.PrintLast Go.Proofs.YtggokdobijhdhaaDoor.K
set_option linter.unusedVariables false
set_option linter.unusedSimpArgs false
theorem i64_and31 {x : Int} (h0 : 0 ≤ x) (h1 : x < 9223372036854775808) : Go.bits .and .i64 x 31 = x % 32 :=
  bits_mask .i64 63 (by decide) wraps_i64 5 (by decide) x h0 h1
theorem i64_and15 {x : Int} (h0 : 0 ≤ x) (h1 : x < 9223372036854775808) : Go.bits .and .i64 x 15 = x % 16 :=
  bits_mask .i64 63 (by decide) wraps_i64 4 (by decide) x h0 h1
theorem i64_and7 {x : Int} (h0 : 0 ≤ x) (h1 : x < 9223372036854775808) : Go.bits .and .i64 x 7 = x % 8 :=
  bits_mask .i64 63 (by decide) wraps_i64 3 (by decide) x h0 h1
/-- The sign at a place, by the model's own decoder. -/
def dec (l : List Int) (a : Nat) : Nat × Nat := Lib.decodeN (l.length - a) (l.getD a 0).toNat (l.getD (a + 1) 0).toNat (l.getD (a + 2) 0).toNat (l.getD (a + 3) 0).toNat
def runeAtP (l : List Int) (a : Int) : Int × Int × Bool :=
  if 0 ≤ a ∧ a < l.length then (if (dec l a.toNat).1 = 65533 ∧ (dec l a.toNat).2 = 1 then (0, 0, false) else (((dec l a.toNat).1 : Int), a + ((dec l a.toNat).2 : Int), true)) else (0, 0, false)
theorem runeAt_end (l : List Int) (a x8 x9 v i : Int) (r : Int × Int × Bool) (h : x8 < i) (ha : -1 ≤ a) (ha1 : a ≤ 35184372088832) (h8 : 0 ≤ x8) (h81 : x8 ≤ 3)
    (hr : r = if v < x9 ∨ 1114111 < v ∨ (55296 ≤ v ∧ v ≤ 57343) then (0, 0, false) else (v, a + 1 + x8, true)) : Ev (fun k => spec_RuneAt.l0 k l a x8 x9 v i) r := by
  refine Ev.step (fun k => by rw [spec_RuneAt.l0]) ?_
  refine ev_neg (by omega) ?_
  by_cases h1 : v < x9
  · rw [if_pos (.inl h1)] at hr
    exact ev_pos h1 (ev_some hr.symm)
  refine ev_neg h1 ?_
  by_cases h2 : v > 1114111
  · rw [if_pos (.inr (.inl h2))] at hr
    exact ev_pos h2 (ev_some hr.symm)
  refine ev_neg h2 (ev_b (l1In_eq v 55296 57343) ?_)
  by_cases h3 : 55296 ≤ v ∧ v ≤ 57343
  · rw [if_pos (.inr (.inr h3))] at hr
    exact ev_pos (by simpa using h3) (ev_some hr.symm)
  · rw [if_neg (by omega)] at hr
    refine ev_neg (by simpa using h3) (ev_some ?_)
    rw [hr, w64 (x := a + 1) (by omega) (by omega), w64 (by omega) (by omega)]
theorem runeAt_more (l : List Int) (a x8 x9 v i : Int) (r : Int × Int × Bool) (hb : Bytes l) (h : i ≤ x8) (ha : 0 ≤ a) (h0 : 1 ≤ i) (h8 : x8 ≤ 3) (hlt : a + i < l.length) (hl : l.length ≤ 35184372088832) (hv : 0 ≤ v) (hv1 : v ≤ 1073741824)
    (hbad : rd l (a + i) / 64 ≠ 2 → r = (0, 0, false)) (hok : rd l (a + i) / 64 = 2 → Ev (fun k => spec_RuneAt.l0 k l a x8 x9 (v * 64 + rd l (a + i) % 64) (i + 1)) r) : Ev (fun k => spec_RuneAt.l0 k l a x8 x9 v i) r := by
  have hy := bytes_rd hb (a + i)
  refine Ev.step (fun k => by rw [spec_RuneAt.l0]) ?_
  rw [w64 (x := a + i) (by omega) (by omega), w64 (x := rd l (a + i)) (by omega) (by omega)]
  refine ev_pos h (ev_pos (by omega) (ev_pos hlt ?_))
  by_cases h1 : rd l (a + i) < 128
  · exact ev_pos h1 (ev_some (hbad (by omega)).symm)
  refine ev_neg h1 ?_
  by_cases h2 : rd l (a + i) > 191
  · exact ev_pos h2 (ev_some (hbad (by omega)).symm)
  refine ev_neg h2 ?_
  rw [w64 (x := v * 64) (by omega) (by omega), w64 (x := v * 64 + rd l (a + i)) (by omega) (by omega), w64 (x := v * 64 + rd l (a + i) - 128) (by omega) (by omega), w64 (x := i + 1) (by omega) (by omega)]
  have e : v * 64 + rd l (a + i) - 128 = v * 64 + rd l (a + i) % 64 := by omega
  rw [e]
  exact hok (by omega)
/-- A number of the list and its Nat. -/
theorem rd_nat {l : List Int} (hb : Bytes l) (a : Int) (ha : 0 ≤ a) (j : Nat) : rd l (a + (j : Int)) = ((l.getD (a.toNat + j) 0).toNat : Int) ∧ (l.getD (a.toNat + j) 0).toNat ≤ 255 := by
  have h := bytes_rd hb (a + (j : Int))
  have e : (a + (j : Int)).toNat = a.toNat + j := by omega
  unfold rd at h ⊢
  rw [e] at h ⊢
  omega
set_option maxHeartbeats 1000000 in
theorem specRuneAt_ev (l : List Int) (a : Int) (hb : Bytes l) (hl : l.length ≤ 35184372088832) : Ev (fun k => spec_RuneAt.f k l a) (runeAtP l a) := by
  unfold spec_RuneAt.f runeAtP
  by_cases h0 : a < 0
  · rw [if_neg (by omega)]
    refine ev_pos h0 (Ev.step (fun k => by rw [spec_RuneAt.j0]) (ev_pos rfl (Ev.now _)))
  refine ev_neg h0 (Ev.step (fun k => by rw [spec_RuneAt.j0]) ?_)
  by_cases h1 : a ≥ (l.length : Int)
  · rw [if_neg (by omega)]
    exact ev_pos (by simpa using h1) (Ev.now _)
  rw [if_pos (by omega)]
  have d0 := rd_nat hb a (by omega) 0
  have d1 := rd_nat hb a (by omega) 1
  have d2 := rd_nat hb a (by omega) 2
  have d3 := rd_nat hb a (by omega) 3
  unfold dec
  simp only [Nat.add_zero, Int.natCast_zero, Int.add_zero] at d0
  generalize hg0 : (l.getD a.toNat 0).toNat = b0 at d0 ⊢
  generalize hg1 : (l.getD (a.toNat + 1) 0).toNat = b1 at d1 ⊢
  generalize hg2 : (l.getD (a.toNat + 2) 0).toNat = b2 at d2 ⊢
  generalize hg3 : (l.getD (a.toNat + 3) 0).toNat = b3 at d3 ⊢
  clear hg0 hg1 hg2 hg3
  generalize hn : l.length - a.toNat = n
  have e0 : wrap64 (rd l a) = rd l a := w64 (by omega) (by omega)
  rw [e0, d0.1]
  refine ev_neg (by simp; omega) (ev_pos (by omega) (ev_pos (by omega) ?_))
  by_cases c0 : b0 < 128
  · refine ev_pos (by omega) (ev_some ?_)
    rw [w64 (x := a + 1) (by omega) (by omega)]
    unfold Lib.decodeN
    rw [if_pos c0]
    rw [if_neg (by simp only; omega)]
    rfl
  refine ev_neg (by omega) ?_
  obtain ⟨R, hR⟩ : ∃ R : Int × Int × Bool, R = if (Lib.decodeN n b0 b1 b2 b3).1 = 65533 ∧ (Lib.decodeN n b0 b1 b2 b3).2 = 1 then (0, 0, false) else (((Lib.decodeN n b0 b1 b2 b3).1 : Int), a + ((Lib.decodeN n b0 b1 b2 b3).2 : Int), true) := ⟨_, rfl⟩
  rw [← hR]
  have bad : Lib.decodeN n b0 b1 b2 b3 = (65533, 1) → R = (0, 0, false) := fun h => by rw [hR, h]; rfl
  have good : ∀ c k, k ≠ 1 → Lib.decodeN n b0 b1 b2 b3 = (c, k) → R = ((c : Int), a + (k : Int), true) := fun c k hk h => by
    rw [hR, h, if_neg (fun q => hk q.2)]
  clear hR
  have hc0 : b0 ≤ 255 := by omega
  have nA : ∀ h : b0 < 192 ∨ 248 ≤ b0, Lib.decodeN n b0 b1 b2 b3 = (65533, 1) := fun h => by
    unfold Lib.decodeN
    rw [if_neg (by omega), if_neg (by omega), if_neg (by omega), if_neg (by omega)]
  by_cases c1 : b0 < 192
  · refine ev_neg (by omega) (Ev.step (fun k => by rw [spec_RuneAt.j1]) (ev_neg (by simp) (ev_neg (by omega) ?_)))
    exact Ev.step (fun k => by rw [spec_RuneAt.j2]) (ev_neg (by simp) (ev_neg (by omega) (ev_some (bad (nA (.inl c1))).symm)))
  refine ev_pos (by omega) (Ev.step (fun k => by rw [spec_RuneAt.j1]) ?_)
  have el : wrap64 ((l.length : Int) - 1) = (l.length : Int) - 1 := w64 (by omega) (by omega)
  by_cases c2 : b0 < 224
  · refine ev_pos (by simp; omega) (Ev.step (fun k => by rw [spec_RuneAt.j3]) ?_)
    rw [el, w64 (x := (l.length : Int) - 1 - 1) (by omega) (by omega), i64_and31 (by omega) (by omega)]
    by_cases n1 : 1 < n
    · refine ev_neg (by omega) (runeAt_more l a 1 128 _ 1 R hb (by omega) (by omega) (by omega) (by omega) (by omega) hl (by omega) (by omega) (fun h => bad ?_) (fun h => ?_))
      · have := d1.1
        simp only [Int.natCast_one] at this
        unfold Lib.decodeN
        rw [if_neg (by omega), if_neg (by omega), if_neg (by omega), if_neg (by omega)]
      · have h1 := d1.1
        simp only [Int.natCast_one] at h1
        rw [h1]
        rw [h1] at h
        refine runeAt_end l a 1 128 _ _ R (by omega) (by omega) (by omega) (by omega) (by omega) ?_
        by_cases q : b0 % 32 * 64 + b1 % 64 ≥ 128
        · rw [if_neg (by omega), good (b0 % 32 * 64 + b1 % 64) 2 (by omega) (by unfold Lib.decodeN; rw [if_neg (by omega), if_pos (by omega), if_pos q])]
          simp only [Prod.mk.injEq, and_true]
          omega
        · rw [if_pos (by omega), bad (by unfold Lib.decodeN; rw [if_neg (by omega), if_pos (by omega), if_neg q])]
    · refine ev_pos (by omega) (ev_some (bad ?_).symm)
      unfold Lib.decodeN
      rw [if_neg (by omega), if_neg (by omega), if_neg (by omega), if_neg (by omega)]
  refine ev_neg (by simp; omega) (ev_pos (by omega) (Ev.step (fun k => by rw [spec_RuneAt.j2]) ?_))
  by_cases c3 : b0 < 240
  · refine ev_pos (by simp; omega) (Ev.step (fun k => by rw [spec_RuneAt.j3]) ?_)
    rw [el, w64 (x := (l.length : Int) - 1 - 2) (by omega) (by omega), i64_and15 (by omega) (by omega)]
    by_cases n2 : 2 < n
    · refine ev_neg (by omega) (runeAt_more l a 2 2048 _ 1 R hb (by omega) (by omega) (by omega) (by omega) (by omega) hl (by omega) (by omega) (fun h => bad ?_) (fun h => ?_))
      · have := d1.1
        simp only [Int.natCast_one] at this
        unfold Lib.decodeN
        rw [if_neg (by omega), if_neg (by omega), if_neg (by omega), if_neg (by omega)]
      · have h1 := d1.1
        simp only [Int.natCast_one] at h1
        rw [h1]
        rw [h1] at h
        have h2 := d2.1
        have e2 : ((2 : Nat) : Int) = 1 + 1 := rfl
        rw [e2] at h2
        refine runeAt_more l a 2 2048 _ (1 + 1) R hb (by omega) (by omega) (by omega) (by omega) (by omega) hl (by omega) (by omega) (fun g => bad ?_) (fun g => ?_)
        · unfold Lib.decodeN
          rw [if_neg (by omega), if_neg (by omega), if_neg (by omega), if_neg (by omega)]
        · rw [h2]
          rw [h2] at g
          refine runeAt_end l a 2 2048 _ _ R (by omega) (by omega) (by omega) (by omega) (by omega) ?_
          have ec : ((b0 : Int) % 16 * 64 + (b1 : Int) % 64) * 64 + (b2 : Int) % 64 = ((b0 % 16 * 4096 + b1 % 64 * 64 + b2 % 64 : Nat) : Int) := by omega
          rw [ec]
          generalize hc : b0 % 16 * 4096 + b1 % 64 * 64 + b2 % 64 = c
          by_cases q : c ≥ 2048 ∧ (c < 55296 ∨ (57344 ≤ c ∧ c ≤ 1114111))
          · rw [if_neg (by omega), good c 3 (by omega) (by unfold Lib.decodeN; rw [if_neg (by omega), if_neg (by omega), if_pos (by omega), hc, if_pos q])]
            simp only [Prod.mk.injEq, and_true, true_and]
            omega
          · rw [if_pos (by omega), bad (by unfold Lib.decodeN; rw [if_neg (by omega), if_neg (by omega), if_pos (by omega), hc, if_neg q])]
    · refine ev_pos (by omega) (ev_some (bad ?_).symm)
      unfold Lib.decodeN
      rw [if_neg (by omega), if_neg (by omega), if_neg (by omega), if_neg (by omega)]
  refine ev_neg (by simp; omega) (ev_pos (by omega) ?_)
  by_cases c4 : b0 < 248
  · refine ev_pos (by omega) (Ev.step (fun k => by rw [spec_RuneAt.j3]) ?_)
    rw [el, w64 (x := (l.length : Int) - 1 - 3) (by omega) (by omega), i64_and7 (by omega) (by omega)]
    by_cases n3 : 3 < n
    · refine ev_neg (by omega) (runeAt_more l a 3 65536 _ 1 R hb (by omega) (by omega) (by omega) (by omega) (by omega) hl (by omega) (by omega) (fun h => bad ?_) (fun h => ?_))
      · have := d1.1
        simp only [Int.natCast_one] at this
        unfold Lib.decodeN
        rw [if_neg (by omega), if_neg (by omega), if_neg (by omega), if_neg (by omega)]
      · have h1 := d1.1
        simp only [Int.natCast_one] at h1
        rw [h1]
        rw [h1] at h
        have h2 := d2.1
        have e2 : ((2 : Nat) : Int) = 1 + 1 := rfl
        rw [e2] at h2
        refine runeAt_more l a 3 65536 _ (1 + 1) R hb (by omega) (by omega) (by omega) (by omega) (by omega) hl (by omega) (by omega) (fun g => bad ?_) (fun g => ?_)
        · unfold Lib.decodeN
          rw [if_neg (by omega), if_neg (by omega), if_neg (by omega), if_neg (by omega)]
        · rw [h2]
          rw [h2] at g
          have h3 := d3.1
          have e3 : ((3 : Nat) : Int) = 1 + 1 + 1 := rfl
          rw [e3] at h3
          refine runeAt_more l a 3 65536 _ (1 + 1 + 1) R hb (by omega) (by omega) (by omega) (by omega) (by omega) hl (by omega) (by omega) (fun f => bad ?_) (fun f => ?_)
          · unfold Lib.decodeN
            rw [if_neg (by omega), if_neg (by omega), if_neg (by omega), if_neg (by omega)]
          · rw [h3]
            rw [h3] at f
            refine runeAt_end l a 3 65536 _ _ R (by omega) (by omega) (by omega) (by omega) (by omega) ?_
            have ec : (((b0 : Int) % 8 * 64 + (b1 : Int) % 64) * 64 + (b2 : Int) % 64) * 64 + (b3 : Int) % 64 = ((b0 % 8 * 262144 + b1 % 64 * 4096 + b2 % 64 * 64 + b3 % 64 : Nat) : Int) := by omega
            rw [ec]
            generalize hc : b0 % 8 * 262144 + b1 % 64 * 4096 + b2 % 64 * 64 + b3 % 64 = c
            by_cases q : c ≥ 65536 ∧ (c < 55296 ∨ (57344 ≤ c ∧ c ≤ 1114111))
            · rw [if_neg (by omega), good c 4 (by omega) (by unfold Lib.decodeN; rw [if_neg (by omega), if_neg (by omega), if_neg (by omega), if_pos (by omega), hc, if_pos q])]
              simp only [Prod.mk.injEq, and_true, true_and]
              omega
            · rw [if_pos (by omega), bad (by unfold Lib.decodeN; rw [if_neg (by omega), if_neg (by omega), if_neg (by omega), if_pos (by omega), hc, if_neg q])]
    · refine ev_pos (by omega) (ev_some (bad ?_).symm)
      unfold Lib.decodeN
      rw [if_neg (by omega), if_neg (by omega), if_neg (by omega), if_neg (by omega)]
  · exact ev_neg (by omega) (ev_some (bad (nA (.inr (by omega)))).symm)
theorem dec_ge1 (l : List Int) (a : Nat) : 1 ≤ (dec l a).2 := Lib.decodeN_ge1 _ _ _ _ _
theorem dec_width (l : List Int) (a : Nat) (h : a < l.length) : (dec l a).2 ≤ l.length - a := Lib.decodeN_le_n' _ _ _ _ _ (by omega)
end Go.Proofs.YtggokdobijhdhaaDoor.Pure
end
section
/- The signs of bytes: what spec.RuneAt and impl.RuneAt, spec.CountRunes, TextOk of the program and of the reference come to, all in the words of the model's own decoder. No program in sight. -/
namespace Go.Proofs.YtggokdobijhdhaaDoor.Pure
open Go.RowKit Go.Proofs.YtggokdobijhdhaaDoor.X Go.Proofs.YtggokdobijhdhaaDoor.P Go.Proofs.YtggokdobijhdhaaDoorW.PrintWords Go.Proofs.YtggokdobijhdhaaDoorW.PrintLast Go.Proofs.YtggokdobijhdhaaDoor.K
set_option linter.unusedVariables false
set_option linter.unusedSimpArgs false
theorem bytesOf_bytes (s : ByteArray) : Bytes (bytesOf s) := by
  intro x hx
  unfold bytesOf at hx
  obtain ⟨b, _, rfl⟩ := List.mem_map.1 hx
  have := b.toNat_lt
  omega
theorem bytesOf_at (s : ByteArray) (j : Nat) : ((bytesOf s).getD j 0).toNat = (s.data.toList.getD j 0).toNat := by
  unfold bytesOf
  simp only [List.getD_eq_getElem?_getD, List.getElem?_map]
  cases s.data.toList[j]? <;> simp
theorem dec_bytesOf (s : ByteArray) (pos : Nat) : dec (bytesOf s) pos = Utf8.decode s pos := by
  rw [Lib.decode_N]
  unfold dec
  rw [bytesOf_at, bytesOf_at, bytesOf_at, bytesOf_at]
  have : (bytesOf s).length = s.data.toList.length := by unfold bytesOf; rw [List.length_map]
  rw [this]
/-- From pos on all is valid. -/
def validFrom (s : ByteArray) (pos : Nat) : Bool := Lib.validD (s.data.toList.drop pos)
theorem len_data (s : ByteArray) : s.data.toList.length = s.size := by rw [Array.length_toList]; rfl
theorem validFrom_end (s : ByteArray) (pos : Nat) (h : ¬ pos < s.size) : validFrom s pos = true := by
  unfold validFrom
  rw [List.drop_of_length_le (by rw [len_data]; omega)]
  rfl
theorem validFrom_step (s : ByteArray) (pos : Nat) (h : pos < s.size) : validFrom s pos = if (Utf8.decode s pos).1 = 65533 ∧ (Utf8.decode s pos).2 = 1 then false else validFrom s (pos + (Utf8.decode s pos).2) := by
  unfold validFrom
  have hne : s.data.toList.drop pos ≠ [] := by
    intro e
    have := congrArg List.length e
    rw [List.length_drop, len_data] at this
    simp at this
    omega
  rw [Lib.validD_step _ hne, Lib.decodeL_drop, List.drop_drop]
theorem count_l (s : ByteArray) (hs : s.size ≤ 1048576) : ∀ (b pos n : Nat), s.size ≤ pos + b → pos ≤ s.size + 4 → n ≤ pos →
    Ev (fun k => spec_CountRunes.l0 k (bytesOf s) (n : Int) (pos : Int)) (cond (noZero s b pos && validFrom s pos) ((n + Lib.runeCountFrom s b pos : Nat) : Int) (-1))
  | 0, pos, n, hb, hp, hn => by
    have hpos : ¬ pos < s.size := by omega
    rw [validFrom_end s pos hpos]
    refine ev_to (Ev.step (fun k => ?_) (Ev.now (n : Int))) (by simp [noZero, Lib.runeCountFrom])
    simp only [spec_CountRunes.l0]
    rw [bytesOf_length, if_neg (by omega)]
  | b + 1, pos, n, hb, hp, hn => by
    by_cases hpos : pos < s.size
    · have hl := bytesOf_length s
      have hr := specRuneAt_ev (bytesOf s) (pos : Int) (bytesOf_bytes s) (by omega)
      refine Ev.step (f := fun k => (spec_RuneAt.f k (bytesOf s) (pos : Int)).bind fun t => (if t.2.2 = true then (if t.1 = 0 then some (-1) else spec_CountRunes.l0 k (bytesOf s) (wrap64 ((n : Int) + 1)) t.2.1) else some (-1))) (fun k => ?_) (Ev.bind hr ?_)
      · simp only [spec_CountRunes.l0]
        rw [if_pos (by omega)]
      · unfold runeAtP
        rw [if_pos (by omega), Int.toNat_natCast, dec_bytesOf, validFrom_step s pos hpos]
        simp only [noZero, Lib.runeCountFrom]
        rw [if_pos hpos, if_pos hpos]
        have hw := dec_width (bytesOf s) pos (by omega)
        have hg := dec_ge1 (bytesOf s) pos
        rw [dec_bytesOf] at hw hg
        by_cases e : (Utf8.decode s pos).1 = 65533 ∧ (Utf8.decode s pos).2 = 1
        · rw [if_pos e, if_pos e]
          refine ev_neg (by simp) (ev_some ?_)
          simp
        · rw [if_neg e, if_neg e]
          refine ev_pos rfl ?_
          by_cases z : (Utf8.decode s pos).1 = 0
          · refine ev_pos (by simp only; omega) (ev_some ?_)
            rw [if_pos z]
            simp
          · refine ev_neg (by simp only; omega) ?_
            rw [if_neg z]
            have e1 : wrap64 ((n : Int) + 1) = ((n + 1 : Nat) : Int) := w64s (show n < n + 1 by omega) (by omega)
            have e2 : (pos : Int) + ((Utf8.decode s pos).2 : Int) = ((pos + (Utf8.decode s pos).2 : Nat) : Int) := by omega
            rw [e1, e2]
            refine ev_to (count_l s hs b (pos + (Utf8.decode s pos).2) (n + 1) (by omega) (by omega) (by omega)) ?_
            have e3 : n + 1 + Lib.runeCountFrom s b (pos + (Utf8.decode s pos).2) = n + (1 + Lib.runeCountFrom s b (pos + (Utf8.decode s pos).2)) := by omega
            rw [e3]
    · rw [validFrom_end s pos hpos]
      refine ev_to (Ev.step (fun k => ?_) (Ev.now (n : Int))) (by simp [noZero, Lib.runeCountFrom, hpos])
      simp only [spec_CountRunes.l0]
      rw [bytesOf_length, if_neg (by omega)]
/-- How many signs (-1: it is no text). -/
def countP (s : ByteArray) : Int := if textOkP s = true then (Lib.runeCount s : Int) else -1
theorem specCountRunes_ev (s : ByteArray) : Ev (fun k => spec_CountRunes.f k s) (countP s) := by
  unfold spec_CountRunes.f countP textOkP
  by_cases h : (s.size : Int) > 60
  · refine ev_pos h (ev_some ?_)
    rw [decide_eq_false (by omega)]
    simp
  · refine ev_neg h (ev_to (count_l s (by omega) s.size 0 0 (by omega) (by omega) (by omega)) ?_)
    rw [decide_eq_true (by omega)]
    unfold validFrom Lib.runeCount
    simp only [List.drop_zero, Bool.and_true, Nat.zero_add]
    cases (noZero s s.size 0 && Lib.validD s.data.toList) <;> rfl
theorem implTextOk_eq (s : ByteArray) (hs : s.size ≤ 140737488351232) : impl_TextOk.f s = some (textOkP s) := by
  unfold impl_TextOk.f
  rw [if_pos (by omega)]
theorem specTextOk_ev (s : ByteArray) : Ev (fun k => spec_TextOk.f k s) (textOkP s) := by
  unfold spec_TextOk.f
  refine Ev.bind (specCountRunes_ev s) (ev_some ?_)
  unfold countP
  by_cases h : textOkP s = true
  · rw [if_pos h, h]
    exact decide_eq_true (by omega)
  · rw [if_neg h]
    have h' : textOkP s = false := by simpa using h
    rw [h']
    rfl
end Go.Proofs.YtggokdobijhdhaaDoor.Pure
end
section
/- The levels of a text: spec.Levels and strings.Split come to the same pieces; the marks of a list of texts are laid and found again. No program in sight. -/
namespace Go.Proofs.YtggokdobijhdhaaDoor.Pure
open Go.RowKit Go.Proofs.YtggokdobijhdhaaDoor.X Go.Proofs.YtggokdobijhdhaaDoor.P Go.Proofs.YtggokdobijhdhaaDoorW.PrintWords Go.Proofs.YtggokdobijhdhaaDoorW.PrintLast Go.Proofs.YtggokdobijhdhaaDoor.K
set_option linter.unusedVariables false
set_option linter.unusedSimpArgs false
def stroke : ByteArray := ⟨#[47]⟩
theorem ext_data (s : ByteArray) (a b : Nat) : (s.extract a b).data.toList = (s.data.toList.take b).drop a := by
  rw [Lib.extract_data]
  rw [List.drop_take]
theorem len_d (s : ByteArray) : s.data.toList.length = s.size := by rw [Array.length_toList]; rfl
theorem rest_size (s : ByteArray) (a : Nat) (h : a ≤ s.size) : (s.extract a s.size).size = s.size - a := by
  rw [← len_d, ext_data, List.length_drop, List.length_take, len_d]; omega
theorem rest_rest (s : ByteArray) (a d : Nat) (h : a + d ≤ s.size) : (s.extract a s.size).extract d (s.extract a s.size).size = s.extract (a + d) s.size := by
  refine Go.WideShapes.bytes_inj ?_
  have e : s.data.toList.take s.size = s.data.toList := List.take_of_length_le (by rw [len_d]; omega)
  rw [ext_data, ext_data, ext_data, rest_size s a (by omega), e, List.take_of_length_le (by rw [List.length_drop, len_d]; omega), List.drop_drop]
theorem rest_head (s : ByteArray) (a i : Nat) (h1 : a ≤ i) (h : i ≤ s.size) : (s.extract a s.size).extract 0 (i - a) = s.extract a i := by
  refine Go.WideShapes.bytes_inj ?_
  rw [ext_data, ext_data, ext_data, ← len_d, List.take_length, List.drop_zero, List.drop_take]
theorem occ_bt (s : ByteArray) (a i : Nat) (h1 : a ≤ i) (h : i < s.size) : Lib.occAt (s.extract a s.size).data.toList stroke.data.toList (i - a) = decide (bt s (i : Int) = 47) := by
  rw [ext_data, ← len_d, List.take_length]
  unfold Lib.occAt
  rw [List.drop_drop, show a + (i - a) = i from by omega]
  have hi : i < s.data.toList.length := by rw [len_d]; exact h
  rw [List.drop_eq_getElem_cons hi]
  have hb : bt s (i : Int) = ((s.data.toList[i]).toNat : Int) := by
    unfold bt
    rw [dif_pos (by simpa using h)]
    rfl
  rw [hb]
  show List.isPrefixOf [47] _ = _
  rw [List.isPrefixOf_cons_cons]
  simp only [List.isPrefixOf_nil_left, Bool.and_true]
  have e : (((s.data.toList[i]).toNat : Int) = 47) ↔ (47 : UInt8) = s.data.toList[i] := by
    constructor
    · intro q
      refine UInt8.toNat_inj.1 ?_
      show 47 = _
      omega
    · intro q
      rw [← q]
      rfl
  by_cases q : (47 : UInt8) = s.data.toList[i]
  · rw [decide_eq_true (e.2 q)]
    exact beq_iff_eq.2 q
  · rw [decide_eq_false (fun z => q (e.1 z))]
    exact beq_eq_false_iff_ne.2 q
def restP (s : ByteArray) (a : Nat) : List ByteArray := pieces (s.extract a s.size) stroke
theorem restP_end (s : ByteArray) (a : Nat) (h : a ≤ s.size) (hno : Lib.NoOccB (s.extract a s.size) stroke (s.size - a)) : restP s a = [s.extract a s.size] := by
  unfold restP pieces
  exact Lib.splitB_miss _ _ _ _ (Lib.past _ _ (s.size - a) hno (by decide) (by rw [rest_size s a h]; show s.size - a < s.size - a + 1; omega))
theorem restP_hit (s : ByteArray) (a i : Nat) (h1 : a ≤ i) (h : i < s.size) (hno : Lib.NoOccB (s.extract a s.size) stroke (i - a)) (hb : bt s (i : Int) = 47) : restP s a = s.extract a i :: restP s (i + 1) := by
  have hx : Lib.indexB (s.extract a s.size) stroke = ((i - a : Nat) : Int) := by
    refine Lib.index_hit hno ?_ ?_
    · rw [len_d, rest_size s a (by omega)]; omega
    · rw [occ_bt s a i h1 h]; exact decide_eq_true hb
  have hr : (s.extract a s.size).extract (i - a + stroke.size) (s.extract a s.size).size = s.extract (i + 1) s.size := by
    rw [rest_rest s a (i - a + stroke.size) (by show a + (i - a + 1) ≤ _; omega)]
    congr 1
    show a + (i - a + 1) = i + 1
    omega
  unfold restP pieces
  rw [Lib.countB_hit _ _ (i - a) (by decide) hx, Nat.add_comm 1, Lib.splitB_hit _ _ _ _ (i - a) hx, hr, Nat.add_zero, rest_head s a i h1 (by omega)]
theorem levels_l (s : ByteArray) (hs : s.size ≤ 1073741824) : ∀ (b i a : Nat) (acc : List ByteArray), i + b = s.size → a ≤ i → acc.length ≤ i → Lib.NoOccB (s.extract a s.size) stroke (i - a) →
    Ev (fun k => spec_Levels.l0 k s acc (a : Int) (i : Int)) (acc ++ restP s a)
  | 0, i, a, acc, hb, ha, hl, hno => by
    have hi : i = s.size := by omega
    subst hi
    refine Ev.step (fun k => by rw [spec_Levels.l0]) ?_
    refine ev_pos (by omega) (ev_pos rfl (ev_pos (by omega) (ev_pos (by omega) (ev_pos (by omega) ?_))))
    refine Ev.step (fun k => by rw [spec_Levels.l0]) ?_
    rw [w64 (by omega) (by omega)]
    refine ev_neg (by omega) (ev_some ?_)
    rw [restP_end s a ha hno]
    rfl
  | b + 1, i, a, acc, hb, ha, hl, hno => by
    refine Ev.step (fun k => by rw [spec_Levels.l0]) ?_
    refine ev_pos (by omega) (ev_neg (by omega) (ev_pos (by omega) (ev_pos (by omega) ?_)))
    rw [w64s (i := i) (n := s.size) (by omega) (by omega)]
    by_cases q : bt s (i : Int) = 47
    · refine ev_pos q (ev_pos (by omega) (ev_pos (by omega) (ev_pos (by omega) ?_)))
      rw [restP_hit s a i ha (by omega) hno q]
      refine ev_to (levels_l s hs b (i + 1) (i + 1) _ (by omega) (Nat.le_refl _) (by simp only [List.length_append, List.length_cons, List.length_nil]; omega) (by rw [Nat.sub_self]; exact Lib.NoOcc.zero _ _)) ?_
      rw [List.append_assoc]
      rfl
    · refine ev_neg q (levels_l s hs b (i + 1) a acc (by omega) (by omega) (by omega) ?_)
      have e : i + 1 - a = (i - a) + 1 := by omega
      rw [e]
      refine Lib.NoOcc.succ hno ?_
      rw [occ_bt s a i ha (by omega)]
      exact decide_eq_false q
theorem specLevels_ev (s : ByteArray) (hs : s.size ≤ 1073741824) : Ev (fun k => spec_Levels.f k s) (pieces s stroke) := by
  unfold spec_Levels.f
  refine ev_to (levels_l s hs s.size 0 0 [] (by omega) (Nat.le_refl _) (by simp) (Lib.NoOcc.zero _ _)) ?_
  unfold restP
  rw [List.nil_append]
  congr 1
  refine Go.WideShapes.bytes_inj ?_
  rw [ext_data, ← len_d, List.take_length, List.drop_zero]
theorem implLevels_eq (s : ByteArray) (hs : s.size ≤ 1073741824) : impl_Levels.f s = some (pieces s stroke) := by
  unfold impl_Levels.f strings_Split.f
  rw [if_pos ⟨by omega, rfl⟩]
  rfl
theorem pieces_length (s : ByteArray) : (pieces s stroke).length ≤ s.size + 1 := by
  have h := Lib.splitB_length_le stroke 0 (Lib.countB s stroke) s
  have h2 := Lib.countB_le stroke (by decide) s.size s (Nat.le_refl _)
  unfold pieces
  omega
end Go.Proofs.YtggokdobijhdhaaDoor.Pure
end
section
/- Topics and filters, in plain lists: a text cut at its strokes, levels that fit levels, what is hidden, what is loose; a filter that covers. No program in sight. -/
namespace Go.Proofs.YtggokdobijhdhaaDoor.Pure
open Go.RowKit Go.Proofs.YtggokdobijhdhaaDoor.X Go.Proofs.YtggokdobijhdhaaDoor.P Go.Proofs.YtggokdobijhdhaaDoorW.PrintWords Go.Proofs.YtggokdobijhdhaaDoorW.PrintLast Go.Proofs.YtggokdobijhdhaaDoor.K
set_option linter.unusedVariables false
set_option linter.unusedSimpArgs false
/-- A text cut at its strokes. -/
def cutL : List UInt8 → List (List UInt8)
  | [] => [[]]
  | b :: t => if b = 47 then [] :: cutL t else match cutL t with
    | [] => [[b]]
    | h :: r => (b :: h) :: r
theorem cutL_ex : ∀ s : List UInt8, ∃ h r, cutL s = h :: r
  | [] => ⟨_, _, rfl⟩
  | b :: t => by
    obtain ⟨h, r, e⟩ := cutL_ex t
    unfold cutL
    by_cases q : b = 47
    · rw [if_pos q]; exact ⟨_, _, rfl⟩
    · rw [if_neg q, e]; exact ⟨_, _, rfl⟩
theorem split_cut : ∀ s : List UInt8, Lib.splitK [47] 0 (Lib.count s [47]) s = cutL s
  | [] => rfl
  | b :: t => by
    have ih := split_cut t
    by_cases q : b = 47
    · subst q
      have hix : Lib.index (47 :: t) [47] = 0 := by rw [Lib.index]; simp [List.isPrefixOf]
      rw [Lib.count_cons_eq, Nat.add_comm 1, Lib.splitK, hix, cutL, if_pos rfl, ← ih]
      rfl
    · have hp : ([47] : List UInt8).isPrefixOf (b :: t) = false := by simp [List.isPrefixOf, Ne.symm q]
      have hix : Lib.index (b :: t) [47] = if Lib.index t [47] == -1 then -1 else Lib.index t [47] + 1 := by rw [Lib.index, hp]; simp
      rw [Lib.count_cons_ne b 47 t q, cutL, if_neg q, ← ih]
      cases Lib.count t [47] with
      | zero => rfl
      | succ n =>
        rw [Lib.splitK, Lib.splitK, hix]
        by_cases m : Lib.index t [47] = -1
        · rw [m]; rfl
        · have hge := Lib.index_ge t [47]
          obtain ⟨j, hj⟩ : ∃ j : Nat, Lib.index t [47] = j := ⟨(Lib.index t [47]).toNat, by omega⟩
          have h1 : (Lib.index t [47] == -1) = false := beq_eq_false_iff_ne.2 m
          have h2 : ((j : Int) == -1) = false := beq_eq_false_iff_ne.2 (by omega)
          have h3 : ((j : Int) + 1 == -1) = false := beq_eq_false_iff_ne.2 (by omega)
          rw [hj]
          simp only [h2, h3, Bool.false_eq_true, if_false]
          have h4 : ((j : Int) + 1).toNat = j + 1 := by omega
          have h5 : (j : Int).toNat = j := by omega
          rw [h4, h5]
          rfl
theorem join_cut : ∀ s : List UInt8, Lib.join (cutL s) [47] = s
  | [] => rfl
  | b :: t => by
    have ih := join_cut t
    obtain ⟨h, r, e⟩ := cutL_ex t
    unfold cutL
    rw [e] at ih
    by_cases q : b = 47
    · rw [if_pos q, e, Lib.join_cons]
      have : Lib.joinTail [47] (h :: r) = [47] ++ Lib.join (h :: r) [47] := by rw [Lib.join_cons]; simp [Lib.joinTail]
      rw [this, ih, q]
      rfl
    · rw [if_neg q, e]
      simp only
      rw [Lib.join_cons] at ih ⊢
      rw [List.cons_append, ih]
theorem cutL_no : ∀ (s : List UInt8) (x : List UInt8), x ∈ cutL s → (47 : UInt8) ∉ x
  | [], x, hx => by
    have : x = [] := by simpa [cutL] using hx
    subst this
    simp
  | b :: t, x, hx => by
    have ih := cutL_no t
    obtain ⟨h, r, e⟩ := cutL_ex t
    unfold cutL at hx
    by_cases q : b = 47
    · rw [if_pos q] at hx
      rcases List.mem_cons.1 hx with rfl | hx
      · simp
      · exact ih x hx
    · rw [if_neg q, e] at hx
      simp only at hx
      rcases List.mem_cons.1 hx with rfl | hx
      · intro hm
        rcases List.mem_cons.1 hm with hm | hm
        · exact q hm.symm
        · exact ih h (by rw [e]; exact List.mem_cons_self) hm
      · exact ih x (by rw [e]; exact List.mem_cons_of_mem _ hx)
theorem cutL_one : ∀ s : List UInt8, (47 : UInt8) ∉ s → cutL s = [s]
  | [], _ => rfl
  | b :: t, h => by
    have ih := cutL_one t (fun m => h (List.mem_cons_of_mem _ m))
    unfold cutL
    rw [if_neg (fun q => h (by rw [q]; exact List.mem_cons_self)), ih]
/-! ### levels that fit levels -/
end Go.Proofs.YtggokdobijhdhaaDoor.Pure
end
section
/- Topics and filters, in plain lists: a text cut at its strokes, levels that fit levels, what is hidden, what is loose; a filter that covers. No program in sight. -/
namespace Go.Proofs.YtggokdobijhdhaaDoor.Pure
open Go.RowKit Go.Proofs.YtggokdobijhdhaaDoor.X Go.Proofs.YtggokdobijhdhaaDoor.P Go.Proofs.YtggokdobijhdhaaDoorW.PrintWords Go.Proofs.YtggokdobijhdhaaDoorW.PrintLast Go.Proofs.YtggokdobijhdhaaDoor.K
set_option linter.unusedVariables false
set_option linter.unusedSimpArgs false
theorem rdOf_get {l : List ByteArray} {i : Nat} (h : i < l.length) : rdOf ByteArray.empty l (i : Int) = l[i] := getD_get h
abbrev dl (x : ByteArray) : List UInt8 := x.data.toList
theorem dl_len (x : ByteArray) : (dl x).length = x.size := by rw [Array.length_toList]; rfl
theorem bt_get {s : ByteArray} {i : Nat} (h : i < s.size) : bt s (i : Int) = (((dl s)[i]'(by rw [dl_len]; exact h)).toNat : Int) := by
  have := bt_at s i h
  rw [← this]
  rfl
/-! ### what is wild, hidden, loose -/
def wildL (l : List UInt8) : Bool := l.contains 43 || l.contains 35
theorem containsAny_wild : ∀ l : List UInt8, Lib.containsAny l [43, 35] = wildL l
  | [] => rfl
  | b :: l => by
    have ih := containsAny_wild l
    unfold Lib.containsAny at ih ⊢
    have hge := Lib.indexAny_ge [43, 35] l
    rw [Lib.indexAny]
    unfold wildL at ih ⊢
    have c1 : (b :: l).contains 43 = ((43 : UInt8) == b || l.contains 43) := List.contains_cons
    have c2 : (b :: l).contains 35 = ((35 : UInt8) == b || l.contains 35) := List.contains_cons
    rw [c1, c2]
    clear c1 c2
    by_cases q : ([43, 35] : List UInt8).contains b = true
    · rw [if_pos q]
      simp only [List.contains_cons, List.contains_nil, Bool.or_false, Bool.or_eq_true, beq_iff_eq] at q
      rcases q with rfl | rfl
      · rfl
      · simp
    · rw [if_neg q]
      simp only [List.contains_cons, List.contains_nil, Bool.or_false, Bool.or_eq_true, beq_iff_eq, not_or] at q
      have q1 : ((43 : UInt8) == b) = false := beq_eq_false_iff_ne.2 (fun e => q.1 e.symm)
      have q2 : ((35 : UInt8) == b) = false := beq_eq_false_iff_ne.2 (fun e => q.2 e.symm)
      rw [q1, q2, Bool.false_or, Bool.false_or, ← ih]
      by_cases m : Lib.indexAny l [43, 35] = -1
      · rw [m]; rfl
      · rw [if_neg (by simpa using m)]
        rw [decide_eq_true (by omega), decide_eq_true (by omega)]
theorem containsAny_eq (s : ByteArray) (hs : s.size ≤ 1073741824) : strings_ContainsAny.f s ⟨#[43, 35]⟩ = some (wildL (dl s)) := by
  unfold strings_ContainsAny.f
  rw [if_pos ⟨by omega, rfl⟩]
  congr 1
  exact containsAny_wild (dl s)
theorem has_l (s : ByteArray) (c : UInt8) (hs : s.size ≤ 1073741824) : ∀ (d i : Nat), i + d = s.size → Ev (fun k => spec_l3Has.l0 k s (c.toNat : Int) (i : Int)) (((dl s).drop i).contains c)
  | 0, i, hd => by
    refine Ev.step (fun k => by rw [spec_l3Has.l0]) (ev_neg (by omega) (ev_some ?_))
    rw [List.drop_of_length_le (by rw [dl_len]; omega)]
    rfl
  | d + 1, i, hd => by
    have hi : i < s.size := by omega
    have hi' : i < (dl s).length := by rw [dl_len]; exact hi
    refine Ev.step (fun k => by rw [spec_l3Has.l0]) (ev_pos (by omega) (ev_pos (by omega) ?_))
    rw [bt_get hi, w64s (i := i) (n := s.size) hi (by omega), List.drop_eq_getElem_cons hi', List.contains_cons]
    by_cases q : (((dl s)[i]'hi').toNat : Int) = (c.toNat : Int)
    · refine ev_pos q (ev_some ?_)
      have : (dl s)[i]'hi' = c := UInt8.toNat_inj.1 (by omega)
      simp [this]
    · refine ev_neg q (ev_to (has_l s c hs d (i + 1) (by omega)) ?_)
      have : (c == (dl s)[i]'hi') = false := beq_eq_false_iff_ne.2 (fun e => q (by rw [← e]))
      rw [this, Bool.false_or]
theorem has43_ev (s : ByteArray) (hs : s.size ≤ 1073741824) : Ev (fun k => spec_l3Has.f k s 43) ((dl s).contains 43) := by
  unfold spec_l3Has.f
  exact has_l s 43 hs s.size 0 (by omega)
theorem has35_ev (s : ByteArray) (hs : s.size ≤ 1073741824) : Ev (fun k => spec_l3Has.f k s 35) ((dl s).contains 35) := by
  unfold spec_l3Has.f
  exact has_l s 35 hs s.size 0 (by omega)
theorem pieces_cut (s : ByteArray) : (pieces s stroke).map dl = cutL (dl s) := by
  unfold pieces
  rw [Lib.splitB_data]
  exact split_cut (dl s)
theorem pieces_len (s : ByteArray) : (cutL (dl s)).length = (pieces s stroke).length := by rw [← pieces_cut, List.length_map]
theorem ne_dl (s : ByteArray) : (s.toList = ([] : List UInt8)) ↔ (dl s).isEmpty = true := by
  rw [Lib.toList_data, List.isEmpty_iff]
theorem six (s : ByteArray) : decide (((pieces s stroke).length : Int) ≤ 6) = decide ((cutL (dl s)).length ≤ 6) := by
  rw [pieces_len]
  exact decide_eq_decide.2 (by omega)
end Go.Proofs.YtggokdobijhdhaaDoor.Pure
end
section
/- Topics and filters, in plain lists: a text cut at its strokes, levels that fit levels, what is hidden, what is loose; a filter that covers. No program in sight. -/
namespace Go.Proofs.YtggokdobijhdhaaDoor.Pure
open Go.RowKit Go.Proofs.YtggokdobijhdhaaDoor.X Go.Proofs.YtggokdobijhdhaaDoor.P Go.Proofs.YtggokdobijhdhaaDoorW.PrintWords Go.Proofs.YtggokdobijhdhaaDoorW.PrintLast Go.Proofs.YtggokdobijhdhaaDoor.K
set_option linter.unusedVariables false
set_option linter.unusedSimpArgs false
def levelL (x : List UInt8) (last : Bool) : Bool := !wildL x || x == [43] || (x == [35] && last)
def allL : List (List UInt8) → Bool
  | [] => true
  | x :: r => levelL x r.isEmpty && allL r
def filterL (s : ByteArray) : Bool := allL (cutL (dl s)) && textOkP s && !(dl s).isEmpty && decide ((cutL (dl s)).length ≤ 6)
theorem lens_mem : ∀ (l : List (List UInt8)) (x : List UInt8), x ∈ l → x.length ≤ Lib.lens l
  | a :: r, x, hx => by
    have e : Lib.lens (a :: r) = a.length + Lib.lens r := by simp [Lib.lens]
    rcases List.mem_cons.1 hx with rfl | h
    · omega
    · have := lens_mem r x h
      omega
theorem piece_size (s : ByteArray) (i : Nat) (h : i < (pieces s stroke).length) : (pieces s stroke)[i].size ≤ s.size := by
  have e : dl (pieces s stroke)[i] ∈ cutL (dl s) := by
    rw [← pieces_cut]
    exact List.mem_map_of_mem (List.getElem_mem h)
  have hj := join_cut (dl s)
  rw [← dl_len, ← dl_len s]
  have key : ∀ (l : List (List UInt8)) (x : List UInt8), x ∈ l → x.length ≤ (Lib.join l [47]).length := by
    intro l x hx
    cases l with
    | nil => cases hx
    | cons a r =>
      rw [Lib.join_length]
      have := lens_mem (a :: r) x hx
      omega
  have := key _ _ e
  rwa [hj] at this
theorem drop_dl (l : List ByteArray) (i : Nat) (h : i < l.length) : (l.map dl).drop i = dl l[i] :: (l.map dl).drop (i + 1) := by
  rw [List.drop_eq_getElem_cons (by simpa using h)]
  simp
theorem drop_end (l : List ByteArray) (i : Nat) (h : l.length ≤ i) : (l.map dl).drop i = [] := List.drop_of_length_le (by simpa using h)
theorem drop_last (l : List ByteArray) (i : Nat) (h : i < l.length) : ((l.map dl).drop (i + 1)).isEmpty = decide (i + 1 = l.length) := by
  by_cases e : i + 1 = l.length
  · rw [drop_end l (i + 1) (by omega), decide_eq_true e]; rfl
  · rw [drop_dl l (i + 1) (by omega), decide_eq_false e]; rfl
theorem levelOk_eq (x : ByteArray) (last : Bool) (hs : x.size ≤ 1073741824) : impl_levelOk.f x last = some (levelL (dl x) last) := by
  unfold impl_levelOk.f levelL
  rw [containsAny_eq x hs]
  simp only [Option.bind_some, Lib.toList_data]
  by_cases q : wildL (dl x) = true
  · rw [if_pos q, q]
    by_cases a : dl x = [43]
    · rw [if_pos a, a]; rfl
    · rw [if_neg a]
      have a' : (dl x == [43]) = false := beq_eq_false_iff_ne.2 a
      rw [a']
      by_cases b : dl x = [35]
      · rw [if_pos b, b]
        cases last <;> rfl
      · rw [if_neg b]
        have b' : (dl x == [35]) = false := beq_eq_false_iff_ne.2 b
        rw [b']; rfl
  · rw [if_neg q, Bool.eq_false_iff.2 q]; rfl
theorem implFilter_l (s : ByteArray) (P : List ByteArray) (hs : s.size ≤ 1073741824) (hP : P.length ≤ 1073741825) (hsz : ∀ (i : Nat) (h : i < P.length), P[i].size ≤ 1073741824) : ∀ (d i : Nat), i + d = P.length →
    Ev (fun k => impl_FilterOk.l0 k s P P (P.length : Int) (i : Int)) (allL ((P.map dl).drop i) && textOkP s && !(dl s).isEmpty && decide ((P.length : Int) ≤ 6))
  | 0, i, hd => by
    refine Ev.step (fun k => by rw [impl_FilterOk.l0]) (ev_neg (by omega) ?_)
    rw [drop_end P i (by omega), implTextOk_eq s (by omega), allL, Bool.true_and]
    refine ev_b rfl (ev_ite (fun h => ?_) (fun h => ?_))
    · rw [h, Bool.true_and]
      refine ev_ite (fun e => ?_) (fun e => ?_)
      · rw [(ne_dl s).1 e]; exact Ev.now _
      · rw [Bool.eq_false_iff.2 (fun z => e ((ne_dl s).2 z))]; exact Ev.now _
    · rw [Bool.eq_false_iff.2 h]; exact Ev.now _
  | d + 1, i, hd => by
    have hi : i < P.length := by omega
    refine Ev.step (fun k => by rw [impl_FilterOk.l0]) (ev_pos (by omega) (ev_pos (by omega) (ev_pos (by omega) ?_)))
    rw [rdOf_get hi, w64s (i := i) (n := P.length) hi (by omega), w64 (x := (P.length : Int) - 1) (by omega) (by omega), levelOk_eq _ _ (hsz i hi), drop_dl P i hi, allL, drop_last P i hi]
    have e : (((i : Int) == (P.length : Int) - 1)) = decide (i + 1 = P.length) := by
      by_cases z : i + 1 = P.length
      · rw [decide_eq_true z]; exact beq_iff_eq.2 (by omega)
      · rw [decide_eq_false z]; exact beq_eq_false_iff_ne.2 (by omega)
    rw [e]
    refine ev_b rfl (ev_ite (fun h => ?_) (fun h => ?_))
    · rw [h, Bool.true_and]
      exact implFilter_l s P hs hP hsz d (i + 1) (by omega)
    · rw [Bool.eq_false_iff.2 h]; exact Ev.now _
theorem implFilterOk_ev (s : ByteArray) (hs : s.size ≤ 1073741824) : Ev (fun k => impl_FilterOk.f k s) (filterL s) := by
  unfold impl_FilterOk.f
  have hl := pieces_length s
  refine ev_b (implLevels_eq s hs) (ev_to (implFilter_l s (pieces s stroke) hs (by omega) (fun i h => by have := piece_size s i h; omega) (pieces s stroke).length 0 (by omega)) ?_)
  unfold filterL
  rw [six, List.drop_zero, pieces_cut]
theorem specFilter_l (s : ByteArray) (P : List ByteArray) (hP : P.length ≤ 1073741825) (hsz : ∀ (i : Nat) (h : i < P.length), P[i].size ≤ 1073741824) : ∀ (d i : Nat), i + d = P.length →
    Ev (fun k => spec_FilterOk.l0 k s P (i : Int)) (allL ((P.map dl).drop i) && textOkP s && !(dl s).isEmpty && decide ((P.length : Int) ≤ 6))
  | 0, i, hd => by
    refine Ev.step (fun k => by rw [spec_FilterOk.l0]) (ev_neg (by omega) ?_)
    rw [drop_end P i (by omega), allL, Bool.true_and]
    refine Ev.bind (specTextOk_ev s) (ev_ite (fun h => ?_) (fun h => ?_))
    · rw [h, Bool.true_and]
      refine ev_ite (fun e => ?_) (fun e => ?_)
      · rw [(ne_dl s).1 e]; exact Ev.now _
      · rw [Bool.eq_false_iff.2 (fun z => e ((ne_dl s).2 z))]; exact Ev.now _
    · rw [Bool.eq_false_iff.2 h]; exact Ev.now _
  | d + 1, i, hd => by
    have hi : i < P.length := by omega
    have ih := specFilter_l s P hP hsz d (i + 1) (by omega)
    refine Ev.step (fun k => by rw [spec_FilterOk.l0]) (ev_pos (by omega) (ev_pos (by omega) ?_))
    rw [rdOf_get hi, w64s (i := i) (n := P.length) hi (by omega), w64 (x := (P.length : Int) - 1) (by omega) (by omega), drop_dl P i hi, allL, drop_last P i hi]
    simp only [Lib.toList_data]
    refine Ev.bind (has43_ev _ (hsz i hi)) ?_
    unfold levelL wildL
    by_cases a : (dl P[i]).contains 43 = true
    · refine ev_pos a ?_
      by_cases b : dl P[i] = [43]
      · refine ev_pos b (Ev.bind (has35_ev _ (hsz i hi)) ?_)
        rw [b]
        exact ev_neg (by decide) ih
      · refine ev_neg b (ev_some ?_)
        have b' : (dl P[i] == [43]) = false := beq_eq_false_iff_ne.2 b
        have c' : (dl P[i] == [35]) = false := beq_eq_false_iff_ne.2 (fun c => by rw [c] at a; exact absurd a (by decide))
        rw [a, b', c']; rfl
    · refine ev_neg a (Ev.bind (has35_ev _ (hsz i hi)) ?_)
      rw [Bool.eq_false_iff.2 a]
      by_cases c : (dl P[i]).contains 35 = true
      · have b' : (dl P[i] == [43]) = false := beq_eq_false_iff_ne.2 (fun b => by rw [b] at a; exact absurd rfl a)
        refine ev_pos c (ev_ite (fun e => ?_) (fun e => ?_))
        · have e' : (dl P[i] == [35]) = true := beq_iff_eq.2 e
          rw [c, b', e']
          by_cases z : i + 1 = P.length
          · refine ev_neg (by omega) (ev_to ih ?_)
            rw [decide_eq_true z]
            rfl
          · refine ev_pos (by omega) (ev_some ?_)
            rw [decide_eq_false z]
            rfl
        · have e' : (dl P[i] == [35]) = false := beq_eq_false_iff_ne.2 e
          rw [c, b', e']
          exact Ev.now _
      · rw [Bool.eq_false_iff.2 c]
        exact ev_neg (by simp) ih
theorem specFilterOk_ev (s : ByteArray) (hs : s.size ≤ 1073741824) : Ev (fun k => spec_FilterOk.f k s) (filterL s) := by
  unfold spec_FilterOk.f
  have hl := pieces_length s
  refine Ev.bind (specLevels_ev s hs) (ev_to (specFilter_l s (pieces s stroke) (by omega) (fun i h => by have := piece_size s i h; omega) (pieces s stroke).length 0 (by omega)) ?_)
  unfold filterL
  rw [six, List.drop_zero, pieces_cut]
end Go.Proofs.YtggokdobijhdhaaDoor.Pure
end
section
/- Trees (Node), in plain Lean: how large, copied, compared; NodeOk on both sides. No program in sight. -/
namespace Go.Proofs.YtggokdobijhdhaaDoor.Pure
open Go.RowKit Go.Proofs.YtggokdobijhdhaaDoor.X Go.Proofs.YtggokdobijhdhaaDoor.P Go.Proofs.YtggokdobijhdhaaDoorW.PrintWords Go.Proofs.YtggokdobijhdhaaDoorW.PrintLast Go.Proofs.YtggokdobijhdhaaDoor.K
set_option linter.unusedVariables false
set_option linter.unusedSimpArgs false
theorem ev_and {f : Nat → Option Bool} {c : Prop} [Decidable c] {R : Bool} (h : c → Ev f R) : Ev (fun n => if c then f n else some false) (decide c && R) :=
  ev_ite (fun a => ev_to (h a) (by simp [a])) (fun a => ev_some (by simp [a]))
theorem ev_nand {f : Nat → Option Bool} {c : Prop} [Decidable c] {R : Bool} (h : ¬ c → Ev f R) : Ev (fun n => if c then some false else f n) (!decide c && R) :=
  ev_ite (fun a => ev_some (by simp [a])) (fun a => ev_to (h a) (by simp [a]))
theorem specIn2_eq (a lo hi : Int) : spec_l1In.f a lo hi = some (decide (lo ≤ a) && decide (a ≤ hi)) := by
  unfold spec_l1In.f
  by_cases h : a ≥ lo
  · rw [if_pos h, decide_eq_true h, Bool.true_and]
  · rw [if_neg h, decide_eq_false h, Bool.false_and]
def nameP (s : ByteArray) : Bool := textOkP s && !(dl s).isEmpty
def okSub (x : SI) : Bool := nameP x.f0 && ((decide (0 ≤ x.f1) && decide (x.f1 ≤ 2)) && decide (x.f2 ≥ 0))
def subRise (l : List SI) (i : Nat) : Bool := decide (i = 0) || Op.bytesLess (rd_T86 l ((i : Int) - 1)).f0.toList (rd_T86 l (i : Int)).f0.toList
/-- From place i on all are right. -/
def subFrom (l : List SI) : Nat → Nat → Bool
  | 0, _ => true
  | d + 1, i => okSub (rd_T86 l (i : Int)) && (subRise l i && subFrom l d (i + 1))
def subsL (l : List SI) : Bool := subFrom l l.length 0
def levelS (x : ByteArray) : Bool := (filterL x && !(dl x).contains 47) || (dl x).isEmpty
def riseP : Option ByteArray → ByteArray → Bool
  | none, _ => true
  | some y, x => Op.bytesLess y.toList x.toList
def prevAt (ns : List ByteArray) (i : Nat) : Option ByteArray := if i = 0 then none else some (rdOf ByteArray.empty ns ((i : Int) - 1))
def hashP (x : ByteArray) : Bool := decide (x.toList = ([35] : List UInt8))
mutual
def okS : Nat → NI → Bool
  | d, ⟨ns, ks, ss⟩ => decide (ns.length = ks.length) && (!(decide (0 < ns.length) && decide (d = 6)) && (subsL ss && okSL d ns none ks))
def okSL : Nat → List ByteArray → Option ByteArray → List NI → Bool
  | d, x :: r, p, k :: q => levelS x && (riseP p x && (!(decide (k.f0.length = 0) && decide (k.f2.length = 0)) && (!(hashP x && !decide (k.f0.length = 0)) && (okS (d + 1) k && okSL d r (some x) q))))
  | _, _, _, _ => true
end
theorem okS_eq (d : Nat) (n : NI) : okS d n = (decide (n.f0.length = n.f1.length) && (!(decide (0 < n.f0.length) && decide (d = 6)) && (subsL n.f2 && okSL d n.f0 none n.f1))) := by
  cases n; rw [okS]
mutual
def txS : Nat → ByteArray → NI → Bool
  | d, a, ⟨ns, ks, ss⟩ => !(decide (0 < d) && (decide (0 < ss.length) && !filterL a)) && txSL d a ns ks
def txSL : Nat → ByteArray → List ByteArray → List NI → Bool
  | d, a, x :: r, k :: q => txS (d + 1) (if 0 < d then (a ++ (⟨#[47]⟩ : ByteArray)) ++ x else x) k && txSL d a r q
  | _, _, _, _ => true
end
theorem txS_eq (d : Nat) (a : ByteArray) (n : NI) : txS d a n = (!(decide (0 < d) && (decide (0 < n.f2.length) && !filterL a)) && txSL d a n.f0 n.f1) := by
  cases n; rw [txS]
theorem has47_ev (s : ByteArray) (hs : s.size ≤ 1073741824) : Ev (fun k => spec_l3Has.f k s 47) ((dl s).contains 47) := by
  unfold spec_l3Has.f
  exact has_l s 47 hs s.size 0 (by omega)
theorem emp_dl (s : ByteArray) : (s.toList == ([] : List UInt8)) = (dl s).isEmpty := by
  rw [Bool.eq_iff_iff, beq_iff_eq]
  exact ne_dl s
theorem specLevel_ev (x : ByteArray) (hs : x.size ≤ 1073741824) : Ev (fun k => spec_l8Level.f k x) (levelS x) := by
  unfold spec_l8Level.f levelS
  refine Ev.bind (specFilterOk_ev x hs) (ev_ite (fun a => ?_) (fun a => ?_))
  · refine Ev.bind (has47_ev x hs) (ev_ite (fun b => ?_) (fun b => ?_))
    · rw [emp_dl]; exact ev_some (by rw [b, Bool.not_true, Bool.and_false, Bool.false_or])
    · exact ev_some (by rw [a, Bool.eq_false_iff.2 b]; rfl)
  · rw [emp_dl]; exact ev_some (by rw [Bool.eq_false_iff.2 a, Bool.false_and, Bool.false_or])
theorem specSubOk_ev (x : SI) : Ev (fun k => spec_l8SubOk.f k x.f0 x.f1 x.f2) (okSub x) := by
  unfold spec_l8SubOk.f okSub nameP
  rw [specIn2_eq]
  refine Ev.bind (specTextOk_ev x.f0) (ev_ite (fun a => ?_) (fun a => ?_))
  · refine ev_ite (fun b => ?_) (fun b => ?_)
    · exact ev_some (by rw [a, (ne_dl _).1 b]; rfl)
    · have b' : (dl x.f0).isEmpty = false := Bool.eq_false_iff.2 (fun z => b ((ne_dl _).2 z))
      rw [a, b', Bool.not_false, Bool.and_true, Bool.true_and]
      refine ev_b rfl (ev_ite (fun c => ?_) (fun c => ?_))
      · rw [c, Bool.true_and]; exact Ev.now _
      · rw [Bool.eq_false_iff.2 c]; exact Ev.now _
  · exact ev_some (by rw [Bool.eq_false_iff.2 a]; rfl)
theorem specSubs_l (ns : List ByteArray) (ks : List NI) (ss : List SI) (deep : Int) (R : Bool) (hl : ss.length ≤ 1073741824) (hR : Ev (fun k => spec_l8Ok.l1 k deep 0 ns ks ss) R) :
    ∀ (d i : Nat), i + d = ss.length → Ev (fun k => spec_l8Ok.l0 k deep (i : Int) ns ks ss) (subFrom ss d i && R)
  | 0, i, hd => by
    refine Ev.step (fun k => by rw [spec_l8Ok.l0]) (ev_neg (by omega) ?_)
    rw [subFrom, Bool.true_and]
    exact hR
  | d + 1, i, hd => by
    have hi : i < ss.length := by omega
    have ih := specSubs_l ns ks ss deep R hl hR d (i + 1) (by omega)
    refine Ev.step (fun k => by rw [spec_l8Ok.l0]) (ev_pos (by omega) (ev_pos (by omega) ?_))
    rw [w64s (i := i) (n := ss.length) hi (by omega), w64 (x := (i : Int) - 1) (by omega) (by omega)]
    unfold subFrom subRise
    refine Ev.bind (specSubOk_ev _) (ev_ite (fun a => ?_) (fun a => ?_))
    · rw [a, Bool.true_and]
      by_cases z : i = 0
      · refine ev_neg (by omega) (ev_to ih ?_)
        rw [decide_eq_true z]; rfl
      · refine ev_pos (by omega) (ev_pos (by omega) (ev_pos (by omega) ?_))
        rw [decide_eq_false z, Bool.false_or]
        refine ev_ite (fun e => ?_) (fun e => ?_)
        · rw [e, Bool.true_and]; exact ih
        · rw [Bool.eq_false_iff.2 e]; exact Ev.now _
    · rw [Bool.eq_false_iff.2 a]; exact Ev.now _
theorem prevAt_succ (ns : List ByteArray) (i : Nat) (h : i < ns.length) : prevAt ns (i + 1) = some ns[i] := by
  unfold prevAt
  rw [if_neg (by omega), show (((i + 1 : Nat) : Int) - 1) = (i : Int) by omega, strAt h]
theorem specKids_l (ns : List ByteArray) (ks : List NI) (ss : List SI) (d : Nat) (hd6 : d < 6) (hl : ns.length ≤ 1048576) (he : ns.length = ks.length) (hz : ∀ x ∈ ns, x.size ≤ 1048576)
    (ih : ∀ k ∈ ks, Ev (fun r => spec_l8Ok.f r k.f0 k.f1 k.f2 ((d + 1 : Nat) : Int)) (okS (d + 1) k)) :
    ∀ (n i : Nat), i + n = ns.length → Ev (fun k => spec_l8Ok.l1 k (d : Int) (i : Int) ns ks ss) (okSL d (ns.drop i) (prevAt ns i) (ks.drop i))
  | 0, i, hn => by
    refine Ev.step (fun k => by rw [spec_l8Ok.l1]) (ev_neg (by omega) (ev_some ?_))
    rw [List.drop_of_length_le (by omega)]
    rw [okSL]
    intro x1 x2 x3 x4 e
    cases e
  | n + 1, i, hn => by
    have hi : i < ns.length := by omega
    have hk : i < ks.length := by omega
    have ih2 := specKids_l ns ks ss d hd6 hl he hz ih n (i + 1) (by omega)
    have ihk := ih ks[i] (List.getElem_mem hk)
    have hx := hz ns[i] (List.getElem_mem hi)
    refine Ev.step (fun k => by rw [spec_l8Ok.l1]) (ev_pos (by omega) (ev_pos (by omega) (ev_pos (by omega) ?_)))
    rw [w64s (i := i) (n := ns.length) hi (by omega), w64 (x := (i : Int) - 1) (by omega) (by omega), rdIN hk, w64 (x := (d : Int) + 1) (by omega) (by omega)]
    have hp := strAt hi
    rw [List.drop_eq_getElem_cons hi, List.drop_eq_getElem_cons hk, okSL]
    rw [prevAt_succ ns i hi] at ih2
    have hC : Ev (fun r => (spec_l8Ok.f r ks[i].f0 ks[i].f1 ks[i].f2 ((d : Int) + 1)).bind fun t => if t = true then spec_l8Ok.l1 r (d : Int) ((i + 1 : Nat) : Int) ns ks ss else some false) (okS (d + 1) ks[i] && okSL d (ns.drop (i + 1)) (some ns[i]) (ks.drop (i + 1))) := by
      refine Ev.bind ihk (ev_to (ev_and (fun _ => ih2)) ?_)
      rw [Bool.decide_eq_true]
    have hN : ∀ k : NI, ((k.f0.length : Int) = 0) = (k.f0.length = 0) := fun k => by rw [← Int.natCast_zero, Int.natCast_inj]
    have hN2 : ∀ k : NI, ((k.f2.length : Int) = 0) = (k.f2.length = 0) := fun k => by rw [← Int.natCast_zero, Int.natCast_inj]
    simp only [hp]
    generalize hV : (okS (d + 1) ks[i] && okSL d (ns.drop (i + 1)) (some ns[i]) (ks.drop (i + 1))) = V at hC ⊢
    have hT : Ev (fun r => if ns[i].toList = ([35] : List UInt8) then (if (ks[i].f0.length : Int) > 0 then some false else (spec_l8Ok.f r ks[i].f0 ks[i].f1 ks[i].f2 ((d : Int) + 1)).bind fun t => if t = true then spec_l8Ok.l1 r (d : Int) ((i + 1 : Nat) : Int) ns ks ss else some false) else (spec_l8Ok.f r ks[i].f0 ks[i].f1 ks[i].f2 ((d : Int) + 1)).bind fun t => if t = true then spec_l8Ok.l1 r (d : Int) ((i + 1 : Nat) : Int) ns ks ss else some false)
        (!(hashP ns[i] && !decide (ks[i].f0.length = 0)) && V) := by
      unfold hashP
      refine ev_ite (fun a => ev_ite (fun b => ev_some ?_) (fun b => ev_to hC ?_)) (fun a => ev_to hC ?_)
      · have : ¬ ks[i].f0.length = 0 := by omega
        simp [a, this]
      · have : ks[i].f0.length = 0 := by omega
        simp [this]
      · simp [a]
    generalize hW : (!(hashP ns[i] && !decide (ks[i].f0.length = 0)) && V) = W at hT ⊢
    have hU : Ev (fun r => if (ks[i].f0.length : Int) = 0 then (if (ks[i].f2.length : Int) = 0 then some false else (if ns[i].toList = ([35] : List UInt8) then (if (ks[i].f0.length : Int) > 0 then some false else (spec_l8Ok.f r ks[i].f0 ks[i].f1 ks[i].f2 ((d : Int) + 1)).bind fun t => if t = true then spec_l8Ok.l1 r (d : Int) ((i + 1 : Nat) : Int) ns ks ss else some false) else (spec_l8Ok.f r ks[i].f0 ks[i].f1 ks[i].f2 ((d : Int) + 1)).bind fun t => if t = true then spec_l8Ok.l1 r (d : Int) ((i + 1 : Nat) : Int) ns ks ss else some false)) else (if ns[i].toList = ([35] : List UInt8) then (if (ks[i].f0.length : Int) > 0 then some false else (spec_l8Ok.f r ks[i].f0 ks[i].f1 ks[i].f2 ((d : Int) + 1)).bind fun t => if t = true then spec_l8Ok.l1 r (d : Int) ((i + 1 : Nat) : Int) ns ks ss else some false) else (spec_l8Ok.f r ks[i].f0 ks[i].f1 ks[i].f2 ((d : Int) + 1)).bind fun t => if t = true then spec_l8Ok.l1 r (d : Int) ((i + 1 : Nat) : Int) ns ks ss else some false))
        (!(decide (ks[i].f0.length = 0) && decide (ks[i].f2.length = 0)) && W) := by
      refine ev_ite (fun a => ev_ite (fun b => ev_some ?_) (fun b => ev_to hT ?_)) (fun a => ev_to hT ?_)
      · rw [hN] at a
        rw [hN2] at b
        simp [a, b]
      · rw [hN2] at b
        simp [b]
      · rw [hN] at a
        simp [a]
    generalize hY : (!(decide (ks[i].f0.length = 0) && decide (ks[i].f2.length = 0)) && W) = Y at hU ⊢
    refine Ev.bind (specLevel_ev ns[i] (by omega)) (ev_ite (fun a => ?_) (fun a => ?_))
    · rw [a, Bool.true_and]
      by_cases z : i = 0
      · refine ev_neg (by omega) (ev_to hU ?_)
        unfold prevAt
        rw [if_pos z]
        simp [riseP]
      · refine ev_pos (by omega) (ev_pos (by omega) (ev_pos (by omega) ?_))
        unfold prevAt
        rw [if_neg z]
        refine ev_to (ev_and (fun _ => hU)) ?_
        rw [Bool.decide_eq_true]
        rfl
    · rw [Bool.eq_false_iff.2 a]; exact Ev.now _
theorem specOk_ev {n : NI} (hn : Bd n) : ∀ d : Nat, d ≤ 6 → Ev (fun k => spec_l8Ok.f k n.f0 n.f1 n.f2 (d : Int)) (okS d n) := by
  induction hn with
  | mk n h0 z0 h1 h2 z2 hk ih =>
    intro d hd
    rw [okS_eq]
    have bad : ∀ R : Bool, R = false → Ev (fun k => spec_l8Ok.j0 k (d : Int) true n.f0 n.f1 n.f2) R := fun R e =>
      Ev.step (fun k => by rw [spec_l8Ok.j0]) (ev_pos rfl (ev_some e.symm))
    by_cases e : n.f0.length = n.f1.length
    · have good : (n.f0.length = 0 ∨ d < 6) → Ev (fun k => spec_l8Ok.j0 k (d : Int) false n.f0 n.f1 n.f2) (subsL n.f2 && okSL d n.f0 none n.f1) := by
        intro hc
        refine Ev.step (fun k => by rw [spec_l8Ok.j0]) (ev_neg (by simp) ?_)
        refine specSubs_l n.f0 n.f1 n.f2 (d : Int) (okSL d n.f0 none n.f1) (by omega) ?_ n.f2.length 0 (by omega)
        rcases hc with hc | hc
        · refine Ev.step (fun k => by rw [spec_l8Ok.l1]) (ev_neg (by omega) (ev_some ?_))
          rw [List.length_eq_zero_iff.1 hc, okSL]
          intro x1 x2 x3 x4 e
          cases e
        · exact specKids_l n.f0 n.f1 n.f2 d hc h0 e z0 (fun k hk2 => ih k hk2 (d + 1) (by omega)) n.f0.length 0 (by omega)
      refine Ev.step (fun k => by rw [spec_l8Ok.f]) (ev_pos (by omega) (ev_ite (fun a => ?_) (fun a => ?_)))
      · by_cases q : d = 6
        · have : ((d : Int) == 6) = true := by rw [q]; rfl
          rw [this]
          refine bad _ ?_
          rw [decide_eq_true e, decide_eq_true q, decide_eq_true (by omega : 0 < n.f0.length)]
          rfl
        · have : ((d : Int) == 6) = false := beq_eq_false_iff_ne.2 (by omega)
          rw [this]
          refine ev_to (good (.inr (by omega))) ?_
          rw [decide_eq_true e, decide_eq_false q, Bool.and_false, Bool.not_false, Bool.true_and, Bool.true_and]
      · refine ev_to (good (.inl (by omega))) ?_
        rw [decide_eq_true e, decide_eq_false (by omega : ¬ 0 < n.f0.length), Bool.false_and, Bool.not_false, Bool.true_and, Bool.true_and]
    · refine Ev.step (fun k => by rw [spec_l8Ok.f]) (ev_neg (by omega) (bad _ ?_))
      rw [decide_eq_false e, Bool.false_and]
end Go.Proofs.YtggokdobijhdhaaDoor.Pure
end
section
/- Texts that are right, piece by piece: a text with a stroke in it is right just where both parts are. No program in sight. -/
namespace Go.Proofs.YtggokdobijhdhaaDoor.Pure
open Go.RowKit Go.Proofs.YtggokdobijhdhaaDoor.X Go.Proofs.YtggokdobijhdhaaDoorW.PrintWords Go.Proofs.YtggokdobijhdhaaDoorW.PrintLast Go.Proofs.YtggokdobijhdhaaDoor.K
set_option linter.unusedVariables false
set_option linter.unusedSimpArgs false
theorem accLo_ge (b : Nat) (h : Lib.firstT b % 8 = 2 ∨ Lib.firstT b % 8 = 3 ∨ Lib.firstT b % 8 = 4) : 128 ≤ Lib.accLo (Lib.firstT b / 16) := by
  unfold Lib.firstT at h ⊢
  unfold Lib.accLo
  repeat' split at h
  all_goals first | (exfalso; omega) | (simp [*]; done) | (simp [*]; omega)
theorem app_at (a b : List UInt8) (i : Nat) (h : i < a.length) : (a ++ 47 :: b).getD i 0 = a.getD i 0 := by
  rw [List.getD_eq_getElem?_getD, List.getD_eq_getElem?_getD, List.getElem?_append_left h]
theorem app_is (a b : List UInt8) (i : Nat) (h : i = a.length) : (a ++ 47 :: b).getD i 0 = 47 := by
  subst h
  rw [List.getD_eq_getElem?_getD, List.getElem?_append_right (Nat.le_refl _)]
  simp
theorem drop_app (a b : List UInt8) (k : Nat) (h : k ≤ a.length) : (a ++ 47 :: b).drop k = a.drop k ++ 47 :: b := List.drop_append_of_le_length h
/-- What the tables ask of the bytes behind a lead is met by none that is a stroke. -/
theorem check_cut (a b : List UInt8) (h0 : 0 < a.length) (sz lo hi k : Nat) (hlo : sz = 2 ∨ sz = 3 ∨ sz = 4 → 128 ≤ lo)
    (h : Lib.checkN (a ++ 47 :: b).length ((a ++ 47 :: b).getD 1 0).toNat ((a ++ 47 :: b).getD 2 0).toNat ((a ++ 47 :: b).getD 3 0).toNat sz lo hi = some k) :
    k ≤ a.length ∧ 1 ≤ k ∧ Lib.checkN a.length (a.getD 1 0).toNat (a.getD 2 0).toNat (a.getD 3 0).toNat sz lo hi = some k := by
  have e47 : (47 : UInt8).toNat = 47 := rfl
  have at1 : a.length = 1 → ((a ++ 47 :: b).getD 1 0).toNat = 47 := fun e => by rw [app_is a b 1 e.symm]; rfl
  have at2 : a.length = 2 → ((a ++ 47 :: b).getD 2 0).toNat = 47 := fun e => by rw [app_is a b 2 e.symm]; rfl
  have at3 : a.length = 3 → ((a ++ 47 :: b).getD 3 0).toNat = 47 := fun e => by rw [app_is a b 3 e.symm]; rfl
  have in1 : 1 < a.length → (a ++ 47 :: b).getD 1 0 = a.getD 1 0 := fun e => app_at a b 1 e
  have in2 : 2 < a.length → (a ++ 47 :: b).getD 2 0 = a.getD 2 0 := fun e => app_at a b 2 e
  have in3 : 3 < a.length → (a ++ 47 :: b).getD 3 0 = a.getD 3 0 := fun e => app_at a b 3 e
  unfold Lib.checkN at h ⊢
  by_cases c1 : sz = 2
  · have hlo := hlo (.inl c1)
    rw [if_pos c1] at h ⊢
    split at h
    · cases h
    · rename_i q
      obtain rfl : k = 2 := by injection h with h; exact h.symm
      have l1 : a.length ≠ 1 := fun e => by have := at1 e; omega
      have := in1 (by omega)
      rw [this] at q
      refine ⟨by omega, by omega, ?_⟩
      rw [if_neg (by omega)]
  rw [if_neg c1] at h ⊢
  by_cases c2 : sz = 3
  · have hlo := hlo (.inr (.inl c2))
    rw [if_pos c2] at h ⊢
    split at h
    · cases h
    · rename_i q
      obtain rfl : k = 3 := by injection h with h; exact h.symm
      have l1 : a.length ≠ 1 := fun e => by have := at1 e; omega
      have l2 : a.length ≠ 2 := fun e => by have := at2 e; omega
      have e1 := in1 (by omega)
      have e2 := in2 (by omega)
      rw [e1, e2] at q
      refine ⟨by omega, by omega, ?_⟩
      rw [if_neg (by omega)]
  rw [if_neg c2] at h ⊢
  by_cases c3 : sz = 4
  · have hlo := hlo (.inr (.inr c3))
    rw [if_pos c3] at h ⊢
    split at h
    · cases h
    · rename_i q
      obtain rfl : k = 4 := by injection h with h; exact h.symm
      have l1 : a.length ≠ 1 := fun e => by have := at1 e; omega
      have l2 : a.length ≠ 2 := fun e => by have := at2 e; omega
      have l3 : a.length ≠ 3 := fun e => by have := at3 e; omega
      have e1 := in1 (by omega)
      have e2 := in2 (by omega)
      have e3 := in3 (by omega)
      rw [e1, e2, e3] at q
      refine ⟨by omega, by omega, ?_⟩
      rw [if_neg (by omega)]
  · rw [if_neg c3] at h
    cases h
theorem valid_cut : ∀ (n : Nat) (a b : List UInt8), a.length ≤ n → Lib.validD (a ++ 47 :: b) = true → Lib.validD a = true ∧ Lib.validD b = true
  | n, [], b, _, h => ⟨rfl, by rw [← Lib.validD_cons 47 b (by decide)]; exact h⟩
  | 0, x :: t, b, hn, h => by simp at hn
  | n + 1, x :: t, b, hn, h => by
    have hn' : t.length ≤ n := by simpa using hn
    by_cases hx : x.toNat < 128
    · rw [List.cons_append, Lib.validD_cons x _ hx] at h
      rw [Lib.validD_cons x t hx]
      exact valid_cut n t b hn' h
    · have h128 : 128 ≤ (((x :: t) ++ 47 :: b).getD 0 0).toNat := by show 128 ≤ x.toNat; omega
      have h128' : 128 ≤ ((x :: t).getD 0 0).toNat := by show 128 ≤ x.toNat; omega
      have hg : ((x :: t) ++ 47 :: b).getD 0 0 = (x :: t).getD 0 0 := rfl
      rw [Lib.validD_lead _ (by simp) h128, hg] at h
      split at h
      · cases h
      · rename_i k hk
        obtain ⟨hk1, hk2, hk3⟩ := check_cut (x :: t) b (by simp) _ _ _ k (accLo_ge _) hk
        rw [drop_app _ _ _ hk1] at h
        have hl : ((x :: t).drop k).length ≤ n := by rw [List.length_drop, List.length_cons]; omega
        obtain ⟨i1, i2⟩ := valid_cut n ((x :: t).drop k) b hl h
        refine ⟨?_, i2⟩
        rw [Lib.validD_lead _ (by simp) h128', hk3]
        exact i1
end Go.Proofs.YtggokdobijhdhaaDoor.Pure
end
section
/- Texts that are right, piece by piece: a text with a stroke in it is right just where both parts are. No program in sight. -/
namespace Go.Proofs.YtggokdobijhdhaaDoor.Pure
open Go.RowKit Go.Proofs.YtggokdobijhdhaaDoor.X Go.Proofs.YtggokdobijhdhaaDoorW.PrintWords Go.Proofs.YtggokdobijhdhaaDoorW.PrintLast Go.Proofs.YtggokdobijhdhaaDoor.K
set_option linter.unusedVariables false
set_option linter.unusedSimpArgs false
theorem dec_zero (n b0 b1 b2 b3 : Nat) : (Lib.decodeN n b0 b1 b2 b3).1 = 0 ↔ b0 = 0 := by
  unfold Lib.decodeN
  repeat' split
  all_goals first | (simp only []; omega) | (constructor <;> intro h <;> first | omega | (simp at h; omega))
theorem dec_tail (n b0 b1 b2 b3 : Nat) : 1 ≤ (Lib.decodeN n b0 b1 b2 b3).2 ∧ (Lib.decodeN n b0 b1 b2 b3).2 ≤ 4 ∧ (2 ≤ (Lib.decodeN n b0 b1 b2 b3).2 → 128 ≤ b1) ∧ (3 ≤ (Lib.decodeN n b0 b1 b2 b3).2 → 128 ≤ b2) ∧ (4 ≤ (Lib.decodeN n b0 b1 b2 b3).2 → 128 ≤ b3) := by
  unfold Lib.decodeN
  repeat' split
  all_goals (refine ⟨?_, ?_, ?_, ?_, ?_⟩ <;> simp only [] <;> omega)
theorem noZero_iff (s : ByteArray) : ∀ (b pos : Nat), s.size ≤ pos + b → (noZero s b pos = true ↔ ∀ j, pos ≤ j → j < s.size → (s.get! j).toNat ≠ 0)
  | 0, pos, h => by
    constructor
    · intro _ j h1 h2
      omega
    · intro _
      rfl
  | b + 1, pos, h => by
    unfold noZero
    by_cases hp : pos < s.size
    · rw [if_pos hp]
      have e := Lib.decode_at s pos
      have hz := dec_zero (s.size - pos) (s.get! pos).toNat (s.get! (pos + 1)).toNat (s.get! (pos + 2)).toNat (s.get! (pos + 3)).toNat
      obtain ⟨w1, w4, t1, t2, t3⟩ := dec_tail (s.size - pos) (s.get! pos).toNat (s.get! (pos + 1)).toNat (s.get! (pos + 2)).toNat (s.get! (pos + 3)).toNat
      rw [← e] at hz w1 w4 t1 t2 t3
      by_cases h0 : (Utf8.decode s pos).1 = 0
      · rw [if_pos h0]
        constructor
        · intro q
          cases q
        · intro q
          exact absurd (hz.1 h0) (q pos (Nat.le_refl _) hp)
      · rw [if_neg h0, noZero_iff s b _ (by omega)]
        constructor
        · intro q j h1 h2
          by_cases hj : pos + (Utf8.decode s pos).2 ≤ j
          · exact q j hj h2
          · have : j = pos ∨ j = pos + 1 ∨ j = pos + 2 ∨ j = pos + 3 := by omega
            rcases this with rfl | rfl | rfl | rfl
            · exact fun hh => h0 (hz.2 hh)
            · have := t1 (by omega); omega
            · have := t2 (by omega); omega
            · have := t3 (by omega); omega
        · intro q j h1 h2
          exact q j (by omega) h2
    · rw [if_neg hp]
      constructor
      · intro _ j h1 h2
        omega
      · intro _
        rfl
end Go.Proofs.YtggokdobijhdhaaDoor.Pure
end
section
/- Texts that are right, piece by piece: a text with a stroke in it is right just where both parts are. No program in sight. -/
namespace Go.Proofs.YtggokdobijhdhaaDoor.Pure
open Go.RowKit Go.Proofs.YtggokdobijhdhaaDoor.X Go.Proofs.YtggokdobijhdhaaDoorW.PrintWords Go.Proofs.YtggokdobijhdhaaDoorW.PrintLast Go.Proofs.YtggokdobijhdhaaDoor.K
set_option linter.unusedVariables false
set_option linter.unusedSimpArgs false
theorem tail_cons (y : List UInt8) (r : List (List UInt8)) : Lib.joinTail [47] (y :: r) = 47 :: (y ++ Lib.joinTail [47] r) := by simp [Lib.joinTail]
theorem join_valid : ∀ (t : List (List UInt8)) (x : List UInt8), Lib.validD (x ++ Lib.joinTail [47] t) = true → ∀ y ∈ x :: t, Lib.validD y = true
  | [], x, h, y, hy => by
    have : y = x := by simpa using hy
    subst this
    simpa [Lib.joinTail] using h
  | z :: t, x, h, y, hy => by
    rw [tail_cons] at h
    obtain ⟨h1, h2⟩ := valid_cut _ x _ (Nat.le_refl _) h
    rcases List.mem_cons.1 hy with rfl | hy
    · exact h1
    · exact join_valid t z h2 y hy
theorem join_mem : ∀ (t : List (List UInt8)) (x : List UInt8) (b : UInt8), ∀ y ∈ x :: t, b ∈ y → b ∈ x ++ Lib.joinTail [47] t
  | [], x, b, y, hy, hb => by
    have : y = x := by simpa using hy
    subst this
    simp [hb]
  | z :: t, x, b, y, hy, hb => by
    rw [tail_cons]
    rcases List.mem_cons.1 hy with rfl | hy
    · simp [hb]
    · have := join_mem t z b y hy hb
      simp only [List.mem_append, List.mem_cons] at this ⊢
      exact .inr (.inr this)
theorem join_size : ∀ (t : List (List UInt8)) (x : List UInt8), ∀ y ∈ x :: t, y.length ≤ (x ++ Lib.joinTail [47] t).length
  | [], x, y, hy => by
    have : y = x := by simpa using hy
    subst this
    simp
  | z :: t, x, y, hy => by
    rw [tail_cons]
    rcases List.mem_cons.1 hy with rfl | hy
    · simp
    · have := join_size t z y hy
      simp only [List.length_append, List.length_cons] at this ⊢
      omega
theorem textOk_iff (s : ByteArray) : textOkP s = true ↔ (0 : UInt8) ∉ dl s ∧ Lib.validD (dl s) = true ∧ s.size ≤ 60 := by
  unfold textOkP
  rw [Bool.and_eq_true, Bool.and_eq_true, decide_eq_true_eq, noZero_iff s s.size 0 (by omega)]
  have e : (∀ j, 0 ≤ j → j < s.size → (s.get! j).toNat ≠ 0) ↔ (0 : UInt8) ∉ dl s := by
    have g : ∀ (j : Nat) (h : j < (dl s).length), s.get! j = (dl s)[j] := by
      intro j h
      have h2 : j < s.data.size := by rw [dl_len] at h; exact h
      show s.data[j]! = _
      rw [getElem!_pos s.data j h2]
      rfl
    constructor
    · intro h m
      obtain ⟨j, hj, e⟩ := List.mem_iff_getElem.1 m
      refine h j (Nat.zero_le _) (by rw [dl_len] at hj; exact hj) ?_
      rw [g j hj, e]
      rfl
    · intro h j _ hj hz
      have hj' : j < (dl s).length := by rw [dl_len]; exact hj
      rw [g j hj'] at hz
      refine h ?_
      have : (dl s)[j] = 0 := UInt8.toNat_inj.1 hz
      rw [← this]
      exact List.getElem_mem hj'
  rw [e]
/-- Levels that lead somewhere, told as one text. -/
def joinB (p : List ByteArray) : ByteArray := ⟨(Lib.join (p.map dl) [47]).toArray⟩
theorem dl_joinB (p : List ByteArray) : dl (joinB p) = Lib.join (p.map dl) [47] := rfl
theorem joinB_size (p : List ByteArray) : (joinB p).size = (Lib.join (p.map dl) [47]).length := by rw [← dl_len, dl_joinB]
/-- The parts of a text that is right are right. -/
theorem textOk_parts (p : List ByteArray) (h : textOkP (joinB p) = true) : ∀ x ∈ p, textOkP x = true := by
  intro x hx
  obtain ⟨h1, h2, h3⟩ := (textOk_iff _).1 h
  cases p with
  | nil => cases hx
  | cons y t =>
    rw [dl_joinB, List.map_cons, Lib.join_cons] at h1 h2
    rw [joinB_size, List.map_cons, Lib.join_cons] at h3
    have hm : dl x ∈ dl y :: t.map dl := by rw [← List.map_cons]; exact List.mem_map_of_mem hx
    refine (textOk_iff x).2 ⟨fun m => h1 (join_mem _ _ 0 _ hm m), join_valid _ _ h2 _ hm, ?_⟩
    have := join_size (t.map dl) (dl y) _ hm
    rw [dl_len] at this
    omega
theorem joinB_one (x : ByteArray) : joinB [x] = x := by
  refine Go.WideShapes.bytes_inj ?_
  show dl (joinB [x]) = dl x
  rw [dl_joinB]
  exact Lib.join_one _ _
theorem joinB_snoc (p : List ByteArray) (hp : p ≠ []) (x : ByteArray) : joinB (p ++ [x]) = (joinB p ++ (⟨#[47]⟩ : ByteArray)) ++ x := by
  refine Go.WideShapes.bytes_inj ?_
  show dl (joinB (p ++ [x])) = dl ((joinB p ++ (⟨#[47]⟩ : ByteArray)) ++ x)
  have ap : ∀ a b : ByteArray, dl (a ++ b) = dl a ++ dl b := fun a b => by
    unfold dl
    rw [ByteArray.data_append, Array.toList_append]
  rw [ap, ap, dl_joinB, dl_joinB]
  cases p with
  | nil => exact absurd rfl hp
  | cons y t =>
    rw [List.cons_append, List.map_cons, List.map_append, Lib.join_cons, show (y :: t).map dl = dl y :: t.map dl from rfl, Lib.join_cons]
    have e : ∀ l : List (List UInt8), Lib.joinTail [47] (l ++ [dl x]) = Lib.joinTail [47] l ++ [47] ++ dl x := fun l => by simp [Lib.joinTail]
    show dl y ++ Lib.joinTail [47] (t.map dl ++ [dl x]) = _
    rw [e]
    simp [List.append_assoc]
    rfl
theorem joinB_le (m : Nat) : ∀ (p : List ByteArray), (∀ x ∈ p, x.size ≤ m) → (joinB p).size ≤ p.length * (m + 1) := by
  intro p h
  rw [joinB_size]
  cases p with
  | nil => simp [Lib.join_nil]
  | cons y t =>
    have aux : ∀ (t : List ByteArray), (∀ x ∈ t, x.size ≤ m) → (Lib.joinTail [47] (t.map dl)).length ≤ t.length * (m + 1) := by
      intro t
      induction t with
      | nil => intro _; simp [Lib.joinTail]
      | cons z t ih =>
        intro h
        have h1 := h z List.mem_cons_self
        have h2 := ih (fun x hx => h x (List.mem_cons_of_mem _ hx))
        rw [List.map_cons, tail_cons, List.length_cons, List.length_append, dl_len, List.length_cons, Nat.succ_mul]
        omega
    have h1 := h y List.mem_cons_self
    have h2 := aux t (fun x hx => h x (List.mem_cons_of_mem _ hx))
    rw [List.map_cons, Lib.join_cons, List.length_append, dl_len, List.length_cons, Nat.succ_mul]
    omega
end Go.Proofs.YtggokdobijhdhaaDoor.Pure
end
section
/- Trees (Node), in plain Lean: how large, copied, compared; NodeOk on both sides. No program in sight. -/
namespace Go.Proofs.YtggokdobijhdhaaDoor.Pure
open Go.RowKit Go.Proofs.YtggokdobijhdhaaDoor.X Go.Proofs.YtggokdobijhdhaaDoor.P Go.Proofs.YtggokdobijhdhaaDoorW.PrintWords Go.Proofs.YtggokdobijhdhaaDoorW.PrintLast Go.Proofs.YtggokdobijhdhaaDoor.K
set_option linter.unusedVariables false
set_option linter.unusedSimpArgs false
theorem nameOk_eq (s : ByteArray) (hs : s.size ≤ 1073741824) : impl_nameOk.f s = some (nameP s) := by
  unfold impl_nameOk.f nameP
  rw [implTextOk_eq s (by omega), Option.bind_some]
  by_cases h : textOkP s = true
  · rw [if_pos h, h, Bool.true_and]
    show some (!(s.toList == [])) = _
    rw [emp_dl]
  · rw [if_neg h, Bool.eq_false_iff.2 h]; rfl
theorem implIn2_eq (a lo hi : Int) : impl_within.f a lo hi = some (decide (lo ≤ a) && decide (a ≤ hi)) := by
  unfold impl_within.f
  by_cases h : a ≥ lo
  · rw [if_pos h, decide_eq_true h, Bool.true_and]
  · rw [if_neg h, decide_eq_false h, Bool.false_and]
theorem implSubOk_eq (x : SI) (hs : x.f0.size ≤ 1073741824) : impl_subOk.f x.f0 x.f1 x.f2 = some (okSub x) := by
  unfold impl_subOk.f okSub impl_isQos.f
  rw [nameOk_eq _ hs, Option.bind_some, implIn2_eq, Option.bind_some, Option.bind_some]
  by_cases h : nameP x.f0 = true
  · rw [if_pos h, h, Bool.true_and]
    by_cases g : (decide (0 ≤ x.f1) && decide (x.f1 ≤ 2)) = true
    · rw [if_pos g, g, Bool.true_and]
    · rw [if_neg g, Bool.eq_false_iff.2 g]; rfl
  · rw [if_neg h, Bool.eq_false_iff.2 h]; rfl
theorem implSubs_l (l : List SI) (hl : l.length ≤ 1073741824) (hs : ∀ x ∈ l, x.f0.size ≤ 1073741824) : ∀ (d i : Nat), i + d = l.length → Ev (fun k => impl_subsOk.l0 k l l (l.length : Int) (i : Int)) (subFrom l d i)
  | 0, i, hd => by
    refine Ev.step (fun k => by rw [impl_subsOk.l0]) (ev_neg (by omega) (ev_some ?_))
    rfl
  | d + 1, i, hd => by
    have hi : i < l.length := by omega
    have ih := implSubs_l l hl hs d (i + 1) (by omega)
    have hx := hs _ (List.getElem_mem hi)
    refine Ev.step (fun k => by rw [impl_subsOk.l0]) (ev_pos (by omega) (ev_pos (by omega) (ev_pos (by omega) ?_)))
    rw [w64s (i := i) (n := l.length) hi (by omega), w64 (x := (i : Int) - 1) (by omega) (by omega)]
    unfold subFrom subRise
    have hr := rdIS hi
    rw [← hr] at hx
    refine ev_b (implSubOk_eq _ hx) (ev_ite (fun a => ?_) (fun a => ?_))
    · rw [a, Bool.true_and]
      by_cases z : i = 0
      · refine ev_neg (by omega) (ev_to ih ?_)
        rw [decide_eq_true z]; rfl
      · refine ev_pos (by omega) (ev_pos (by omega) (ev_pos (by omega) ?_))
        rw [decide_eq_false z, Bool.false_or]
        refine ev_ite (fun e => ?_) (fun e => ?_)
        · rw [e, Bool.true_and]; exact ih
        · rw [Bool.eq_false_iff.2 e]; exact Ev.now _
    · rw [Bool.eq_false_iff.2 a]; exact Ev.now _
theorem implSubsOk_ev (l : List SI) (hl : l.length ≤ 1073741824) (hs : ∀ x ∈ l, x.f0.size ≤ 1073741824) : Ev (fun k => impl_subsOk.f k l) (subsL l) := by
  unfold impl_subsOk.f
  exact implSubs_l l hl hs l.length 0 (by omega)
def wayP (x : ByteArray) (k : NI) : Bool := decide ((cutL (dl x)).length ≤ 1) && levelL (dl x) (decide (k.f1.length = 0))
mutual
def okI : List ByteArray → NI → Bool
  | p, ⟨ns, ks, ss⟩ => decide (ns.length = ks.length) && (decide (p.length ≤ 6) && (subsL ss && ((decide (ss.length = 0) || filterL (joinB p)) && okIL p ns none ks)))
def okIL : List ByteArray → List ByteArray → Option ByteArray → List NI → Bool
  | p, x :: r, y, k :: q => riseP y x && (wayP x k && (!(decide (k.f1.length = 0) && decide (k.f2.length = 0)) && (okI (p ++ [x]) k && okIL p r (some x) q)))
  | _, _, _, _ => true
end
theorem okI_eq (p : List ByteArray) (n : NI) : okI p n = (decide (n.f0.length = n.f1.length) && (decide (p.length ≤ 6) && (subsL n.f2 && ((decide (n.f2.length = 0) || filterL (joinB p)) && okIL p n.f0 none n.f1)))) := by
  cases n; rw [okI]
theorem implJoin_eq (p : List ByteArray) (h : p.length ≤ 1048576) (hs : (joinB p).size ≤ 1073741824) : impl_Join.f p = some (joinB p) := by
  unfold impl_Join.f strings_Join.f
  have e1 : (⟨#[47]⟩ : ByteArray).data.toList = [47] := rfl
  rw [joinB_size] at hs
  rw [e1, if_pos ⟨by omega, by show (Lib.join (p.map dl) [47]).length ≤ _; omega⟩]
  rfl
theorem implKids_l (p : List ByteArray) (ns : List ByteArray) (ks : List NI) (ss : List SI) (hp : p.length ≤ 6) (hl : ns.length ≤ 1048576) (hkl : ks.length ≤ 1048576) (he : ns.length = ks.length) (hz : ∀ x ∈ ns, x.size ≤ 1048576) (hk1 : ∀ k ∈ ks, k.f1.length ≤ 1048576 ∧ k.f2.length ≤ 1048576)
    (ih : ∀ (i : Nat) (h : i < ks.length), Ev (fun r => impl_branchOk.f r ks[i].f0 ks[i].f1 ks[i].f2 (p ++ [ns[i]])) (okI (p ++ [ns[i]]) ks[i])) :
    ∀ (n i : Nat), i + n = ns.length → Ev (fun k => impl_branchOk.l0 k p ns (ns.length : Int) (i : Int) ns ks ss) (okIL p (ns.drop i) (prevAt ns i) (ks.drop i))
  | 0, i, hn => by
    refine Ev.step (fun k => by rw [impl_branchOk.l0]) (ev_neg (by omega) (ev_some ?_))
    rw [List.drop_of_length_le (by omega)]
    rw [okIL]
    intro x1 x2 x3 x4 e
    cases e
  | n + 1, i, hn => by
    have hi : i < ns.length := by omega
    have hk : i < ks.length := by omega
    have ih2 := implKids_l p ns ks ss hp hl hkl he hz hk1 ih n (i + 1) (by omega)
    have ihk := ih i hk
    have hx := hz ns[i] (List.getElem_mem hi)
    refine Ev.step (fun k => by rw [impl_branchOk.l0]) (ev_pos (by omega) (ev_pos (by omega) (ev_pos (by omega) (ev_pos (by omega) ?_))))
    rw [w64 (x := (i : Int) - 1) (by omega) (by omega), rdIN hk]
    have hq := strAt hi
    rw [List.drop_eq_getElem_cons hi, List.drop_eq_getElem_cons hk, okIL]
    rw [prevAt_succ ns i hi] at ih2
    have hN : ∀ m : Nat, ((m : Int) = 0) = (m = 0) := fun m => by rw [← Int.natCast_zero, Int.natCast_inj]
    simp only [hq]
    have hC : Ev (fun r => (impl_branchOk.f r ks[i].f0 ks[i].f1 ks[i].f2 (p ++ [ns[i]])).bind fun t => if t = true then impl_branchOk.l0 r p ns (ns.length : Int) (wrap64 ((i : Int) + 1)) ns ks ss else some false) (okI (p ++ [ns[i]]) ks[i] && okIL p (ns.drop (i + 1)) (some ns[i]) (ks.drop (i + 1))) := by
      rw [w64s (i := i) (n := ns.length) hi (by omega)]
      refine Ev.bind ihk (ev_to (ev_and (fun _ => ih2)) ?_)
      rw [Bool.decide_eq_true]
    generalize hV : (okI (p ++ [ns[i]]) ks[i] && okIL p (ns.drop (i + 1)) (some ns[i]) (ks.drop (i + 1))) = V at hC ⊢
    have hj : ∀ b : Bool, Ev (fun k => impl_branchOk.j3 k p ns[i] ns (ns.length : Int) (i : Int) b ns ks ss ks[i].f0 ks[i].f1 ks[i].f2) (!b && (!(decide (ks[i].f1.length = 0) && decide (ks[i].f2.length = 0)) && V)) := by
      intro b
      refine Ev.step (fun k => by rw [impl_branchOk.j3]) ?_
      refine ev_to (ev_nand (R := !(decide (ks[i].f1.length = 0) && decide (ks[i].f2.length = 0)) && V) (fun hb => ?_)) (by rw [Bool.decide_eq_true])
      have hD : Ev (fun k => (some (([] : List ByteArray) : List ByteArray)).bind fun y => if y.length + p.length < 8796093022208 then ((some (y ++ p : List ByteArray)).bind fun y2 => ((some (([ns[i]] : List ByteArray) : List ByteArray)).bind fun y3 => if y2.length + y3.length < 8796093022208 then ((impl_branchOk.f k ks[i].f0 ks[i].f1 ks[i].f2 (y2 ++ y3)).bind fun t => if t = true then impl_branchOk.l0 k p ns (ns.length : Int) (wrap64 ((i : Int) + 1)) ns ks ss else some false) else none)) else none) V := by
        refine ev_bs (ev_pos (by simp only [List.length_nil]; omega) (ev_bs (ev_bs (ev_pos ?_ ?_))))
        · simp only [List.nil_append, List.length_cons, List.length_nil]; omega
        · rw [List.nil_append]; exact hC
      refine ev_ite (fun a => ev_ite (fun c => ev_some ?_) (fun c => ev_to hD ?_)) (fun a => ev_to hD ?_)
      · rw [hN] at a c
        simp [a, c]
      · rw [hN] at c
        simp [c]
      · rw [hN] at a
        simp [a]
    generalize hW : (!(decide (ks[i].f1.length = 0) && decide (ks[i].f2.length = 0)) && V) = W at hj ⊢
    have hk0 : (((ks[i].f1.length : Int) == 0) : Bool) = decide (ks[i].f1.length = 0) := by
      rw [Bool.eq_iff_iff, beq_iff_eq, decide_eq_true_eq, hN]
    have hL : Ev (fun k => (impl_Levels.f ns[i]).bind fun t => if (t.length : Int) > 1 then impl_branchOk.j3 k p ns[i] ns (ns.length : Int) (i : Int) true ns ks ss ks[i].f0 ks[i].f1 ks[i].f2 else ((impl_levelOk.f ns[i] ((ks[i].f1.length : Int) == 0)).bind fun t2 => impl_branchOk.j3 k p ns[i] ns (ns.length : Int) (i : Int) (!t2) ns ks ss ks[i].f0 ks[i].f1 ks[i].f2)) (wayP ns[i] ks[i] && W) := by
      have hc := pieces_len ns[i]
      unfold wayP
      refine ev_b (implLevels_eq ns[i] (by omega)) (ev_ite (fun a => ?_) (fun a => ?_))
      · refine ev_to (hj true) ?_
        rw [show decide ((cutL (dl ns[i])).length ≤ 1) = false from decide_eq_false (by omega)]
        rfl
      · rw [hk0]
        refine ev_b (levelOk_eq ns[i] _ (by omega)) (ev_to (hj _) ?_)
        rw [show decide ((cutL (dl ns[i])).length ≤ 1) = true from decide_eq_true (by omega), Bool.not_not, Bool.true_and]
    by_cases z : i = 0
    · refine ev_neg (by omega) (ev_to hL ?_)
      unfold prevAt
      rw [if_pos z]
      simp [riseP]
    · refine ev_pos (by omega) (ev_pos (by omega) (ev_pos (by omega) ?_))
      unfold prevAt
      rw [if_neg z]
      refine ev_ite (fun a => ev_to hL ?_) (fun a => ev_to (hj true) ?_)
      · simp [riseP, a]
      · simp [riseP, a]
theorem bd_len {n : NI} (h : Bd n) : n.f1.length ≤ 1048576 ∧ n.f2.length ≤ 1048576 := by
  cases h with
  | mk _ h0 z0 h1 h2 z2 hk => exact ⟨h1, h2⟩
theorem implOk_ev {n : NI} (hn : Bd n) : ∀ p : List ByteArray, p.length ≤ 7 → (∀ x ∈ p, x.size ≤ 1048576) → Ev (fun k => impl_branchOk.f k n.f0 n.f1 n.f2 p) (okI p n) := by
  induction hn with
  | mk n h0 z0 h1 h2 z2 hk ih =>
    intro p hp hz
    rw [okI_eq]
    have bad : ∀ R : Bool, R = false → Ev (fun k => impl_branchOk.j0 k p true n.f0 n.f1 n.f2) R := fun R e =>
      Ev.step (fun k => by rw [impl_branchOk.j0]) (ev_pos rfl (ev_some e.symm))
    by_cases e : n.f0.length = n.f1.length
    · refine Ev.step (fun k => by rw [impl_branchOk.f]) (ev_pos (by omega) ?_)
      rw [decide_eq_true e, Bool.true_and]
      by_cases q : p.length ≤ 6
      · refine ev_neg (by omega) ?_
        rw [decide_eq_true q, Bool.true_and]
        refine Ev.bind (implSubsOk_ev n.f2 (by omega) (fun x hx => by have := z2 x hx; omega)) (Ev.step (fun k => by rw [impl_branchOk.j0]) ?_)
        refine ev_to (ev_nand (c := (!subsL n.f2) = true) (R := (decide (n.f2.length = 0) || filterL (joinB p)) && okIL p n.f0 none n.f1) (fun hb => ?_)) (by rw [Bool.decide_eq_true, Bool.not_not])
        have hK : Ev (fun k => impl_branchOk.l0 k p n.f0 (n.f0.length : Int) 0 n.f0 n.f1 n.f2) (okIL p n.f0 none n.f1) := by
          refine implKids_l p n.f0 n.f1 n.f2 q h0 h1 e z0 (fun k hk2 => bd_len (hk k hk2)) (fun i h => ?_) n.f0.length 0 (by omega)
          refine ih n.f1[i] (List.getElem_mem h) _ (by simp only [List.length_append, List.length_cons, List.length_nil]; omega) (fun x hx => ?_)
          rcases List.mem_append.1 hx with hx | hx
          · exact hz x hx
          · have : x = n.f0[i] := by simpa using hx
            rw [this]
            exact z0 _ (List.getElem_mem _)
        have hJ : ∀ b : Bool, Ev (fun k => impl_branchOk.j1 k p b n.f0 n.f1 n.f2) (!b && okIL p n.f0 none n.f1) := by
          intro b
          refine Ev.step (fun k => by rw [impl_branchOk.j1]) ?_
          exact ev_to (ev_nand (fun _ => hK)) (by rw [Bool.decide_eq_true])
        have hsz : (joinB p).size ≤ 1073741824 := by
          have h3 := joinB_le 1048576 p hz
          have h4 : p.length * (1048576 + 1) ≤ 7 * (1048576 + 1) := Nat.mul_le_mul_right _ hp
          omega
        refine ev_ite (fun a => ?_) (fun a => ?_)
        · refine ev_b (implJoin_eq p (by omega) hsz) (Ev.bind (implFilterOk_ev _ hsz) (ev_to (hJ _) ?_))
          rw [decide_eq_false (by omega), Bool.false_or, Bool.not_not]
        · refine ev_to (hJ _) ?_
          rw [decide_eq_true (by omega), Bool.true_or]
          rfl
      · refine ev_pos (by omega) (bad _ ?_)
        rw [decide_eq_false q, Bool.false_and]
    · refine Ev.step (fun k => by rw [impl_branchOk.f]) (ev_neg (by omega) (bad _ ?_))
      rw [decide_eq_false e, Bool.false_and]
end Go.Proofs.YtggokdobijhdhaaDoor.Pure
end
section
/- Trees (Node), in plain Lean: how large, copied, compared; NodeOk on both sides. No program in sight. -/
namespace Go.Proofs.YtggokdobijhdhaaDoor.Pure
open Go.RowKit Go.Proofs.YtggokdobijhdhaaDoor.X Go.Proofs.YtggokdobijhdhaaDoor.P Go.Proofs.YtggokdobijhdhaaDoorW.PrintWords Go.Proofs.YtggokdobijhdhaaDoorW.PrintLast Go.Proofs.YtggokdobijhdhaaDoor.K
set_option linter.unusedVariables false
set_option linter.unusedSimpArgs false
theorem okSL_mem (d : Nat) : ∀ (ns : List ByteArray) (pr : Option ByteArray) (ks : List NI), ns.length = ks.length → okSL d ns pr ks = true → ∀ k ∈ ks, okS (d + 1) k = true
  | [], pr, [], _, _, k, hk => by cases hk
  | [], pr, _ :: _, e, _, k, hk => by simp at e
  | _ :: _, pr, [], e, _, k, hk => by cases hk
  | x :: r, pr, y :: q, e, h, k, hk => by
    rw [okSL] at h
    simp only [Bool.and_eq_true] at h
    obtain ⟨_, _, _, _, h1, h2⟩ := h
    rcases List.mem_cons.1 hk with rfl | hk
    · exact h1
    · exact okSL_mem d r (some x) q (by simpa using e) h2 k hk
theorem specTexts_l (a : ByteArray) (ns : List ByteArray) (ks : List NI) (ss : List SI) (d : Nat) (hd6 : d < 6) (ha : a.size ≤ d * 1048577) (hl : ns.length ≤ 1048576) (he : ns.length = ks.length) (hz : ∀ x ∈ ns, x.size ≤ 1048576)
    (ih : ∀ k ∈ ks, ∀ b : ByteArray, b.size ≤ (d + 1) * 1048577 → Ev (fun r => spec_l8Texts.f r k.f0 k.f1 k.f2 b ((d + 1 : Nat) : Int)) (txS (d + 1) b k)) :
    ∀ (n i : Nat), i + n = ns.length → Ev (fun k => spec_l8Texts.l0 k a (d : Int) (i : Int) ns ks ss) (txSL d a (ns.drop i) (ks.drop i))
  | 0, i, hn => by
    refine Ev.step (fun k => by rw [spec_l8Texts.l0]) (ev_neg (by omega) (ev_some ?_))
    rw [List.drop_of_length_le (by omega), txSL]
    intro x1 x2 x3 x4 e
    cases e
  | n + 1, i, hn => by
    have hi : i < ns.length := by omega
    have hk : i < ks.length := by omega
    have ih2 := specTexts_l a ns ks ss d hd6 ha hl he hz ih n (i + 1) (by omega)
    have hx := hz ns[i] (List.getElem_mem hi)
    have hm : d * 1048577 ≤ 6 * 1048577 := Nat.mul_le_mul_right _ (by omega)
    have hs : (d + 1) * 1048577 = d * 1048577 + 1048577 := Nat.succ_mul _ _
    have hs1 : (a ++ (⟨#[47]⟩ : ByteArray)).size = a.size + 1 := ByteArray.size_append
    have hs2 : ((a ++ (⟨#[47]⟩ : ByteArray)) ++ ns[i]).size = a.size + 1 + ns[i].size := by rw [ByteArray.size_append, hs1]
    refine Ev.step (fun k => by rw [spec_l8Texts.l0]) (ev_pos (by omega) (ev_pos (by omega) ?_))
    rw [w64s (i := i) (n := ns.length) hi (by omega), rdIN hk, w64 (x := (d : Int) + 1) (by omega) (by omega), strAt hi, List.drop_eq_getElem_cons hi, List.drop_eq_getElem_cons hk, txSL]
    refine ev_ite (fun c => ?_) (fun c => ?_)
    · have c' : 0 < d := by omega
      rw [if_pos c']
      refine ev_pos (by omega) (ev_pos (by rw [hs1]; omega) (ev_pos (by omega) ?_))
      refine Ev.bind (ih ks[i] (List.getElem_mem hk) _ (by rw [hs2]; omega)) (ev_to (ev_and (fun _ => ih2)) ?_)
      rw [Bool.decide_eq_true]
    · have c' : ¬ 0 < d := by omega
      rw [if_neg c']
      refine ev_pos (by omega) ?_
      refine Ev.bind (ih ks[i] (List.getElem_mem hk) _ (by omega)) (ev_to (ev_and (fun _ => ih2)) ?_)
      rw [Bool.decide_eq_true]
theorem okS_parts {d : Nat} {n : NI} (h : okS d n = true) : n.f0.length = n.f1.length ∧ (0 < n.f0.length → d ≠ 6) ∧ subsL n.f2 = true ∧ okSL d n.f0 none n.f1 = true := by
  rw [okS_eq] at h
  simp only [Bool.and_eq_true, decide_eq_true_eq, Bool.not_eq_true', Bool.and_eq_false_iff, decide_eq_false_iff_not] at h
  obtain ⟨h1, h2, h3, h4⟩ := h
  exact ⟨h1, fun q => by rcases h2 with h2 | h2 <;> omega, h3, h4⟩
theorem specTexts_ev {n : NI} (hn : Bd n) : ∀ (d : Nat) (a : ByteArray), d ≤ 6 → a.size ≤ d * 1048577 → okS d n = true → Ev (fun k => spec_l8Texts.f k n.f0 n.f1 n.f2 a (d : Int)) (txS d a n) := by
  induction hn with
  | mk n h0 z0 h1 h2 z2 hk ih =>
    intro d a hd ha h
    obtain ⟨e1, e2, e3, e4⟩ := okS_parts h
    rw [txS_eq]
    have hm : d * 1048577 ≤ 6 * 1048577 := Nat.mul_le_mul_right _ hd
    have hL : Ev (fun k => spec_l8Texts.l0 k a (d : Int) 0 n.f0 n.f1 n.f2) (txSL d a n.f0 n.f1) := by
      by_cases c : 0 < n.f0.length
      · have hd6 : d < 6 := by have := e2 c; omega
        exact specTexts_l a n.f0 n.f1 n.f2 d hd6 ha h0 e1 z0 (fun k hk2 b hb => ih k hk2 (d + 1) b (by omega) hb (okSL_mem d n.f0 none n.f1 e1 e4 k hk2)) n.f0.length 0 (by omega)
      · refine Ev.step (fun k => by rw [spec_l8Texts.l0]) (ev_neg (by omega) (ev_some ?_))
        rw [List.length_eq_zero_iff.1 (by omega : n.f0.length = 0), txSL]
        intro x1 x2 x3 x4 e
        cases e
    have hJ : ∀ b : Bool, Ev (fun k => spec_l8Texts.j0 k a (d : Int) b n.f0 n.f1 n.f2) (!b && txSL d a n.f0 n.f1) := by
      intro b
      refine Ev.step (fun k => by rw [spec_l8Texts.j0]) ?_
      exact ev_to (ev_nand (fun _ => hL)) (by rw [Bool.decide_eq_true])
    refine Ev.step (fun k => by rw [spec_l8Texts.f]) (ev_ite (fun c => ev_ite (fun c2 => ?_) (fun c2 => ?_)) (fun c => ?_))
    · refine Ev.bind (specFilterOk_ev a (by omega)) (ev_to (hJ _) ?_)
      rw [show decide (0 < d) = true from decide_eq_true (by omega), show decide (0 < n.f2.length) = true from decide_eq_true (by omega), Bool.true_and, Bool.true_and]
    · refine ev_to (hJ _) ?_
      rw [show decide (0 < n.f2.length) = false from decide_eq_false (by omega), Bool.false_and, Bool.and_false]
    · refine ev_to (hJ _) ?_
      rw [show decide (0 < d) = false from decide_eq_false (by omega), Bool.false_and]
end Go.Proofs.YtggokdobijhdhaaDoor.Pure
end
section
/- Trees (Node), in plain Lean: how large, copied, compared; NodeOk on both sides. No program in sight. -/
namespace Go.Proofs.YtggokdobijhdhaaDoor.Pure
open Go.RowKit Go.Proofs.YtggokdobijhdhaaDoor.X Go.Proofs.YtggokdobijhdhaaDoor.P Go.Proofs.YtggokdobijhdhaaDoorW.PrintWords Go.Proofs.YtggokdobijhdhaaDoorW.PrintLast Go.Proofs.YtggokdobijhdhaaDoor.K
set_option linter.unusedVariables false
set_option linter.unusedSimpArgs false
theorem okI_parts {p : List ByteArray} {n : NI} : okI p n = true ↔ n.f0.length = n.f1.length ∧ p.length ≤ 6 ∧ subsL n.f2 = true ∧ (n.f2.length = 0 ∨ filterL (joinB p) = true) ∧ okIL p n.f0 none n.f1 = true := by
  rw [okI_eq]
  simp only [Bool.and_eq_true, decide_eq_true_eq, Bool.or_eq_true]
theorem none_both (a b : Nat) : ((!(decide (a = 0) && decide (b = 0))) = true) ↔ (a ≠ 0 ∨ b ≠ 0) := by
  by_cases h : a = 0 <;> by_cases k : b = 0 <;> simp [h, k]
theorem none_last (c : Bool) (a : Nat) : ((!(c && !decide (a = 0))) = true) ↔ (c = false ∨ a = 0) := by
  cases c <;> by_cases h : a = 0 <;> simp [h]
theorem okIL_cons {p : List ByteArray} {x : ByteArray} {r : List ByteArray} {y : Option ByteArray} {k : NI} {q : List NI} : okIL p (x :: r) y (k :: q) = true ↔ riseP y x = true ∧ wayP x k = true ∧ (k.f1.length ≠ 0 ∨ k.f2.length ≠ 0) ∧ okI (p ++ [x]) k = true ∧ okIL p r (some x) q = true := by
  rw [okIL, Bool.and_eq_true, Bool.and_eq_true, Bool.and_eq_true, Bool.and_eq_true, none_both]
theorem okSL_cons {d : Nat} {x : ByteArray} {r : List ByteArray} {y : Option ByteArray} {k : NI} {q : List NI} : okSL d (x :: r) y (k :: q) = true ↔ levelS x = true ∧ riseP y x = true ∧ (k.f0.length ≠ 0 ∨ k.f2.length ≠ 0) ∧ (hashP x = false ∨ k.f0.length = 0) ∧ okS (d + 1) k = true ∧ okSL d r (some x) q = true := by
  rw [okSL, Bool.and_eq_true, Bool.and_eq_true, Bool.and_eq_true, Bool.and_eq_true, Bool.and_eq_true, none_both, none_last]
/-- Where a tree is right and not empty, some text that is right begins with the levels that lead there. -/
theorem okI_ne {n : NI} (hn : Bd n) : ∀ p : List ByteArray, okI p n = true → (n.f1.length ≠ 0 ∨ n.f2.length ≠ 0) → ∃ ext, filterL (joinB (p ++ ext)) = true := by
  induction hn with
  | mk n h0 z0 h1 h2 z2 hk ih =>
    intro p h hne
    obtain ⟨e1, e2, e3, e4, e5⟩ := okI_parts.1 h
    by_cases c : n.f2.length = 0
    · have c1 : n.f1.length ≠ 0 := by omega
      cases hk0 : n.f1 with
      | nil => rw [hk0] at c1; simp at c1
      | cons k q =>
        cases hx0 : n.f0 with
        | nil => rw [hx0, hk0] at e1; simp at e1
        | cons x r =>
          rw [hx0, hk0] at e5
          obtain ⟨_, _, f1, f2, _⟩ := okIL_cons.1 e5
          obtain ⟨ext, he⟩ := ih k (by rw [hk0]; exact List.mem_cons_self) (p ++ [x]) f2 f1
          exact ⟨x :: ext, by rw [List.append_assoc] at he; exact he⟩
    · refine ⟨[], ?_⟩
      rw [List.append_nil]
      rcases e4 with e4 | e4
      · exact absurd e4 c
      · exact e4
theorem allL_one (l : List UInt8) : allL [l] = levelL l true := by
  rw [allL, allL, Bool.and_true]
  rfl
theorem cut_le_one (l : List UInt8) : (cutL l).length ≤ 1 ↔ (47 : UInt8) ∉ l := by
  constructor
  · intro h
    obtain ⟨a, r, e⟩ := cutL_ex l
    rw [e, List.length_cons] at h
    have : r = [] := List.length_eq_zero_iff.1 (by omega)
    subst this
    have e2 := join_cut l
    rw [e, Lib.join_one] at e2
    rw [← e2]
    exact cutL_no l a (by rw [e]; exact List.mem_cons_self)
  · intro h
    rw [cutL_one l h]
    exact Nat.le_refl _
theorem levelL_up {l : List UInt8} {b : Bool} (h : levelL l b = true) : levelL l true = true := by
  unfold levelL at h ⊢
  cases b
  · simp only [Bool.and_false, Bool.or_false] at h
    rw [h, Bool.true_or]
  · exact h
theorem filter_one {x : ByteArray} (h : (47 : UInt8) ∉ dl x) : filterL x = (levelL (dl x) true && textOkP x && !(dl x).isEmpty) := by
  unfold filterL
  rw [cutL_one _ h, allL_one]
  simp
theorem hash_dl (x : ByteArray) : hashP x = true ↔ dl x = [35] := by
  unfold hashP
  rw [decide_eq_true_eq, Lib.toList_data]
theorem level_hash {b : Bool} (h : levelL [35] b = true) : b = true := by
  cases b
  · exact absurd h (by decide)
  · rfl
theorem level_same {l : List UInt8} (h : l ≠ [35]) (a b : Bool) : levelL l a = levelL l b := by
  unfold levelL
  have : (l == [35]) = false := beq_eq_false_iff_ne.2 h
  rw [this, Bool.false_and, Bool.false_and]
/-- A name that leads on: told by either side. -/
theorem way_level {p : List ByteArray} {x : ByteArray} {k : NI} (hb : Bd k) (he : k.f0.length = k.f1.length) (ht : textOkP x = true) : wayP x k = true ↔ levelS x = true ∧ (hashP x = false ∨ k.f0.length = 0) := by
  unfold wayP levelS
  rw [Bool.and_eq_true, decide_eq_true_eq, cut_le_one]
  constructor
  · rintro ⟨h1, h2⟩
    refine ⟨?_, ?_⟩
    · rw [filter_one h1, levelL_up h2, ht]
      have : (dl x).contains 47 = false := by
        rw [Bool.eq_false_iff]
        intro m
        exact h1 (List.contains_iff_mem.1 m)
      rw [this]
      cases (dl x).isEmpty <;> rfl
    · by_cases q : hashP x = true
      · right
        rw [(hash_dl x).1 q] at h2
        have := level_hash h2
        rw [decide_eq_true_eq] at this
        omega
      · exact .inl (Bool.eq_false_iff.2 q)
  · rintro ⟨h1, h2⟩
    rw [Bool.or_eq_true] at h1
    rcases h1 with h1 | h1
    · rw [Bool.and_eq_true, Bool.not_eq_true'] at h1
      obtain ⟨f1, f2⟩ := h1
      have n47 : (47 : UInt8) ∉ dl x := fun m => by
        rw [List.contains_iff_mem.2 m] at f2
        cases f2
      refine ⟨n47, ?_⟩
      rw [filter_one n47, Bool.and_eq_true, Bool.and_eq_true] at f1
      by_cases q : dl x = [35]
      · rcases h2 with h2 | h2
        · rw [(hash_dl x).2 q] at h2; cases h2
        · rw [show decide (k.f1.length = 0) = true from decide_eq_true (by omega)]
          exact f1.1.1
      · rw [level_same q _ true]
        exact f1.1.1
    · rw [List.isEmpty_iff] at h1
      rw [h1]
      refine ⟨by simp, ?_⟩
      rfl
theorem levelS_text {x : ByteArray} (h : levelS x = true) : textOkP x = true := by
  unfold levelS at h
  rw [Bool.or_eq_true] at h
  rcases h with h | h
  · rw [Bool.and_eq_true] at h
    have h := h.1
    unfold filterL at h
    rw [Bool.and_eq_true, Bool.and_eq_true, Bool.and_eq_true] at h
    exact h.1.1.2
  · rw [List.isEmpty_iff] at h
    refine (textOk_iff x).2 ⟨by rw [h]; simp, by rw [h]; rfl, ?_⟩
    have : (dl x).length = 0 := by rw [h]; rfl
    rw [dl_len] at this
    omega
theorem filter_text {s : ByteArray} (h : filterL s = true) : textOkP s = true := by
  unfold filterL at h
  rw [Bool.and_eq_true, Bool.and_eq_true, Bool.and_eq_true] at h
  exact h.1.1.2
theorem join_next (p : List ByteArray) (d : Nat) (hp : p.length = d) (x : ByteArray) : (if 0 < d then (joinB p ++ (⟨#[47]⟩ : ByteArray)) ++ x else x) = joinB (p ++ [x]) := by
  cases p with
  | nil =>
    rw [if_neg (by simp at hp; omega)]
    exact (joinB_one x).symm
  | cons y t =>
    rw [if_pos (by simp at hp; omega), joinB_snoc _ (by simp)]
theorem both_l (p : List ByteArray) (d : Nat) (hp : p.length = d) (hd : d < 6) : ∀ (ns : List ByteArray) (ks : List NI) (y : Option ByteArray), ns.length = ks.length → (∀ k ∈ ks, Bd k) →
    (∀ k ∈ ks, ∀ x : ByteArray, (okI (p ++ [x]) k = true ↔ okS (d + 1) k = true ∧ txS (d + 1) (joinB (p ++ [x])) k = true)) →
    (okIL p ns y ks = true ↔ okSL d ns y ks = true ∧ txSL d (joinB p) ns ks = true)
  | [], [], y, _, _, _ => by
    rw [okIL, okSL, txSL]
    · simp
    all_goals (intro x1 x2 x3 x4 e; cases e)
  | [], _ :: _, y, e, _, _ => by simp at e
  | _ :: _, [], y, e, _, _ => by simp at e
  | x :: r, k :: q, y, e, hb, ih => by
    have ih2 := both_l p d hp hd r q (some x) (by simpa using e) (fun k hk => hb k (List.mem_cons_of_mem _ hk)) (fun k hk => ih k (List.mem_cons_of_mem _ hk))
    have hk := hb k List.mem_cons_self
    have ihk := ih k List.mem_cons_self x
    rw [okIL_cons, okSL_cons, txSL, Bool.and_eq_true, join_next p d hp x, ih2]
    constructor
    · rintro ⟨a1, a2, a3, a4, a5, a6⟩
      obtain ⟨b1, b2⟩ := ihk.1 a4
      obtain ⟨e1, _, _, _⟩ := okS_parts b1
      obtain ⟨ext, he⟩ := okI_ne hk (p ++ [x]) a4 a3
      have ht : textOkP x = true := textOk_parts _ (filter_text he) x (by simp)
      obtain ⟨c1, c2⟩ := (way_level (p := p) hk e1 ht).1 a2
      exact ⟨⟨c1, a1, by omega, c2, b1, a5⟩, b2, a6⟩
    · rintro ⟨⟨c1, a1, a3, c2, b1, a5⟩, b2, a6⟩
      obtain ⟨e1, _, _, _⟩ := okS_parts b1
      exact ⟨a1, (way_level (p := p) hk e1 (levelS_text c1)).2 ⟨c1, c2⟩, by omega, ihk.2 ⟨b1, b2⟩, a5, a6⟩
theorem tree_both {n : NI} (hn : Bd n) : ∀ (p : List ByteArray) (d : Nat), p.length = d → d ≤ 6 → (d = 0 → n.f2.length = 0) → (okI p n = true ↔ okS d n = true ∧ txS d (joinB p) n = true) := by
  induction hn with
  | mk n h0 z0 h1 h2 z2 hk ih =>
    intro p d hp hd h00
    have ihk : d < 6 → ∀ k ∈ n.f1, ∀ x : ByteArray, (okI (p ++ [x]) k = true ↔ okS (d + 1) k = true ∧ txS (d + 1) (joinB (p ++ [x])) k = true) := fun hd2 k hk2 x =>
      ih k hk2 (p ++ [x]) (d + 1) (by simp only [List.length_append, List.length_cons, List.length_nil]; omega) (by omega) (fun z => by omega)
    have tx : txS d (joinB p) n = true ↔ (n.f2.length = 0 ∨ filterL (joinB p) = true) ∧ txSL d (joinB p) n.f0 n.f1 = true := by
      rw [txS_eq, Bool.and_eq_true]
      simp only [Bool.not_eq_true', Bool.and_eq_false_iff, decide_eq_false_iff_not, Bool.not_eq_false']
      constructor
      · rintro ⟨a, b⟩
        refine ⟨?_, b⟩
        rcases a with a | a | a
        · exact .inl (h00 (by omega))
        · exact .inl (by omega)
        · exact .inr a
      · rintro ⟨a, b⟩
        refine ⟨?_, b⟩
        rcases a with a | a
        · exact .inr (.inl (by omega))
        · exact .inr (.inr a)
    rw [okI_parts, tx]
    constructor
    · rintro ⟨e1, e2, e3, e4, e5⟩
      by_cases c : n.f0.length = 0
      · have c0 : n.f0 = [] := List.length_eq_zero_iff.1 c
        have c1 : n.f1 = [] := List.length_eq_zero_iff.1 (by omega)
        refine ⟨?_, e4, ?_⟩
        · rw [okS_eq, e3, c0, c1]
          rw [okSL]
          · simp
          · intro x1 x2 x3 x4 e; cases e
        · rw [c0, c1, txSL]
          intro x1 x2 x3 x4 e; cases e
      · have hd2 : d < 6 := by
          cases hx0 : n.f0 with
          | nil => rw [hx0] at c; simp at c
          | cons x r =>
            cases hk0 : n.f1 with
            | nil => rw [hx0, hk0] at e1; simp at e1
            | cons k q =>
              rw [hx0, hk0] at e5
              obtain ⟨_, _, _, f2, _⟩ := okIL_cons.1 e5
              obtain ⟨_, g2, _⟩ := okI_parts.1 f2
              simp only [List.length_append, List.length_cons, List.length_nil] at g2
              omega
        obtain ⟨a, b⟩ := (both_l p d hp hd2 n.f0 n.f1 none e1 hk (ihk hd2)).1 e5
        refine ⟨?_, e4, b⟩
        rw [okS_eq, e3, a, decide_eq_true e1, show decide (d = 6) = false from decide_eq_false (by omega), Bool.and_false]
        rfl
    · rintro ⟨h, e4, b⟩
      obtain ⟨e1, e2, e3, a⟩ := okS_parts h
      refine ⟨e1, by omega, e3, e4, ?_⟩
      by_cases c : n.f0.length = 0
      · have c0 : n.f0 = [] := List.length_eq_zero_iff.1 c
        rw [c0, okIL]
        intro x1 x2 x3 x4 e; cases e
      · have hd2 : d < 6 := by have := e2 (by omega); omega
        exact (both_l p d hp hd2 n.f0 n.f1 none e1 hk (ihk hd2)).2 ⟨a, b⟩
/-- The two sides of NodeOk answer alike. -/
def nodeP (n : NI) : Bool := decide (n.f2.length = 0) && okI [] n
theorem implNodeOk_ev {n : NI} (hn : Bd n) : Ev (fun k => impl_NodeOk.f k n.f0 n.f1 n.f2) (nodeP n) := by
  unfold impl_NodeOk.f nodeP
  refine ev_to (ev_and (fun c => Ev.bind (implOk_ev hn [] (by simp) (fun x hx => by cases hx)) (Ev.now _))) ?_
  congr 1
  exact decide_eq_decide.2 (by omega)
theorem specNodeOk_ev {n : NI} (hn : Bd n) : Ev (fun k => spec_NodeOk.f k n.f0 n.f1 n.f2) (nodeP n) := by
  unfold spec_NodeOk.f nodeP
  refine ev_ite (fun c => ?_) (fun c => ?_)
  · have c' : n.f2.length = 0 := by omega
    have hB := tree_both hn [] 0 rfl (by omega) (fun _ => c')
    have h1 := specOk_ev hn 0 (by omega)
    rw [decide_eq_true c', Bool.true_and]
    by_cases q : okS 0 n = true
    · rw [q] at h1
      have h2 := specTexts_ev hn 0 (joinB []) (by omega) (by show 0 ≤ _; omega) q
      refine Ev.bind h1 (ev_pos rfl (Ev.bind h2 (ev_some ?_)))
      rw [Bool.eq_iff_iff, hB]
      exact ⟨fun z => ⟨q, z⟩, fun z => z.2⟩
    · rw [Bool.eq_false_iff.2 q] at h1
      refine Ev.bind h1 (ev_neg (by simp) (ev_some ?_))
      symm
      rw [Bool.eq_false_iff]
      intro z
      exact q (hB.1 z).1
  · rw [decide_eq_false (by omega)]
    exact Ev.now _
end Go.Proofs.YtggokdobijhdhaaDoor.Pure
end
section
/- Trees (Node), in plain Lean: how large, copied, compared; NodeOk on both sides. No program in sight. -/
namespace Go.Proofs.YtggokdobijhdhaaDoor.Pure
open Go.RowKit Go.Proofs.YtggokdobijhdhaaDoor.X Go.Proofs.YtggokdobijhdhaaDoor.P Go.Proofs.YtggokdobijhdhaaDoorW.PrintWords Go.Proofs.YtggokdobijhdhaaDoorW.PrintLast Go.Proofs.YtggokdobijhdhaaDoor.K
set_option linter.unusedVariables false
set_option linter.unusedSimpArgs false
abbrev EI := S63
mutual
def entL : List ByteArray → NI → List EI
  | p, ⟨ns, ks, ss⟩ => ss.map (fun s => ⟨joinB p, s.f0, s.f1, s.f2⟩) ++ entLL p ns ks
def entLL : List ByteArray → List ByteArray → List NI → List EI
  | p, x :: r, k :: q => entL (p ++ [x]) k ++ entLL p r q
  | _, [], _ => []
  | _, _ :: _, [] => []
end
theorem entL_eq (p : List ByteArray) (n : NI) : entL p n = n.f2.map (fun s => ⟨joinB p, s.f0, s.f1, s.f2⟩) ++ entLL p n.f0 n.f1 := by cases n; rw [entL]
mutual
theorem entL_le : ∀ (p : List ByteArray) (n : NI), (entL p n).length ≤ cnt n
  | p, ⟨ns, ks, ss⟩ => by
    rw [entL, cnt, List.length_append, List.length_map]
    have := entLL_le p ns ks
    omega
theorem entLL_le : ∀ (p : List ByteArray) (ns : List ByteArray) (ks : List NI), (entLL p ns ks).length ≤ cntL ks
  | p, x :: r, k :: q => by
    rw [entLL, cntL, List.length_append]
    have := entL_le (p ++ [x]) k
    have := entLL_le p r q
    omega
  | _, [], _ => by rw [entLL]; exact Nat.zero_le _
  | _, _ :: _, [] => by rw [entLL]; exact Nat.zero_le _
end
/-! #### the program's -/
theorem implEnts_l (p ns : List ByteArray) (ks : List NI) (ss : List SI) (hJ : impl_Join.f p = some (joinB p)) (R : List EI) (hs : ss.length ≤ 1048576) : ∀ (d i : Nat) (acc : List EI), i + d = ss.length → acc.length ≤ i →
    Ev (fun k => impl_entriesOf.l1 k p (acc ++ (ss.drop i).map (fun s => ⟨joinB p, s.f0, s.f1, s.f2⟩)) ks (ks.length : Int) 0 ns ks ss) R → Ev (fun k => impl_entriesOf.l0 k p acc ss (ss.length : Int) (i : Int) ns ks ss) R
  | 0, i, acc, hd, hc, h => by
    rw [List.drop_of_length_le (by omega), List.map_nil, List.append_nil] at h
    exact Ev.step (fun k => by rw [impl_entriesOf.l0]) (ev_neg (by omega) h)
  | d + 1, i, acc, hd, hc, h => by
    have hi : i < ss.length := by omega
    rw [List.drop_eq_getElem_cons hi, List.map_cons] at h
    refine Ev.step (fun k => by rw [impl_entriesOf.l0]) (ev_pos (by omega) (ev_pos (by omega) (ev_pos (by omega) (ev_b hJ ?_))))
    rw [rdIS hi, w64s (i := i) (n := ss.length) hi (by omega)]
    refine ev_pos ?_ (implEnts_l p ns ks ss hJ R hs d (i + 1) (acc ++ [⟨joinB p, ss[i].f0, ss[i].f1, ss[i].f2⟩]) (by omega) (by rw [List.length_append]; simp only [List.length_cons, List.length_nil]; omega) ?_)
    · simp only [List.length_cons, List.length_nil]; omega
    · rw [List.append_assoc]
      exact h
theorem implEntKids_l (p ns : List ByteArray) (ks : List NI) (ss : List SI) (hp : p.length ≤ 1048576) (he : ns.length = ks.length) (hk : ks.length ≤ 1048576) (hc : cntL ks ≤ 1048576)
    (ih : ∀ (i : Nat) (h : i < ks.length), Ev (fun k => impl_entriesOf.f k ks[i].f0 ks[i].f1 ks[i].f2 (p ++ [ns[i]'(he ▸ h)])) (entL (p ++ [ns[i]'(he ▸ h)]) ks[i])) : ∀ (d i : Nat) (acc : List EI), i + d = ks.length → acc.length + cntL (ks.drop i) ≤ 2097152 →
    Ev (fun k => impl_entriesOf.l1 k p acc ks (ks.length : Int) (i : Int) ns ks ss) (acc ++ entLL p (ns.drop i) (ks.drop i))
  | 0, i, acc, hd, ha => by
    refine Ev.step (fun k => by rw [impl_entriesOf.l1]) (ev_neg (by omega) (ev_some ?_))
    rw [List.drop_of_length_le (by omega), List.drop_of_length_le (by omega), entLL, List.append_nil]
  | d + 1, i, acc, hd, ha => by
    have hi : i < ks.length := by omega
    have hin : i < ns.length := by omega
    have e2 : rdOf ByteArray.empty ns (i : Int) = ns[i] := getD_get hin
    rw [List.drop_eq_getElem_cons hi, cntL] at ha
    have hle := entL_le (p ++ [ns[i]]) ks[i]
    refine Ev.step (fun k => by rw [impl_entriesOf.l1]) ?_
    simp only [Option.bind_some, List.nil_append, List.length_nil, List.length_cons]
    refine ev_pos (by omega) (ev_pos (by omega) (ev_pos (by omega) (ev_pos (by omega) (ev_pos (by omega) (ev_pos (by omega) ?_)))))
    rw [rdIN hi, e2, w64s (i := i) (n := ks.length) hi (by omega)]
    refine Ev.bind (ih i hi) (ev_pos (by omega) ?_)
    have h := implEntKids_l p ns ks ss hp he hk hc ih d (i + 1) (acc ++ entL (p ++ [ns[i]]) ks[i]) (by omega) (by rw [List.length_append]; omega)
    rw [List.drop_eq_getElem_cons hin, List.drop_eq_getElem_cons hi, entLL, ← List.append_assoc]
    exact h
theorem cntL_mem : ∀ (ks : List NI) (k : NI), k ∈ ks → cnt k ≤ cntL ks
  | x :: r, k, h => by
    rw [cntL]
    rcases List.mem_cons.1 h with rfl | h
    · omega
    · have := cntL_mem r k h
      omega
theorem okIL_mem (p : List ByteArray) : ∀ (ns : List ByteArray) (y : Option ByteArray) (ks : List NI), okIL p ns y ks = true → ∀ (i : Nat) (h : i < ns.length) (h' : i < ks.length), okI (p ++ [ns[i]]) ks[i] = true
  | x :: r, y, k :: q, h, 0, _, _ => (okIL_cons.1 h).2.2.2.1
  | x :: r, y, k :: q, h, i + 1, h1, h2 => okIL_mem p r (some x) q (okIL_cons.1 h).2.2.2.2 i (by simpa using h1) (by simpa using h2)
theorem joinB_small (p : List ByteArray) (hp : p.length ≤ 7) (hz : ∀ x ∈ p, x.size ≤ 1048576) : (joinB p).size ≤ 1073741824 := by
  have h3 := joinB_le 1048576 p hz
  have h4 : p.length * (1048576 + 1) ≤ 7 * (1048576 + 1) := Nat.mul_le_mul_right _ hp
  omega
theorem implEnts_ev {n : NI} (hn : Bd n) : ∀ p : List ByteArray, p.length ≤ 7 → (∀ x ∈ p, x.size ≤ 1048576) → cnt n ≤ 1048576 → okI p n = true → Ev (fun k => impl_entriesOf.f k n.f0 n.f1 n.f2 p) (entL p n) := by
  induction hn with
  | mk n h0 z0 h1 h2 z2 hk ih =>
    intro p hp hz hc hok
    obtain ⟨e, hp6, _, _, hok2⟩ := okI_parts.1 hok
    rw [cnt_eq] at hc
    rw [entL_eq]
    refine Ev.step (fun k => by rw [impl_entriesOf.f]; rfl) (implEnts_l p n.f0 n.f1 n.f2 (implJoin_eq p (by omega) (joinB_small p hp hz)) _ h2 n.f2.length 0 [] (by omega) (by simp) ?_)
    rw [List.nil_append, List.drop_zero]
    have h := implEntKids_l p n.f0 n.f1 n.f2 (by omega) e h1 (by omega) (fun i hi => ih n.f1[i] (List.getElem_mem hi) _ (by rw [List.length_append]; simp only [List.length_cons, List.length_nil]; omega) (fun x hx => ?_) (by have := cntL_mem n.f1 n.f1[i] (List.getElem_mem hi); omega) (okIL_mem p n.f0 none n.f1 hok2 i (e ▸ hi) hi)) n.f1.length 0 (n.f2.map (fun s => ⟨joinB p, s.f0, s.f1, s.f2⟩)) (by omega) (by rw [List.length_map, List.drop_zero]; omega)
    · rw [List.drop_zero, List.drop_zero] at h
      exact h
    · rcases List.mem_append.1 hx with hx | hx
      · exact hz x hx
      · rw [List.mem_singleton] at hx
        rw [hx]
        exact z0 _ (List.getElem_mem _)
def entsL (n : NI) : List EI := if nodeP n = true then entL [] n else []
theorem entsL_le (n : NI) : (entsL n).length ≤ cnt n := by
  unfold entsL
  split
  · exact entL_le [] n
  · exact Nat.zero_le _
theorem implEntries_ev {n : NI} (hn : Bd n) (hc : cnt n ≤ 1048576) : Ev (fun k => impl_Entries.f k n.f0 n.f1 n.f2) (entsL n) := by
  unfold impl_Entries.f entsL
  refine Ev.bind (implNodeOk_ev hn) (ev_ite (fun h => ?_) (fun h => ?_))
  · rw [if_pos h]
    unfold nodeP at h
    simp only [Bool.and_eq_true] at h
    exact Ev.bind (implEnts_ev hn [] (by simp) (fun x hx => by cases hx) hc h.2) (Ev.now _)
  · rw [if_neg h]
    exact Ev.now _
end Go.Proofs.YtggokdobijhdhaaDoor.Pure
end
section
/- Trees (Node), in plain Lean: how large, copied, compared; NodeOk on both sides. No program in sight. -/
namespace Go.Proofs.YtggokdobijhdhaaDoor.Pure
open Go.RowKit Go.Proofs.YtggokdobijhdhaaDoor.X Go.Proofs.YtggokdobijhdhaaDoor.P Go.Proofs.YtggokdobijhdhaaDoorW.PrintWords Go.Proofs.YtggokdobijhdhaaDoorW.PrintLast Go.Proofs.YtggokdobijhdhaaDoor.K
set_option linter.unusedVariables false
set_option linter.unusedSimpArgs false
theorem specEnts_l (a : ByteArray) (D : Int) (ns : List ByteArray) (ks : List NI) (ss : List SI) (R : List EI) (hs : ss.length ≤ 1048576) : ∀ (d i : Nat) (acc : List EI), i + d = ss.length → acc.length ≤ i →
    Ev (fun k => spec_l8Entries.l1 k a D (acc ++ (ss.drop i).map (fun s => ⟨a, s.f0, s.f1, s.f2⟩)) 0 ns ks ss) R → Ev (fun k => spec_l8Entries.l0 k a D acc (i : Int) ns ks ss) R
  | 0, i, acc, hd, hc, h => by
    rw [List.drop_of_length_le (by omega), List.map_nil, List.append_nil] at h
    exact Ev.step (fun k => by rw [spec_l8Entries.l0]) (ev_neg (by omega) h)
  | d + 1, i, acc, hd, hc, h => by
    have hi : i < ss.length := by omega
    rw [List.drop_eq_getElem_cons hi, List.map_cons] at h
    refine Ev.step (fun k => by rw [spec_l8Entries.l0]) (ev_pos (by omega) (ev_pos (by omega) (ev_pos (by omega) ?_)))
    rw [rdIS hi, w64s (i := i) (n := ss.length) hi (by omega)]
    refine specEnts_l a D ns ks ss R hs d (i + 1) (acc ++ [⟨a, ss[i].f0, ss[i].f1, ss[i].f2⟩]) (by omega) (by rw [List.length_append]; simp only [List.length_cons, List.length_nil]; omega) ?_
    rw [List.append_assoc]
    exact h
theorem two_sizes (a b : Nat) (ha : a ≤ 1073741824) (hb : b ≤ 1048576) : a + 1 ≤ 9223372036854775807 ∧ a + 1 + b ≤ 9223372036854775807 := by omega
theorem specEntKids_l (p ns : List ByteArray) (ks : List NI) (ss : List SI) (hp : p.length ≤ 6) (ha : (joinB p).size ≤ 1073741824) (hz : ∀ x ∈ ns, x.size ≤ 1048576) (he : ns.length = ks.length) (hk : ks.length ≤ 1048576) (hc : cntL ks ≤ 1048576)
    (ih : ∀ (i : Nat) (h : i < ks.length), Ev (fun k => spec_l8Entries.f k ks[i].f0 ks[i].f1 ks[i].f2 (joinB (p ++ [ns[i]'(he ▸ h)])) ((p.length + 1 : Nat) : Int)) (entL (p ++ [ns[i]'(he ▸ h)]) ks[i])) : ∀ (d i : Nat) (acc : List EI), i + d = ks.length → acc.length + cntL (ks.drop i) ≤ 2097152 →
    Ev (fun k => spec_l8Entries.l1 k (joinB p) (p.length : Int) acc (i : Int) ns ks ss) (acc ++ entLL p (ns.drop i) (ks.drop i))
  | 0, i, acc, hd, hx => by
    refine Ev.step (fun k => by rw [spec_l8Entries.l1]) (ev_neg (by omega) (ev_some ?_))
    rw [List.drop_of_length_le (by omega), List.drop_of_length_le (by omega), entLL, List.append_nil]
  | d + 1, i, acc, hd, hx => by
    have hi : i < ks.length := by omega
    have hin : i < ns.length := by omega
    have e2 : rdOf ByteArray.empty ns (i : Int) = ns[i] := getD_get hin
    have hzi := hz _ (List.getElem_mem hin)
    rw [List.drop_eq_getElem_cons hi, cntL] at hx
    have hle := entL_le (p ++ [ns[i]]) ks[i]
    have h := specEntKids_l p ns ks ss hp ha hz he hk hc ih d (i + 1) (acc ++ entL (p ++ [ns[i]]) ks[i]) (by omega) (by rw [List.length_append]; omega)
    have hnx := join_next p p.length rfl ns[i]
    have HQ := Aside0.mk (two_sizes _ _ ha hzi)
    clear ha hzi hz
    have ew : wrap64 ((p.length : Int) + 1) = ((p.length + 1 : Nat) : Int) := by rw [w64 (by omega) (by omega)]; omega
    rw [List.drop_eq_getElem_cons hin, List.drop_eq_getElem_cons hi, entLL, ← List.append_assoc]
    refine Ev.step (fun k => by rw [spec_l8Entries.l1]) (ev_pos (by omega) (ev_pos (by omega) ?_))
    rw [rdIN hi, e2, w64s (i := i) (n := ks.length) hi (by omega), ew]
    clear ew e2
    have hsum : acc.length + (entL (p ++ [ns[i]]) ks[i]).length < 2932031007402 := by omega
    have q3 : (i : Int) < (ks.length : Int) := Int.ofNat_lt.2 hi
    clear hle hx hc hk
    by_cases hq : 0 < p.length
    · rw [if_pos hq] at hnx
      have q0 : (p.length : Int) > 0 := Int.natCast_pos.2 hq
      have q1 : (joinB p).size + 1 ≤ 9223372036854775807 := HQ.out.1
      have q2 : (joinB p ++ (⟨#[47]⟩ : ByteArray)).size + ns[i].size ≤ 9223372036854775807 := by
        rw [ByteArray.size_append, show (⟨#[47]⟩ : ByteArray).size = 1 from rfl]
        exact HQ.out.2
      refine ev_pos q0 (ev_pos q1 (ev_pos q2 (ev_pos q3 ?_)))
      rw [hnx]
      exact Ev.bind (ih i hi) (ev_pos hsum h)
    · rw [if_neg hq] at hnx
      refine ev_neg (fun e => hq (Int.natCast_pos.1 e)) (ev_pos q3 ?_)
      have h2 := ih i hi
      rw [← hnx] at h2
      exact Ev.bind h2 (ev_pos hsum h)
theorem specEnts_ev {n : NI} (hn : Bd n) : ∀ p : List ByteArray, p.length ≤ 7 → (∀ x ∈ p, x.size ≤ 1048576) → cnt n ≤ 1048576 → okI p n = true → Ev (fun k => spec_l8Entries.f k n.f0 n.f1 n.f2 (joinB p) (p.length : Int)) (entL p n) := by
  induction hn with
  | mk n h0 z0 h1 h2 z2 hk ih =>
    intro p hp hz hc hok
    obtain ⟨e, hp6, _, _, hok2⟩ := okI_parts.1 hok
    rw [cnt_eq] at hc
    rw [entL_eq]
    refine Ev.step (fun k => by rw [spec_l8Entries.f]; rfl) (specEnts_l (joinB p) _ n.f0 n.f1 n.f2 _ h2 n.f2.length 0 [] (by omega) (by simp) ?_)
    rw [List.nil_append, List.drop_zero]
    have h := specEntKids_l p n.f0 n.f1 n.f2 hp6 (joinB_small p hp hz) z0 e h1 (by omega) (fun i hi => ?_) n.f1.length 0 (n.f2.map (fun s => ⟨joinB p, s.f0, s.f1, s.f2⟩)) (by omega) (by rw [List.length_map, List.drop_zero]; omega)
    · rw [List.drop_zero, List.drop_zero] at h
      exact h
    · have h3 := ih n.f1[i] (List.getElem_mem hi) (p ++ [n.f0[i]'(e ▸ hi)]) (by rw [List.length_append]; simp only [List.length_cons, List.length_nil]; omega) (fun x hx => ?_) (by have := cntL_mem n.f1 n.f1[i] (List.getElem_mem hi); omega) (okIL_mem p n.f0 none n.f1 hok2 i (e ▸ hi) hi)
      · rw [List.length_append] at h3
        exact h3
      · rcases List.mem_append.1 hx with hx | hx
        · exact hz x hx
        · rw [List.mem_singleton] at hx
          rw [hx]
          exact z0 _ (List.getElem_mem _)
theorem specEntries_ev {n : NI} (hn : Bd n) (hc : cnt n ≤ 1048576) : Ev (fun k => spec_Entries.f k n.f0 n.f1 n.f2) (entsL n) := by
  unfold spec_Entries.f entsL
  refine Ev.bind (specNodeOk_ev hn) (ev_ite (fun h => ?_) (fun h => ?_))
  · rw [if_pos h]
    unfold nodeP at h
    simp only [Bool.and_eq_true] at h
    exact Ev.bind (specEnts_ev hn [] (by simp) (fun x hx => by cases hx) hc h.2) (Ev.now _)
  · rw [if_neg h]
    exact Ev.now _
end Go.Proofs.YtggokdobijhdhaaDoor.Pure
end
section
/- The law FnExactEntries answers true of all trees. -/
namespace Go.Proofs.YtggokdobijhdhaaDoor.Pure
open Go.RowKit Go.Proofs.YtggokdobijhdhaaDoor.X Go.Proofs.YtggokdobijhdhaaDoor.P Go.Proofs.YtggokdobijhdhaaDoorW.PrintWords Go.Proofs.YtggokdobijhdhaaDoorW.PrintLast Go.Proofs.YtggokdobijhdhaaDoor.K
set_option linter.unusedVariables false
set_option linter.unusedSimpArgs false
section
variable {α β : Type} {P : α → Prop}
theorem ex_step {f g : Nat → Option α} (h : ∀ k, f (k + 1) = g k) (H : ∃ r, Ev g r ∧ P r) : ∃ r, Ev f r ∧ P r := by
  obtain ⟨r, h1, h2⟩ := H
  exact ⟨r, Ev.step h h1, h2⟩
theorem ex_pos {c : Prop} [Decidable c] {f g : Nat → Option α} (h : c) (H : ∃ r, Ev f r ∧ P r) : ∃ r, Ev (fun n => if c then f n else g n) r ∧ P r := by
  obtain ⟨r, h1, h2⟩ := H
  exact ⟨r, ev_pos h h1, h2⟩
theorem ex_bind {o : Nat → Option β} {a : β} {f : Nat → β → Option α} (h : Ev o a) (H : ∃ r, Ev (fun n => f n a) r ∧ P r) : ∃ r, Ev (fun n => (o n).bind (f n)) r ∧ P r := by
  obtain ⟨r, h1, h2⟩ := H
  exact ⟨r, Ev.bind h h1, h2⟩
theorem ex_bs {a : β} {f : Nat → β → Option α} (H : ∃ r, Ev (fun n => f n a) r ∧ P r) : ∃ r, Ev (fun n => (some a).bind (f n)) r ∧ P r := H
end
theorem szFit {x : NL} (h : Fit26 x) : ∀ a : Int, 0 ≤ a → a ≤ 1048576 → ∃ r, Ev (fun k => laws_szNode.f k x.f0 x.f1 x.f2 a) r ∧ (¬ r < 0 → Bd (tn x) ∧ (cnt (tn x) : Int) + r ≤ a) ∧ r ≤ a := by
  induction h with
  | mk n h0 h1 g1 h2 ih =>
    intro a ha hb
    obtain ⟨r, hr, hq, hle⟩ := szNode3 n.f0 n.f1 n.f2 h0 h1 ⟨h2.1, fun y hy => (h2.2 y hy).1⟩ ih a ha hb
    have e : (⟨n.f0, n.f1, n.f2⟩ : NL) = n := by cases n; rfl
    rw [e] at hq
    exact ⟨r, hr, hq, hle⟩
theorem markSubS_l : ∀ (d i : Nat) (y : List SI) (c : Int), i + d = y.length → y.length ≤ 1048576 → 0 ≤ c → c + 3 * (d : Int) ≤ 4611686018427387904 → ∃ r, Ev (fun k => laws_markSubS.l0 k y c (i : Int)) r ∧ r.1 = c + 3 * (d : Int)
  | 0, i, y, c, hd, hl, h0, h1 => ⟨(c, y), Ev.step (fun k => by rw [laws_markSubS.l0]) (ev_neg (by omega) (Ev.now _)), by show c = _; omega⟩
  | d + 1, i, y, c, hd, hl, h0, h1 => by
    refine ex_step (fun k => by rw [laws_markSubS.l0]) (ex_pos (by omega) (ex_bind (markText_ev c h0 (by omega)) ?_))
    refine ex_pos (by omega) ?_
    refine ex_bs (ex_bs ?_)
    rw [w64s (i := i) (n := y.length) (by omega) (by omega), w64 (x := c + 1) (by omega) (by omega), w64 (x := c + 1 + 1) (by omega) (by omega), w64 (x := c + 1 + 1 + 1) (by omega) (by omega)]
    have key : ∀ y' : List SI, y'.length = y.length → ∃ r, Ev (fun k => laws_markSubS.l0 k y' (c + 1 + 1 + 1) ((i + 1 : Nat) : Int)) r ∧ r.1 = c + 3 * ((d + 1 : Nat) : Int) := by
      intro y' hy
      obtain ⟨r, hr, e⟩ := markSubS_l d (i + 1) y' (c + 1 + 1 + 1) (by omega) (by omega) (by omega) (by omega)
      exact ⟨r, hr, by omega⟩
    exact key _ (by simp only [List.length_set])
mutual
def mw : NI → Nat
  | ⟨a, b, c⟩ => a.length + 3 * c.length + mwL b
def mwL : List NI → Nat
  | [] => 0
  | k :: r => mw k + mwL r
end
theorem mw_eq (n : NI) : mw n = n.f0.length + 3 * n.f2.length + mwL n.f1 := by cases n; rw [mw]
mutual
theorem mw_le : ∀ n : NI, mw n ≤ 3 * cnt n
  | ⟨a, b, c⟩ => by
    rw [mw, cnt]
    have := mwL_le b
    omega
theorem mwL_le : ∀ l : List NI, mwL l ≤ 3 * cntL l
  | [] => by rw [mwL]; omega
  | k :: r => by
    rw [mwL, cntL]
    have := mw_le k
    have := mwL_le r
    omega
end
theorem markNodeS_l : ∀ (z : List NI), (∀ x ∈ z, Bd x ∧ ∀ c : Int, 0 ≤ c → c + mwL x.f1 ≤ 4611686018427387904 → ∃ r, Ev (fun k => laws_markNodeS.l0 k x.f1 c 0) r ∧ r.1 = c + (mwL x.f1 : Int)) →
    ∀ (i : Nat) (y : List NI) (c : Int), y.drop i = z → i + z.length = y.length → y.length ≤ 1048576 → 0 ≤ c → c + (mwL z : Int) ≤ 4611686018427387904 → ∃ r, Ev (fun k => laws_markNodeS.l0 k y c (i : Int)) r ∧ r.1 = c + (mwL z : Int)
  | [], _, i, y, c, hz, hd, hl, h0, h1 => by
    simp only [List.length_nil] at hd
    exact ⟨(c, y), Ev.step (fun k => by rw [laws_markNodeS.l0]) (ev_neg (by omega) (Ev.now _)), by rw [mwL]; show c = _; omega⟩
  | x :: z, ih, i, y, c, hz, hd, hl, h0, h1 => by
    simp only [List.length_cons] at hd
    have hi : i < y.length := by omega
    rw [List.drop_eq_getElem_cons hi] at hz
    injection hz with hz1 hz2
    rw [mwL, mw_eq] at h1
    obtain ⟨hb, hk⟩ := ih x List.mem_cons_self
    have e1 : rd_T33 y (i : Int) = x := by rw [← hz1]; exact getD_get hi
    have hbd : x.f0.length ≤ 1048576 ∧ x.f2.length ≤ 1048576 := by cases hb with | mk _ a _ _ b _ _ => exact ⟨a, b⟩
    obtain ⟨r2, hr2, er2⟩ := hk (c + (x.f0.length : Int)) (by omega) (by omega)
    obtain ⟨r3, hr3, er3⟩ := markSubS_l x.f2.length 0 x.f2 r2.1 (by omega) (by omega) (by omega) (by omega)
    refine ex_step (fun k => by rw [laws_markNodeS.l0]) (ex_pos (by omega) (ex_pos (by omega) ?_))
    rw [e1, w64s (i := i) (n := y.length) hi (by omega)]
    refine ex_bind (markStringS_ev x.f0 c h0 (by omega) (by omega)) (ex_bind hr2 (ex_bind (show Ev (fun k => laws_markSubS.f k x.f2 r2.1) r3 from hr3) ?_))
    obtain ⟨r, hr, er⟩ := markNodeS_l z (fun q hq => ih q (List.mem_cons_of_mem _ hq)) (i + 1) (y.set i ⟨marks markT c x.f0.length, r2.2, r3.2⟩) r3.1 (by rw [← hz2]; simp [List.drop_set]) (by simp only [List.length_set]; omega) (by simp only [List.length_set]; omega) (by omega) (by omega)
    refine ⟨r, hr, ?_⟩
    rw [mwL, mw_eq]
    omega
theorem markKids_ev {n : NI} (hn : Bd n) : ∀ c : Int, 0 ≤ c → c + (mwL n.f1 : Int) ≤ 4611686018427387904 → ∃ r, Ev (fun k => laws_markNodeS.l0 k n.f1 c 0) r ∧ r.1 = c + (mwL n.f1 : Int) := by
  induction hn with
  | mk n h0 z0 h1 h2 z2 hk ih =>
    intro c c0 c1
    exact markNodeS_l n.f1 (fun x hx => ⟨hk x hx, ih x hx⟩) 0 n.f1 c rfl (by omega) h1 c0 c1
theorem markNode_ev {n : NI} (hn : Bd n) (hc : cnt n ≤ 1048576) : ∃ r, Ev (fun k => laws_markNode.f k n.f0 n.f1 n.f2 1) r ∧ 0 ≤ r.1 := by
  have hw := mw_le n
  rw [mw_eq] at hw
  have hbd : n.f0.length ≤ 1048576 ∧ n.f2.length ≤ 1048576 := by cases hn with | mk _ a _ _ b _ _ => exact ⟨a, b⟩
  obtain ⟨r2, hr2, er2⟩ := markKids_ev hn (1 + (n.f0.length : Int)) (by omega) (by omega)
  obtain ⟨r3, hr3, er3⟩ := markSubS_l n.f2.length 0 n.f2 r2.1 (by omega) (by omega) (by omega) (by omega)
  unfold laws_markNode.f
  exact ⟨_, Ev.bind (markStringS_ev n.f0 1 (by omega) (by omega) (by omega)) (Ev.bind (show Ev (fun k => laws_markNodeS.f k n.f1 (1 + (n.f0.length : Int))) r2 from hr2) (Ev.bind (show Ev (fun k => laws_markSubS.f k n.f2 r2.1) r3 from hr3) (Ev.now _))), by show 0 ≤ r3.1; omega⟩
/-! Entries. -/
noncomputable def mkE (c : Int) : EI := ⟨markT c, markT (c + 1), c + 2, c + 3⟩
noncomputable def markEs : Int → Nat → List EI
  | _, 0 => []
  | c, n + 1 => mkE c :: markEs (c + 4) n
theorem markEs_length : ∀ (n : Nat) (c : Int), (markEs c n).length = n
  | 0, _ => rfl
  | n + 1, c => by rw [markEs, List.length_cons, markEs_length n]
theorem markEntryS_l : ∀ (d i : Nat) (y : List EI) (c : Int), i + d = y.length → y.length ≤ 1048576 → 0 ≤ c → c + 4 * (d : Int) ≤ 4611686018427387904 → Ev (fun k => laws_markEntryS.l0 k y c (i : Int)) (c + 4 * (d : Int), y.take i ++ markEs c d)
  | 0, i, y, c, hd, hl, h0, h1 => by
    refine Ev.step (fun k => by rw [laws_markEntryS.l0]) (ev_neg (by omega) (ev_some ?_))
    rw [List.take_of_length_le (by omega), markEs, List.append_nil]
    simp
  | d + 1, i, y, c, hd, hl, h0, h1 => by
    have hi : i < y.length := by omega
    have hs : ∀ v : EI, rd_T63 (y.set i v) (i : Int) = v := by
      intro v
      show (y.set i v).getD (i : Int).toNat _ = v
      rw [Int.toNat_natCast, List.getD_eq_getElem?_getD, List.getElem?_set_self hi]
      rfl
    have a1 : wrap64 (c + 1) = c + 1 := w64 (by omega) (by omega)
    have a2 : wrap64 (c + 1 + 1) = c + 2 := by rw [w64 (by omega) (by omega)]; omega
    have a3 : wrap64 (c + 2 + 1) = c + 3 := by rw [w64 (by omega) (by omega)]; omega
    have a4 : wrap64 (c + 3 + 1) = c + 4 := by rw [w64 (by omega) (by omega)]; omega
    refine Ev.step (fun k => by rw [laws_markEntryS.l0]) (ev_pos (by omega) (Ev.bind (markText_ev c h0 (by omega)) ?_))
    refine ev_pos (by omega) ?_
    refine ev_bs ?_
    simp only [a1, a2, a3, a4]
    refine Ev.bind (markText_ev (c + 1) (by omega) (by omega)) (ev_bs (ev_bs ?_))
    rw [w64s (i := i) (n := y.length) hi (by omega)]
    simp only [Int.toNat_natCast, List.set_set, hs]
    have h := markEntryS_l d (i + 1) (y.set i (mkE c)) (c + 4) (by simp only [List.length_set]; omega) (by simp only [List.length_set]; omega) (by omega) (by omega)
    refine ev_to h ?_
    rw [take_set_at hi, markEs, List.append_assoc]
    simp only [Prod.mk.injEq]
    exact ⟨by omega, rfl⟩
theorem heldEntryS_l : ∀ (d i : Nat) (y : List EI) (c : Int), i + d = y.length → y.length ≤ 1048576 → 0 ≤ c → c + 4 * (d : Int) ≤ 4611686018427387904 → y.drop i = markEs c d → Ev (fun k => laws_heldEntryS.l0 k y c (i : Int)) (c + 4 * (d : Int))
  | 0, i, y, c, hd, hl, h0, h1, hm => Ev.step (fun k => by rw [laws_heldEntryS.l0]) (ev_neg (by omega) (ev_some (by omega)))
  | d + 1, i, y, c, hd, hl, h0, h1, hm => by
    have hi : i < y.length := by omega
    rw [List.drop_eq_getElem_cons hi, markEs] at hm
    injection hm with hm1 hm2
    have e : rd_T63 y (i : Int) = mkE c := by rw [← hm1]; exact getD_get hi
    have a1 : wrap64 (c + 1) = c + 1 := w64 (by omega) (by omega)
    have a2 : wrap64 (c + 1 + 1) = c + 2 := by rw [w64 (by omega) (by omega)]; omega
    have a3 : wrap64 (c + 2 + 1) = c + 3 := by rw [w64 (by omega) (by omega)]; omega
    have a4 : wrap64 (c + 3 + 1) = c + 4 := by rw [w64 (by omega) (by omega)]; omega
    refine Ev.step (fun k => by rw [laws_heldEntryS.l0]) (ev_pos (by omega) (ev_pos (by omega) ?_))
    rw [e, w64s (i := i) (n := y.length) hi (by omega)]
    simp only [a1, a2, a3, a4]
    refine Ev.bind (markText_ev c h0 (by omega)) (ev_pos rfl (Ev.bind (markText_ev (c + 1) (by omega) (by omega)) (ev_pos rfl (ev_pos rfl (ev_pos rfl ?_)))))
    exact ev_to (heldEntryS_l d (i + 1) y (c + 4) (by omega) hl (by omega) (by omega) hm2) (by omega)
theorem eqEntryS_ev (l : List EI) (hl : l.length ≤ 1048576) : Ev (fun k => laws_eqEntryS.f k l l) true := by
  unfold laws_eqEntryS.f
  refine ev_pos rfl ?_
  suffices h : ∀ (d i : Nat), i + d = l.length → Ev (fun k => laws_eqEntryS.l0 k l l (i : Int)) true from h l.length 0 (by omega)
  intro d
  induction d with
  | zero =>
    intro i hi
    exact Ev.step (fun k => by rw [laws_eqEntryS.l0]) (ev_neg (by omega) (Ev.now _))
  | succ d ih =>
    intro i hi
    have hil : i < l.length := by omega
    refine Ev.step (fun k => by rw [laws_eqEntryS.l0]) (ev_pos (by omega) (ev_pos (by omega) (ev_pos (by omega) ?_)))
    rw [w64s (i := i) (n := l.length) hil (by omega)]
    exact ev_b (by unfold laws_eqEntry.f; rw [if_pos rfl, if_pos rfl, if_pos rfl, if_pos rfl]) (ev_pos rfl (ih (i + 1) (by omega)))
theorem FnExactEntries : laws_FnExactEntries.Pure := by
  intro ns ks ss h0 h1 h2
  refine Ev.rounds ?_
  unfold laws_FnExactEntries.f
  obtain ⟨r, hr, hq, _⟩ := szNode3 ns ks ss h0 h1.1 ⟨h2.1, fun y hy => (h2.2 y hy).1⟩ (fun x hx => szFit (h1.2 x hx)) 1048576 (by omega) (by omega)
  refine Ev.bind hr (ev_ite (fun _ => Ev.now _) (fun hn => ?_))
  obtain ⟨hB, hc⟩ := hq hn
  have hc' : cnt (tn ⟨ns, ks, ss⟩) ≤ 1048576 := by omega
  have ht := toNode_ev hB ⟨ns, ks, ss⟩ rfl
  have he := entsL_le (tn ⟨ns, ks, ss⟩)
  obtain ⟨m, hm, hm0⟩ := markNode_ev hB hc'
  have hl := markEs_length (entsL (tn ⟨ns, ks, ss⟩)).length 1
  have hme := markEntryS_l (entsL (tn ⟨ns, ks, ss⟩)).length 0 (entsL (tn ⟨ns, ks, ss⟩)) 1 (by omega) (by omega) (by omega) (by omega)
  rw [List.take_zero, List.nil_append] at hme
  have hhe := heldEntryS_l (entsL (tn ⟨ns, ks, ss⟩)).length 0 (markEs 1 (entsL (tn ⟨ns, ks, ss⟩)).length) 1 (by omega) (by omega) (by omega) (by omega) rfl
  refine Ev.bind ht (Ev.bind (specEntries_ev hB hc') (Ev.bind (implEntries_ev hB hc') (Ev.bind (eqEntryS_ev _ (by omega)) (ev_pos rfl (Ev.bind (eqNode_ev hB) (ev_pos rfl (Ev.bind hm (ev_pos hm0 ?_))))))))
  exact Ev.bind (show Ev (fun k => laws_markEntryS.f k (entsL (tn ⟨ns, ks, ss⟩)) 1) _ from hme) (Ev.bind (show Ev (fun k => laws_heldEntryS.f k (markEs 1 (entsL (tn ⟨ns, ks, ss⟩)).length) 1) _ from hhe) (ev_pos (by omega) (ev_pos rfl (Ev.now _))))
end Go.Proofs.YtggokdobijhdhaaDoor.Pure
end
section
/- What a row's argument holds, opened into the print's kinds (Kd), for every kind: numbers, bools, texts, slices, fields in a row, a struct. No program in sight. -/
namespace Go.Proofs.YtggokdobijhdhaaDoor.O
open Go.RowKit Go.ChangeShapes Go.Proofs.YtggokdobijhdhaaDoorW.PrintWords
set_option linter.unusedVariables false
section
variable {H : Type}
/-- All that type t may hold comes as kind d, and fits. -/
def Opens (enc : TypeId × Value → H) (P : Program) (W : World) (base : Nat) (spare : Nat → Bool) (held : Bool) {α : Type} (t : TypeId) (d : Kd α) (fit : α → Prop) : Prop :=
  d.sz = P.cellsOf t ∧ ∀ fuel cs x, DataW.trod enc P W base spare held fuel t cs = some x → (x.1.weights P t).all (· ≤ reachBytes) = true → ∃ a, d.K W a cs ∧ fit a
/-- Fields from place o on, in a struct of T cells. -/
def OpensF (enc : TypeId × Value → H) (P : Program) (W : World) (base : Nat) (spare : Nat → Bool) (held : Bool) {α : Type} (fs : List Field) (o T : Nat) (d : Kd α) (fit : α → Prop) : Prop :=
  d.sz = T - o ∧ o ≤ T ∧ ∀ n (cs : List Value) (xs : List (DataW H × List MemPlace)), cs.length = T → xs.length = fs.length →
    (∀ (i : Nat) (f : Field), fs[i]? = some f → DataW.trod enc P W base spare held n f.type ((cs.drop f.offset).take (P.cellsOf f.type)) = xs[i]?) →
    (DataW.weightsEach P (fs.map (·.type)) (xs.map (·.1))).all (· ≤ reachBytes) = true → ∃ a, d.K W a (cs.drop o) ∧ fit a
variable {enc : TypeId × Value → H} {P : Program} {W : World} {base : Nat} {spare : Nat → Bool} {held : Bool} {α β : Type} {t e : TypeId}
theorem opens_int {k : IntKind} (ht : P.underlying t = some (.int k)) (hc : P.cellsOf t = 1) : Opens enc P W base spare held t (Kd.int k) (fun x => (Lit.int k x).wf = true) := by
  refine ⟨hc.symm, ?_⟩
  intro fuel cs x h _
  obtain ⟨n, rfl, _, hw⟩ := DataW.trod_int ht h
  exact ⟨n, rfl, hw⟩
theorem opens_string (ht : P.underlying t = some .string) (hc : P.cellsOf t = 1) : Opens enc P W base spare held t Kd.string (fun s => s.size ≤ 140737488351232) := by
  refine ⟨hc.symm, ?_⟩
  intro fuel cs x h hw
  obtain ⟨s, rfl, rfl, _⟩ := DataW.trod_string ht h
  refine ⟨s, rfl, ?_⟩
  have z : s.data.toList.length ≤ reachBytes := by simpa [DataW.weights] using hw
  rw [Array.length_toList] at z
  exact z
theorem add_add_ (a : Addr) (m j : Nat) : (a.add m).add j = a.add (m + j) := by
  unfold Addr.add
  by_cases hm : m = 0
  · subst hm; simp
  · rw [if_neg hm]
    by_cases hj : j = 0
    · subst hj; simp [hm]
    · rw [if_neg hj, if_neg (by omega)]
      simp [Nat.add_assoc]
theorem mapM_range {α : Type} (f : Nat → Option α) : ∀ (n : Nat) (l : List α), (List.range n).mapM f = some l → l.length = n ∧ ∀ (i : Nat) a, l[i]? = some a → f i = some a := by
  intro n l h
  have h1 := mapM_some_length h
  rw [List.length_range] at h1
  refine ⟨h1, fun i a hi => ?_⟩
  have hl : i < n := by
    rcases Nat.lt_or_ge i l.length with q | q
    · omega
    · rw [List.getElem?_eq_none q] at hi; cases hi
  have h2 := mapM_some_get h i i (by simp [hl])
  rw [h2, hi]
theorem cells_each {a : Addr} {n : Nat} {cs : List Value} (h : W.cells? base a n = some cs) : cs.length = n ∧ ∀ (i : Nat) u, cs[i]? = some u → W.cell? (a.add i) = some u := by
  unfold World.cells? at h
  by_cases hb : base ≤ a.block
  · rw [if_pos hb] at h
    exact mapM_range _ n cs h
  · rw [if_neg hb] at h; cases h
theorem list_of {α : Type} {Q : Nat → α → Prop} : ∀ n : Nat, (∀ i, i < n → ∃ a, Q i a) → ∃ l : List α, l.length = n ∧ ∀ i p, l[i]? = some p → Q i p
  | 0, _ => ⟨[], rfl, fun i p h => by simp at h⟩
  | n + 1, h => by
    obtain ⟨l, hl, hq⟩ := list_of n (fun i hi => h i (by omega))
    obtain ⟨a, ha⟩ := h n (by omega)
    refine ⟨l ++ [a], by simp [hl], fun i p hi => ?_⟩
    rcases Nat.lt_or_ge i n with q | q
    · rw [List.getElem?_append_left (by omega)] at hi
      exact hq i p hi
    · rw [List.getElem?_append_right (by omega), hl] at hi
      have e : i - n = 0 := by
        rcases Nat.eq_zero_or_pos (i - n) with z | z
        · exact z
        · rw [List.getElem?_eq_none (by simp; omega)] at hi; cases hi
      rw [e] at hi
      have e2 : i = n := by omega
      have e3 : a = p := by simpa using hi
      rw [e2, ← e3]
      exact ha
theorem weightsAll_mem : ∀ (l : List (DataW H)) (y : DataW H), y ∈ l → (DataW.weightsAll P e l).all (· ≤ reachBytes) = true → (y.weights P e).all (· ≤ reachBytes) = true
  | a :: r, y, hy, h => by
    rw [DataW.weightsAll, List.all_append, Bool.and_eq_true] at h
    rcases List.mem_cons.1 hy with rfl | hy
    · exact h.1
    · exact weightsAll_mem r y hy h.2
theorem opens_slice {d : Kd α} {fit : α → Prop} (ht : P.underlying t = some (.slice e)) (hc : P.cellsOf t = 1) (hB : Nat.ble 1 (P.bytesOf e) = true) (he : Opens enc P W base spare held e d fit) : Opens enc P W base spare held t (Kd.slice e d) (fun l => l.length ≤ 140737488351232 ∧ ∀ x ∈ l, fit x) := by
  refine ⟨hc.symm, ?_⟩
  intro fuel cs x h hw
  rcases DataW.trod_slice ht h with ⟨rfl, rfl⟩ | ⟨a, len, cap, elems, rest, n, _, rfl, rfl, hb, hl, hm, hlen, hel, hsp, hns⟩
  · exact ⟨[], ⟨none, 0, rfl, Nat.le_refl _, Kd.C_nil d W⟩, by simp, by simp⟩
  · have hw2 : (elems.length + rest.length) * P.bytesOf e ≤ reachBytes ∧ (DataW.weightsAll P e (elems.map (·.1))).all (· ≤ reachBytes) = true := by
      simp only [DataW.weights, ht, List.all_cons, List.all_append, Bool.and_eq_true, decide_eq_true_eq, List.length_map] at hw
      exact ⟨hw.1, hw.2.1⟩
    have each : ∀ i, i < len → ∃ p : α, fit p ∧ ∃ c : List Value, c.length = d.sz ∧ d.K W p c ∧ ∀ j u, c[j]? = some u → W.cell? (a.add (i * d.sz + j)) = some u := by
      intro i hi
      have h1 := hel i hi
      have hi' : i < elems.length := by omega
      rw [List.getElem?_eq_getElem hi'] at h1
      obtain ⟨c, hcs, htr⟩ := Option.bind_eq_some_iff.1 h1
      obtain ⟨hcl, hcc⟩ := cells_each hcs
      obtain ⟨p, hK, hf⟩ := he.2 n c _ htr (weightsAll_mem _ _ (List.mem_map_of_mem (List.getElem_mem hi')) hw2.2)
      refine ⟨p, hf, c, by rw [hcl, he.1], hK, fun j u hu => ?_⟩
      have := hcc j u hu
      rw [add_add_, ← he.1] at this
      exact this
    obtain ⟨l, hll, hlq⟩ := list_of len each
    subst hll
    refine ⟨l, ⟨some a, cap, rfl, hl, rfl, Nat.le_trans hl hm, fun _ => ⟨a, rfl, fun j p hj => ?_⟩⟩, ?_, fun x hx => ?_⟩
    · obtain ⟨_, c, h1, h2, h3⟩ := hlq j p hj
      exact ⟨c, h1, h2, h3⟩
    · have h1 : l.length * P.bytesOf e ≤ (elems.length + rest.length) * P.bytesOf e := Nat.mul_le_mul_right _ (by omega)
      have h2 : l.length * 1 ≤ l.length * P.bytesOf e := Nat.mul_le_mul_left _ (Nat.le_of_ble_eq_true hB)
      have h3 := hw2.1
      have h4 : reachBytes = 140737488351232 := rfl
      omega
    · obtain ⟨i, hi, rfl⟩ := List.mem_iff_getElem.1 hx
      exact (hlq i _ (List.getElem?_eq_getElem hi)).1
theorem opensF_one {d : Kd α} {fit : α → Prop} {f : Field} {o T : Nat} (ho : f.offset = o) (hT : T = o + P.cellsOf f.type) (h : Opens enc P W base spare held f.type d fit) : OpensF enc P W base spare held [f] o T d fit := by
  subst ho hT
  refine ⟨by rw [h.1]; omega, by omega, ?_⟩
  intro n cs xs hl hx hq hw
  have h0 := hq 0 f rfl
  match xs, hx with
  | [y], _ =>
    have e : (cs.drop f.offset).take (P.cellsOf f.type) = cs.drop f.offset := List.take_of_length_le (by rw [List.length_drop]; omega)
    rw [e] at h0
    refine h.2 n _ y h0 ?_
    simpa [DataW.weightsEach] using hw
theorem opensF_cons {a : Kd α} {b : Kd β} {fita : α → Prop} {fitb : β → Prop} {f : Field} {fs : List Field} {o T : Nat} (ho : f.offset = o) (h : Opens enc P W base spare held f.type a fita) (hs : OpensF enc P W base spare held fs (o + P.cellsOf f.type) T b fitb) :
    OpensF enc P W base spare held (f :: fs) o T (Kd.pair a b) (fun p => fita p.1 ∧ fitb p.2) := by
  subst ho
  have hle := hs.2.1
  refine ⟨by show a.sz + b.sz = _; rw [h.1, hs.1]; omega, by omega, ?_⟩
  intro n cs xs hl hx hq hw
  match xs, hx with
  | y :: ys, hx =>
    have h0 := hq 0 f rfl
    simp only [List.map_cons, DataW.weightsEach, List.all_append, Bool.and_eq_true] at hw
    obtain ⟨p, hK, hf⟩ := h.2 n _ y h0 hw.1
    obtain ⟨q, hK2, hf2⟩ := hs.2.2 n cs ys hl (by simpa using hx) (fun i f' hf' => hq (i + 1) f' hf') hw.2
    refine ⟨(p, q), ⟨_, _, ?_, hK, hK2⟩, hf, hf2⟩
    rw [← List.drop_drop, List.take_append_drop]
theorem opens_struct {fs : Array Field} {d : Kd α} {fit : α → Prop} (ht : P.underlying t = some (.struct fs)) (h : OpensF enc P W base spare held fs.toList 0 (P.cellsOf t) d fit) : Opens enc P W base spare held t d fit := by
  refine ⟨by rw [h.1]; omega, ?_⟩
  intro fuel cs x hx hw
  obtain ⟨xs, n, _, rfl, hl, hxl, hq⟩ := DataW.trod_struct ht hx
  have := h.2.2 n cs xs hl (by simpa using hxl) (fun i f hf => hq i f (by simpa using hf)) (by simpa [DataW.weights, ht] using hw)
  rwa [List.drop_zero] at this
theorem opens_iso {d : Kd α} {fit : α → Prop} {f : β → α} (g : α → β) (hg : ∀ a, f (g a) = a) (h : Opens enc P W base spare held t d fit) : Opens enc P W base spare held t (Kd.iso d f) (fun b => fit (f b)) := by
  refine ⟨h.1, ?_⟩
  intro fuel cs x hx hw
  obtain ⟨a, hK, hf⟩ := h.2 fuel cs x hx hw
  refine ⟨g a, ?_, ?_⟩
  · show d.K W (f (g a)) cs
    rw [hg]; exact hK
  · show fit (f (g a))
    rw [hg]; exact hf
/-! ### up to a depth: for types that are nested in themselves -/
def OpensB (enc : TypeId × Value → H) (P : Program) (W : World) (base : Nat) (spare : Nat → Bool) (held : Bool) {α : Type} (m : Nat) (t : TypeId) (d : Kd α) (fit : α → Prop) : Prop :=
  d.sz = P.cellsOf t ∧ ∀ fuel, fuel ≤ m → ∀ cs x, DataW.trod enc P W base spare held fuel t cs = some x → (x.1.weights P t).all (· ≤ reachBytes) = true → ∃ a, d.K W a cs ∧ fit a
def OpensFB (enc : TypeId × Value → H) (P : Program) (W : World) (base : Nat) (spare : Nat → Bool) (held : Bool) {α : Type} (m : Nat) (fs : List Field) (o T : Nat) (d : Kd α) (fit : α → Prop) : Prop :=
  d.sz = T - o ∧ o ≤ T ∧ ∀ n, n ≤ m → ∀ (cs : List Value) (xs : List (DataW H × List MemPlace)), cs.length = T → xs.length = fs.length →
    (∀ (i : Nat) (f : Field), fs[i]? = some f → DataW.trod enc P W base spare held n f.type ((cs.drop f.offset).take (P.cellsOf f.type)) = xs[i]?) →
    (DataW.weightsEach P (fs.map (·.type)) (xs.map (·.1))).all (· ≤ reachBytes) = true → ∃ a, d.K W a (cs.drop o) ∧ fit a
theorem opensB_of {m : Nat} {d : Kd α} {fit : α → Prop} (h : Opens enc P W base spare held t d fit) : OpensB enc P W base spare held m t d fit := ⟨h.1, fun fuel _ => h.2 fuel⟩
theorem opensB_fit {m : Nat} {d : Kd α} {fit fit' : α → Prop} (h : OpensB enc P W base spare held m t d fit) (hf : ∀ a, fit a → fit' a) : OpensB enc P W base spare held m t d fit' :=
  ⟨h.1, fun fuel hm cs x hx hw => by
    obtain ⟨a, hK, hq⟩ := h.2 fuel hm cs x hx hw
    exact ⟨a, hK, hf a hq⟩⟩
theorem opensB_slice {m : Nat} {d : Kd α} {fit : α → Prop} (ht : P.underlying t = some (.slice e)) (hc : P.cellsOf t = 1) (hB : Nat.ble 1 (P.bytesOf e) = true) (he : OpensB enc P W base spare held m e d fit) :
    OpensB enc P W base spare held (m + 1) t (Kd.slice e d) (fun l => l.length ≤ 140737488351232 ∧ ∀ x ∈ l, fit x) := by
  refine ⟨hc.symm, ?_⟩
  intro fuel hfm cs x h hw
  rcases DataW.trod_slice ht h with ⟨rfl, rfl⟩ | ⟨a, len, cap, elems, rest, n, hn, rfl, rfl, hb, hl, hm, hlen, hel, hsp, hns⟩
  · exact ⟨[], ⟨none, 0, rfl, Nat.le_refl _, Kd.C_nil d W⟩, by simp, by simp⟩
  · have hw2 : (elems.length + rest.length) * P.bytesOf e ≤ reachBytes ∧ (DataW.weightsAll P e (elems.map (·.1))).all (· ≤ reachBytes) = true := by
      simp only [DataW.weights, ht, List.all_cons, List.all_append, Bool.and_eq_true, decide_eq_true_eq, List.length_map] at hw
      exact ⟨hw.1, hw.2.1⟩
    have each : ∀ i, i < len → ∃ p : α, fit p ∧ ∃ c : List Value, c.length = d.sz ∧ d.K W p c ∧ ∀ j u, c[j]? = some u → W.cell? (a.add (i * d.sz + j)) = some u := by
      intro i hi
      have h1 := hel i hi
      have hi' : i < elems.length := by omega
      rw [List.getElem?_eq_getElem hi'] at h1
      obtain ⟨c, hcs, htr⟩ := Option.bind_eq_some_iff.1 h1
      obtain ⟨hcl, hcc⟩ := cells_each hcs
      obtain ⟨p, hK, hf⟩ := he.2 n (by omega) c _ htr (weightsAll_mem _ _ (List.mem_map_of_mem (List.getElem_mem hi')) hw2.2)
      refine ⟨p, hf, c, by rw [hcl, he.1], hK, fun j u hu => ?_⟩
      have := hcc j u hu
      rw [add_add_, ← he.1] at this
      exact this
    obtain ⟨l, hll, hlq⟩ := list_of len each
    subst hll
    refine ⟨l, ⟨some a, cap, rfl, hl, rfl, Nat.le_trans hl hm, fun _ => ⟨a, rfl, fun j p hj => ?_⟩⟩, ?_, fun x hx => ?_⟩
    · obtain ⟨_, c, h1, h2, h3⟩ := hlq j p hj
      exact ⟨c, h1, h2, h3⟩
    · have h1 : l.length * P.bytesOf e ≤ (elems.length + rest.length) * P.bytesOf e := Nat.mul_le_mul_right _ (by omega)
      have h2 : l.length * 1 ≤ l.length * P.bytesOf e := Nat.mul_le_mul_left _ (Nat.le_of_ble_eq_true hB)
      have h3 := hw2.1
      have h4 : reachBytes = 140737488351232 := rfl
      omega
    · obtain ⟨i, hi, rfl⟩ := List.mem_iff_getElem.1 hx
      exact (hlq i _ (List.getElem?_eq_getElem hi)).1
theorem opensFB_one {m : Nat} {d : Kd α} {fit : α → Prop} {f : Field} {o T : Nat} (ho : f.offset = o) (hT : T = o + P.cellsOf f.type) (h : OpensB enc P W base spare held m f.type d fit) : OpensFB enc P W base spare held m [f] o T d fit := by
  subst ho hT
  refine ⟨by rw [h.1]; omega, by omega, ?_⟩
  intro n hn cs xs hl hx hq hw
  have h0 := hq 0 f rfl
  match xs, hx with
  | [y], _ =>
    have e : (cs.drop f.offset).take (P.cellsOf f.type) = cs.drop f.offset := List.take_of_length_le (by rw [List.length_drop]; omega)
    rw [e] at h0
    refine h.2 n hn _ y h0 ?_
    simpa [DataW.weightsEach] using hw
theorem opensFB_cons {m : Nat} {a : Kd α} {b : Kd β} {fita : α → Prop} {fitb : β → Prop} {f : Field} {fs : List Field} {o T : Nat} (ho : f.offset = o) (h : OpensB enc P W base spare held m f.type a fita) (hs : OpensFB enc P W base spare held m fs (o + P.cellsOf f.type) T b fitb) :
    OpensFB enc P W base spare held m (f :: fs) o T (Kd.pair a b) (fun p => fita p.1 ∧ fitb p.2) := by
  subst ho
  have hle := hs.2.1
  refine ⟨by show a.sz + b.sz = _; rw [h.1, hs.1]; omega, by omega, ?_⟩
  intro n hn cs xs hl hx hq hw
  match xs, hx with
  | y :: ys, hx =>
    have h0 := hq 0 f rfl
    simp only [List.map_cons, DataW.weightsEach, List.all_append, Bool.and_eq_true] at hw
    obtain ⟨p, hK, hf⟩ := h.2 n hn _ y h0 hw.1
    obtain ⟨q, hK2, hf2⟩ := hs.2.2 n hn cs ys hl (by simpa using hx) (fun i f' hf' => hq (i + 1) f' hf') hw.2
    refine ⟨(p, q), ⟨_, _, ?_, hK, hK2⟩, hf, hf2⟩
    rw [← List.drop_drop, List.take_append_drop]
theorem opensB_struct {m : Nat} {fs : Array Field} {d : Kd α} {fit : α → Prop} (ht : P.underlying t = some (.struct fs)) (h : OpensFB enc P W base spare held m fs.toList 0 (P.cellsOf t) d fit) : OpensB enc P W base spare held (m + 1) t d fit := by
  refine ⟨by rw [h.1]; omega, ?_⟩
  intro fuel hfm cs x hx hw
  obtain ⟨xs, n, hn, rfl, hl, hxl, hq⟩ := DataW.trod_struct ht hx
  have := h.2.2 n (by omega) cs xs hl (by simpa using hxl) (fun i f hf => hq i f (by simpa using hf)) (by simpa [DataW.weights, ht] using hw)
  rwa [List.drop_zero] at this
theorem opensB_iso {m : Nat} {d : Kd α} {fit : α → Prop} {f : β → α} (g : α → β) (hg : ∀ a, f (g a) = a) (h : OpensB enc P W base spare held m t d fit) : OpensB enc P W base spare held m t (Kd.iso d f) (fun b => fit (f b)) := by
  refine ⟨h.1, ?_⟩
  intro fuel hm cs x hx hw
  obtain ⟨a, hK, hf⟩ := h.2 fuel hm cs x hx hw
  refine ⟨g a, ?_, ?_⟩
  · show d.K W (f (g a)) cs
    rw [hg]; exact hK
  · show fit (f (g a))
    rw [hg]; exact hf
theorem opens_fix {F : Kd α → Kd α} {sz : Nat} {E : List Nat} {hs : ∀ n, (Kd.upto F sz E n).sz = sz} {hE : ∀ n q, q ∈ (Kd.upto F sz E n).E → q ∈ E} {fit : α → Prop} (hsz : sz = P.cellsOf t)
    (step : ∀ m d, OpensB enc P W base spare held m t d fit → OpensB enc P W base spare held (m + 2) t (F d) fit) : Opens enc P W base spare held t (Kd.fix F sz E hs hE) fit := by
  have up : ∀ j, OpensB enc P W base spare held (2 * j) t (Kd.upto F sz E j) fit := by
    intro j
    induction j with
    | zero =>
      refine ⟨hsz, ?_⟩
      intro fuel hm cs x hx _
      have : fuel = 0 := by omega
      subst this
      simp [DataW.trod] at hx
    | succ j ih => exact step (2 * j) _ ih
  refine ⟨hsz, ?_⟩
  intro fuel cs x hx hw
  obtain ⟨a, hK, hf⟩ := (up fuel).2 fuel (by omega) cs x hx hw
  exact ⟨a, ⟨fuel, hK⟩, hf⟩
/-- A row's argument. -/
theorem opens_arg {ts : List TypeId} {ds : List (DataW H)} {j : Nat} {d : Kd α} {fit : α → Prop} {v : Value} {x : DataW H} {ps : List MemPlace} (hsz : (DataW.weightsEach P ts ds).all (· ≤ reachBytes) = true) (ht : ts[j]? = some t) (hd : ds[j]? = some x)
    (h : DataW.Trod enc P W base spare held t v x ps) (ho : Opens enc P W base spare held t d fit) : ∃ a, d.K W a v.cells.toList ∧ fit a := by
  obtain ⟨fuel, hf⟩ := h
  exact ho.2 fuel _ _ hf (List.all_eq_true.2 fun n hn => List.all_eq_true.1 hsz n (DataW.weights_mem_each ht hd n hn))
end
end Go.Proofs.YtggokdobijhdhaaDoor.O
end
