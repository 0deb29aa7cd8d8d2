/- Several texts of this claim in one (a claim holds at most 60 files). -/
import Derived.Test.YtcnfgfomholheaaGreatDoorZy
import Derived.Test.YtcnfgfomholheaaGreatDoorZp
section
/- Wishes without a client's, with one; where a name stands. -/
namespace Go.Proofs.YtcnfgfomholheaaGreatDoor.Q
open Go.RowKit Go.Proofs.YtcnfgfomholheaaGreatDoor.Z Go.Proofs.YtcnfgfomholheaaGreatDoor.Pure
set_option linter.unusedVariables false
set_option linter.unusedSimpArgs false
set_option maxRecDepth 100000
set_option maxHeartbeats 4000000
/-- The wishes of others than a client. -/
def dropC (t : ByteArray) (l : List SS) : List SS := l.filter fun s => !(s.f0.toList == t.toList)
theorem dropC_len (t : ByteArray) (l : List SS) : (dropC t l).length ≤ l.length := List.length_filter_le _ _
theorem withoutSub (l : List SS) (client : ByteArray) (hl : l.length ≤ 8388608) : CallOb T Tryz.prog 171 [.c (.sl eS l), .c (.sc (.string client))] (.c (.ow eS (dropC client l))) := by
  refine call_of_vc hT Tryz.func171 (by kernel_rfl) rfl rfl (fun A => ?_)
  conv => whnf
  refine CallQ.mk _ (copySubs l hl) ?_
  conv => whnf
  refine CallQ.wr [[.gv eS], [.rd]] (.c (.ow eS (dropC client l))) ?_
  conv => whnf
  refine CallWQ.mk (withoutOut l client) ?_
  conv => whnf
  exact RetQ.mk ⟨rfl, rfl⟩ ⟨rfl, rfl⟩ ⟨rfl, trivial⟩
theorem tw_at {α : Type} {p : α → Bool} {d : α} : ∀ {l : List α} {i : Nat}, i ≤ l.length → (∀ j, j < i → p (l.getD j d) = true) → (i = l.length ∨ p (l.getD i d) = false) → l.take i = l.takeWhile p ∧ l.drop i = l.dropWhile p
  | [], i, hi, _, _ => by simp
  | a :: l, 0, _, _, h => by
    rcases h with h | h
    · simp at h
    · have h : p a = false := h
      simp [List.takeWhile_cons, List.dropWhile_cons, h]
  | a :: l, i + 1, hi, h1, h2 => by
    have ha : p a = true := h1 0 (Nat.succ_pos i)
    have ih := tw_at (p := p) (d := d) (l := l) (i := i) (by simpa using hi) (fun j hj => h1 (j + 1) (by omega)) (by simpa using h2)
    simp [List.takeWhile_cons, List.dropWhile_cons, ha, ih.1, ih.2]
theorem srS {l l' : List SS} (h : l = l') : SameRow (T := T) eS l eS l' := sr_ h
theorem srN {l l' : List SN} (h : l = l') : SameRow (T := T) eN l eN l' := sr_ h
theorem srE {l l' : List SE} (h : l = l') : SameRow (T := T) eE l eE l' := sr_ h
theorem sr9 {l l' : List ByteArray} (h : l = l') : SameRow (T := T) 9 l 9 l' := sr_ h
end Go.Proofs.YtcnfgfomholheaaGreatDoor.Q
end
section
/- Where a name stands among names. -/
namespace Go.Proofs.YtcnfgfomholheaaGreatDoor.Q
open Go.RowKit Go.Proofs.YtcnfgfomholheaaGreatDoor.Z Go.Proofs.YtcnfgfomholheaaGreatDoor.Pure
set_option linter.unusedVariables false
set_option linter.unusedSimpArgs false
set_option maxRecDepth 100000
set_option maxHeartbeats 4000000
theorem isNaN1 (a : ByteArray) : CallOb T Tryz.prog 206 [.c (.sc (.string a))] (.c (.sc (.bool false))) := by
  refine call_of_vc hT Tryz.func206 (by kernel_rfl) rfl rfl (fun A => ?_)
  conv => whnf
  exact RetQ.mk ⟨rfl, rfl⟩ ⟨rfl, rfl⟩ ⟨bv (by simp), trivial⟩
theorem isNaN2 (a : ByteArray) : CallOb T Tryz.prog 222 [.c (.sc (.string a))] (.c (.sc (.bool false))) := by
  refine call_of_vc hT Tryz.func222 (by kernel_rfl) rfl rfl (fun A => ?_)
  conv => whnf
  exact RetQ.mk ⟨rfl, rfl⟩ ⟨rfl, rfl⟩ ⟨bv (by simp), trivial⟩
theorem cmpLess (a b : ByteArray) : CallOb T Tryz.prog 205 [.c (.sc (.string a)), .c (.sc (.string b))] (.c (.sc (.bool (Op.bytesLess a.toList b.toList)))) := by
  refine call_of_vc hT Tryz.func205 (by kernel_rfl) rfl rfl (fun A => ?_)
  conv => whnf
  refine CallQ.mk _ (isNaN2 a) ?_
  conv => whnf
  refine Split.mk (fun e => ft_ e) (fun _ => ?_)
  conv => whnf
  refine Split.mk (fun e => ft_ e) (fun _ => ?_)
  conv => whnf
  exact RetQ.mk ⟨rfl, rfl⟩ ⟨rfl, rfl⟩ ⟨rfl, trivial⟩
/-- Is a name ahead of a text? -/
def ltT (t s : ByteArray) : Bool := Op.bytesLess s.toList t.toList
def g9 (l : List ByteArray) (k : Nat) : ByteArray := l.getD k (T.df 9)
structure Bs (l : List ByteArray) (t : ByteArray) (i j : Nat) : Prop where
  le : i ≤ j
  hi : j ≤ l.length
  lo : ∀ k, k < i → ltT t (g9 l k) = true
  up : ∀ k, j ≤ k → k < l.length → ltT t (g9 l k) = false
theorem mid_ {i j : Nat} (h : i + j ≤ 140737488351232) : IntKind.i64.wrap ((IntKind.u64.wrap (wrap64 ((i : Int) + (j : Int)))).fdiv (2 ^ min (Int.toNat 1) IntKind.u64.bits)) = (((i + j) / 2 : Nat) : Int) := by
  have h1 : wrap64 ((i : Int) + (j : Int)) = ((i + j : Nat) : Int) := by simp only [wrap64]; omega
  have h2 : IntKind.u64.wrap (((i + j : Nat) : Int)) = ((i + j : Nat) : Int) := by
    simp only [IntKind.wrap, IntKind.bits, IntKind.signed]
    simp
    omega
  have h3 : ((2 : Int) ^ min (Int.toNat 1) IntKind.u64.bits) = 2 := by decide
  rw [h1, h2, h3]
  have h4 : (((i + j : Nat) : Int)).fdiv 2 = (((i + j) / 2 : Nat) : Int) := by
    rw [Int.fdiv_eq_ediv_of_nonneg _ (by decide)]
    omega
  rw [h4]
  simp only [IntKind.wrap_i64]
  omega
/-- Where a text belongs among names; whether it stands there. -/
def posT (t : ByteArray) (l : List ByteArray) : Nat := (l.takeWhile (ltT t)).length
def fndT (t : ByteArray) (l : List ByteArray) : Bool := decide (posT t l < l.length) && ((g9 l (posT t l)).toList == t.toList)
theorem Bs.pos {l : List ByteArray} {t : ByteArray} {i : Nat} (h : Bs l t i i) : posT t l = i := by
  have h1 := h.hi
  have := (tw_at (p := ltT t) (d := T.df 9) (l := l) (i := i) h1 h.lo (by
    rcases Nat.lt_or_ge i l.length with h2 | h2
    · exact .inr (h.up i (Nat.le_refl _) h2)
    · exact .inl (by omega))).1
  unfold posT
  rw [← this, List.length_take]
  omega
theorem bsearch (l : List ByteArray) (t : ByteArray) (hl : l.length ≤ 8388608) (hm : ∀ a b, a ≤ b → b < l.length → ltT t (g9 l b) = true → ltT t (g9 l a) = true) : CallOb T Tryz.prog 172 [.c (.sl 9 l), .c (.sc (.string t))] (.tu [(false, [.sc (.int .i64 (posT t l : Int))]), (false, [.sc (.bool (fndT t l))])]) := by
  refine call_of_vc hT Tryz.func172 (by kernel_rfl) rfl rfl (fun A => ?_)
  conv => whnf
  refine LoopQ.mk { p : Nat × Nat // Bs l t p.1 p.2 } (fun p => (0, [(7, i64 p.1.1), (8, i64 p.1.2), (6, i64 l.length), (0, im 9 l), (1, .c (.sc (.string t)))], [])) (fun p => p.1.2 - p.1.1) ⟨(0, l.length), Nat.zero_le _, Nat.le_refl _, fun k hk => absurd hk (Nat.not_lt_zero k), fun k h1 h2 => absurd h1 (Nat.not_le_of_lt h2)⟩ (imp_of [] rfl rfl rfl ⟨⟨rfl, rfl⟩, ⟨rfl, rfl⟩, ⟨rfl, rfl⟩, ⟨rfl, rfl⟩, ⟨rfl, rfl⟩, trivial⟩ trivial) ?_
  rintro ⟨⟨i, j⟩, hb⟩
  conv => whnf
  refine Split.mk (fun c => ?_) (fun c => ?_)
  · have hk2 : i < j := ln_t c
    clear c
    have hi := hb.hi
    have hM := mid_ (i := i) (j := j) (by simp only at hi; omega)
    have hMt : (IntKind.i64.wrap ((IntKind.u64.wrap (wrap64 ((i : Int) + (j : Int)))).fdiv (2 ^ min (Int.toNat 1) IntKind.u64.bits))).toNat = (i + j) / 2 := by rw [hM]; rfl
    have hlt : (i + j) / 2 < l.length := by simp only at hi; omega
    conv => whnf
    refine Need.mk (by rw [hM]; exact idx hlt) ?_
    conv => whnf
    refine CallQ.mk _ (cmpLess _ _) ?_
    conv => whnf
    refine Split.mk (fun c => ?_) (fun c => ?_)
    · have c1 : ltT t (g9 l ((i + j) / 2)) = true := (congrArg (fun k => ltT t (g9 l k)) hMt.symm).trans c
      conv => whnf
      exact NextQ.mk ⟨⟨((i + j) / 2 + 1, j), by show (i + j) / 2 + 1 ≤ j; omega, hi, fun k hk => hm k ((i + j) / 2) (by omega) hlt c1, hb.up⟩, by show j - ((i + j) / 2 + 1) < j - i; omega, imp_of [] rfl rfl rfl ⟨⟨rfl, congrArg i64 (show (((i + j) / 2 + 1 : Nat) : Int) = wrap64 (IntKind.i64.wrap ((IntKind.u64.wrap (wrap64 ((i : Int) + (j : Int)))).fdiv (2 ^ min (Int.toNat 1) IntKind.u64.bits)) + 1) by rw [hM]; exact sc_ hlt (by omega))⟩, ⟨rfl, rfl⟩, ⟨rfl, rfl⟩, ⟨rfl, rfl⟩, ⟨rfl, rfl⟩, trivial⟩ trivial⟩
    · have c1 : ltT t (g9 l ((i + j) / 2)) = false := (congrArg (fun k => ltT t (g9 l k)) hMt.symm).trans c
      conv => whnf
      exact NextQ.mk ⟨⟨(i, (i + j) / 2), by show i ≤ (i + j) / 2; omega, Nat.le_of_lt hlt, hb.lo, fun k h1 h2 => by
        cases hq : ltT t (g9 l k) with
        | false => rfl
        | true => rw [hm ((i + j) / 2) k h1 h2 hq] at c1; cases c1⟩, by show (i + j) / 2 - i < j - i; omega, imp_of [] rfl rfl rfl ⟨⟨rfl, rfl⟩, ⟨rfl, congrArg i64 hM.symm⟩, ⟨rfl, rfl⟩, ⟨rfl, rfl⟩, ⟨rfl, rfl⟩, trivial⟩ trivial⟩
  · have hk2 : i = j := Nat.le_antisymm hb.le (ln_f c)
    clear c
    subst hk2
    have hp := hb.pos
    conv => whnf
    refine Split.mk (fun c => ?_) (fun c => ?_)
    · have hlt : i < l.length := ln_t c
      clear c
      conv => whnf
      refine Need.mk (idx hlt) ?_
      conv => whnf
      refine Split.mk (fun c => ?_) (fun c => ?_)
      · conv => whnf
        exact RetQ.mk ⟨rfl, rfl⟩ ⟨rfl, rfl⟩ ⟨iv (by rw [hp]), bv (by unfold fndT; rw [hp, show ((g9 l i).toList == t.toList) = true from c]; simp [hlt]), trivial⟩
      · conv => whnf
        refine Need.mk (idx hlt) ?_
        conv => whnf
        refine CallQ.mk _ (isNaN1 _) ?_
        conv => whnf
        refine Split.mk (fun e => ft_ e) (fun _ => ?_)
        conv => whnf
        exact RetQ.mk ⟨rfl, rfl⟩ ⟨rfl, rfl⟩ ⟨iv (by rw [hp]), bv (by unfold fndT; rw [hp, show ((g9 l i).toList == t.toList) = false from c]; simp), trivial⟩
    · have hge : l.length ≤ i := ln_f c
      clear c
      conv => whnf
      exact RetQ.mk ⟨rfl, rfl⟩ ⟨rfl, rfl⟩ ⟨iv (by rw [hp]), bv (by unfold fndT; rw [hp]; simp; omega), trivial⟩
end Go.Proofs.YtcnfgfomholheaaGreatDoor.Q
end
section
/- A wish taken out of a tree. -/
namespace Go.Proofs.YtcnfgfomholheaaGreatDoor.Q
open Go.RowKit Go.Proofs.YtcnfgfomholheaaGreatDoor.Z Go.Proofs.YtcnfgfomholheaaGreatDoor.Pure
set_option linter.unusedVariables false
set_option linter.unusedSimpArgs false
set_option maxRecDepth 100000
set_option maxHeartbeats 4000000
theorem less_asymm : ∀ (a b : List UInt8), Op.bytesLess a b = true → Op.bytesLess b a = false
  | [], [], h => by simp [Op.bytesLess] at h
  | [], b :: y, _ => rfl
  | a :: x, [], h => by simp [Op.bytesLess] at h
  | a :: x, b :: y, h => by
    simp only [Op.bytesLess, Bool.or_eq_true, Bool.and_eq_true, decide_eq_true_eq, beq_iff_eq] at h
    simp only [Op.bytesLess, Bool.or_eq_false_iff, Bool.and_eq_false_iff, decide_eq_false_iff_not, beq_eq_false_iff_ne, ne_eq]
    rcases h with h | ⟨h1, h2⟩
    · exact ⟨fun h' => absurd (UInt8.lt_trans h h') (UInt8.lt_irrefl _), .inl (fun e => by subst e; exact UInt8.lt_irrefl _ h)⟩
    · subst h1
      exact ⟨UInt8.lt_irrefl _, .inr (less_asymm x y h2)⟩
theorem less_irrefl (a : List UInt8) : Op.bytesLess a a = false := by
  cases h : Op.bytesLess a a with
  | false => rfl
  | true => exact absurd (less_asymm a a h) (by rw [h]; decide)
theorem less_trans : ∀ (a b c : List UInt8), Op.bytesLess a b = true → Op.bytesLess b c = true → Op.bytesLess a c = true
  | [], [], _, h, _ => by simp [Op.bytesLess] at h
  | a :: x, [], _, h, _ => by simp [Op.bytesLess] at h
  | _, b :: y, [], _, h => by simp [Op.bytesLess] at h
  | [], b :: y, c :: z, _, _ => rfl
  | a :: x, b :: y, c :: z, h, h2 => by
    simp only [Op.bytesLess, Bool.or_eq_true, Bool.and_eq_true, decide_eq_true_eq, beq_iff_eq] at h h2 ⊢
    rcases h with h | ⟨rfl, h⟩
    · rcases h2 with h2 | ⟨rfl, h2⟩
      · exact .inl (UInt8.lt_trans h h2)
      · exact .inl h
    · rcases h2 with h2 | ⟨rfl, h2⟩
      · exact .inl h2
      · exact .inr ⟨rfl, less_trans x y z h h2⟩
/-- Each node has as many names as kids, and its names rise. -/
inductive Tr : SN → Prop
  | mk (n : SN) (hl : n.f0.length = n.f1.length) (hr : n.f0.Pairwise (fun a b => Op.bytesLess a.toList b.toList = true)) (hk : ∀ k ∈ n.f1, Tr k) : Tr n
theorem Tr.len {n : SN} (h : Tr n) : n.f0.length = n.f1.length := by cases h; assumption
theorem Tr.kid {n : SN} (h : Tr n) : ∀ k ∈ n.f1, Tr k := by cases h; assumption
theorem Tr.rise {n : SN} (h : Tr n) : n.f0.Pairwise (fun a b => Op.bytesLess a.toList b.toList = true) := by cases h; assumption
theorem Tr.up {n : SN} (h : Tr n) (t : ByteArray) : ∀ a b, a ≤ b → b < n.f0.length → ltT t (g9 n.f0 b) = true → ltT t (g9 n.f0 a) = true := by
  cases h with
  | mk _ _ hr _ =>
    intro a b hab hb h
    rcases Nat.lt_or_eq_of_le hab with h1 | rfl
    · have h2 := List.pairwise_iff_getElem.1 hr a b (by omega) hb h1
      rw [show g9 n.f0 b = n.f0[b] from getD_in _ _ _ hb] at h
      have e := less_trans _ _ _ h2 h
      rw [← getD_in n.f0 a (T.df 9) (by omega)] at e
      exact e
    · exact h
theorem fnd_lt {t : ByteArray} {l : List ByteArray} (h : fndT t l = true) : posT t l < l.length := by
  unfold fndT at h
  simp at h
  exact h.1
/-- A node without a client's wish where levels lead. -/
def remP : List ByteArray → ByteArray → SN → SN
  | [], c, n => ⟨n.f0, n.f1, dropC c n.f2⟩
  | t :: ts, c, n =>
    bif fndT t n.f0 then
      bif (remP ts c (getE T eN n.f1 (posT t n.f0))).f1.length == 0 && (remP ts c (getE T eN n.f1 (posT t n.f0))).f2.length == 0 then
        ⟨n.f0.take (posT t n.f0) ++ n.f0.drop (posT t n.f0 + 1), n.f1.take (posT t n.f0) ++ n.f1.drop (posT t n.f0 + 1), n.f2⟩
      else ⟨n.f0, n.f1.set (posT t n.f0) (remP ts c (getE T eN n.f1 (posT t n.f0))), n.f2⟩
    else ⟨n.f0, n.f1, n.f2⟩
abbrev OutN (n : SN) : RS T.Tb := .ag [.ow 9 n.f0, .ow eN n.f1, .ow eS n.f2]
theorem removed_nil (n : SN) (c : ByteArray) (hn : Bd n) : CallOb T Tryz.prog 100 [.ag (T.cells eN n), .c (.sl 9 []), .c (.sc (.string c))] (OutN (remP [] c n)) := by
  refine call_of_vc hT Tryz.func100 (by kernel_rfl) rfl rfl (fun A => ?_)
  conv => whnf
  refine CallQ.mk _ (copyNode n hn) ?_
  conv => whnf
  refine Split.mk (fun _ => ?_) (fun e => tf_ e)
  conv => whnf
  refine CallQ.mk _ (withoutSub n.f2 c (Nat.le_trans hn.l2 (by decide))) ?_
  conv => whnf
  exact RetQ.mk ⟨rfl, rfl⟩ ⟨rfl, rfl⟩ ⟨rfl, rfl, rfl, trivial⟩
theorem tl_ {α : Type} (t : α) (ts : List α) : ((t :: ts).drop 1).take ((t :: ts).length - 1) = ts := by simp
theorem z0_t {n : Nat} (h : ((n : Int) == 0) = true) : n = 0 := by simp at h; exact h
theorem z0_f {n : Nat} (h : ((n : Int) == 0) = false) : ¬ n = 0 := by simp at h; exact h
theorem removed_cons (n : SN) (t : ByteArray) (ts : List ByteArray) (c : ByteArray) (hn : Bd n) (htr : Tr n) (hts : (t :: ts).length ≤ 1048576) (ih : fndT t n.f0 = true → CallOb T Tryz.prog 100 [.ag (T.cells eN (getE T eN n.f1 (posT t n.f0))), .c (.sl 9 (((t :: ts).drop 1).take ((t :: ts).length - 1))), .c (.sc (.string c))] (OutN (remP ts c (getE T eN n.f1 (posT t n.f0))))) : CallOb T Tryz.prog 100 [.ag (T.cells eN n), .c (.sl 9 (t :: ts)), .c (.sc (.string c))] (OutN (remP (t :: ts) c n)) := by
  have hl0 := hn.l0
  have hl1 := hn.l1
  generalize hK : remP ts c (getE T eN n.f1 (posT t n.f0)) = K at ih
  refine call_of_vc hT Tryz.func100 (by kernel_rfl) rfl rfl (fun A => ?_)
  conv => whnf
  refine CallQ.mk _ (copyNode n hn) ?_
  conv => whnf
  refine Split.mk (fun e => ?_) (fun _ => ?_)
  · simp at e
  conv => whnf
  refine Need.mk (idx (Nat.succ_pos _)) ?_
  conv => whnf
  refine CallQ.mk _ (bsearch n.f0 t (Nat.le_trans hn.l0 (by decide)) (htr.up t)) ?_
  conv => whnf
  refine DrawQ.mk ⟨by kernel_rfl, by kernel_rfl⟩ ?_
  conv => whnf
  refine Split.mk (fun e => ?_) (fun e => ?_)
  · have hf : fndT t n.f0 = false := not_t e
    conv => whnf
    exact RetQ.mk ⟨rfl, rfl⟩ ⟨rfl, rfl⟩ ⟨sr9 (by simp [remP, hf]), srN (by simp [remP, hf]), srS (by simp [remP, hf]), trivial⟩
  · have hf : fndT t n.f0 = true := not_f e
    have ih := ih hf
    have hp := fnd_lt hf
    have hp1 : posT t n.f0 < n.f1.length := by rw [← htr.len]; exact hp
    conv => whnf
    refine Need.mk (idx hp1) ?_
    conv => whnf
    refine Need.mk ⟨by decide, Int.ofNat_le.2 (show 1 ≤ ts.length + 1 from Nat.succ_le_succ (Nat.zero_le _)), Int.le_refl _⟩ ?_
    conv => whnf
    refine CallQ.mk _ ih ?_
    conv => whnf
    refine DrawQ.mk ⟨by kernel_rfl, by kernel_rfl⟩ ?_
    conv => whnf
    refine Split.mk (fun c1 => ?_) (fun c1 => ?_)
    · have e1 : K.f1.length = 0 := z0_t c1
      conv => whnf
      refine Split.mk (fun c2 => ?_) (fun c2 => ?_)
      · have e2 : K.f2.length = 0 := z0_t c2
        have hw : wrap64 ((posT t n.f0 : Int) + 1) = ((posT t n.f0 + 1 : Nat) : Int) := (sc_ hp (by omega)).symm
        have q0 := cutT n.f0 (posT t n.f0) (posT t n.f0 + 1) (Nat.lt_succ_self _) hp
        have q1 := cutN n.f1 (posT t n.f0) (posT t n.f0 + 1) (Nat.lt_succ_self _) hp1
        rw [← hw] at q0 q1
        conv => whnf
        refine CallQ.wr [[.gv 9], [.rd], [.rd]] (.c (.ow 9 (n.f0.take (posT t n.f0) ++ n.f0.drop (posT t n.f0 + 1)))) ?_
        conv => whnf
        refine CallWQ.mk q0 ?_
        conv => whnf
        refine CallQ.wr [[.gv eN], [.rd], [.rd]] (.c (.ow eN (n.f1.take (posT t n.f0) ++ n.f1.drop (posT t n.f0 + 1)))) ?_
        conv => whnf
        refine CallWQ.mk q1 ?_
        conv => whnf
        exact RetQ.mk ⟨rfl, rfl⟩ ⟨rfl, rfl⟩ ⟨sr9 (by simp [remP, hf, hK, e1, e2]), srN (by simp [remP, hf, hK, e1, e2]), srS (by simp [remP, hf, hK, e1, e2]), trivial⟩
      · have e2 : ¬ K.f2.length = 0 := z0_f c2
        conv => whnf
        have b2 : (K.f2.length == 0) = false := beq_eq_false_iff_ne.2 e2
        refine Need.mk (idx hp1) ?_
        conv => whnf
        exact RetQ.mk ⟨rfl, rfl⟩ ⟨rfl, rfl⟩ ⟨sr9 (by simp [remP, hf, hK, e1, b2]), srN (by rw [etaN]; simp [remP, hf, hK, e1, b2]; rfl), srS (by simp [remP, hf, hK, e1, b2]), trivial⟩
    · have e1 : ¬ K.f1.length = 0 := z0_f c1
      conv => whnf
      have b1 : (K.f1.length == 0) = false := beq_eq_false_iff_ne.2 e1
      refine Split.mk (fun e => ft_ e) (fun _ => ?_)
      conv => whnf
      refine Need.mk (idx hp1) ?_
      conv => whnf
      exact RetQ.mk ⟨rfl, rfl⟩ ⟨rfl, rfl⟩ ⟨sr9 (by simp [remP, hf, hK, b1]), srN (by rw [etaN]; simp [remP, hf, hK, b1]; rfl), srS (by simp [remP, hf, hK, b1]), trivial⟩
theorem removed : ∀ (ls : List ByteArray) (c : ByteArray) (n : SN), ls.length ≤ 1048576 → Bd n → Tr n → CallOb T Tryz.prog 100 [.ag (T.cells eN n), .c (.sl 9 ls), .c (.sc (.string c))] (OutN (remP ls c n))
  | [], c, n, _, hn, _ => removed_nil n c hn
  | t :: ts, c, n, hl, hn, ht => by
    refine removed_cons n t ts c hn ht hl (fun hf => ?_)
    have hp1 : posT t n.f0 < n.f1.length := by rw [← ht.len]; exact fnd_lt hf
    have hm : getE T eN n.f1 (posT t n.f0) ∈ n.f1 := getD_mem (l := n.f1) (d := T.df eN) hp1
    exact Eq.mpr (congrArg (fun L : List ByteArray => CallOb T Tryz.prog 100 [.ag (T.cells eN (getE T eN n.f1 (posT t n.f0))), .c (.sl 9 L), .c (.sc (.string c))] (OutN (remP ts c (getE T eN n.f1 (posT t n.f0))))) (tl_ t ts)) (removed ts c (getE T eN n.f1 (posT t n.f0)) (by simp at hl; omega) (hn.kid _ hm) (ht.kid _ hm))
end Go.Proofs.YtcnfgfomholheaaGreatDoor.Q
end
section
/- All wishes of a tree, on both sides. -/
namespace Go.Proofs.YtcnfgfomholheaaGreatDoor.Q
open Go.RowKit Go.Proofs.YtcnfgfomholheaaGreatDoor.Z Go.Proofs.YtcnfgfomholheaaGreatDoor.Pure
set_option linter.unusedVariables false
set_option linter.unusedSimpArgs false
set_option maxRecDepth 100000
set_option maxHeartbeats 4000000
def enP (p : List ByteArray) (s : SS) : SE := ⟨joinB p, s.f0, s.f1, s.f2⟩
theorem entL_eq' (p : List ByteArray) (n : SN) : entL p n = n.f2.map (enP p) ++ entLL p n.f0 n.f1 := entL_eq p n
theorem entLL_take {p : List ByteArray} {d : ByteArray} {e : SN} : ∀ {ns : List ByteArray} {ks : List SN} {k : Nat}, k < ns.length → k < ks.length → entLL p (ns.take (k + 1)) (ks.take (k + 1)) = entLL p (ns.take k) (ks.take k) ++ entL (p ++ [ns.getD k d]) (ks.getD k e)
  | [], _, _, h, _ => by simp at h
  | _ :: _, [], _, _, h => by simp at h
  | x :: r, y :: q, 0, _, _ => by
    simp only [List.take_succ_cons, List.take_zero, entLL, List.append_nil, List.nil_append]
    rfl
  | x :: r, y :: q, k + 1, h, h2 => by
    have := entLL_take (p := p) (d := d) (e := e) (ns := r) (ks := q) (k := k) (by simpa using h) (by simpa using h2)
    simp only [List.take_succ_cons] at this ⊢
    rw [entLL, entLL, this, List.append_assoc]
    rfl
theorem entLL_take_le {p : List ByteArray} : ∀ {ns : List ByteArray} {ks : List SN} {k : Nat}, (entLL p (ns.take k) (ks.take k)).length ≤ (entLL p ns ks).length
  | [], ks, k => by rw [List.take_nil, entLL]; exact Nat.zero_le _
  | _ :: _, [], 0 => by rw [List.take_zero, entLL]; exact Nat.zero_le _
  | _ :: _, [], k + 1 => by rw [List.take_nil, List.take_succ_cons, entLL]; exact Nat.zero_le _
  | x :: r, y :: q, 0 => by rw [List.take_zero, entLL]; exact Nat.zero_le _
  | x :: r, y :: q, k + 1 => by
    have := entLL_take_le (p := p) (ns := r) (ks := q) (k := k)
    simp only [List.take_succ_cons, entLL, List.length_append]
    omega
theorem take_map_snoc {l : List SS} {p : List ByteArray} {k : Nat} {d : SS} (h : k < l.length) : (l.take k).map (enP p) ++ [enP p (l.getD k d)] = (l.take (k + 1)).map (enP p) := by
  rw [List.take_succ_eq_append_getElem h, List.map_append, getD_in (α := SS) l k d h]; rfl
theorem entriesOf_of (n : SN) (p : List ByteArray) (hn : Bd n) (hl : n.f0.length = n.f1.length) (hp : p.length ≤ 7) (hz : ∀ x ∈ p, x.size ≤ 1048576) (hc : (entL p n).length ≤ 4194304)
    (ih : ∀ i, i < n.f1.length → CallOb T Tryz.prog 136 [.ag (T.cells eN (getE T eN n.f1 i)), .c (.sl 9 (p ++ [g9 n.f0 i]))] (.c (.ow eE (entL (p ++ [g9 n.f0 i]) (getE T eN n.f1 i))))) : CallOb T Tryz.prog 136 [.ag (T.cells eN n), .c (.sl 9 p)] (.c (.ow eE (entL p n))) := by
  have hl2 := hn.l2
  rw [entL_eq'] at hc ⊢
  rw [List.length_append, List.length_map] at hc
  refine call_of_vc hT Tryz.func136 (by kernel_rfl) rfl rfl (fun A => ?_)
  conv => whnf
  refine LoopQ.mk { k : Nat // k ≤ n.f2.length } (fun q => (2, [(14, i64 q.1), (13, i64 n.f2.length), (12, im eS n.f2), (5, .c (.hd 1)), (2, .c (.px 0 0)), (1, im 9 p)], [(1, .row 1 eE ((n.f2.take q.1).map (enP p))), (0, bxN n)])) (fun q => n.f2.length - q.1) ⟨0, Nat.zero_le _⟩ (imp_of [(1, 1), (0, 0)] rfl rfl rfl ⟨⟨rfl, rfl⟩, ⟨rfl, rfl⟩, ⟨rfl, rfl⟩, ⟨rfl, rfl⟩, ⟨rfl, rfl⟩, ⟨rfl, rfl⟩, trivial⟩ ⟨srE rfl, ⟨rfl, rfl⟩, trivial⟩) ?_
  rintro ⟨k, hk⟩
  conv => whnf
  refine Split.mk (fun c => ?_) (fun c => ?_)
  · have hk2 : k < n.f2.length := ln_t c
    clear c
    conv => whnf
    refine Need.mk (idx hk2) ?_
    conv => whnf
    refine CallQ.mk _ (implJoin p (Nat.le_trans hp (by decide)) (joinB_small p hp hz)) ?_
    conv => whnf
    refine Need.mk (app_need (a := ((n.f2.take k).map (enP p)).length) (b := 1) (by rw [List.length_map, List.length_take]; omega) (by decide)) ?_
    conv => whnf
    refine DrawQ.mk ⟨by kernel_rfl, by kernel_rfl⟩ ?_
    conv => whnf
    exact NextQ.mk ⟨⟨k + 1, hk2⟩, Nat.sub_lt_sub_left hk2 (Nat.lt_succ_self k), imp_of [(1, 5), (0, 0)] rfl rfl rfl ⟨⟨rfl, congrArg i64 (sc_ hk2 (by omega))⟩, ⟨rfl, rfl⟩, ⟨rfl, rfl⟩, ⟨rfl, rfl⟩, ⟨rfl, rfl⟩, ⟨rfl, rfl⟩, trivial⟩ ⟨srE (take_map_snoc (d := T.df eS) hk2), ⟨rfl, rfl⟩, trivial⟩⟩
  · have hk2 : k = n.f2.length := Nat.le_antisymm hk (ln_f c)
    clear c
    subst hk2
    have hl1 := hn.l1
    conv => whnf
    refine LoopQ.mk { k : Nat // k ≤ n.f1.length } (fun q => (2, [(34, i64 q.1), (33, i64 n.f1.length), (32, im eN n.f1), (5, .c (.hd 1)), (2, .c (.px 0 0)), (1, im 9 p)], [(1, .row 1 eE (n.f2.map (enP p) ++ entLL p (n.f0.take q.1) (n.f1.take q.1))), (0, bxN n)])) (fun q => n.f1.length - q.1) ⟨0, Nat.zero_le _⟩ (imp_of [(1, 1), (0, 0)] rfl rfl rfl ⟨⟨rfl, rfl⟩, ⟨rfl, rfl⟩, ⟨rfl, rfl⟩, ⟨rfl, rfl⟩, ⟨rfl, rfl⟩, ⟨rfl, rfl⟩, trivial⟩ ⟨srE (by rw [List.take_length]; simp [entLL]; rfl), ⟨rfl, rfl⟩, trivial⟩) ?_
    rintro ⟨k, hk⟩
    conv => whnf
    refine Split.mk (fun c => ?_) (fun c => ?_)
    · have hk2 : k < n.f1.length := ln_t c
      have hk3 : k < n.f0.length := by omega
      clear c
      conv => whnf
      refine Need.mk (idx hk2) ?_
      conv => whnf
      refine Need.mk ⟨flat9, app_need (a := 0) (b := p.length) (by omega) (by decide)⟩ ?_
      conv => whnf
      refine Need.mk (idx hk3) ?_
      conv => whnf
      refine Need.mk (app_need (a := p.length) (b := 1) (by omega) (by decide)) ?_
      conv => whnf
      refine CallQ.mk _ (ih k hk2) ?_
      conv => whnf
      have hsn := entLL_take (p := p) (d := T.df 9) (e := T.df eN) hk3 hk2
      have hle := entLL_take_le (p := p) (ns := n.f0) (ks := n.f1) (k := k + 1)
      rw [hsn, List.length_append] at hle
      refine Need.mk (app_need (a := (n.f2.map (enP p) ++ entLL p (n.f0.take k) (n.f1.take k)).length) (b := (entL (p ++ [g9 n.f0 k]) (getE T eN n.f1 k)).length) (by rw [List.length_append, List.length_map]; have hle' : _ + (entL (p ++ [g9 n.f0 k]) (getE T eN n.f1 k)).length ≤ _ := hle; omega) (by decide)) ?_
      conv => whnf
      refine DrawQ.mk ⟨by kernel_rfl, by kernel_rfl⟩ ?_
      conv => whnf
      exact NextQ.mk ⟨⟨k + 1, hk2⟩, Nat.sub_lt_sub_left hk2 (Nat.lt_succ_self k), imp_of [(1, 8), (0, 0)] rfl rfl rfl ⟨⟨rfl, congrArg i64 (sc_ hk2 (by omega))⟩, ⟨rfl, rfl⟩, ⟨rfl, rfl⟩, ⟨rfl, rfl⟩, ⟨rfl, rfl⟩, ⟨rfl, rfl⟩, trivial⟩ ⟨srE (show (n.f2.map (enP p) ++ entLL p (n.f0.take k) (n.f1.take k)) ++ entL (p ++ [g9 n.f0 k]) (getE T eN n.f1 k) = n.f2.map (enP p) ++ entLL p (n.f0.take (k + 1)) (n.f1.take (k + 1)) by rw [hsn, List.append_assoc]; rfl), ⟨rfl, rfl⟩, trivial⟩⟩
    · have hk2 : k = n.f1.length := Nat.le_antisymm hk (ln_f c)
      clear c
      conv => whnf
      exact RetQ.mk ⟨rfl, rfl⟩ ⟨rfl, rfl⟩ ⟨srE (by show n.f2.map (enP p) ++ entLL p (n.f0.take k) (n.f1.take k) = _; rw [hk2, List.take_length, ← hl, List.take_length]), trivial⟩
theorem entLL_kid {p : List ByteArray} {n : SN} {i : Nat} (h : i < n.f1.length) (hl : n.f0.length = n.f1.length) : (entL (p ++ [g9 n.f0 i]) (getE T eN n.f1 i)).length ≤ (entL p n).length := by
  have h3 : i < n.f0.length := by omega
  have hsn := entLL_take (p := p) (d := T.df 9) (e := T.df eN) h3 h
  have hle := entLL_take_le (p := p) (ns := n.f0) (ks := n.f1) (k := i + 1)
  rw [hsn, List.length_append] at hle
  rw [entL_eq', List.length_append]
  have hle' : _ + (entL (p ++ [g9 n.f0 i]) (getE T eN n.f1 i)).length ≤ _ := hle
  omega
theorem g9_mem {l : List ByteArray} {i : Nat} (h : i < l.length) : g9 l i ∈ l := getD_mem (l := l) (d := T.df 9) h
theorem gN_mem {l : List SN} {i : Nat} (h : i < l.length) : getE T eN l i ∈ l := getD_mem (l := l) (d := T.df eN) h
/-- No path to a node is longer than so many names. -/
inductive Dp : Nat → SN → Prop
  | mk (d : Nat) (n : SN) (h : n.f1 ≠ [] → 0 < d) (hk : ∀ k ∈ n.f1, Dp (d - 1) k) : Dp d n
theorem Dp.pos {d : Nat} {n : SN} (h : Dp d n) (hne : n.f1 ≠ []) : 0 < d := by cases h with | mk _ _ h _ => exact h hne
theorem Dp.kid {d : Nat} {n : SN} (h : Dp d n) : ∀ k ∈ n.f1, Dp (d - 1) k := by cases h with | mk _ _ _ h => exact h
theorem entriesOf : ∀ (n : SN) (p : List ByteArray) (d : Nat), Bd n → Tr n → Dp d n → p.length + d ≤ 7 → (∀ x ∈ p, x.size ≤ 1048576) → (entL p n).length ≤ 4194304 → CallOb T Tryz.prog 136 [.ag (T.cells eN n), .c (.sl 9 p)] (.c (.ow eE (entL p n))) := fun n p d hn ht hd hp hz hc =>
  entriesOf_of n p hn ht.len (by omega) hz hc (fun i hi => by
    have hm : getE T eN n.f1 i ∈ n.f1 := gN_mem hi
    have h9 : g9 n.f0 i ∈ n.f0 := g9_mem (by rw [ht.len]; exact hi)
    have hpos := hd.pos (fun e => by rw [e] at hi; simp at hi)
    have hx : (getE T eN n.f1 i : SN) ∈ n.f1 := hm
    exact entriesOf (getE T eN n.f1 i) (p ++ [g9 n.f0 i]) (d - 1) (hn.kid _ hm) (ht.kid _ hm) (hd.kid _ hm) (by rw [List.length_append]; show p.length + 1 + (d - 1) ≤ 7; omega) (fun y hy => (List.mem_append.1 hy).elim (hz y) (fun h => by rw [List.mem_singleton.1 h]; exact hn.z0 _ h9)) (Nat.le_trans (entLL_kid hi ht.len) hc))
termination_by n => SizeOf.sizeOf n
decreasing_by exact lt_kid hm
theorem implEntries (n : SN) (hn : Bd n) (hg : nodeP n = true → Tr n ∧ Dp 7 n) (hc : (entsL n).length ≤ 4194304) : CallOb T Tryz.prog 71 [.ag (T.cells eN n)] (.c (.ow eE (entsL n))) := by
  refine call_of_vc hT Tryz.func71 (by kernel_rfl) rfl rfl (fun A => ?_)
  conv => whnf
  refine CallQ.mk _ (implNodeOk n hn) ?_
  conv => whnf
  refine Split.mk (fun c => ?_) (fun c => ?_)
  · have h0 : nodeP n = false := not_t c
    conv => whnf
    exact RetQ.mk ⟨rfl, rfl⟩ ⟨rfl, rfl⟩ ⟨⟨rfl, show entsL n = [] by unfold entsL; rw [h0]; rfl⟩, trivial⟩
  · have h0 : nodeP n = true := not_f c
    have he : entsL n = entL [] n := by unfold entsL; rw [if_pos h0]
    rw [he] at hc ⊢
    conv => whnf
    refine CallQ.mk _ (call_nil1 (entriesOf n [] 7 hn (hg h0).1 (hg h0).2 (by decide) (fun x hx => by cases hx) hc)) ?_
    conv => whnf
    exact RetQ.mk ⟨rfl, rfl⟩ ⟨rfl, rfl⟩ ⟨rfl, trivial⟩
end Go.Proofs.YtcnfgfomholheaaGreatDoor.Q
end
section
/- A client taken out of a tree: the program's side. -/
namespace Go.Proofs.YtcnfgfomholheaaGreatDoor.Q
open Go.RowKit Go.Proofs.YtcnfgfomholheaaGreatDoor.Z Go.Proofs.YtcnfgfomholheaaGreatDoor.Pure
set_option linter.unusedVariables false
set_option linter.unusedSimpArgs false
set_option maxRecDepth 100000
set_option maxHeartbeats 4000000
theorem cut_sub {α : Type} (l : List α) (i : Nat) : (l.take i ++ l.drop (i + 1)).Sublist l := by
  have := (List.drop_sublist_drop_left l (Nat.le_succ i)).append_left (l.take i)
  rwa [List.take_append_drop] at this
theorem remP_bd : ∀ (ls : List ByteArray) (c : ByteArray) (n : SN), Bd n → Tr n → Bd (remP ls c n)
  | [], c, n, h, _ => .mk _ h.l0 h.z0 h.l1 (Nat.le_trans (dropC_len c n.f2) h.l2) (fun x hx => h.z2 x (List.filter_sublist.subset hx)) h.kid
  | t :: ts, c, n, h, ht => by
    unfold remP
    cases hf : fndT t n.f0 with
    | false => exact .mk _ h.l0 h.z0 h.l1 h.l2 h.z2 h.kid
    | true =>
      have hp : posT t n.f0 < n.f1.length := by rw [← ht.len]; exact fnd_lt hf
      have ih := remP_bd ts c (getE T eN n.f1 (posT t n.f0)) (h.kid _ (gN_mem hp)) (ht.kid _ (gN_mem hp))
      generalize remP ts c (getE T eN n.f1 (posT t n.f0)) = K at ih ⊢
      cases K.f1.length == 0 && K.f2.length == 0 with
      | true => exact .mk _ (Nat.le_trans (cut_sub n.f0 _).length_le h.l0) (fun x hx => h.z0 x ((cut_sub n.f0 _).subset hx)) (Nat.le_trans (cut_sub n.f1 _).length_le h.l1) h.l2 h.z2 (fun x hx => h.kid x ((cut_sub n.f1 _).subset hx))
      | false => exact .mk _ h.l0 h.z0 (by show (n.f1.set _ _).length ≤ _; rw [List.length_set]; exact h.l1) h.l2 h.z2 (fun x hx => (List.mem_or_eq_of_mem_set hx).elim (h.kid x) (fun e => e ▸ ih))
theorem remP_tr : ∀ (ls : List ByteArray) (c : ByteArray) (n : SN), Tr n → Tr (remP ls c n)
  | [], c, n, h => .mk _ h.len h.rise h.kid
  | t :: ts, c, n, h => by
    unfold remP
    cases hf : fndT t n.f0 with
    | false => exact .mk _ h.len h.rise h.kid
    | true =>
      have hp : posT t n.f0 < n.f1.length := by rw [← h.len]; exact fnd_lt hf
      have ih := remP_tr ts c (getE T eN n.f1 (posT t n.f0)) (h.kid _ (gN_mem hp))
      generalize remP ts c (getE T eN n.f1 (posT t n.f0)) = K at ih ⊢
      have hlen := h.len
      have hp0 := fnd_lt hf
      cases K.f1.length == 0 && K.f2.length == 0 with
      | true => exact .mk _ (by show (n.f0.take _ ++ n.f0.drop _).length = (n.f1.take _ ++ n.f1.drop _).length; simp only [List.length_append, List.length_take, List.length_drop]; omega) (h.rise.sublist (cut_sub n.f0 _)) (fun x hx => h.kid x ((cut_sub n.f1 _).subset hx))
      | false => exact .mk _ (by show n.f0.length = (n.f1.set _ _).length; rw [List.length_set]; exact hlen) h.rise (fun x hx => (List.mem_or_eq_of_mem_set hx).elim (h.kid x) (fun e => e ▸ ih))
/-- A client's wishes taken out one by one, as a list of wishes tells them. -/
def remAll (c : ByteArray) (es : List SE) (n : SN) : SN := es.foldl (fun o e => bif e.f1.toList == c.toList then remP (lev e.f0) c o else o) n
theorem remAll_ok (c : ByteArray) : ∀ (es : List SE) (n : SN), Bd n → Tr n → Bd (remAll c es n) ∧ Tr (remAll c es n)
  | [], n, hb, ht => ⟨hb, ht⟩
  | e :: es, n, hb, ht => by
    unfold remAll
    rw [List.foldl_cons]
    cases e.f1.toList == c.toList with
    | true => exact remAll_ok c es _ (remP_bd _ _ _ hb ht) (remP_tr _ _ _ ht)
    | false => exact remAll_ok c es _ hb ht
theorem remAll_step {c : ByteArray} {es : List SE} {n : SN} {k : Nat} {d : SE} (h : k < es.length) : remAll c (es.take (k + 1)) n = bif (es.getD k d).f1.toList == c.toList then remP (lev (es.getD k d).f0) c (remAll c (es.take k) n) else remAll c (es.take k) n := by
  unfold remAll
  rw [List.take_succ_eq_append_getElem h, List.foldl_append, getD_in es k d h]
  rfl
theorem implRemoveClient (n : SN) (c : ByteArray) (hn : Bd n) (htn : nodeP n = true → Tr n ∧ Dp 7 n) (hc : (entsL n).length ≤ 4194304) (hE : ∀ e ∈ entsL n, e.f0.size ≤ 1073741824 ∧ (lev e.f0).length ≤ 1048576) : CallOb T Tryz.prog 21 [.ag (T.cells eN n), .c (.sc (.string c))] (OutN (remAll c (entsL n) n)) := by
  have hok : ∀ k, entsL n ≠ [] → Bd (remAll c ((entsL n).take k) n) ∧ Tr (remAll c ((entsL n).take k) n) := fun k hne => remAll_ok c _ n hn (htn (by
    cases h : nodeP n with
    | true => rfl
    | false => exact absurd (show entsL n = [] by unfold entsL; rw [h]; rfl) hne)).1
  have hents := implEntries n hn htn hc
  refine call_of_vc hT Tryz.func21 (by kernel_rfl) rfl rfl (fun A => ?_)
  conv => whnf
  refine CallQ.mk _ (copyNode n hn) ?_
  conv => whnf
  refine CallQ.mk _ hents ?_
  conv => whnf
  generalize hEq : entsL n = E at hc hE hok ⊢
  refine LoopQ.mk { k : Nat // k ≤ E.length } (fun q => (7, [(13, i64 q.1), (12, i64 E.length), (11, .c (.hd 6)), (5, .c (.px 5 0)), (4, .c (.px 1 0)), (1, .c (.sc (.string c)))], [(5, .bx eN [.hd 2, .hd 3, .hd 4]), (2, .row 2 9 (remAll c (E.take q.1) n).f0), (3, .row 3 eN (remAll c (E.take q.1) n).f1), (4, .row 4 eS (remAll c (E.take q.1) n).f2), (6, .row 6 eE E), (1, bxZ)])) (fun q => E.length - q.1) ⟨0, Nat.zero_le _⟩ (imp_of [(5, 5), (2, 2), (3, 3), (4, 4), (6, 6), (1, 1)] rfl rfl rfl ⟨⟨rfl, rfl⟩, ⟨rfl, rfl⟩, ⟨rfl, rfl⟩, ⟨rfl, rfl⟩, ⟨rfl, rfl⟩, ⟨rfl, rfl⟩, trivial⟩ ⟨⟨rfl, rfl⟩, sr9 rfl, srN rfl, srS rfl, srE rfl, ⟨rfl, rfl⟩, trivial⟩) ?_
  rintro ⟨k, hk⟩
  conv => whnf
  refine Split.mk (fun c1 => ?_) (fun c1 => ?_)
  · have hk2 : k < E.length := ln_t c1
    clear c1
    obtain ⟨hob, hot⟩ := hok k (fun e => by rw [e] at hk2; simp at hk2)
    obtain ⟨hs1, hs2⟩ := hE (getE T eE E k) (getD_mem (l := E) (d := T.df eE) hk2)
    have hstep := remAll_step (c := c) (n := n) (d := T.df eE) hk2
    conv => whnf
    refine Need.mk (idx hk2) ?_
    conv => whnf
    refine Split.mk (fun c1 => ?_) (fun c1 => ?_)
    · have hq : remAll c (E.take (k + 1)) n = remP (lev (getE T eE E k).f0) c (remAll c (E.take k) n) := by rw [hstep]; rw [show ((List.getD E k (T.df eE)).f1.toList == c.toList) = true from c1]; rfl
      conv => whnf
      refine CallQ.mk _ (implLevels _ hs1) ?_
      conv => whnf
      refine CallQ.mk _ (removed (lev (getE T eE E k).f0) c (remAll c (E.take k) n) hs2 hob hot) ?_
      conv => whnf
      refine DrawQ.mk ⟨by kernel_rfl, by kernel_rfl⟩ ?_
      conv => whnf
      exact NextQ.mk ⟨⟨k + 1, hk2⟩, Nat.sub_lt_sub_left hk2 (Nat.lt_succ_self k), imp_of [(5, 5), (2, 9), (3, 10), (4, 11), (6, 6), (1, 1)] rfl rfl rfl ⟨⟨rfl, congrArg i64 (sc_ hk2 (by omega))⟩, ⟨rfl, rfl⟩, ⟨rfl, rfl⟩, ⟨rfl, rfl⟩, ⟨rfl, rfl⟩, ⟨rfl, rfl⟩, trivial⟩ ⟨⟨rfl, rfl⟩, sr9 (congrArg (·.f0) hq.symm), srN (congrArg (·.f1) hq.symm), srS (congrArg (·.f2) hq.symm), srE rfl, ⟨rfl, rfl⟩, trivial⟩⟩
    · have hq : remAll c (E.take (k + 1)) n = remAll c (E.take k) n := by rw [hstep]; rw [show ((List.getD E k (T.df eE)).f1.toList == c.toList) = false from c1]; rfl
      conv => whnf
      exact NextQ.mk ⟨⟨k + 1, hk2⟩, Nat.sub_lt_sub_left hk2 (Nat.lt_succ_self k), imp_of [(5, 5), (2, 2), (3, 3), (4, 4), (6, 6), (1, 1)] rfl rfl rfl ⟨⟨rfl, congrArg i64 (sc_ hk2 (by omega))⟩, ⟨rfl, rfl⟩, ⟨rfl, rfl⟩, ⟨rfl, rfl⟩, ⟨rfl, rfl⟩, ⟨rfl, rfl⟩, trivial⟩ ⟨⟨rfl, rfl⟩, sr9 (congrArg (·.f0) hq.symm), srN (congrArg (·.f1) hq.symm), srS (congrArg (·.f2) hq.symm), srE rfl, ⟨rfl, rfl⟩, trivial⟩⟩
  · have hk2 : k = E.length := Nat.le_antisymm hk (ln_f c1)
    clear c1
    subst hk2
    conv => whnf
    exact RetQ.mk ⟨rfl, rfl⟩ ⟨rfl, rfl⟩ ⟨sr9 (by rw [List.take_length]), srN (by rw [List.take_length]), srS (by rw [List.take_length]), trivial⟩
end Go.Proofs.YtcnfgfomholheaaGreatDoor.Q
end
section
/- Trees copied: the reference's side. -/
namespace Go.Proofs.YtcnfgfomholheaaGreatDoor.Q
open Go.RowKit Go.Proofs.YtcnfgfomholheaaGreatDoor.Z Go.Proofs.YtcnfgfomholheaaGreatDoor.Pure
set_option linter.unusedVariables false
set_option linter.unusedSimpArgs false
set_option maxRecDepth 100000
set_option maxHeartbeats 4000000
theorem specCopy_of (n : SN) (hn : Bd n) (ih : ∀ k ∈ n.f1, CallOb T Tryz.prog 95 [.ag (T.cells eN k)] (OutN k)) : CallOb T Tryz.prog 95 [.ag (T.cells eN n)] (OutN n) := by
  have hl0 := hn.l0
  have hl1 := hn.l1
  have hl2 := hn.l2
  refine call_of_Vc hT Tryz.func95 (by kernel_rfl) rfl rfl (fun A => ?_)
  refine Vc.seq 0 hT ?_
  conv => whnf
  refine Vc.seq 2 hT ?_
  conv => whnf
  refine Need.mk ⟨flat9, app_need (a := 0) (b := n.f0.length) (by omega) (by decide)⟩ ?_
  conv => whnf
  refine Need.mk ⟨flatS, app_need (a := 0) (b := n.f2.length) (by omega) (by decide)⟩ ?_
  conv => whnf
  refine DrawQ.mk ⟨by kernel_rfl, by kernel_rfl⟩ ?_
  conv => whnf
  refine Vc.of 10 hT ?_
  conv => whnf
  refine LoopQ.mk { k : Nat // k ≤ n.f1.length } (fun p => (8, [(4, i64 p.1), (3, .c (.px 6 0)), (2, .c (.px 1 0)), (1, .c (.px 0 0))], [(6, .bx eN [.hd 3, .hd 7, .hd 5]), (3, .row 3 9 n.f0), (7, .row 7 eN (n.f1.take p.1)), (5, .row 5 eS n.f2), (1, bxZ), (0, bxN n)])) (fun p => n.f1.length - p.1) ⟨0, Nat.zero_le _⟩ ((imp_nilB 6 1 20 eN (t := eN) (cs := [.hd 3, .sc (.slice none 0 0), .hd 5]) rfl rfl rfl).trans (imp_of [(6, 6), (3, 3), (7, 20), (5, 5), (1, 1), (0, 0)] rfl rfl rfl ⟨⟨rfl, rfl⟩, ⟨rfl, rfl⟩, ⟨rfl, rfl⟩, ⟨rfl, rfl⟩, trivial⟩ ⟨⟨rfl, rfl⟩, sr9 rfl, srN rfl, srS rfl, ⟨rfl, rfl⟩, ⟨rfl, rfl⟩, trivial⟩)) ?_
  rintro ⟨k, hk⟩
  conv => whnf
  refine Split.mk (fun c => ?_) (fun c => ?_)
  · have hk2 : k < n.f1.length := ln_t c
    clear c
    conv => whnf
    refine Need.mk (idx hk2) ?_
    conv => whnf
    refine CallQ.mk _ (ih _ (gN_mem hk2)) ?_
    conv => whnf
    refine Need.mk (app_need (a := (n.f1.take k).length) (b := 1) (by rw [List.length_take]; omega) (by decide)) ?_
    conv => whnf
    exact NextQ.mk ⟨⟨k + 1, hk2⟩, Nat.sub_lt_sub_left hk2 (Nat.lt_succ_self k), imp_of [(6, 6), (3, 3), (7, 13), (5, 5), (1, 1), (0, 0)] rfl rfl rfl ⟨⟨rfl, congrArg i64 (sc_ hk2 (by omega))⟩, ⟨rfl, rfl⟩, ⟨rfl, rfl⟩, ⟨rfl, rfl⟩, trivial⟩ ⟨⟨rfl, rfl⟩, sr9 rfl, srN (take_snoc hk2), srS rfl, ⟨rfl, rfl⟩, ⟨rfl, rfl⟩, trivial⟩⟩
  · have hk2 : k = n.f1.length := Nat.le_antisymm hk (ln_f c)
    subst hk2
    conv => whnf
    exact RetQ.mk ⟨rfl, rfl⟩ ⟨rfl, rfl⟩ ⟨rfl, srN (List.take_length), rfl, trivial⟩
theorem specCopy : ∀ (n : SN), Bd n → CallOb T Tryz.prog 95 [.ag (T.cells eN n)] (OutN n) := fun n hn =>
  specCopy_of n hn (fun k hk => specCopy k (by cases hn with | mk _ _ _ _ _ _ h => exact h k hk))
termination_by n => SizeOf.sizeOf n
decreasing_by exact lt_kid hk
end Go.Proofs.YtcnfgfomholheaaGreatDoor.Q
end
section
/- A client taken out of a tree: the reference's side. -/
namespace Go.Proofs.YtcnfgfomholheaaGreatDoor.Q
open Go.RowKit Go.Proofs.YtcnfgfomholheaaGreatDoor.Z Go.Proofs.YtcnfgfomholheaaGreatDoor.Pure
set_option linter.unusedVariables false
set_option linter.unusedSimpArgs false
set_option maxRecDepth 100000
set_option maxHeartbeats 4000000
/-- A node holds something. -/
def fullP (n : SN) : Bool := decide (0 < n.f0.length) || decide (0 < n.f2.length)
mutual
def drpA (c : ByteArray) : SN → SN
  | ⟨ns, ks, ss⟩ => ⟨(drpAL c ns ks).map (·.1), (drpAL c ns ks).map (·.2), dropC c ss⟩
def drpAL (c : ByteArray) : List ByteArray → List SN → List (ByteArray × SN)
  | x :: r, k :: q => (bif fullP (drpA c k) then [(x, drpA c k)] else []) ++ drpAL c r q
  | [], _ => []
  | _ :: _, [] => []
end
theorem drpA_eq (c : ByteArray) (n : SN) : drpA c n = ⟨(drpAL c n.f0 n.f1).map (·.1), (drpAL c n.f0 n.f1).map (·.2), dropC c n.f2⟩ := by cases n; rw [drpA]
theorem drpAL_take {c : ByteArray} {d : ByteArray} {e : SN} : ∀ {ns : List ByteArray} {ks : List SN} {k : Nat}, k < ns.length → k < ks.length → drpAL c (ns.take (k + 1)) (ks.take (k + 1)) = drpAL c (ns.take k) (ks.take k) ++ bif fullP (drpA c (ks.getD k e)) then [(ns.getD k d, drpA c (ks.getD k e))] else []
  | [], _, _, h, _ => by simp at h
  | _ :: _, [], _, _, h => by simp at h
  | x :: r, y :: q, 0, _, _ => by
    simp only [List.take_succ_cons, List.take_zero, drpAL, List.append_nil, List.nil_append]
    rfl
  | x :: r, y :: q, k + 1, h, h2 => by
    have := drpAL_take (c := c) (d := d) (e := e) (ns := r) (ks := q) (k := k) (by simpa using h) (by simpa using h2)
    simp only [List.take_succ_cons] at this ⊢
    rw [drpAL, drpAL, this, List.append_assoc]
    rfl
theorem dropC_take {c : ByteArray} {l : List SS} {k : Nat} {d : SS} (h : k < l.length) : dropC c (l.take (k + 1)) = dropC c (l.take k) ++ bif (l.getD k d).f0.toList == c.toList then [] else [l.getD k d] := by
  unfold dropC
  rw [List.take_succ_eq_append_getElem h, List.filter_append, getD_in l k d h]
  cases hq : l[k].f0.toList == c.toList <;> simp [hq]
theorem drpAL_len (c : ByteArray) : ∀ (ns : List ByteArray) (ks : List SN), (drpAL c ns ks).length ≤ ns.length
  | x :: r, k :: q => by
    have := drpAL_len c r q
    rw [drpAL, List.length_append, List.length_cons]
    cases fullP (drpA c k)
    · show 0 + _ ≤ _; omega
    · show 1 + _ ≤ _; omega
  | [], _ => by rw [drpAL]; exact Nat.zero_le _
  | _ :: _, [] => by rw [drpAL]; exact Nat.zero_le _
abbrev OutI (n : SN) : RS T.Tb := .ag [.im 9 n.f0, .im eN n.f1, .im eS n.f2]
abbrev nilC : Cell T := .sc (.slice none 0 0)
def gS (l : List SS) (i : Nat) : SS := l.getD i (T.df eS)
def gN (l : List SN) (i : Nat) : SN := l.getD i (T.df eN)
theorem pm1 {l m : List (ByteArray × SN)} {x : ByteArray} {K : SN} (h : m = l ++ bif true then [(x, K)] else []) : l.map (·.1) ++ [x] = m.map (·.1) := by rw [h]; simp
theorem pm2 {l m : List (ByteArray × SN)} {x : ByteArray} {K : SN} (h : m = l ++ bif true then [(x, K)] else []) : l.map (·.2) ++ [(⟨K.f0, K.f1, K.f2⟩ : SN)] = m.map (·.2) := by rw [h, etaN]; simp
theorem pm1' {l m : List (ByteArray × SN)} {x : ByteArray} {K : SN} (h : m = l ++ bif false then [(x, K)] else []) : l.map (·.1) = m.map (·.1) := by rw [h]; simp
theorem pm2' {l m : List (ByteArray × SN)} {x : ByteArray} {K : SN} (h : m = l ++ bif false then [(x, K)] else []) : l.map (·.2) = m.map (·.2) := by rw [h]; simp
theorem endL {c : ByteArray} {n : SN} (hl : n.f0.length = n.f1.length) : drpAL c (n.f0.take n.f0.length) (n.f1.take n.f0.length) = drpAL c n.f0 n.f1 := by rw [List.take_length, hl, List.take_length]
theorem bnot_t {b : Bool} (h : (!b) = true) : b = false := by cases b <;> simp_all
theorem bnot_f {b : Bool} (h : (!b) = false) : b = true := by cases b <;> simp_all
theorem specDropA_of (n : SN) (l : List ByteArray) (c : ByteArray) (hn : Bd n) (hl : n.f0.length = n.f1.length) (ih : ∀ k ∈ n.f1, CallOb T Tryz.prog 96 [.ag (T.cells eN k), .c (.sl 9 l), .c (.sc (.bool true)), .c (.sc (.string c))] (OutI (drpA c k))) : CallOb T Tryz.prog 96 [.ag (T.cells eN n), .c (.sl 9 l), .c (.sc (.bool true)), .c (.sc (.string c))] (OutI (drpA c n)) := by
  have hl0 := hn.l0
  have hl1 := hn.l1
  have hl2 := hn.l2
  have hR := drpA_eq c n
  generalize drpA c n = R at hR ⊢
  subst hR
  refine call_of_Vc hT Tryz.func96 (by kernel_rfl) rfl rfl (fun A => ?_)
  refine Vc.of 0 hT ?_
  conv => whnf
  refine LoopQ.mk { k : Nat // k ≤ n.f2.length } (fun p => (6, [(10, i64 p.1), (9, .c (.px 2 0)), (8, .c (.px 1 0)), (4, .c (.px 0 0)), (1, im 9 l), (2, .c (.sc (.bool true))), (3, .c (.sc (.string c)))], [(2, .bx eN [nilC, nilC, .hd 5]), (5, .row 5 eS (dropC c (n.f2.take p.1))), (1, bxZ), (0, bxN n)])) (fun p => n.f2.length - p.1) ⟨0, Nat.zero_le _⟩ ((imp_nilB 2 2 20 eS (t := eN) (cs := [nilC, nilC, nilC]) rfl rfl rfl).trans (imp_of [(2, 2), (5, 20), (1, 1), (0, 0)] rfl rfl rfl ⟨⟨rfl, rfl⟩, ⟨rfl, rfl⟩, ⟨rfl, rfl⟩, ⟨rfl, rfl⟩, ⟨rfl, rfl⟩, ⟨rfl, rfl⟩, ⟨rfl, rfl⟩, trivial⟩ ⟨⟨rfl, rfl⟩, srS rfl, ⟨rfl, rfl⟩, ⟨rfl, rfl⟩, trivial⟩)) ?_
  rintro ⟨k, hk⟩
  conv => whnf
  refine Split.mk (fun c1 => ?_) (fun c1 => ?_)
  · have hk2 : k < n.f2.length := ln_t c1
    clear c1
    have hstep := dropC_take (c := c) (d := T.df eS) hk2
    conv => whnf
    refine Need.mk (idx hk2) ?_
    conv => whnf
    refine Split.mk (fun c1 => ?_) (fun c1 => ?_)
    · have hq : dropC c (n.f2.take (k + 1)) = dropC c (n.f2.take k) ++ [gS n.f2 k] := by
        rw [hstep, show ((n.f2.getD k (T.df eS)).f0.toList == c.toList) = false from bnot_t c1]; rfl
      have hdl := dropC_len c (n.f2.take k)
      rw [List.length_take] at hdl
      conv => whnf
      refine Split.mk (fun _ => ?_) (fun e => tf_ e)
      conv => whnf
      refine Need.mk (idx hk2) ?_
      conv => whnf
      refine Need.mk (app_need (a := (dropC c (n.f2.take k)).length) (b := 1) (by omega) (by decide)) ?_
      conv => whnf
      refine DrawQ.mk ⟨by kernel_rfl, by kernel_rfl⟩ ?_
      conv => whnf
      exact NextQ.mk ⟨⟨k + 1, hk2⟩, Nat.sub_lt_sub_left hk2 (Nat.lt_succ_self k), imp_of [(2, 2), (5, 7), (1, 1), (0, 0)] rfl rfl rfl ⟨⟨rfl, congrArg i64 (sc_ hk2 (by omega))⟩, ⟨rfl, rfl⟩, ⟨rfl, rfl⟩, ⟨rfl, rfl⟩, ⟨rfl, rfl⟩, ⟨rfl, rfl⟩, ⟨rfl, rfl⟩, trivial⟩ ⟨⟨rfl, rfl⟩, srS hq.symm, ⟨rfl, rfl⟩, ⟨rfl, rfl⟩, trivial⟩⟩
    · have hq : dropC c (n.f2.take (k + 1)) = dropC c (n.f2.take k) := by
        rw [hstep, show ((n.f2.getD k (T.df eS)).f0.toList == c.toList) = true from bnot_f c1]; simp
      conv => whnf
      refine Split.mk (fun e => ft_ e) (fun _ => ?_)
      conv => whnf
      refine Split.mk (fun e => ft_ e) (fun _ => ?_)
      conv => whnf
      exact NextQ.mk ⟨⟨k + 1, hk2⟩, Nat.sub_lt_sub_left hk2 (Nat.lt_succ_self k), imp_of [(2, 2), (5, 5), (1, 1), (0, 0)] rfl rfl rfl ⟨⟨rfl, congrArg i64 (sc_ hk2 (by omega))⟩, ⟨rfl, rfl⟩, ⟨rfl, rfl⟩, ⟨rfl, rfl⟩, ⟨rfl, rfl⟩, ⟨rfl, rfl⟩, ⟨rfl, rfl⟩, trivial⟩ ⟨⟨rfl, rfl⟩, srS hq.symm, ⟨rfl, rfl⟩, ⟨rfl, rfl⟩, trivial⟩⟩
  · have hk2 : k = n.f2.length := Nat.le_antisymm hk (ln_f c1)
    clear c1
    subst hk2
    conv => whnf
    refine LoopQ.mk { k : Nat // k ≤ n.f0.length } (fun p => (6, [(11, i64 p.1), (9, .c (.px 2 0)), (8, .c (.px 1 0)), (4, .c (.px 0 0)), (1, im 9 l), (2, .c (.sc (.bool true))), (3, .c (.sc (.string c)))], [(2, .bx eN [.hd 3, .hd 4, .hd 5]), (3, .row 3 9 ((drpAL c (n.f0.take p.1) (n.f1.take p.1)).map (·.1))), (4, .sh 4 eN ((drpAL c (n.f0.take p.1) (n.f1.take p.1)).map (·.2))), (5, .row 5 eS (dropC c n.f2)), (1, bxZ), (0, bxN n)])) (fun p => n.f0.length - p.1) ⟨0, Nat.zero_le _⟩ ((imp_nilB 2 0 20 9 (t := eN) (cs := [nilC, nilC, .hd 5]) rfl rfl rfl).trans ((imp_nilB 2 1 21 eN (t := eN) (cs := [.hd 20, nilC, .hd 5]) rfl rfl rfl).trans (imp_of [(2, 2), (3, 20), (4, 21), (5, 5), (1, 1), (0, 0)] rfl rfl rfl ⟨⟨rfl, rfl⟩, ⟨rfl, rfl⟩, ⟨rfl, rfl⟩, ⟨rfl, rfl⟩, ⟨rfl, rfl⟩, ⟨rfl, rfl⟩, ⟨rfl, rfl⟩, trivial⟩ ⟨⟨rfl, rfl⟩, sr9 rfl, srN rfl, srS (by rw [List.take_length]), ⟨rfl, rfl⟩, ⟨rfl, rfl⟩, trivial⟩))) ?_
    rintro ⟨k, hk⟩
    conv => whnf
    refine Split.mk (fun c1 => ?_) (fun c1 => ?_)
    · have hk2 : k < n.f0.length := ln_t c1
      have hk3 : k < n.f1.length := by omega
      clear c1
      have ihk := ih _ (gN_mem hk3)
      have hstep := drpAL_take (c := c) (d := T.df 9) (e := T.df eN) hk2 hk3
      change _ = _ ++ bif fullP (drpA c (gN n.f1 k)) then [(g9 n.f0 k, drpA c (gN n.f1 k))] else [] at hstep
      change CallOb T Tryz.prog 96 [.ag (T.cells eN (gN n.f1 k)), .c (.sl 9 l), .c (.sc (.bool true)), .c (.sc (.string c))] (OutI (drpA c (gN n.f1 k))) at ihk
      have hdl := drpAL_len c (n.f0.take k) (n.f1.take k)
      rw [List.length_take] at hdl
      generalize drpA c (gN n.f1 k) = K at ihk hstep
      conv => whnf
      refine Need.mk (idx hk3) ?_
      conv => whnf
      refine Split.mk (fun _ => ?_) (fun e => tf_ e)
      conv => whnf
      refine CallQ.mk _ ihk ?_
      conv => whnf
      refine Split.mk (fun c1 => ?_) (fun c1 => ?_)
      · have hf : fullP K = true := by unfold fullP; rw [decide_eq_true (p := 0 < K.f0.length) (gt0_t c1)]; rfl
        rw [hf] at hstep
        conv => whnf
        refine Split.mk (fun _ => ?_) (fun e => tf_ e)
        conv => whnf
        refine Need.mk (idx hk2) ?_
        conv => whnf
        refine Need.mk (app_need (a := ((drpAL c (n.f0.take k) (n.f1.take k)).map (·.1)).length) (b := 1) (by rw [List.length_map]; omega) (by decide)) ?_
        conv => whnf
        refine DrawQ.mk ⟨by kernel_rfl, by kernel_rfl⟩ ?_
        conv => whnf
        refine Need.mk (app_need (a := ((drpAL c (n.f0.take k) (n.f1.take k)).map (·.2)).length) (b := 1) (by rw [List.length_map]; omega) (by decide)) ?_
        conv => whnf
        exact NextQ.mk ⟨⟨k + 1, hk2⟩, Nat.sub_lt_sub_left hk2 (Nat.lt_succ_self k), imp_of [(2, 2), (3, 11), (4, 12), (5, 5), (1, 1), (0, 0)] rfl rfl rfl ⟨⟨rfl, congrArg i64 (sc_ hk2 (by omega))⟩, ⟨rfl, rfl⟩, ⟨rfl, rfl⟩, ⟨rfl, rfl⟩, ⟨rfl, rfl⟩, ⟨rfl, rfl⟩, ⟨rfl, rfl⟩, trivial⟩ ⟨⟨rfl, rfl⟩, sr9 (pm1 hstep), srN (pm2 hstep), srS rfl, ⟨rfl, rfl⟩, ⟨rfl, rfl⟩, trivial⟩⟩
      · conv => whnf
        refine Split.mk (fun c2 => ?_) (fun c2 => ?_)
        · have hf : fullP K = true := by unfold fullP; rw [decide_eq_true (p := 0 < K.f2.length) (gt0_t c2), Bool.or_true]
          rw [hf] at hstep
          conv => whnf
          refine Need.mk (idx hk2) ?_
          conv => whnf
          refine Need.mk (app_need (a := ((drpAL c (n.f0.take k) (n.f1.take k)).map (·.1)).length) (b := 1) (by rw [List.length_map]; omega) (by decide)) ?_
          conv => whnf
          refine DrawQ.mk ⟨by kernel_rfl, by kernel_rfl⟩ ?_
          conv => whnf
          refine Need.mk (app_need (a := ((drpAL c (n.f0.take k) (n.f1.take k)).map (·.2)).length) (b := 1) (by rw [List.length_map]; omega) (by decide)) ?_
          conv => whnf
          exact NextQ.mk ⟨⟨k + 1, hk2⟩, Nat.sub_lt_sub_left hk2 (Nat.lt_succ_self k), imp_of [(2, 2), (3, 11), (4, 12), (5, 5), (1, 1), (0, 0)] rfl rfl rfl ⟨⟨rfl, congrArg i64 (sc_ hk2 (by omega))⟩, ⟨rfl, rfl⟩, ⟨rfl, rfl⟩, ⟨rfl, rfl⟩, ⟨rfl, rfl⟩, ⟨rfl, rfl⟩, ⟨rfl, rfl⟩, trivial⟩ ⟨⟨rfl, rfl⟩, sr9 (pm1 hstep), srN (pm2 hstep), srS rfl, ⟨rfl, rfl⟩, ⟨rfl, rfl⟩, trivial⟩⟩
        · have hf : fullP K = false := by unfold fullP; rw [decide_eq_false (p := 0 < K.f0.length) (Nat.not_lt_of_le (Nat.le_of_eq (gt0_f c1))), decide_eq_false (p := 0 < K.f2.length) (Nat.not_lt_of_le (Nat.le_of_eq (gt0_f c2)))]; rfl
          rw [hf] at hstep
          conv => whnf
          exact NextQ.mk ⟨⟨k + 1, hk2⟩, Nat.sub_lt_sub_left hk2 (Nat.lt_succ_self k), imp_of [(2, 2), (3, 3), (4, 4), (5, 5), (1, 1), (0, 0)] rfl rfl rfl ⟨⟨rfl, congrArg i64 (sc_ hk2 (by omega))⟩, ⟨rfl, rfl⟩, ⟨rfl, rfl⟩, ⟨rfl, rfl⟩, ⟨rfl, rfl⟩, ⟨rfl, rfl⟩, ⟨rfl, rfl⟩, trivial⟩ ⟨⟨rfl, rfl⟩, sr9 (pm1' hstep), srN (pm2' hstep), srS rfl, ⟨rfl, rfl⟩, ⟨rfl, rfl⟩, trivial⟩⟩
    · have hk2 : k = n.f0.length := Nat.le_antisymm hk (ln_f c1)
      subst hk2
      conv => whnf
      exact RetQ.mk ⟨rfl, rfl⟩ ⟨rfl, rfl⟩ ⟨sr9 (congrArg (List.map (fun x => x.1)) (endL hl)), srN (congrArg (List.map (fun x => x.2)) (endL hl)), srS rfl, trivial⟩
theorem specDropA : ∀ (n : SN) (l : List ByteArray) (c : ByteArray), Bd n → Tr n → CallOb T Tryz.prog 96 [.ag (T.cells eN n), .c (.sl 9 l), .c (.sc (.bool true)), .c (.sc (.string c))] (OutI (drpA c n)) := fun n l c hn ht =>
  specDropA_of n l c hn ht.len (fun k hk => specDropA k l c (hn.kid k hk) (ht.kid k hk))
termination_by n => SizeOf.sizeOf n
decreasing_by exact lt_kid hk
mutual
theorem drpA_bd (c : ByteArray) : ∀ (n : SN), Bd n → Bd (drpA c n)
  | ⟨ns, ks, ss⟩, h => by
    rw [drpA]
    have hl := drpAL_len c ns ks
    refine .mk _ (by show (List.map _ _).length ≤ _; rw [List.length_map]; exact Nat.le_trans hl h.l0) (fun x hx => ?_) (by show (List.map _ _).length ≤ _; rw [List.length_map]; exact Nat.le_trans hl h.l0) (Nat.le_trans (dropC_len c ss) h.l2) (fun x hx => h.z2 x (List.filter_sublist.subset hx)) (fun x hx => ?_)
    · obtain ⟨y, hy, rfl⟩ := List.mem_map.1 hx
      exact h.z0 _ (drpAL_mem c ns ks y hy (fun k hk => h.kid k hk)).1
    · obtain ⟨y, hy, rfl⟩ := List.mem_map.1 hx
      exact (drpAL_mem c ns ks y hy (fun k hk => h.kid k hk)).2
theorem drpAL_mem (c : ByteArray) : ∀ (ns : List ByteArray) (ks : List SN), ∀ y ∈ drpAL c ns ks, (∀ k ∈ ks, Bd k) → y.1 ∈ ns ∧ Bd y.2
  | x :: r, k :: q, y, hy, h => by
    rw [drpAL] at hy
    rcases List.mem_append.1 hy with hy | hy
    · cases hf : fullP (drpA c k) with
      | false => rw [hf] at hy; cases hy
      | true =>
        rw [hf] at hy
        obtain rfl := List.mem_singleton.1 hy
        exact ⟨List.mem_cons_self, drpA_bd c k (h k List.mem_cons_self)⟩
    · have := drpAL_mem c r q y hy (fun k hk => h k (List.mem_cons_of_mem _ hk))
      exact ⟨List.mem_cons_of_mem _ this.1, this.2⟩
  | [], _, y, hy, _ => by rw [drpAL] at hy; cases hy
  | _ :: _, [], y, hy, _ => by rw [drpAL] at hy; cases hy
end
theorem specRemoveClient (n : SN) (c : ByteArray) (hn : Bd n) (ht : nodeP n = true → Tr n) : CallOb T Tryz.prog 19 [.ag (T.cells eN n), .c (.sc (.string c))] (OutN (bif nodeP n then drpA c n else n)) := by
  refine call_of_vc hT Tryz.func19 (by kernel_rfl) rfl rfl (fun A => ?_)
  conv => whnf
  refine CallQ.mk _ (specNodeOk n hn) ?_
  conv => whnf
  refine Split.mk (fun c1 => ?_) (fun c1 => ?_)
  · have h0 : nodeP n = false := not_t c1
    rw [h0]
    conv => whnf
    refine CallQ.mk _ (specCopy n hn) ?_
    conv => whnf
    exact RetQ.mk ⟨rfl, rfl⟩ ⟨rfl, rfl⟩ ⟨rfl, rfl, rfl, trivial⟩
  · have h0 : nodeP n = true := not_f c1
    rw [h0]
    conv => whnf
    refine CallQ.mk _ (specDropA n [] c hn (ht h0)) ?_
    conv => whnf
    refine CallQ.mk _ (specCopy (drpA c n) (drpA_bd c n hn)) ?_
    conv => whnf
    exact RetQ.mk ⟨rfl, rfl⟩ ⟨rfl, rfl⟩ ⟨rfl, rfl, rfl, trivial⟩
end Go.Proofs.YtcnfgfomholheaaGreatDoor.Q
end
section
/- Trees, plainly: what stands at a path; a good tree is what stands at its paths; a client taken out. No program in sight. -/
namespace Go.Proofs.YtcnfgfomholheaaGreatDoor.Q
open Go.RowKit Go.Proofs.YtcnfgfomholheaaGreatDoor.Z Go.Proofs.YtcnfgfomholheaaGreatDoor.Pure
set_option linter.unusedVariables false
set_option linter.unusedSimpArgs false
def prs (n : SN) : List (ByteArray × SN) := n.f0.zip n.f1
abbrev ltB (a b : ByteArray) : Prop := Op.bytesLess a.toList b.toList = true
theorem ltB_irr {a : ByteArray} (h : ltB a a) : False := by unfold ltB at h; rw [less_irrefl] at h; cases h
theorem ltB_asy {a b : ByteArray} (h : ltB a b) (h2 : ltB b a) : False := by unfold ltB at h h2; rw [less_asymm _ _ h] at h2; cases h2
theorem prs_fst {n : SN} (h : Tr n) : (prs n).map (·.1) = n.f0 := by unfold prs; exact List.map_fst_zip (by rw [h.len]; exact Nat.le_refl _)
theorem prs_snd {n : SN} (h : Tr n) : (prs n).map (·.2) = n.f1 := by unfold prs; exact List.map_snd_zip (by rw [h.len]; exact Nat.le_refl _)
theorem prs_rise {n : SN} (h : Tr n) : (prs n).Pairwise (fun a b => ltB a.1 b.1) := by
  have := h.rise
  rw [← prs_fst h] at this
  exact List.pairwise_map.1 this
theorem prs_mem {n : SN} {x : ByteArray × SN} (h : x ∈ prs n) : x.2 ∈ n.f1 := (List.of_mem_zip (a := x.1) (b := x.2) h).2
theorem pos_at {l : List ByteArray} {t : ByteArray} {i : Nat} (hr : l.Pairwise ltB) (h : l[i]? = some t) : posT t l = i ∧ fndT t l = true := by
  obtain ⟨hi, rfl⟩ := List.getElem?_eq_some_iff.1 h
  have h1 := (tw_at (p := ltT l[i]) (d := T.df 9) (l := l) (i := i) (Nat.le_of_lt hi) (fun j hj => by
    have e : l.getD j (T.df 9) = l[j] := getD_in l j (T.df 9) (by omega)
    rw [e]
    exact List.pairwise_iff_getElem.1 hr j i (by omega) hi hj) (.inr (by
    have e : l.getD i (T.df 9) = l[i] := getD_in l i (T.df 9) hi
    rw [e]
    exact less_irrefl _))).1
  have h2 : posT l[i] l = i := by
    unfold posT
    rw [← h1, List.length_take]; omega
  refine ⟨h2, ?_⟩
  unfold fndT
  rw [h2, show g9 l i = l[i] from getD_in l i (T.df 9) hi]
  simp [hi]
theorem fnd_at {l : List ByteArray} {t : ByteArray} (h : fndT t l = true) : l[posT t l]? = some t := by
  have hp := fnd_lt h
  unfold fndT at h
  simp only [Bool.and_eq_true, decide_eq_true_eq] at h
  have h2 := st_t h.2
  rw [show g9 l (posT t l) = l[posT t l] from getD_in l _ (T.df 9) hp] at h2
  rw [List.getElem?_eq_getElem hp, h2]
/-- The wishes that stand at a path. -/
def subsAt : List ByteArray → SN → List SS
  | [], n => n.f2
  | t :: ts, n => bif fndT t n.f0 then subsAt ts (gN n.f1 (posT t n.f0)) else []
theorem prs_at {n : SN} (ht : Tr n) {t : ByteArray} {k : SN} (h : (t, k) ∈ prs n) : fndT t n.f0 = true ∧ gN n.f1 (posT t n.f0) = k := by
  obtain ⟨i, hi, e⟩ := List.mem_iff_getElem.1 h
  have hi' : i < n.f0.length ∧ i < n.f1.length := by unfold prs at hi; rw [List.length_zip] at hi; omega
  have e' : (n.f0[i], n.f1[i]) = (t, k) := by rw [← e]; exact (List.getElem_zip (h := hi)).symm
  cases e'
  obtain ⟨h1, h2⟩ := pos_at (i := i) ht.rise (List.getElem?_eq_getElem hi'.1)
  refine ⟨h2, ?_⟩
  rw [h1]
  exact getD_in n.f1 i (T.df eN) hi'.2
theorem at_kid {n : SN} (ht : Tr n) {t : ByteArray} {k : SN} (h : (t, k) ∈ prs n) (ts : List ByteArray) : subsAt (t :: ts) n = subsAt ts k := by
  obtain ⟨h1, h2⟩ := prs_at ht h
  rw [subsAt, h1, h2]; rfl
theorem fnd_prs {n : SN} (ht : Tr n) {t : ByteArray} (h : fndT t n.f0 = true) : (t, gN n.f1 (posT t n.f0)) ∈ prs n := by
  have h1 := fnd_at h
  obtain ⟨h2, h3⟩ := List.getElem?_eq_some_iff.1 h1
  have h4 : posT t n.f0 < n.f1.length := by rw [← ht.len]; exact h2
  refine List.mem_iff_getElem.2 ⟨posT t n.f0, by unfold prs; rw [List.length_zip]; omega, ?_⟩
  unfold prs
  rw [List.getElem_zip, h3]
  exact congrArg (Prod.mk t) (getD_in n.f1 _ (T.df eN) h4).symm
theorem at_none {n : SN} (ht : Tr n) {t : ByteArray} (h : ∀ k, (t, k) ∉ prs n) (ts : List ByteArray) : subsAt (t :: ts) n = [] := by
  rw [subsAt]
  cases hf : fndT t n.f0 with
  | false => rfl
  | true => exact absurd (fnd_prs ht hf) (h _)
theorem key_one {n : SN} (ht : Tr n) {t : ByteArray} {k k' : SN} (h : (t, k) ∈ prs n) (h' : (t, k') ∈ prs n) : k = k' := (prs_at ht h).2.symm.trans (prs_at ht h').2
/-- A tree without empty ends. -/
inductive Gd : SN → Prop
  | mk (n : SN) (ht : Tr n) (hf : ∀ k ∈ n.f1, k.f1 ≠ [] ∨ k.f2 ≠ []) (hk : ∀ k ∈ n.f1, Gd k) : Gd n
theorem Gd.tr {n : SN} (h : Gd n) : Tr n := by cases h; assumption
theorem Gd.full {n : SN} (h : Gd n) : ∀ k ∈ n.f1, k.f1 ≠ [] ∨ k.f2 ≠ [] := by cases h; assumption
theorem Gd.kid {n : SN} (h : Gd n) : ∀ k ∈ n.f1, Gd k := by cases h; assumption
theorem gd_some : ∀ (n : SN), Gd n → (n.f1 ≠ [] ∨ n.f2 ≠ []) → ∃ p, subsAt p n ≠ [] := fun n hg hne => by
  rcases hne with h | h
  · obtain ⟨k, hk⟩ := List.exists_mem_of_ne_nil _ h
    obtain ⟨p, hp⟩ := gd_some k (hg.kid k hk) (hg.full k hk)
    have h1 : k ∈ (prs n).map (·.2) := by rw [prs_snd hg.tr]; exact hk
    obtain ⟨⟨t, k'⟩, h2, rfl⟩ := List.mem_map.1 h1
    exact ⟨t :: p, by rw [at_kid hg.tr h2]; exact hp⟩
  · exact ⟨[], h⟩
termination_by n => SizeOf.sizeOf n
decreasing_by exact lt_kid hk
theorem sorted_ext {α : Type} {f : α → ByteArray} : ∀ {l m : List α}, l.Pairwise (fun a b => ltB (f a) (f b)) → m.Pairwise (fun a b => ltB (f a) (f b)) → (∀ x, x ∈ l ↔ x ∈ m) → l = m
  | [], [], _, _, _ => rfl
  | [], b :: m, _, _, h => by have := (h b).2 List.mem_cons_self; cases this
  | a :: l, [], _, _, h => by have := (h a).1 List.mem_cons_self; cases this
  | a :: l, b :: m, hl, hm, h => by
    obtain ⟨hl1, hl2⟩ := List.pairwise_cons.1 hl
    obtain ⟨hm1, hm2⟩ := List.pairwise_cons.1 hm
    have e : a = b := by
      rcases List.mem_cons.1 ((h a).1 List.mem_cons_self) with e | h1
      · exact e
      · rcases List.mem_cons.1 ((h b).2 List.mem_cons_self) with e | h2
        · exact e.symm
        · exact (ltB_asy (hm1 a h1) (hl1 b h2)).elim
    subst e
    congr 1
    refine sorted_ext hl2 hm2 (fun x => ⟨fun hx => ?_, fun hx => ?_⟩)
    · rcases List.mem_cons.1 ((h x).1 (List.mem_cons_of_mem _ hx)) with e | h1
      · subst e; exact (ltB_irr (hl1 _ hx)).elim
      · exact h1
    · rcases List.mem_cons.1 ((h x).2 (List.mem_cons_of_mem _ hx)) with e | h1
      · subst e; exact (ltB_irr (hm1 _ hx)).elim
      · exact h1
/-- Good trees with the same wishes at all paths are the same. -/
theorem gd_ext : ∀ (n m : SN), Gd n → Gd m → (∀ p, subsAt p n = subsAt p m) → n = m := fun n m hn hm h => by
  have key : ∀ (a b : SN), Gd a → Gd b → (∀ p, subsAt p a = subsAt p b) → ∀ t k, (t, k) ∈ prs a → ∃ k', (t, k') ∈ prs b ∧ ∀ p, subsAt p k = subsAt p k' := fun a b ha hb hab t k hk => by
    obtain ⟨p, hp⟩ := gd_some k (ha.kid k (prs_mem hk)) (ha.full k (prs_mem hk))
    rw [← at_kid ha.tr hk, hab] at hp
    have hf : fndT t b.f0 = true := by
      cases hf : fndT t b.f0 with
      | true => rfl
      | false => rw [subsAt, hf] at hp; exact (hp rfl).elim
    refine ⟨_, fnd_prs hb.tr hf, fun q => ?_⟩
    rw [← at_kid ha.tr hk, hab, at_kid hb.tr (fnd_prs hb.tr hf)]
  have hp : prs n = prs m := by
    refine sorted_ext (f := fun x => x.1) (prs_rise hn.tr) (prs_rise hm.tr) (fun x => ⟨fun hx => ?_, fun hx => ?_⟩)
    · obtain ⟨t, k⟩ := x
      obtain ⟨k', h1, h2⟩ := key n m hn hm h t k hx
      have hk := prs_mem hx
      rw [gd_ext k k' (hn.kid k hk) (hm.kid k' (prs_mem h1)) h2]
      exact h1
    · obtain ⟨t, k⟩ := x
      obtain ⟨k', h1, h2⟩ := key m n hm hn (fun p => (h p).symm) t k hx
      have hk := prs_mem h1
      rw [← gd_ext k' k (hn.kid k' hk) (hm.kid k (prs_mem hx)) (fun p => (h2 p).symm)]
      exact h1
  have h0 : n.f0 = m.f0 := by rw [← prs_fst hn.tr, ← prs_fst hm.tr, hp]
  have h1 : n.f1 = m.f1 := by rw [← prs_snd hn.tr, ← prs_snd hm.tr, hp]
  have h2 : n.f2 = m.f2 := h []
  rw [← etaN n, ← etaN m, h0, h1, h2]
termination_by n => SizeOf.sizeOf n
decreasing_by
  · exact lt_kid hk
  · exact lt_kid hk
end Go.Proofs.YtcnfgfomholheaaGreatDoor.Q
end
section
/- Right trees are good; a client's wishes taken out one by one leave what is left when all are taken out at once. -/
namespace Go.Proofs.YtcnfgfomholheaaGreatDoor.Q
open Go.RowKit Go.Proofs.YtcnfgfomholheaaGreatDoor.Z Go.Proofs.YtcnfgfomholheaaGreatDoor.X Go.Proofs.YtcnfgfomholheaaGreatDoor.Pure
set_option linter.unusedVariables false
set_option linter.unusedSimpArgs false
theorem okIL_rise {p : List ByteArray} : ∀ {ns : List ByteArray} {y : Option ByteArray} {ks : List SN}, ns.length = ks.length → okIL p ns y ks = true → ns.Pairwise ltB ∧ ∀ x ∈ ns, riseP y x = true
  | [], y, ks, _, _ => ⟨.nil, fun x hx => by cases hx⟩
  | x :: r, y, [], h, _ => by simp at h
  | x :: r, y, k :: q, h, ho => by
    obtain ⟨h1, _, _, _, h5⟩ := okIL_cons.1 ho
    obtain ⟨a, b⟩ := okIL_rise (by simpa using h) h5
    refine ⟨List.pairwise_cons.2 ⟨fun z hz => b z hz, a⟩, fun z hz => ?_⟩
    rcases List.mem_cons.1 hz with rfl | hz
    · exact h1
    · cases y with
      | none => rfl
      | some y => exact less_trans _ _ _ h1 (b z hz)
theorem okIL_in {p : List ByteArray} : ∀ {ns : List ByteArray} {y : Option ByteArray} {ks : List SN}, okIL p ns y ks = true → ∀ x k, (x, k) ∈ ns.zip ks → wayP x k = true ∧ (k.f1.length ≠ 0 ∨ k.f2.length ≠ 0) ∧ okI (p ++ [x]) k = true
  | [], y, ks, _, x, k, h => by simp at h
  | x :: r, y, [], _, x', k', h => by simp at h
  | x :: r, y, k :: q, ho, x', k', h => by
    obtain ⟨_, h2, h3, h4, h5⟩ := okIL_cons.1 ho
    rw [List.zip_cons_cons] at h
    rcases List.mem_cons.1 h with h | h
    · cases h; exact ⟨h2, h3, h4⟩
    · exact okIL_in h5 x' k' h
theorem zip_snd {n : SN} (hl : n.f0.length = n.f1.length) {k : SN} (hk : k ∈ n.f1) : ∃ x, (x, k) ∈ prs n := by
  have : k ∈ (prs n).map (·.2) := by unfold prs; rw [List.map_snd_zip (by omega)]; exact hk
  obtain ⟨⟨x, k'⟩, h, rfl⟩ := List.mem_map.1 this
  exact ⟨x, h⟩
theorem gd_of : ∀ (n : SN) (p : List ByteArray), okI p n = true → Gd n ∧ Dp (7 - p.length) n := fun n p h => by
  obtain ⟨h1, h2, h3, h4, h5⟩ := okI_parts.1 h
  have hk : ∀ k ∈ n.f1, (Gd k ∧ Dp (7 - (p.length + 1)) k) ∧ (k.f1 ≠ [] ∨ k.f2 ≠ []) ∧ p.length + 1 ≤ 6 := fun k hk => by
    obtain ⟨x, hx⟩ := zip_snd h1 hk
    obtain ⟨_, a2, a3⟩ := okIL_in h5 x k hx
    have := gd_of k (p ++ [x]) a3
    have h7 := (okI_parts.1 a3).2.1
    rw [List.length_append] at this h7
    refine ⟨this, a2.imp (fun h e => h (by rw [e]; rfl)) (fun h e => h (by rw [e]; rfl)), h7⟩
  refine ⟨.mk n (.mk n h1 (okIL_rise h1 h5).1 (fun k h => (hk k h).1.1.tr)) (fun k h => (hk k h).2.1) (fun k h => (hk k h).1.1), .mk _ n (fun hne => ?_) (fun k h => ?_)⟩
  · obtain ⟨k, h⟩ := List.exists_mem_of_ne_nil _ hne
    have := (hk k h).2.2
    omega
  · have := (hk k h).1.2
    rw [show 7 - p.length - 1 = 7 - (p.length + 1) by omega]
    exact this
termination_by n => SizeOf.sizeOf n
decreasing_by exact lt_kid hk
theorem nodeP_okI {n : SN} (h : nodeP n = true) : okI [] n = true ∧ n.f2 = [] := by
  unfold nodeP at h
  simp only [Bool.and_eq_true, decide_eq_true_eq] at h
  exact ⟨h.2, List.length_eq_zero_iff.1 h.1⟩
theorem nodeP_good {n : SN} (h : nodeP n = true) : Tr n ∧ Dp 7 n := by
  have := gd_of n [] (nodeP_okI h).1
  exact ⟨this.1.tr, this.2⟩
theorem way_nm {x : ByteArray} {k : SN} (h : wayP x k = true) : (47 : UInt8) ∉ dl x := by
  unfold wayP at h
  simp only [Bool.and_eq_true, decide_eq_true_eq] at h
  exact (cut_le_one _).1 h.1
theorem dl_inj {a b : ByteArray} (h : dl a = dl b) : a = b := by
  cases a; cases b
  congr 1
  exact Array.ext' h
theorem entLL_in {p : List ByteArray} {e : SE} : ∀ {ns : List ByteArray} {ks : List SN}, e ∈ entLL p ns ks → ∃ x k, (x, k) ∈ ns.zip ks ∧ e ∈ entL (p ++ [x]) k
  | [], ks, h => by rw [entLL] at h; cases h
  | x :: r, [], h => by rw [entLL] at h; cases h
  | x :: r, k :: q, h => by
    rw [entLL] at h
    rcases List.mem_append.1 h with h | h
    · exact ⟨x, k, by rw [List.zip_cons_cons]; exact List.mem_cons_self, h⟩
    · obtain ⟨x', k', h1, h2⟩ := entLL_in h
      exact ⟨x', k', by rw [List.zip_cons_cons]; exact List.mem_cons_of_mem _ h1, h2⟩
theorem entLL_put {p : List ByteArray} {e : SE} : ∀ {ns : List ByteArray} {ks : List SN} {x : ByteArray} {k : SN}, (x, k) ∈ ns.zip ks → e ∈ entL (p ++ [x]) k → e ∈ entLL p ns ks
  | [], ks, x, k, h, _ => by simp at h
  | x :: r, [], _, _, h, _ => by simp at h
  | x :: r, k :: q, x', k', h, he => by
    rw [entLL]
    rw [List.zip_cons_cons] at h
    rcases List.mem_cons.1 h with h | h
    · cases h; exact List.mem_append_left _ he
    · exact List.mem_append_right _ (entLL_put h he)
theorem lev_join {q : List ByteArray} (hq : q ≠ []) (h : ∀ x ∈ q, (47 : UInt8) ∉ dl x) : lev (joinB q) = q := by
  have h1 : (lev (joinB q)).map dl = q.map dl := (pieces_cut (joinB q)).trans (cut_joinB q hq h)
  exact (List.map_inj_right (fun a b e => dl_inj e)).1 h1
theorem ent_filter : ∀ (n : SN) (p : List ByteArray), okI p n = true → ∀ e ∈ entL p n, filterL e.f0 = true := fun n p h e he => by
  obtain ⟨h1, h2, h3, h4, h5⟩ := okI_parts.1 h
  rw [entL_eq'] at he
  rcases List.mem_append.1 he with he | he
  · obtain ⟨s, hs, rfl⟩ := List.mem_map.1 he
    rcases h4 with h4 | h4
    · rw [List.length_eq_zero_iff.1 h4] at hs; cases hs
    · exact h4
  · obtain ⟨x, k, hx, hk⟩ := entLL_in he
    have hkk : k ∈ n.f1 := prs_mem (n := n) hx
    exact ent_filter k (p ++ [x]) (okIL_in h5 x k hx).2.2 e hk
termination_by n => SizeOf.sizeOf n
decreasing_by exact lt_kid hkk
theorem ent_small {n : SN} {e : SE} (he : e ∈ entsL n) : e.f0.size ≤ 1073741824 ∧ (lev e.f0).length ≤ 1048576 := by
  unfold entsL at he
  cases h : nodeP n with
  | false => rw [h] at he; cases he
  | true =>
    rw [h] at he
    have h1 := ent_filter n [] (nodeP_okI h).1 e he
    have h2 := ((textOk_iff e.f0).1 (filter_text h1)).2.2
    have h3 := pieces_length e.f0
    exact ⟨Nat.le_trans h2 (by decide), Nat.le_trans h3 (by omega)⟩
theorem subs_ent : ∀ (q : List ByteArray) (n : SN) (p : List ByteArray), Tr n → ∀ s ∈ subsAt q n, enP (p ++ q) s ∈ entL p n
  | [], n, p, ht, s, hs => by
    rw [entL_eq', List.append_nil]
    exact List.mem_append_left _ (List.mem_map.2 ⟨s, hs, rfl⟩)
  | t :: ts, n, p, ht, s, hs => by
    rw [subsAt] at hs
    cases hf : fndT t n.f0 with
    | false => rw [hf] at hs; cases hs
    | true =>
      rw [hf] at hs
      have h1 := fnd_prs ht hf
      have h2 := subs_ent ts (gN n.f1 (posT t n.f0)) (p ++ [t]) (ht.kid _ (prs_mem h1)) s hs
      rw [entL_eq']
      refine List.mem_append_right _ (entLL_put h1 ?_)
      rw [List.append_assoc] at h2
      exact h2
theorem subs_path : ∀ (q : List ByteArray) (n : SN) (p : List ByteArray), okI p n = true → subsAt q n ≠ [] → ∀ x ∈ q, (47 : UInt8) ∉ dl x
  | [], n, p, ho, hs, x, hx => by cases hx
  | t :: ts, n, p, ho, hs, x, hx => by
    rw [subsAt] at hs
    cases hf : fndT t n.f0 with
    | false => rw [hf] at hs; exact (hs rfl).elim
    | true =>
      rw [hf] at hs
      have h1 := fnd_prs (gd_of n p ho).1.tr hf
      obtain ⟨h2, _, h3⟩ := okIL_in (okI_parts.1 ho).2.2.2.2 t _ h1
      rcases List.mem_cons.1 hx with rfl | hx
      · exact way_nm h2
      · exact subs_path ts _ (p ++ [t]) h3 hs x hx
end Go.Proofs.YtcnfgfomholheaaGreatDoor.Q
end
section
/- A client's wishes taken out one by one leave what is left when all are taken out at once. -/
namespace Go.Proofs.YtcnfgfomholheaaGreatDoor.Q
open Go.RowKit Go.Proofs.YtcnfgfomholheaaGreatDoor.Z Go.Proofs.YtcnfgfomholheaaGreatDoor.X Go.Proofs.YtcnfgfomholheaaGreatDoor.Pure
set_option linter.unusedVariables false
set_option linter.unusedSimpArgs false
theorem dropC_twice (c : ByteArray) (l : List SS) : dropC c (dropC c l) = dropC c l := by unfold dropC; rw [List.filter_filter]; congr 1; funext s; simp
theorem empty_at {n : SN} (ht : Tr n) (h1 : n.f1.length = 0) (h2 : n.f2.length = 0) : ∀ p, subsAt p n = []
  | [] => List.length_eq_zero_iff.1 h2
  | t :: ts => at_none ht (fun k hk => by have := prs_mem hk; rw [List.length_eq_zero_iff.1 h1] at this; cases this) ts
theorem same_at {n m : SN} (hn : Tr n) (hm : Tr m) {u : ByteArray} (h : ∀ k, (u, k) ∈ prs n ↔ (u, k) ∈ prs m) (us : List ByteArray) : subsAt (u :: us) n = subsAt (u :: us) m := by
  by_cases hk : ∃ k, (u, k) ∈ prs n
  · obtain ⟨k, hk⟩ := hk
    rw [at_kid hn hk, at_kid hm ((h k).1 hk)]
  · rw [at_none hn (fun k hx => hk ⟨k, hx⟩), at_none hm (fun k hx => hk ⟨k, (h k).2 hx⟩)]
/-- A node around one of its kids. -/
theorem prs_split {n : SN} (ht : Tr n) {i : Nat} (hi : i < n.f1.length) (K : SN) : ∃ A B t k, prs n = A ++ (t, k) :: B ∧ n.f0[i]? = some t ∧ n.f1[i]? = some k ∧ prs ⟨n.f0.take i ++ n.f0.drop (i + 1), n.f1.take i ++ n.f1.drop (i + 1), n.f2⟩ = A ++ B ∧ prs ⟨n.f0, n.f1.set i K, n.f2⟩ = A ++ (t, K) :: B := by
  have hi0 : i < n.f0.length := by rw [ht.len]; exact hi
  have hl : (n.f0.take i).length = (n.f1.take i).length := by rw [List.length_take, List.length_take, ht.len]
  have e0 : n.f0 = n.f0.take i ++ n.f0[i] :: n.f0.drop (i + 1) := by rw [← List.drop_eq_getElem_cons hi0, List.take_append_drop]
  have e1 : n.f1 = n.f1.take i ++ n.f1[i] :: n.f1.drop (i + 1) := by rw [← List.drop_eq_getElem_cons hi, List.take_append_drop]
  refine ⟨(n.f0.take i).zip (n.f1.take i), (n.f0.drop (i + 1)).zip (n.f1.drop (i + 1)), n.f0[i], n.f1[i], ?_, List.getElem?_eq_getElem hi0, List.getElem?_eq_getElem hi, ?_, ?_⟩
  · unfold prs
    rw [← List.zip_cons_cons, ← List.zip_append hl, ← e0, ← e1]
  · unfold prs
    exact List.zip_append hl
  · unfold prs
    rw [← List.zip_cons_cons, ← List.zip_append hl, ← e0]
    congr 1
    rw [List.set_eq_take_append_cons_drop, if_pos hi]
theorem split_mem {A B : List (ByteArray × SN)} {t : ByteArray} {k : SN} (h : (A ++ (t, k) :: B).Pairwise (fun a b => ltB a.1 b.1)) : ∀ x, x ∈ A ++ B → x.1 ≠ t := fun x hx e => by
  obtain ⟨_, h1, h2⟩ := List.pairwise_append.1 h
  rcases List.mem_append.1 hx with hx | hx
  · have := h2 x hx (t, k) List.mem_cons_self
    rw [e] at this
    exact ltB_irr this
  · have := (List.pairwise_cons.1 h1).1 x hx
    rw [e] at this
    exact ltB_irr this
theorem split_other {A B : List (ByteArray × SN)} {t u : ByteArray} {k K k' : SN} (hu : u ≠ t) : ((u, k') ∈ A ++ (t, k) :: B ↔ (u, k') ∈ A ++ B) ∧ ((u, k') ∈ A ++ (t, K) :: B ↔ (u, k') ∈ A ++ B) := by
  have h1 : ∀ z : SN, (u, k') ≠ (t, z) := fun z e => hu (congrArg Prod.fst e)
  simp [h1, hu]
theorem rem_form (t : ByteArray) (ts : List ByteArray) (c : ByteArray) (n : SN) (ht : Tr n) (hf : fndT t n.f0 = true) : ∃ A B k, prs n = A ++ (t, k) :: B ∧ k ∈ n.f1 ∧ (((remP ts c k).f1.length = 0 ∧ (remP ts c k).f2.length = 0) ∧ prs (remP (t :: ts) c n) = A ++ B ∨ ((remP ts c k).f1 ≠ [] ∨ (remP ts c k).f2 ≠ []) ∧ prs (remP (t :: ts) c n) = A ++ (t, remP ts c k) :: B) ∧ (remP (t :: ts) c n).f2 = n.f2 := by
  have hp : posT t n.f0 < n.f1.length := by rw [← ht.len]; exact fnd_lt hf
  obtain ⟨A, B, t', k, h1, h2, h3, h4, h5⟩ := prs_split ht hp (remP ts c (gN n.f1 (posT t n.f0)))
  have e1 : t' = t := Option.some.inj (h2.symm.trans (fnd_at hf))
  subst e1
  have e2 : gN n.f1 (posT t' n.f0) = k := by
    obtain ⟨_, e⟩ := List.getElem?_eq_some_iff.1 h3
    rw [← e]
    exact getD_in n.f1 _ (T.df eN) hp
  rw [e2] at h5
  have hkm : k ∈ n.f1 := List.mem_of_getElem? h3
  have hR : remP (t' :: ts) c n = bif (remP ts c k).f1.length == 0 && (remP ts c k).f2.length == 0 then ⟨n.f0.take (posT t' n.f0) ++ n.f0.drop (posT t' n.f0 + 1), n.f1.take (posT t' n.f0) ++ n.f1.drop (posT t' n.f0 + 1), n.f2⟩ else ⟨n.f0, n.f1.set (posT t' n.f0) (remP ts c k), n.f2⟩ := by
    rw [remP, hf]
    have e3 : getE T eN n.f1 (posT t' n.f0) = k := e2
    rw [e3]
    rfl
  refine ⟨A, B, k, h1, hkm, ?_, ?_⟩
  · rw [hR]
    by_cases hz : (remP ts c k).f1.length = 0 ∧ (remP ts c k).f2.length = 0
    · refine .inl ⟨hz, ?_⟩
      simp only [hz.1, hz.2, beq_self_eq_true, Bool.and_self, cond_true]
      exact h4
    · refine .inr ⟨?_, ?_⟩
      · by_cases h6 : (remP ts c k).f1.length = 0
        · exact .inr (fun e => hz ⟨h6, by rw [e]; rfl⟩)
        · exact .inl (fun e => h6 (by rw [e]; rfl))
      · have : ((remP ts c k).f1.length == 0 && (remP ts c k).f2.length == 0) = false := by
          rw [Bool.and_eq_false_iff, beq_eq_false_iff_ne, beq_eq_false_iff_ne]
          by_cases h6 : (remP ts c k).f1.length = 0
          · exact .inr (fun h7 => hz ⟨h6, h7⟩)
          · exact .inl h6
        rw [this]
        exact h5
  · rw [hR]
    cases (remP ts c k).f1.length == 0 && (remP ts c k).f2.length == 0 <;> rfl
theorem rem_none (t : ByteArray) (ts : List ByteArray) (c : ByteArray) (n : SN) (hf : fndT t n.f0 = false) : remP (t :: ts) c n = n := by rw [remP, hf]; exact etaN n
theorem rem_same : ∀ (q : List ByteArray) (c : ByteArray) (n : SN), Tr n → subsAt q (remP q c n) = dropC c (subsAt q n)
  | [], c, n, _ => rfl
  | t :: ts, c, n, ht => by
    cases hf : fndT t n.f0 with
    | false =>
      rw [rem_none t ts c n hf, subsAt, hf]
      rfl
    | true =>
      obtain ⟨A, B, k, h1, hk, h2, _⟩ := rem_form t ts c n ht hf
      have hm := remP_tr (t :: ts) c n ht
      have hK := remP_tr ts c k (ht.kid k hk)
      have ih := rem_same ts c k (ht.kid k hk)
      rw [at_kid ht (by rw [h1]; simp : (t, k) ∈ prs n), ← ih]
      rcases h2 with ⟨⟨z1, z2⟩, h2⟩ | ⟨_, h2⟩
      · rw [empty_at hK z1 z2, at_none hm (fun k' hk' => split_mem (h1 ▸ prs_rise ht) _ (h2 ▸ hk') rfl)]
      · rw [at_kid hm (by rw [h2]; simp : (t, remP ts c k) ∈ _)]
theorem rem_other : ∀ (q p : List ByteArray) (c : ByteArray) (n : SN), Tr n → p ≠ q → subsAt p (remP q c n) = subsAt p n
  | [], [], c, n, _, h => (h rfl).elim
  | [], u :: us, c, n, _, _ => rfl
  | t :: ts, p, c, n, ht, hne => by
    cases hf : fndT t n.f0 with
    | false => rw [rem_none t ts c n hf]
    | true =>
      obtain ⟨A, B, k, h1, hk, h2, h3⟩ := rem_form t ts c n ht hf
      have hm := remP_tr (t :: ts) c n ht
      have hK := remP_tr ts c k (ht.kid k hk)
      cases p with
      | nil => exact h3
      | cons u us =>
        by_cases hu : u = t
        · subst hu
          have ih := rem_other ts us c k (ht.kid k hk) (fun e => hne (by rw [e]))
          rw [at_kid ht (by rw [h1]; simp : (u, k) ∈ prs n), ← ih]
          rcases h2 with ⟨⟨z1, z2⟩, h2⟩ | ⟨_, h2⟩
          · rw [empty_at hK z1 z2, at_none hm (fun k' hk' => split_mem (h1 ▸ prs_rise ht) _ (h2 ▸ hk') rfl)]
          · rw [at_kid hm (by rw [h2]; simp : (u, remP ts c k) ∈ _)]
        · refine same_at hm ht (fun k' => ?_) us
          rw [h1, (split_other (k := k) (K := remP ts c k) hu).1]
          rcases h2 with ⟨_, h2⟩ | ⟨_, h2⟩
          · rw [h2]
          · rw [h2, (split_other (k := k) (K := remP ts c k) hu).2]
theorem rem_gd : ∀ (q : List ByteArray) (c : ByteArray) (n : SN), Gd n → Gd (remP q c n)
  | [], c, n, h => .mk _ (remP_tr [] c n h.tr) h.full h.kid
  | t :: ts, c, n, h => by
    cases hf : fndT t n.f0 with
    | false => rw [rem_none t ts c n hf]; exact h
    | true =>
      obtain ⟨A, B, k, h1, hk, h2, h3⟩ := rem_form t ts c n h.tr hf
      have hm := remP_tr (t :: ts) c n h.tr
      have ih := rem_gd ts c k (h.kid k hk)
      have all : ∀ x ∈ (remP (t :: ts) c n).f1, (x ∈ n.f1) ∨ x = remP ts c k ∧ ((remP ts c k).f1 ≠ [] ∨ (remP ts c k).f2 ≠ []) := fun x hx => by
        rw [← prs_snd hm] at hx
        obtain ⟨y, hy, rfl⟩ := List.mem_map.1 hx
        have old : y ∈ A ++ B → y.2 ∈ n.f1 := fun hy => prs_mem (by rw [h1]; exact List.mem_append.2 ((List.mem_append.1 hy).imp id (List.mem_cons_of_mem _)))
        rcases h2 with ⟨_, h2⟩ | ⟨hf, h2⟩
        · rw [h2] at hy; exact .inl (old hy)
        · rw [h2] at hy
          rcases List.mem_append.1 hy with hy | hy
          · exact .inl (old (List.mem_append_left _ hy))
          · rcases List.mem_cons.1 hy with rfl | hy
            · exact .inr ⟨rfl, hf⟩
            · exact .inl (old (List.mem_append_right _ hy))
      refine .mk _ hm (fun x hx => ?_) (fun x hx => ?_)
      · rcases all x hx with h4 | ⟨rfl, h4⟩
        · exact h.full x h4
        · exact h4
      · rcases all x hx with h4 | ⟨rfl, h4⟩
        · exact h.kid x h4
        · exact ih
theorem zip_ms {α β : Type} : ∀ (l : List (α × β)), (l.map (·.1)).zip (l.map (·.2)) = l
  | [] => rfl
  | a :: l => by rw [List.map_cons, List.map_cons, List.zip_cons_cons, zip_ms l]
theorem prs_drp (c : ByteArray) (n : SN) : prs (drpA c n) = drpAL c n.f0 n.f1 := by rw [drpA_eq]; exact zip_ms _
theorem mem_drp {c : ByteArray} {x : ByteArray × SN} : ∀ {ns : List ByteArray} {ks : List SN}, x ∈ drpAL c ns ks ↔ ∃ k, (x.1, k) ∈ ns.zip ks ∧ x.2 = drpA c k ∧ fullP x.2 = true
  | [], ks => by rw [drpAL]; simp
  | y :: r, [] => by rw [drpAL]; simp
  | y :: r, k :: q => by
    rw [drpAL, List.mem_append, mem_drp (ns := r) (ks := q), List.zip_cons_cons]
    constructor
    · rintro (h | ⟨k', h1, h2⟩)
      · cases hf : fullP (drpA c k) with
        | false => rw [hf] at h; cases h
        | true =>
          rw [hf] at h
          obtain rfl := List.mem_singleton.1 h
          exact ⟨k, List.mem_cons_self, rfl, hf⟩
      · exact ⟨k', List.mem_cons_of_mem _ h1, h2⟩
    · rintro ⟨k', h1, h2, h3⟩
      rcases List.mem_cons.1 h1 with h1 | h1
      · cases h1
        refine .inl ?_
        rw [h2] at h3
        rw [h3]
        exact List.mem_singleton.2 (Prod.ext rfl h2)
      · exact .inr ⟨k', h1, h2, h3⟩
theorem drp_sub (c : ByteArray) : ∀ (ns : List ByteArray) (ks : List SN), ((drpAL c ns ks).map (·.1)).Sublist ns
  | [], ks => by rw [drpAL]; exact List.Sublist.refl _
  | y :: r, [] => by rw [drpAL]; exact List.nil_sublist _
  | y :: r, k :: q => by
    rw [drpAL]
    cases fullP (drpA c k) with
    | false => exact (drp_sub c r q).cons y
    | true => exact (drp_sub c r q).cons_cons y
theorem drp_gd (c : ByteArray) : ∀ (n : SN), Tr n → Gd (drpA c n) := fun n ht => by
  have hp := prs_drp c n
  have kid : ∀ x ∈ (drpA c n).f1, ∃ k ∈ n.f1, x = drpA c k ∧ fullP x = true := fun x hx => by
    rw [drpA_eq] at hx
    obtain ⟨y, hy, rfl⟩ := List.mem_map.1 hx
    obtain ⟨k, h1, h2, h3⟩ := mem_drp.1 hy
    exact ⟨k, prs_mem (n := n) h1, h2, h3⟩
  have gk : ∀ x ∈ (drpA c n).f1, Gd x := fun x hx => by
    obtain ⟨k, hk, rfl, _⟩ := kid x hx
    exact drp_gd c k (ht.kid k hk)
  have htr : Tr (drpA c n) := .mk _ (by rw [drpA_eq]; simp) (by rw [drpA_eq]; exact ht.rise.sublist (drp_sub c n.f0 n.f1)) (fun x hx => (gk x hx).tr)
  refine .mk _ htr (fun x hx => ?_) gk
  obtain ⟨k, hk, _, hf⟩ := kid x hx
  have hlx := (gk x hx).tr.len
  unfold fullP at hf
  rw [Bool.or_eq_true, decide_eq_true_eq, decide_eq_true_eq] at hf
  rcases hf with hf | hf
  · exact .inl (fun e => by rw [e] at hlx; simp at hlx; rw [hlx] at hf; simp at hf)
  · exact .inr (fun e => by rw [e] at hf; simp at hf)
termination_by n => SizeOf.sizeOf n
decreasing_by exact lt_kid hk
theorem drp_at (c : ByteArray) : ∀ (p : List ByteArray) (n : SN), Tr n → subsAt p (drpA c n) = dropC c (subsAt p n)
  | [], n, _ => by rw [drpA_eq]; rfl
  | t :: ts, n, ht => by
    have hd := (drp_gd c n ht).tr
    have hp := prs_drp c n
    by_cases hk : ∃ k, (t, k) ∈ prs n
    · obtain ⟨k, hk⟩ := hk
      have hkm := prs_mem hk
      rw [at_kid ht hk, ← drp_at c ts k (ht.kid k hkm)]
      have hkt := (drp_gd c k (ht.kid k hkm)).tr
      cases hf : fullP (drpA c k) with
      | true => exact at_kid hd (by rw [hp]; exact mem_drp.2 ⟨k, hk, rfl, hf⟩) ts
      | false =>
        unfold fullP at hf
        rw [Bool.or_eq_false_iff, decide_eq_false_iff_not, decide_eq_false_iff_not] at hf
        rw [empty_at hkt (by rw [← hkt.len]; omega) (by omega)]
        refine at_none hd (fun k' hk' => ?_) ts
        rw [hp] at hk'
        obtain ⟨k2, h1, h2, h3⟩ := mem_drp.1 hk'
        obtain rfl := key_one ht hk h1
        unfold fullP at h3
        rw [h2, Bool.or_eq_true, decide_eq_true_eq, decide_eq_true_eq] at h3
        rcases h3 with h3 | h3
        · exact hf.1 h3
        · exact hf.2 h3
    · rw [at_none ht (fun k h => hk ⟨k, h⟩)]
      refine at_none hd (fun k' hk' => ?_) ts
      rw [hp] at hk'
      obtain ⟨k2, h1, _⟩ := mem_drp.1 hk'
      exact hk ⟨k2, h1⟩
theorem remAll_cons (c : ByteArray) (e : SE) (es : List SE) (n : SN) : remAll c (e :: es) n = remAll c es (bif e.f1.toList == c.toList then remP (lev e.f0) c n else n) := rfl
theorem remAll_gd (c : ByteArray) : ∀ (es : List SE) (n : SN), Gd n → Gd (remAll c es n)
  | [], n, h => h
  | e :: es, n, h => by
    rw [remAll_cons]
    cases e.f1.toList == c.toList with
    | true => exact remAll_gd c es _ (rem_gd _ c n h)
    | false => exact remAll_gd c es _ h
theorem remAll_at (c : ByteArray) : ∀ (es : List SE) (n : SN), Gd n → (∀ p, subsAt p (remAll c es n) = dropC c (subsAt p n) ∨ subsAt p (remAll c es n) = subsAt p n) ∧ ∀ e ∈ es, (e.f1.toList == c.toList) = true → subsAt (lev e.f0) (remAll c es n) = dropC c (subsAt (lev e.f0) n)
  | [], n, h => ⟨fun p => .inr rfl, fun e he => by cases he⟩
  | e :: es, n, h => by
    rw [remAll_cons]
    cases hc : e.f1.toList == c.toList with
    | false =>
      obtain ⟨h1, h2⟩ := remAll_at c es n h
      refine ⟨h1, fun e' he hq => ?_⟩
      rcases List.mem_cons.1 he with rfl | he
      · rw [hc] at hq; cases hq
      · exact h2 e' he hq
    | true =>
      obtain ⟨h1, h2⟩ := remAll_at c es _ (rem_gd (lev e.f0) c n h)
      have one : ∀ p, subsAt p (remP (lev e.f0) c n) = dropC c (subsAt p n) ∨ subsAt p (remP (lev e.f0) c n) = subsAt p n := fun p => by
        by_cases hp : p = lev e.f0
        · rw [hp]; exact .inl (rem_same _ c n h.tr)
        · exact .inr (rem_other _ p c n h.tr hp)
      have two : ∀ p, dropC c (subsAt p (remP (lev e.f0) c n)) = dropC c (subsAt p n) := fun p => by
        rcases one p with h3 | h3 <;> rw [h3]
        exact dropC_twice _ _
      refine ⟨fun p => ?_, fun e' he hq => ?_⟩
      · rcases h1 p with h3 | h3
        · exact .inl (h3.trans (two p))
        · rcases one p with h4 | h4
          · exact .inl (h3.trans h4)
          · exact .inr (h3.trans h4)
      · rcases List.mem_cons.1 he with rfl | he
        · rcases h1 (lev e'.f0) with h3 | h3
          · exact h3.trans (two _)
          · exact h3.trans (rem_same _ c n h.tr)
        · exact (h2 e' he hq).trans (two _)
/-- One by one and all at once leave the same tree. -/
theorem remAll_drp (c : ByteArray) (n : SN) (h : nodeP n = true) : remAll c (entsL n) n = drpA c n := by
  obtain ⟨ho, hroot⟩ := nodeP_okI h
  have hg := (gd_of n [] ho).1
  have he : entsL n = entL [] n := by unfold entsL; rw [if_pos h]
  rw [he]
  obtain ⟨h1, h2⟩ := remAll_at c (entL [] n) n hg
  refine gd_ext _ _ (remAll_gd c _ n hg) (drp_gd c n hg.tr) (fun p => ?_)
  rw [drp_at c p n hg.tr]
  rcases h1 p with h3 | h3
  · exact h3
  · by_cases hx : ∃ s ∈ subsAt p n, (s.f0.toList == c.toList) = true
    · obtain ⟨s, hs, hq⟩ := hx
      have h4 := subs_ent p n [] hg.tr s hs
      have hp : p ≠ [] := fun e => by rw [e, show subsAt [] n = n.f2 from rfl, hroot] at hs; cases hs
      have h5 := h2 _ h4 hq
      rw [show lev (enP ([] ++ p) s).f0 = p from lev_join hp (subs_path p n [] ho (fun e => by rw [e] at hs; cases hs))] at h5
      exact h5
    · rw [h3]
      unfold dropC
      refine (List.filter_eq_self.2 (fun s hs => ?_)).symm
      cases hq : s.f0.toList == c.toList with
      | false => rfl
      | true => exact (hx ⟨s, hs, hq⟩).elim
theorem removeClient_same (c : ByteArray) (n : SN) : remAll c (entsL n) n = bif nodeP n then drpA c n else n := by
  cases h : nodeP n with
  | true => exact remAll_drp c n h
  | false => unfold entsL; rw [h]; rfl
end Go.Proofs.YtcnfgfomholheaaGreatDoor.Q
end
section
/- A tree's size, as it is told ahead of a law, bounds it. -/
namespace Go.Proofs.YtcnfgfomholheaaGreatDoor.Q
open Go.RowKit Go.Proofs.YtcnfgfomholheaaGreatDoor.Z Go.Proofs.YtcnfgfomholheaaGreatDoor.X Go.Proofs.YtcnfgfomholheaaGreatDoor.Pure
set_option linter.unusedVariables false
set_option linter.unusedSimpArgs false
theorem mkSb_sum : ∀ (l : List SS) (k : Nat), (mkM mkSb l k).2 = k + 3 * l.length
  | [], k => rfl
  | p :: l, k => by
    show (mkM mkSb l (k + 3)).2 = _
    rw [mkSb_sum l (k + 3), List.length_cons]; omega
mutual
theorem mkN_cnt : ∀ (n : SN) (k : Nat), (mkN n k).2 ≤ k + 3 * cnt n
  | ⟨a, b, c⟩, k => by
    rw [mkN, cnt]
    show (mkM mkSb c (mkNL b (k + 1 * a.length)).2).2 ≤ _
    rw [mkSb_sum]
    have := mkNL_cnt b (k + 1 * a.length)
    omega
theorem mkNL_cnt : ∀ (l : List SN) (k : Nat), (mkNL l k).2 ≤ k + 3 * cntL l
  | [], k => by rw [mkNL, cntL]; exact Nat.le_refl _
  | p :: l, k => by
    rw [mkNL, cntL]
    show (mkNL l (mkN p k).2).2 ≤ _
    have h1 := mkN_cnt p k
    have h2 := mkNL_cnt l (mkN p k).2
    omega
end
theorem szL_sum {n : Nat} {x : Int} (h : 0 ≤ szL n x) : szL n x + n ≤ x := by unfold szL at *; split at h <;> (try split) <;> omega
def sumF {α : Type} (g : α → Nat) : List α → Nat
  | [] => 0
  | a :: l => g a + sumF g l
theorem szH_sum {α : Type} {F : α → Int → Int} {g : α → Nat} : ∀ {l : List α} {x : Int}, (∀ a ∈ l, ∀ x, 0 ≤ x → 0 ≤ F a x → F a x + g a ≤ x) → 0 ≤ x → 0 ≤ szH F l x → szH F l x + sumF g l ≤ x
  | [], x, _, _, _ => by show x + ((0 : Nat) : Int) ≤ x; omega
  | a :: l, x, hF, h0, h => by
    obtain ⟨h1, h2⟩ := tS_inv h
    have e : szH F (a :: l) x = szH F l (F a x) := tS_nn h1
    have h3 := hF a List.mem_cons_self x h0 h1
    have h4 := szH_sum (g := g) (l := l) (fun b hb => hF b (List.mem_cons_of_mem _ hb)) h1 h2
    rw [e]
    show _ + ((g a + sumF g l : Nat) : Int) ≤ x
    omega
theorem szH_mem {α : Type} {F : α → Int → Int} : ∀ {l : List α} {x : Int}, (∀ a ∈ l, ∀ x, 0 ≤ x → F a x ≤ x) → 0 ≤ x → 0 ≤ szH F l x → ∀ a ∈ l, ∃ v, 0 ≤ v ∧ v ≤ x ∧ 0 ≤ F a v
  | [], x, _, _, _, a, ha => by cases ha
  | b :: l, x, hF, h0, h, a, ha => by
    obtain ⟨h1, h2⟩ := tS_inv h
    rcases List.mem_cons.1 ha with rfl | ha
    · exact ⟨x, h0, Int.le_refl _, h1⟩
    · have h3 := hF b List.mem_cons_self x h0
      obtain ⟨v, v1, v2, v3⟩ := szH_mem (l := l) (fun b hb => hF b (List.mem_cons_of_mem _ hb)) h1 h2 a ha
      exact ⟨v, v1, by omega, v3⟩
theorem sum_cnt : ∀ l : List LN, sumF (fun a => cnt (tN a)) l = cntL (l.map tN)
  | [] => by rw [List.map_nil, cntL]; rfl
  | a :: l => by rw [List.map_cons, cntL, ← sum_cnt l]; rfl
theorem sz0_sum {l : List ByteArray} {x : Int} (h0 : 0 ≤ x) (h : 0 ≤ sz0 l x) : sz0 l x + l.length ≤ x := by
  obtain ⟨h1, h2⟩ := tS_inv h
  have e : sz0 l x = _ := tS_nn h1
  have h3 := szL_sum h1
  have h4 := szH_le (F := fun y : ByteArray => szL y.size) (l := l) (fun a _ x hx => szL_le hx) h1
  rw [e]; omega
theorem sz2_sum {l : List LS} {x : Int} (h0 : 0 ≤ x) (h : 0 ≤ sz2 l x) : sz2 l x + l.length ≤ x := by
  obtain ⟨h1, h2⟩ := tS_inv h
  have e : sz2 l x = _ := tS_nn h1
  have h3 := szL_sum h1
  have h4 := szH_le (F := fun y : LS => szL y.f0.size) (l := l) (fun a _ x hx => szL_le hx) h1
  rw [e]; omega
theorem szN_parts {a : LN} {x : Int} (h0 : 0 ≤ x) (h : 0 ≤ szN a x) : ∃ x1 x2 x3 : Int, sz0 a.f0 x = x1 ∧ 0 ≤ x1 ∧ x1 ≤ x ∧ szL a.f1.length x1 = x2 ∧ 0 ≤ x2 ∧ x2 ≤ x1 ∧ szH szN a.f1 x2 = x3 ∧ 0 ≤ x3 ∧ x3 ≤ x2 ∧ 0 ≤ sz2 a.f2 x3 ∧ szN a x = sz2 a.f2 x3 := by
  rw [szN_eq] at h ⊢
  obtain ⟨h1, h2⟩ := tS_inv h
  obtain ⟨h3, h4⟩ := tS_inv h2
  obtain ⟨h5, h6⟩ := tS_inv h3
  have e1 := tS_nn (K := fun x => thenS (thenS (szL a.f1.length x) (szH szN a.f1)) fun x => sz2 a.f2 x) h1
  have e2 := tS_nn (K := fun x => sz2 a.f2 x) h3
  have e3 := tS_nn (K := szH szN a.f1) h5
  refine ⟨_, _, _, rfl, h1, sz0_le h0, rfl, h5, szL_le h1, rfl, h6, szH_le (fun b _ y hy => szN_le b hy) h5, ?_, ?_⟩
  · rw [← e3]; exact h4
  · rw [e1, e2, e3]
theorem szN_cnt : ∀ (a : LN) (x : Int), 0 ≤ x → 0 ≤ szN a x → szN a x + cnt (tN a) ≤ x := fun a x h0 h => by
  obtain ⟨x1, x2, x3, e1, a1, b1, e2, a2, b2, e3, a3, b3, h4, e⟩ := szN_parts h0 h
  have g1 := sz0_sum h0 (by rw [e1]; exact a1)
  have g2 := szH_sum (F := szN) (g := fun a => cnt (tN a)) (l := a.f1) (fun k hk y hy hz => szN_cnt k y hy hz) a2 (by rw [e3]; exact a3)
  have g3 := sz2_sum a3 h4
  rw [e1] at g1
  rw [e3, sum_cnt] at g2
  rw [e, tN_eq, cnt_eq]
  show _ + (((a.f0.length + (a.f2.map tS).length + cntL (a.f1.map tN) : Nat)) : Int) ≤ x
  rw [List.length_map]
  omega
termination_by a => SizeOf.sizeOf a
decreasing_by exact lt_kidL hk
theorem szN_bd : ∀ (a : LN) (x : Int), 0 ≤ x → x ≤ 1048576 → 0 ≤ szN a x → Bd (tN a) ∧ BdL a := fun a x h0 hx h => by
  obtain ⟨x1, x2, x3, e1, a1, b1, e2, a2, b2, e3, a3, b3, h4, e⟩ := szN_parts h0 h
  have h1 : 0 ≤ sz0 a.f0 x := by rw [e1]; exact a1
  have g1 := sz0_sum h0 h1
  have g3 := sz2_sum a3 h4
  have g2 := szL_sum (n := a.f1.length) (x := x1) (by rw [e2]; exact a2)
  rw [e1] at g1
  rw [e2] at g2
  have z0 : ∀ y ∈ a.f0, y.size ≤ 1048576 := fun y hy => by
    obtain ⟨q1, q2⟩ := tS_inv h1
    obtain ⟨v, v1, v2, v3⟩ := szH_mem (F := fun y : ByteArray => szL y.size) (fun a _ x hx => szL_le hx) q1 q2 y hy
    have := szL_sum v3
    have := szL_le (n := a.f0.length) h0
    omega
  have z2 : ∀ y ∈ a.f2, y.f0.size ≤ 1048576 := fun y hy => by
    obtain ⟨q1, q2⟩ := tS_inv h4
    obtain ⟨v, v1, v2, v3⟩ := szH_mem (F := fun y : LS => szL y.f0.size) (fun a _ x hx => szL_le hx) q1 q2 y hy
    have := szL_sum v3
    have := szL_le (n := a.f2.length) a3
    omega
  have hk : ∀ k ∈ a.f1, Bd (tN k) ∧ BdL k := fun k hk => by
    obtain ⟨v, v1, v2, v3⟩ := szH_mem (F := szN) (fun b _ y hy => szN_le b hy) a2 (by rw [e3]; exact a3) k hk
    exact szN_bd k v v1 (by omega) v3
  refine ⟨?_, .mk a (by omega) (by omega) (by omega) (fun k h => (hk k h).2)⟩
  rw [tN_eq]
  refine .mk _ (by show a.f0.length ≤ _; omega) z0 (by show (a.f1.map tN).length ≤ _; rw [List.length_map]; omega) (by show (a.f2.map tS).length ≤ _; rw [List.length_map]; omega) (fun y hy => ?_) (fun y hy => ?_)
  · obtain ⟨z, hz, rfl⟩ := List.mem_map.1 hy
    exact z2 z hz
  · obtain ⟨z, hz, rfl⟩ := List.mem_map.1 hy
    exact (hk z hz).1
termination_by a => SizeOf.sizeOf a
decreasing_by exact lt_kidL hk
mutual
theorem drp_cnt (c : ByteArray) : ∀ n : SN, cnt (drpA c n) ≤ cnt n
  | ⟨ns, ks, ss⟩ => by
    rw [drpA, cnt, cnt]
    have h1 := drpL_cnt c ns ks
    have h2 := dropC_len c ss
    have h3 := drpAL_len c ns ks
    rw [List.length_map]
    omega
theorem drpL_cnt (c : ByteArray) : ∀ (ns : List ByteArray) (ks : List SN), cntL ((drpAL c ns ks).map (·.2)) ≤ cntL ks
  | x :: r, k :: q => by
    rw [drpAL, cntL]
    have h1 := drp_cnt c k
    have h2 := drpL_cnt c r q
    cases fullP (drpA c k) with
    | false => show cntL ((drpAL c r q).map (·.2)) ≤ _; omega
    | true =>
      show cntL (drpA c k :: (drpAL c r q).map (·.2)) ≤ _
      rw [cntL]; omega
  | [], ks => by rw [drpAL]; show cntL [] ≤ _; rw [cntL]; exact Nat.zero_le _
  | x :: r, [] => by rw [drpAL]; show cntL [] ≤ _; rw [cntL]; exact Nat.zero_le _
end
end Go.Proofs.YtcnfgfomholheaaGreatDoor.Q
end
section
/- The law FnExactRemoveClient's function answers true. -/
namespace Go.Proofs.YtcnfgfomholheaaGreatDoor.Q
open Go.RowKit Go.Proofs.YtcnfgfomholheaaGreatDoor.Z Go.Proofs.YtcnfgfomholheaaGreatDoor.Pure
set_option linter.unusedVariables false
set_option linter.unusedSimpArgs false
set_option maxRecDepth 100000
set_option maxHeartbeats 4000000
abbrev bxL (a : LN) : Res T := .bx eNL ((T.cells eNL a).map (toCell none))
/-- What both sides leave of a tree without a client. -/
def dropP (c : ByteArray) (n : SN) : SN := bif nodeP n then drpA c n else n
theorem dropP_ok (c : ByteArray) (n : SN) (h : Bd n) : Bd (dropP c n) ∧ cnt (dropP c n) ≤ cnt n := by
  unfold dropP
  cases nodeP n with
  | true => exact ⟨drpA_bd c n h, drp_cnt c n⟩
  | false => exact ⟨h, Nat.le_refl _⟩
theorem lawRemoveClient (a : LN) (c : ByteArray) (ha : FitN a) : CallOb T Tryz.prog 3 [.ag (T.cells eNL a), .c (.sc (.string c))] (.c (.sc (.bool true))) := by
  refine call_of_Vc hT Tryz.func3 (by kernel_rfl) rfl rfl (fun A => ?_)
  refine Vc.seq 0 hT ?_
  conv => whnf
  refine Vc.seq 1 hT ?_
  conv => whnf
  refine Split.mk (fun c1 => ?_) (fun c1 => ?_)
  · conv => whnf
    exact RetQ.mk ⟨rfl, rfl⟩ ⟨rfl, rfl⟩ ⟨rfl, trivial⟩
  clear c1
  conv => whnf
  refine Vc.seq 1 hT ?_
  conv => whnf
  refine Vc.seq 1 hT ?_
  conv => whnf
  refine CallQ.mk _ (szNode a ha _ (by decide) (by decide)) ?_
  conv => whnf
  refine Vc.seq 2 hT ?_
  conv => whnf
  refine Split.mk (fun c1 => ?_) (fun c1 => ?_)
  · conv => whnf
    exact RetQ.mk ⟨rfl, rfl⟩ ⟨rfl, rfl⟩ ⟨rfl, trivial⟩
  have hsz : 0 ≤ szN a 1048576 := li_f c1
  clear c1
  have hcnt := szN_cnt a 1048576 (by decide) hsz
  obtain ⟨hB, hL⟩ := szN_bd a 1048576 (by decide) (by decide) hsz
  have hto := toNode a hL
  generalize tN a = B at hcnt hB hto
  have hcB : cnt B ≤ 1048576 := by omega
  clear hcnt hsz hL
  have him := implRemoveClient B c hB nodeP_good (Nat.le_trans (entsL_le B) (by omega)) (fun e he => ent_small he)
  have hsp := specRemoveClient B c hB (fun h => (nodeP_good h).1)
  rw [removeClient_same] at him
  obtain ⟨hR, hcR⟩ := dropP_ok c B hB
  change CallOb T Tryz.prog 21 [.ag (T.cells eN B), .c (.sc (.string c))] (OutN (dropP c B)) at him
  change CallOb T Tryz.prog 19 [.ag (T.cells eN B), .c (.sc (.string c))] (OutN (dropP c B)) at hsp
  generalize dropP c B = R at him hsp hR hcR
  have hkB := mkN_cnt B 1
  have hkR := mkN_cnt R 1
  have hmB := markNode B 1 hB (by decide) (by omega)
  have hmR := markNode R 1 hR (by decide) (by omega)
  have hhR := heldNode R 1 hR (by decide) (by omega)
  have heR := eqNode R hR R
  have heB := eqNode B hB B
  conv => whnf
  refine Vc.cut (α := Unit) 5 (fun _ => True) (fun _ => [(6, .c (.px 1 0)), (2, .c (.px 0 0)), (1, .c (.sc (.string c)))]) (fun _ => [(1, .bx eN [.hd 2, .hd 3, .hd 4]), (2, .row 2 9 R.f0), (3, .row 3 eN R.f1), (4, .row 4 eS R.f2), (0, bxL a)]) hT ?_ (fun _ _ => ?_)
  · conv => whnf
    refine CallQ.mk _ hto ?_
    conv => whnf
    refine CallQ.mk _ hsp ?_
    conv => whnf
    exact CutQ.mk ⟨(), trivial, imp_of [(1, 11), (2, 8), (3, 9), (4, 10), (0, 0)] rfl rfl rfl ⟨⟨rfl, rfl⟩, ⟨rfl, rfl⟩, ⟨rfl, rfl⟩, trivial⟩ ⟨⟨rfl, rfl⟩, sr9 rfl, srN rfl, srS rfl, ⟨rfl, rfl⟩, trivial⟩⟩
  refine Vc.cut (α := Unit) 30 (fun _ => True) (fun _ => [(7, .c (.px 5 0)), (6, .c (.px 1 0)), (2, .c (.px 0 0)), (1, .c (.sc (.string c)))]) (fun _ => [(5, .bx eN [.hd 6, .hd 7, .hd 8]), (6, .row 6 9 B.f0), (7, .row 7 eN B.f1), (8, .row 8 eS B.f2), (1, .bx eN [.hd 2, .hd 3, .hd 4]), (2, .row 2 9 R.f0), (3, .row 3 eN R.f1), (4, .row 4 eS R.f2), (0, bxL a)]) hT ?_ (fun _ _ => ?_)
  · conv => whnf
    refine CallQ.mk _ hto ?_
    conv => whnf
    exact CutQ.mk ⟨(), trivial, imp_of [(5, 33), (6, 30), (7, 31), (8, 32), (1, 1), (2, 2), (3, 3), (4, 4), (0, 0)] rfl rfl rfl ⟨⟨rfl, rfl⟩, ⟨rfl, rfl⟩, ⟨rfl, rfl⟩, ⟨rfl, rfl⟩, trivial⟩ ⟨⟨rfl, rfl⟩, sr9 rfl, srN rfl, srS rfl, ⟨rfl, rfl⟩, sr9 rfl, srN rfl, srS rfl, ⟨rfl, rfl⟩, trivial⟩⟩
  refine Vc.cut (α := Unit) 30 (fun _ => True) (fun _ => [(8, .c (.px 9 0)), (7, .c (.px 5 0)), (6, .c (.px 1 0)), (2, .c (.px 0 0)), (1, .c (.sc (.string c)))]) (fun _ => [(9, .bx eN [.hd 10, .hd 11, .hd 12]), (10, .row 10 9 R.f0), (11, .row 11 eN R.f1), (12, .row 12 eS R.f2), (5, .bx eN [.hd 6, .hd 7, .hd 8]), (6, .row 6 9 B.f0), (7, .row 7 eN B.f1), (8, .row 8 eS B.f2), (1, .bx eN [.hd 2, .hd 3, .hd 4]), (2, .row 2 9 R.f0), (3, .row 3 eN R.f1), (4, .row 4 eS R.f2), (0, bxL a)]) hT ?_ (fun _ _ => ?_)
  · conv => whnf
    refine CallQ.mk _ him ?_
    conv => whnf
    exact CutQ.mk ⟨(), trivial, imp_of [(9, 33), (10, 30), (11, 31), (12, 32), (5, 5), (6, 6), (7, 7), (8, 8), (1, 1), (2, 2), (3, 3), (4, 4), (0, 0)] rfl rfl rfl ⟨⟨rfl, rfl⟩, ⟨rfl, rfl⟩, ⟨rfl, rfl⟩, ⟨rfl, rfl⟩, ⟨rfl, rfl⟩, trivial⟩ ⟨⟨rfl, rfl⟩, sr9 rfl, srN rfl, srS rfl, ⟨rfl, rfl⟩, sr9 rfl, srN rfl, srS rfl, ⟨rfl, rfl⟩, sr9 rfl, srN rfl, srS rfl, ⟨rfl, rfl⟩, trivial⟩⟩
  refine Vc.seq 30 hT ?_
  conv => whnf
  refine CallQ.mk _ heR ?_
  conv => whnf
  refine Split.mk (fun c1 => (of_same_f (not_t c1) rfl).elim) (fun c1 => ?_)
  clear c1
  conv => whnf
  refine Vc.seq 30 hT ?_
  conv => whnf
  refine CallQ.mk _ hto ?_
  conv => whnf
  refine CallQ.mk _ heB ?_
  conv => whnf
  refine DrawQ.mk ⟨by kernel_rfl, by kernel_rfl⟩ ?_
  conv => whnf
  refine Split.mk (fun c1 => (of_same_f (not_t c1) rfl).elim) (fun c1 => ?_)
  clear c1
  conv => whnf
  refine Vc.seq 100 hT ?_
  conv => whnf
  refine Vc.cut (α := Unit) 100 (fun _ => True) (fun _ => [(9, i64 ((mkN B 1).2 : Nat)), (8, .c (.px 9 0)), (6, .c (.px 1 0)), (2, .c (.px 0 0)), (1, .c (.sc (.string c)))]) (fun _ => [(9, .bx eN [.hd 10, .hd 11, .hd 12]), (10, .row 10 9 R.f0), (11, .row 11 eN R.f1), (12, .row 12 eS R.f2), (1, .bx eN [.hd 2, .hd 3, .hd 4]), (2, .row 2 9 R.f0), (3, .row 3 eN R.f1), (4, .row 4 eS R.f2), (0, bxL a)]) hT ?_ (fun _ _ => ?_)
  · conv => whnf
    refine CallQ.wr [[NW.wr 9 (mkN B 1).1.f0, NW.wr eN (mkN B 1).1.f1, NW.wr eS (mkN B 1).1.f2], [NW.rd]] (.c (.sc (.int .i64 ((mkN B 1).2 : Int)))) ?_
    conv => whnf
    refine CallWQ.mk hmB ?_
    conv => whnf
    exact CutQ.mk ⟨(), trivial, imp_of [(9, 9), (10, 10), (11, 11), (12, 12), (1, 1), (2, 2), (3, 3), (4, 4), (0, 0)] rfl rfl rfl ⟨⟨rfl, rfl⟩, ⟨rfl, rfl⟩, ⟨rfl, rfl⟩, ⟨rfl, rfl⟩, ⟨rfl, rfl⟩, trivial⟩ ⟨⟨rfl, rfl⟩, sr9 rfl, srN rfl, srS rfl, ⟨rfl, rfl⟩, sr9 rfl, srN rfl, srS rfl, ⟨rfl, rfl⟩, trivial⟩⟩
  refine Vc.seq 30 hT ?_
  conv => whnf
  refine Split.mk (fun c1 => ng_ c1) (fun c1 => ?_)
  clear c1
  conv => whnf
  refine CallQ.mk _ heR ?_
  conv => whnf
  refine Split.mk (fun c1 => (of_same_f (not_t c1) rfl).elim) (fun c1 => ?_)
  clear c1
  conv => whnf
  refine Vc.seq 30 hT ?_
  conv => whnf
  refine Vc.cut (α := Unit) 30 (fun _ => True) (fun _ => [(10, i64 ((mkN R 1).2 : Nat)), (8, .c (.px 9 0)), (6, .c (.px 1 0)), (2, .c (.px 0 0)), (1, .c (.sc (.string c)))]) (fun _ => [(9, .bx eN [.hd 10, .hd 11, .hd 12]), (10, .row 10 9 (mkN R 1).1.f0), (11, .row 11 eN (mkN R 1).1.f1), (12, .row 12 eS (mkN R 1).1.f2), (1, .bx eN [.hd 2, .hd 3, .hd 4]), (2, .row 2 9 R.f0), (3, .row 3 eN R.f1), (4, .row 4 eS R.f2), (0, bxL a)]) hT ?_ (fun _ _ => ?_)
  · conv => whnf
    refine CallQ.wr [[NW.wr 9 (mkN R 1).1.f0, NW.wr eN (mkN R 1).1.f1, NW.wr eS (mkN R 1).1.f2], [NW.rd]] (.c (.sc (.int .i64 ((mkN R 1).2 : Int)))) ?_
    conv => whnf
    refine CallWQ.mk hmR ?_
    conv => whnf
    exact CutQ.mk ⟨(), trivial, imp_of [(9, 9), (10, 10), (11, 11), (12, 12), (1, 1), (2, 2), (3, 3), (4, 4), (0, 0)] rfl rfl rfl ⟨⟨rfl, rfl⟩, ⟨rfl, rfl⟩, ⟨rfl, rfl⟩, ⟨rfl, rfl⟩, ⟨rfl, rfl⟩, trivial⟩ ⟨⟨rfl, rfl⟩, sr9 rfl, srN rfl, srS rfl, ⟨rfl, rfl⟩, sr9 rfl, srN rfl, srS rfl, ⟨rfl, rfl⟩, trivial⟩⟩
  refine Vc.seq 30 hT ?_
  conv => whnf
  refine Vc.seq 30 hT ?_
  conv => whnf
  refine CallQ.mk (.c (.sc (.int .i64 ((mkN R 1).2 : Int)))) hhR ?_
  conv => whnf
  refine Vc.seq 30 hT ?_
  conv => whnf
  refine Split.mk (fun c1 => ng_ c1) (fun c1 => ?_)
  clear c1
  conv => whnf
  refine Vc.seq 30 hT ?_
  conv => whnf
  refine Split.mk (fun c1 => (ne_t c1 rfl).elim) (fun c1 => ?_)
  clear c1
  conv => whnf
  refine Vc.cut (α := Unit) 30 (fun _ => True) (fun _ => [(12, .c (.px 13 0)), (10, i64 ((mkN R 1).2 : Nat)), (8, .c (.px 9 0)), (6, .c (.px 1 0)), (2, .c (.px 0 0)), (1, .c (.sc (.string c)))]) (fun _ => [(13, .bx eN [.hd 14, .hd 15, .hd 16]), (14, .row 14 9 R.f0), (15, .row 15 eN R.f1), (16, .row 16 eS R.f2), (9, .bx eN [.hd 10, .hd 11, .hd 12]), (10, .row 10 9 (mkN R 1).1.f0), (11, .row 11 eN (mkN R 1).1.f1), (12, .row 12 eS (mkN R 1).1.f2), (1, .bx eN [.hd 2, .hd 3, .hd 4]), (2, .row 2 9 R.f0), (3, .row 3 eN R.f1), (4, .row 4 eS R.f2), (0, bxL a)]) hT ?_ (fun _ _ => ?_)
  · conv => whnf
    refine CallQ.mk _ hto ?_
    conv => whnf
    refine CallQ.mk _ him ?_
    conv => whnf
    exact CutQ.mk ⟨(), trivial, imp_of [(13, 36), (14, 33), (15, 34), (16, 35), (9, 9), (10, 10), (11, 11), (12, 12), (1, 1), (2, 2), (3, 3), (4, 4), (0, 0)] rfl rfl rfl ⟨⟨rfl, rfl⟩, ⟨rfl, rfl⟩, ⟨rfl, rfl⟩, ⟨rfl, rfl⟩, ⟨rfl, rfl⟩, ⟨rfl, rfl⟩, trivial⟩ ⟨⟨rfl, rfl⟩, sr9 rfl, srN rfl, srS rfl, ⟨rfl, rfl⟩, sr9 rfl, srN rfl, srS rfl, ⟨rfl, rfl⟩, sr9 rfl, srN rfl, srS rfl, ⟨rfl, rfl⟩, trivial⟩⟩
  refine Vc.seq 30 hT ?_
  conv => whnf
  refine CallQ.mk _ heR ?_
  conv => whnf
  refine Split.mk (fun c1 => (of_same_f (not_t c1) rfl).elim) (fun c1 => ?_)
  clear c1
  conv => whnf
  refine Vc.seq 30 hT ?_
  conv => whnf
  refine Vc.seq 30 hT ?_
  conv => whnf
  refine CallQ.mk (.c (.sc (.int .i64 ((mkN R 1).2 : Int)))) hhR ?_
  conv => whnf
  refine Vc.seq 30 hT ?_
  conv => whnf
  refine Split.mk (fun c1 => ng_ c1) (fun c1 => ?_)
  clear c1
  conv => whnf
  refine Vc.seq 30 hT ?_
  conv => whnf
  refine Split.mk (fun c1 => (ne_t c1 rfl).elim) (fun c1 => ?_)
  clear c1
  conv => whnf
  refine Vc.of 30 hT ?_
  conv => whnf
  exact RetQ.mk ⟨rfl, rfl⟩ ⟨rfl, rfl⟩ ⟨rfl, trivial⟩
end Go.Proofs.YtcnfgfomholheaaGreatDoor.Q
end
