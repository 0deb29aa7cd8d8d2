/- Several texts of this claim in one (a claim holds at most 60 files). -/
import Derived.Test.YtcnfgfomholheaaGreatDoorZT
import Derived.Test.YtcnfgfomholheaaGreatDoorZc
import Derived.Test.YtcnfgfomholheaaGreatDoorT5
import Derived.Test.YtcnfgfomholheaaGreatDoorT7
import Derived.Test.YtcnfgfomholheaaGreatDoorPx8
section
/- Rows compared and copied. Printed by a program of this work (gen_tree1.py). -/
namespace Go.Proofs.YtcnfgfomholheaaGreatDoor.Q
open Go.RowKit Go.Proofs.YtcnfgfomholheaaGreatDoor.Z
set_option linter.unusedVariables false
set_option linter.unusedSimpArgs false
set_option maxRecDepth 100000
set_option maxHeartbeats 4000000
abbrev i64 (n : Int) : Slot T := .c (.sc (.int .i64 n))
abbrev im (e : Nat) (l : List (T.Tb e)) : Slot T := .c (.im none e l)
abbrev eN : Nat := 31
abbrev eS : Nat := 44
abbrev eE : Nat := 96
abbrev eNL : Nat := 26
abbrev eSL : Nat := 41
abbrev SN := S31
abbrev SS := S44
abbrev SE := S96
abbrev LN := S26
abbrev LS := S41
theorem eqStringS (a b : List ByteArray) (ha : a.length ≤ 140737488351232) : CallOb T Tryz.prog 47 [.c (.sl 9 a), .c (.sl 9 b)] (.c (.sc (.bool (same a b)))) := by
  refine call_of_vc hT Tryz.func47 (by kernel_rfl) rfl rfl (fun A => ?_)
  conv => whnf
  refine Split.mk (fun c => ?_) (fun c => ?_)
  · conv => whnf
    exact RetQ.mk ⟨rfl, rfl⟩ ⟨rfl, rfl⟩ ⟨bv (same_f (fun e => nn_t c (congrArg List.length e))), trivial⟩
  · have hl : a.length = b.length := nn_f c
    conv => whnf
    refine LoopQ.mk { k : Nat // k ≤ a.length ∧ a.take k = b.take k } (fun p => (0, [(5, i64 p.1), (0, im 9 a), (1, im 9 b)], [])) (fun p => a.length - p.1) ⟨0, Nat.zero_le _, rfl⟩ (imp_of [] rfl rfl rfl ⟨⟨rfl, rfl⟩, ⟨rfl, rfl⟩, ⟨rfl, rfl⟩, trivial⟩ trivial) ?_
    rintro ⟨k, hk, ht⟩
    conv => whnf
    refine Split.mk (fun c => ?_) (fun c => ?_)
    · have hk2 : k < a.length := ln_t c
      conv => whnf
      refine Need.mk (idx hk2) ?_
      conv => whnf
      refine Need.mk (idx (hl ▸ hk2)) ?_
      conv => whnf
      refine DrawQ.mk ⟨by kernel_rfl, by kernel_rfl⟩ ?_
      conv => whnf
      refine Split.mk (fun c => ?_) (fun c => ?_)
      · conv => whnf
        exact RetQ.mk ⟨rfl, rfl⟩ ⟨rfl, rfl⟩ ⟨bv (same_f (fun e => sx_t c (congrArg (fun l => l.getD k (T.df 9)) e))), trivial⟩
      · conv => whnf
        exact NextQ.mk ⟨⟨k + 1, hk2, take_more (d := (T.df 9)) hk2 (hl ▸ hk2) ht (sx_f c)⟩, Nat.sub_lt_sub_left hk2 (Nat.lt_succ_self k), imp_of [] rfl rfl rfl ⟨⟨rfl, congrArg i64 (sc_ hk2 ha)⟩, ⟨rfl, rfl⟩, ⟨rfl, rfl⟩, trivial⟩ trivial⟩
    · have hk2 : k = a.length := Nat.le_antisymm hk (ln_f c)
      conv => whnf
      subst hk2
      exact RetQ.mk ⟨rfl, rfl⟩ ⟨rfl, rfl⟩ ⟨bv (same_t (take_all hl ht)), trivial⟩
theorem eqSub_eq {a b : SS} (h0 : a.f0 = b.f0) (h1 : a.f1 = b.f1) (h2 : a.f2 = b.f2) : a = b := by cases a; cases b; simp_all
theorem eqSub (a b : SS) : CallOb T Tryz.prog 117 [.ag (T.cells eS a), .ag (T.cells eS b)] (.c (.sc (.bool (same a b)))) := by
  refine call_of_vc hT Tryz.func117 (by kernel_rfl) rfl rfl (fun A => ?_)
  conv => whnf
  refine Split.mk (fun c => ?_) (fun c => ?_)
  · conv => whnf
    exact RetQ.mk ⟨rfl, rfl⟩ ⟨rfl, rfl⟩ ⟨bv (same_f (fun e => sx_t c (congrArg (fun z : SS => z.f0) e))), trivial⟩
  have c0 : a.f0 = b.f0 := sx_f c
  clear c
  conv => whnf
  refine Split.mk (fun c => ?_) (fun c => ?_)
  · conv => whnf
    exact RetQ.mk ⟨rfl, rfl⟩ ⟨rfl, rfl⟩ ⟨bv (same_f (fun e => ne_t c (congrArg (fun z : SS => z.f1) e))), trivial⟩
  have c1 : a.f1 = b.f1 := ne_f c
  clear c
  conv => whnf
  refine Split.mk (fun c => ?_) (fun c => ?_)
  · conv => whnf
    exact RetQ.mk ⟨rfl, rfl⟩ ⟨rfl, rfl⟩ ⟨bv (same_f (fun e => ne_t c (congrArg (fun z : SS => z.f2) e))), trivial⟩
  have c2 : a.f2 = b.f2 := ne_f c
  clear c
  conv => whnf
  exact RetQ.mk ⟨rfl, rfl⟩ ⟨rfl, rfl⟩ ⟨bv (same_t (eqSub_eq c0 c1 c2)), trivial⟩
theorem eqSubS (a b : List SS) (ha : a.length ≤ 140737488351232) : CallOb T Tryz.prog 33 [.c (.sl eS a), .c (.sl eS b)] (.c (.sc (.bool (same a b)))) := by
  refine call_of_vc hT Tryz.func33 (by kernel_rfl) rfl rfl (fun A => ?_)
  conv => whnf
  refine Split.mk (fun c => ?_) (fun c => ?_)
  · conv => whnf
    exact RetQ.mk ⟨rfl, rfl⟩ ⟨rfl, rfl⟩ ⟨bv (same_f (fun e => nn_t c (congrArg List.length e))), trivial⟩
  · have hl : a.length = b.length := nn_f c
    conv => whnf
    refine LoopQ.mk { k : Nat // k ≤ a.length ∧ a.take k = b.take k } (fun p => (0, [(5, i64 p.1), (0, im eS a), (1, im eS b)], [])) (fun p => a.length - p.1) ⟨0, Nat.zero_le _, rfl⟩ (imp_of [] rfl rfl rfl ⟨⟨rfl, rfl⟩, ⟨rfl, rfl⟩, ⟨rfl, rfl⟩, trivial⟩ trivial) ?_
    rintro ⟨k, hk, ht⟩
    conv => whnf
    refine Split.mk (fun c => ?_) (fun c => ?_)
    · have hk2 : k < a.length := ln_t c
      conv => whnf
      refine Need.mk (idx hk2) ?_
      conv => whnf
      refine Need.mk (idx (hl ▸ hk2)) ?_
      conv => whnf
      refine CallQ.mk _ (eqSub _ _) ?_
      conv => whnf
      refine DrawQ.mk ⟨by kernel_rfl, by kernel_rfl⟩ ?_
      conv => whnf
      refine Split.mk (fun c => ?_) (fun c => ?_)
      · conv => whnf
        exact RetQ.mk ⟨rfl, rfl⟩ ⟨rfl, rfl⟩ ⟨bv (same_f (fun e => of_same_f (not_t c) (congrArg (fun l => l.getD k (T.df eS)) e))), trivial⟩
      · conv => whnf
        exact NextQ.mk ⟨⟨k + 1, hk2, take_more (d := (T.df eS)) hk2 (hl ▸ hk2) ht (of_same (not_f c))⟩, Nat.sub_lt_sub_left hk2 (Nat.lt_succ_self k), imp_of [] rfl rfl rfl ⟨⟨rfl, congrArg i64 (sc_ hk2 ha)⟩, ⟨rfl, rfl⟩, ⟨rfl, rfl⟩, trivial⟩ trivial⟩
    · have hk2 : k = a.length := Nat.le_antisymm hk (ln_f c)
      conv => whnf
      subst hk2
      exact RetQ.mk ⟨rfl, rfl⟩ ⟨rfl, rfl⟩ ⟨bv (same_t (take_all hl ht)), trivial⟩
/-- A tree of a size that is taken. -/
inductive Bd : SN → Prop
  | mk (n : SN) (h0 : n.f0.length ≤ 2097152) (z0 : ∀ x ∈ n.f0, x.size ≤ 1048576) (h1 : n.f1.length ≤ 2097152) (h2 : n.f2.length ≤ 2097152) (z2 : ∀ x ∈ n.f2, x.f0.size ≤ 1048576) (hk : ∀ k ∈ n.f1, Bd k) : Bd n
theorem Bd.l0 {n : SN} (h : Bd n) : n.f0.length ≤ 2097152 := by cases h; assumption
theorem Bd.z0 {n : SN} (h : Bd n) : ∀ x ∈ n.f0, x.size ≤ 1048576 := by cases h; assumption
theorem Bd.l1 {n : SN} (h : Bd n) : n.f1.length ≤ 2097152 := by cases h; assumption
theorem Bd.l2 {n : SN} (h : Bd n) : n.f2.length ≤ 2097152 := by cases h; assumption
theorem Bd.z2 {n : SN} (h : Bd n) : ∀ x ∈ n.f2, x.f0.size ≤ 1048576 := by cases h; assumption
theorem Bd.kid {n : SN} (h : Bd n) : ∀ k ∈ n.f1, Bd k := by cases h; assumption
theorem lt_kid {n k : SN} (h : k ∈ n.f1) : SizeOf.sizeOf k < SizeOf.sizeOf n := by
  cases n with
  | mk a b c =>
    have h2 := List.sizeOf_lt_of_mem h
    simp only [S31.mk.sizeOf_spec] at h2 ⊢
    omega
theorem lt_kidL {n k : LN} (h : k ∈ n.f1) : SizeOf.sizeOf k < SizeOf.sizeOf n := by
  cases n with
  | mk a b c =>
    have h2 := List.sizeOf_lt_of_mem h
    simp only [S26.mk.sizeOf_spec] at h2 ⊢
    omega
theorem eqNodeS_of (a b : List SN) (ha : a.length ≤ 140737488351232) (ih : ∀ k ∈ a, ∀ b : SN, CallOb T Tryz.prog 22 [.ag (T.cells eN k), .ag (T.cells eN b)] (.c (.sc (.bool (same k b))))) : CallOb T Tryz.prog 102 [.c (.sl eN a), .c (.sl eN b)] (.c (.sc (.bool (same a b)))) := by
  refine call_of_vc hT Tryz.func102 (by kernel_rfl) rfl rfl (fun A => ?_)
  conv => whnf
  refine Split.mk (fun c => ?_) (fun c => ?_)
  · conv => whnf
    exact RetQ.mk ⟨rfl, rfl⟩ ⟨rfl, rfl⟩ ⟨bv (same_f (fun e => nn_t c (congrArg List.length e))), trivial⟩
  · have hl : a.length = b.length := nn_f c
    conv => whnf
    refine LoopQ.mk { k : Nat // k ≤ a.length ∧ a.take k = b.take k } (fun p => (0, [(5, i64 p.1), (0, im eN a), (1, im eN b)], [])) (fun p => a.length - p.1) ⟨0, Nat.zero_le _, rfl⟩ (imp_of [] rfl rfl rfl ⟨⟨rfl, rfl⟩, ⟨rfl, rfl⟩, ⟨rfl, rfl⟩, trivial⟩ trivial) ?_
    rintro ⟨k, hk, ht⟩
    conv => whnf
    refine Split.mk (fun c => ?_) (fun c => ?_)
    · have hk2 : k < a.length := ln_t c
      conv => whnf
      refine Need.mk (idx hk2) ?_
      conv => whnf
      refine Need.mk (idx (hl ▸ hk2)) ?_
      conv => whnf
      refine CallQ.mk _ (ih _ (getD_mem hk2) _) ?_
      conv => whnf
      refine DrawQ.mk ⟨by kernel_rfl, by kernel_rfl⟩ ?_
      conv => whnf
      refine Split.mk (fun c => ?_) (fun c => ?_)
      · conv => whnf
        exact RetQ.mk ⟨rfl, rfl⟩ ⟨rfl, rfl⟩ ⟨bv (same_f (fun e => of_same_f (not_t c) (congrArg (fun l => l.getD k (T.df eN)) e))), trivial⟩
      · conv => whnf
        exact NextQ.mk ⟨⟨k + 1, hk2, take_more (d := (T.df eN)) hk2 (hl ▸ hk2) ht (of_same (not_f c))⟩, Nat.sub_lt_sub_left hk2 (Nat.lt_succ_self k), imp_of [] rfl rfl rfl ⟨⟨rfl, congrArg i64 (sc_ hk2 ha)⟩, ⟨rfl, rfl⟩, ⟨rfl, rfl⟩, trivial⟩ trivial⟩
    · have hk2 : k = a.length := Nat.le_antisymm hk (ln_f c)
      conv => whnf
      subst hk2
      exact RetQ.mk ⟨rfl, rfl⟩ ⟨rfl, rfl⟩ ⟨bv (same_t (take_all hl ht)), trivial⟩
theorem eqNode_of_eq {a b : SN} (h0 : a.f0 = b.f0) (h1 : a.f1 = b.f1) (h2 : a.f2 = b.f2) : a = b := by cases a; cases b; simp_all
theorem eqNode_of (a b : SN) (ha : Bd a) (ih : ∀ b : List SN, CallOb T Tryz.prog 102 [.c (.sl eN a.f1), .c (.sl eN b)] (.c (.sc (.bool (same a.f1 b))))) : CallOb T Tryz.prog 22 [.ag (T.cells eN a), .ag (T.cells eN b)] (.c (.sc (.bool (same a b)))) := by
  refine call_of_vc hT Tryz.func22 (by kernel_rfl) rfl rfl (fun A => ?_)
  conv => whnf
  refine CallQ.mk _ (eqStringS a.f0 b.f0 (Nat.le_trans ha.l0 (by decide))) ?_
  conv => whnf
  refine Split.mk (fun c => ?_) (fun c => ?_)
  · conv => whnf
    exact RetQ.mk ⟨rfl, rfl⟩ ⟨rfl, rfl⟩ ⟨bv (same_f (fun e => of_same_f (not_t c) (congrArg (fun z : SN => z.f0) e))), trivial⟩
  have c0 : a.f0 = b.f0 := of_same (not_f c)
  clear c
  conv => whnf
  refine CallQ.mk _ (ih b.f1) ?_
  conv => whnf
  refine Split.mk (fun c => ?_) (fun c => ?_)
  · conv => whnf
    exact RetQ.mk ⟨rfl, rfl⟩ ⟨rfl, rfl⟩ ⟨bv (same_f (fun e => of_same_f (not_t c) (congrArg (fun z : SN => z.f1) e))), trivial⟩
  have c1 : a.f1 = b.f1 := of_same (not_f c)
  clear c
  conv => whnf
  refine CallQ.mk _ (eqSubS a.f2 b.f2 (Nat.le_trans ha.l2 (by decide))) ?_
  conv => whnf
  refine Split.mk (fun c => ?_) (fun c => ?_)
  · conv => whnf
    exact RetQ.mk ⟨rfl, rfl⟩ ⟨rfl, rfl⟩ ⟨bv (same_f (fun e => of_same_f (not_t c) (congrArg (fun z : SN => z.f2) e))), trivial⟩
  have c2 : a.f2 = b.f2 := of_same (not_f c)
  clear c
  conv => whnf
  exact RetQ.mk ⟨rfl, rfl⟩ ⟨rfl, rfl⟩ ⟨bv (same_t (eqNode_of_eq c0 c1 c2)), trivial⟩
theorem eqNode : ∀ (a : SN), Bd a → ∀ b : SN, CallOb T Tryz.prog 22 [.ag (T.cells eN a), .ag (T.cells eN b)] (.c (.sc (.bool (same a b)))) := fun a ha b =>
  eqNode_of a b ha (fun c => eqNodeS_of a.f1 c (Nat.le_trans ha.l1 (by decide)) (fun k hk => eqNode k (ha.kid k hk)))
termination_by a => SizeOf.sizeOf a
decreasing_by exact lt_kid hk
theorem toStringS (a : List ByteArray) (ha : a.length ≤ 1048576) : CallOb T Tryz.prog 45 [.c (.sl 9 a)] (.c (.ow 9 a)) := by
  refine call_of_vc hT Tryz.func45 (by kernel_rfl) rfl rfl (fun A => ?_)
  conv => whnf
  refine Need.mk (mk_ (by decide) ha) ?_
  conv => whnf
  refine LoopQ.mk { k : Nat // k ≤ a.length } (fun p => (2, [(4, i64 p.1), (3, .c (.hd 0)), (0, im 9 a)], [(0, .row 1 9 (fill (fun x => x) (⟨#[]⟩ : ByteArray) a p.1))])) (fun p => a.length - p.1) ⟨0, Nat.zero_le _⟩ (imp_of [(0, 0)] rfl rfl rfl ⟨⟨rfl, rfl⟩, ⟨rfl, rfl⟩, ⟨rfl, rfl⟩, trivial⟩ ⟨sr_ fill_zero.symm, trivial⟩) ?_
  rintro ⟨k, hk⟩
  conv => whnf
  refine Split.mk (fun c => ?_) (fun c => ?_)
  · have hk2 : k < a.length := ln_t c
    conv => whnf
    refine Need.mk (idx hk2) ?_
    conv => whnf
    refine Need.mk (idx (Nat.lt_of_lt_of_eq hk2 (fill_len hk).symm)) ?_
    conv => whnf
    exact NextQ.mk ⟨⟨k + 1, hk2⟩, Nat.sub_lt_sub_left hk2 (Nat.lt_succ_self k), imp_of [(0, 0)] rfl rfl rfl ⟨⟨rfl, congrArg i64 (sc_ hk2 (Nat.le_trans ha (by decide)))⟩, ⟨rfl, rfl⟩, ⟨rfl, rfl⟩, trivial⟩ ⟨sr_ (fill_set hk2), trivial⟩⟩
  · have hk2 : k = a.length := Nat.le_antisymm hk (ln_f c)
    conv => whnf
    subst hk2
    exact RetQ.mk ⟨rfl, rfl⟩ ⟨rfl, rfl⟩ ⟨sr_ (fill_all.trans mp_id), trivial⟩
def tS (x : LS) : SS := ⟨x.f0, x.f1, x.f2⟩
theorem toSub (a : LS) : CallOb T Tryz.prog 29 [.ag (T.cells eSL a)] (.ag [.sc (.string a.f0), .sc (.int .i64 a.f1), .sc (.int .i64 a.f2)]) := by
  refine call_of_vc hT Tryz.func29 (by kernel_rfl) rfl rfl (fun A => ?_)
  conv => whnf
  exact RetQ.mk ⟨rfl, rfl⟩ ⟨rfl, rfl⟩ ⟨rfl, rfl, rfl, trivial⟩
theorem toSubS (a : List LS) (ha : a.length ≤ 1048576) : CallOb T Tryz.prog 98 [.c (.sl eSL a)] (.c (.ow eS (a.map tS))) := by
  refine call_of_vc hT Tryz.func98 (by kernel_rfl) rfl rfl (fun A => ?_)
  conv => whnf
  refine Need.mk (mk_ (by decide) ha) ?_
  conv => whnf
  refine LoopQ.mk { k : Nat // k ≤ a.length } (fun p => (2, [(4, i64 p.1), (3, .c (.hd 0)), (0, im eSL a)], [(0, .row 1 eS (fill (tS) z44 a p.1))])) (fun p => a.length - p.1) ⟨0, Nat.zero_le _⟩ (imp_of [(0, 0)] rfl rfl rfl ⟨⟨rfl, rfl⟩, ⟨rfl, rfl⟩, ⟨rfl, rfl⟩, trivial⟩ ⟨sr_ fill_zero.symm, trivial⟩) ?_
  rintro ⟨k, hk⟩
  conv => whnf
  refine Split.mk (fun c => ?_) (fun c => ?_)
  · have hk2 : k < a.length := ln_t c
    conv => whnf
    refine Need.mk (idx hk2) ?_
    conv => whnf
    refine CallQ.mk _ (toSub _) ?_
    conv => whnf
    refine Need.mk (idx (Nat.lt_of_lt_of_eq hk2 (fill_len hk).symm)) ?_
    conv => whnf
    exact NextQ.mk ⟨⟨k + 1, hk2⟩, Nat.sub_lt_sub_left hk2 (Nat.lt_succ_self k), imp_of [(0, 0)] rfl rfl rfl ⟨⟨rfl, congrArg i64 (sc_ hk2 (Nat.le_trans ha (by decide)))⟩, ⟨rfl, rfl⟩, ⟨rfl, rfl⟩, trivial⟩ ⟨sr_ (fill_set hk2), trivial⟩⟩
  · have hk2 : k = a.length := Nat.le_antisymm hk (ln_f c)
    conv => whnf
    subst hk2
    exact RetQ.mk ⟨rfl, rfl⟩ ⟨rfl, rfl⟩ ⟨sr_ (fill_all), trivial⟩
mutual
def tN : LN → SN
  | ⟨a, b, c⟩ => ⟨a, tNL b, c.map tS⟩
def tNL : List LN → List SN
  | [] => []
  | x :: r => tN x :: tNL r
end
theorem tNL_map : ∀ l : List LN, tNL l = l.map tN
  | [] => rfl
  | x :: r => by rw [tNL, tNL_map r, List.map_cons]
theorem etaN (n : SN) : (⟨n.f0, n.f1, n.f2⟩ : SN) = n := by cases n; rfl
theorem tN_eq (n : LN) : tN n = ⟨n.f0, n.f1.map tN, n.f2.map tS⟩ := by cases n; rw [tN, tNL_map]
theorem toNodeS_of (a : List LN) (ha : a.length ≤ 1048576) (ih : ∀ k ∈ a, CallOb T Tryz.prog 20 [.ag (T.cells eNL k)] (.ag [.ow 9 (tN k).f0, .ow eN (tN k).f1, .ow eS (tN k).f2])) : CallOb T Tryz.prog 97 [.c (.sl eNL a)] (.c (.ow eN (a.map tN))) := by
  refine call_of_vc hT Tryz.func97 (by kernel_rfl) rfl rfl (fun A => ?_)
  conv => whnf
  refine Need.mk (mk_ (by decide) ha) ?_
  conv => whnf
  refine LoopQ.mk { k : Nat // k ≤ a.length } (fun p => (2, [(4, i64 p.1), (3, .c (.hd 0)), (0, im eNL a)], [(0, .row 1 eN (fill (tN) z31 a p.1))])) (fun p => a.length - p.1) ⟨0, Nat.zero_le _⟩ (imp_of [(0, 0)] rfl rfl rfl ⟨⟨rfl, rfl⟩, ⟨rfl, rfl⟩, ⟨rfl, rfl⟩, trivial⟩ ⟨sr_ fill_zero.symm, trivial⟩) ?_
  rintro ⟨k, hk⟩
  conv => whnf
  refine Split.mk (fun c => ?_) (fun c => ?_)
  · have hk2 : k < a.length := ln_t c
    conv => whnf
    refine Need.mk (idx hk2) ?_
    conv => whnf
    refine CallQ.mk _ (ih _ (getD_mem hk2)) ?_
    conv => whnf
    refine Need.mk (idx (Nat.lt_of_lt_of_eq hk2 (fill_len hk).symm)) ?_
    conv => whnf
    exact NextQ.mk ⟨⟨k + 1, hk2⟩, Nat.sub_lt_sub_left hk2 (Nat.lt_succ_self k), imp_of [(0, 0)] rfl rfl rfl ⟨⟨rfl, congrArg i64 (sc_ hk2 (Nat.le_trans ha (by decide)))⟩, ⟨rfl, rfl⟩, ⟨rfl, rfl⟩, trivial⟩ ⟨sr_ ((congrArg (List.set _ _) (etaN _)).trans (fill_set hk2)), trivial⟩⟩
  · have hk2 : k = a.length := Nat.le_antisymm hk (ln_f c)
    conv => whnf
    subst hk2
    exact RetQ.mk ⟨rfl, rfl⟩ ⟨rfl, rfl⟩ ⟨sr_ (fill_all), trivial⟩
theorem toNode_of (a : LN) (h0 : a.f0.length ≤ 1048576) (h2 : a.f2.length ≤ 1048576) (ih : CallOb T Tryz.prog 97 [.c (.sl eNL a.f1)] (.c (.ow eN (a.f1.map tN)))) : CallOb T Tryz.prog 20 [.ag (T.cells eNL a)] (.ag [.ow 9 a.f0, .ow eN (a.f1.map tN), .ow eS (a.f2.map tS)]) := by
  refine call_of_vc hT Tryz.func20 (by kernel_rfl) rfl rfl (fun A => ?_)
  conv => whnf
  refine CallQ.mk _ (toStringS a.f0 h0) ?_
  conv => whnf
  refine CallQ.mk _ (ih) ?_
  conv => whnf
  refine CallQ.mk _ (toSubS a.f2 h2) ?_
  conv => whnf
  exact RetQ.mk ⟨rfl, rfl⟩ ⟨rfl, rfl⟩ ⟨rfl, rfl, rfl, trivial⟩
/-- A row's tree that may be copied. -/
inductive BdL : LN → Prop
  | mk (n : LN) (h0 : n.f0.length ≤ 1048576) (h1 : n.f1.length ≤ 1048576) (h2 : n.f2.length ≤ 1048576) (hk : ∀ k ∈ n.f1, BdL k) : BdL n
theorem toNode : ∀ (a : LN), BdL a → CallOb T Tryz.prog 20 [.ag (T.cells eNL a)] (.ag [.ow 9 (tN a).f0, .ow eN (tN a).f1, .ow eS (tN a).f2]) := fun a ha => by
  rw [tN_eq]
  exact toNode_of a (by cases ha; assumption) (by cases ha; assumption) (toNodeS_of a.f1 (by cases ha; assumption) (fun k hk => toNode k (by cases ha with | mk _ _ _ _ h => exact h k hk)))
termination_by a => SizeOf.sizeOf a
decreasing_by exact lt_kidL hk
end Go.Proofs.YtcnfgfomholheaaGreatDoor.Q
end
section
/- Sizes that are told as they are used up. Printed by a program of this work (gen_tree1.py). -/
namespace Go.Proofs.YtcnfgfomholheaaGreatDoor.Q
open Go.RowKit Go.Proofs.YtcnfgfomholheaaGreatDoor.Z
set_option linter.unusedVariables false
set_option linter.unusedSimpArgs false
set_option maxRecDepth 100000
set_option maxHeartbeats 4000000
def szH {α : Type} (F : α → Int → Int) : List α → Int → Int
  | [], x => x
  | a :: l, x => thenS (F a x) (szH F l)
theorem szH_step {α : Type} {F : α → Int → Int} {d : α} {l : List α} {k : Nat} {x : Int} (h : k < l.length) : szH F (l.drop k) x = thenS (F (l.getD k d) x) (szH F (l.drop (k + 1))) := by
  rw [List.drop_eq_getElem_cons h]
  have : l.getD k d = l[k] := by simp [h]
  rw [this]; rfl
theorem szH_end {α : Type} {F : α → Int → Int} {l : List α} {x : Int} : szH F (l.drop l.length) x = x := by rw [List.drop_length]; rfl
theorem szH_le {α : Type} {F : α → Int → Int} : ∀ {l : List α} {x : Int}, (∀ a ∈ l, ∀ x, 0 ≤ x → F a x ≤ x) → 0 ≤ x → szH F l x ≤ x
  | [], x, _, _ => Int.le_refl _
  | a :: l, x, hF, h => by
    show thenS _ _ ≤ x
    unfold thenS
    split
    · omega
    · have h2 := hF a List.mem_cons_self x h
      have := szH_le (F := F) (l := l) (x := F a x) (fun b hb => hF b (List.mem_cons_of_mem _ hb)) (by omega)
      omega
theorem tS_le {r x : Int} {K : Int → Int} (h0 : 0 ≤ x) (h1 : r ≤ x) (h2 : 0 ≤ r → K r ≤ r) : thenS r K ≤ x := by
  unfold thenS; split
  · omega
  · have := h2 (by omega); omega
theorem szL_lt1 {n : Nat} {x : Int} (h0 : 0 ≤ x) (h1 : x ≤ 1048576) (hn : n ≤ 140737488351232) (c : decide (wrap64 (x - (n : Int)) < 0) = true) : szL n x = -1 := szL_lt h0 (by omega) hn c
theorem szL_ge1 {n : Nat} {x : Int} (h0 : 0 ≤ x) (h1 : x ≤ 1048576) (hn : n ≤ 140737488351232) (c : decide (wrap64 (x - (n : Int)) < 0) = false) : szL n x = wrap64 (x - (n : Int)) := (szL_ge h0 (by omega) hn c).1
theorem szSub (a : LS) (x : Int) (h0 : 0 ≤ x) (h1 : x ≤ 1048576) (hl : a.f0.size ≤ 140737488351232) : CallOb T Tryz.prog 27 [.ag (T.cells eSL a), .c (.sc (.int .i64 x))] (.c (.sc (.int .i64 (szL a.f0.size x)))) := by
  refine call_of_vc hT Tryz.func27 (by kernel_rfl) rfl rfl (fun A => ?_)
  conv => whnf
  refine Split.mk (fun c => ?_) (fun c => ?_)
  · conv => whnf
    exact RetQ.mk ⟨rfl, rfl⟩ ⟨rfl, rfl⟩ ⟨iv (szL_lt1 h0 h1 hl c), trivial⟩
  · conv => whnf
    exact RetQ.mk ⟨rfl, rfl⟩ ⟨rfl, rfl⟩ ⟨iv (szL_ge1 h0 h1 hl c), trivial⟩
theorem szStringS (l : List ByteArray) (x : Int) (h0 : 0 ≤ x) (h1 : x ≤ 1048576) (hl : l.length ≤ 140737488351232) (hs : ∀ y ∈ l, (y : ByteArray).size ≤ 140737488351232) : CallOb T Tryz.prog 43 [.c (.sl 9 l), .c (.sc (.int .i64 x))] (.c (.sc (.int .i64 (thenS (szL l.length x) (szH (fun y : ByteArray => szL y.size) l))))) := by
  have h2 : x ≤ 4611686018427387904 := by omega
  refine call_of_vc hT Tryz.func43 (by kernel_rfl) rfl rfl (fun A => ?_)
  conv => whnf
  refine Split.mk (fun c => ?_) (fun c => ?_)
  · conv => whnf
    exact RetQ.mk ⟨rfl, rfl⟩ ⟨rfl, rfl⟩ ⟨iv (tL_lt h0 h2 hl c), trivial⟩
  · obtain ⟨e1, e2, e3⟩ := tL_ge (K := szH (fun y : ByteArray => szL y.size) l) h0 h2 hl c
    rw [e1]
    generalize hR : szH (fun y : ByteArray => szL y.size) l (wrap64 (x - (l.length : Int))) = R
    conv => whnf
    refine LoopQ.mk { p : Nat × Int // p.1 ≤ l.length ∧ 0 ≤ p.2 ∧ p.2 ≤ x ∧ szH (fun y : ByteArray => szL y.size) (l.drop p.1) p.2 = R } (fun p => (0, [(5, i64 p.1.1), (1, i64 p.1.2), (0, im 9 l)], [])) (fun p => l.length - p.1.1) ⟨(0, _), Nat.zero_le _, e2, e3, hR⟩ (imp_of [] rfl rfl rfl ⟨⟨rfl, rfl⟩, ⟨rfl, rfl⟩, ⟨rfl, rfl⟩, trivial⟩ trivial) ?_
    rintro ⟨⟨k, y⟩, hk, p0, p1, hR⟩
    have p2 : y ≤ 4611686018427387904 := Int.le_trans p1 h2
    have p3 : y ≤ 1048576 := Int.le_trans p1 h1
    conv => whnf
    refine Split.mk (fun c => ?_) (fun c => ?_)
    · have hk2 : k < l.length := ln_t c
      conv => whnf
      refine Need.mk (idx hk2) ?_
      conv => whnf
      refine Split.mk (fun c => ?_) (fun c => ?_)
      · conv => whnf
        exact RetQ.mk ⟨rfl, rfl⟩ ⟨rfl, rfl⟩ ⟨iv ((hR.symm.trans (szH_step (F := fun y : ByteArray => szL y.size) (d := (T.df 9)) hk2)).trans (tL_lt p0 p2 (hs _ (getD_mem hk2)) c)), trivial⟩
      · obtain ⟨g1, g2, g3⟩ := tL_ge (K := szH (fun y : ByteArray => szL y.size) (l.drop (k + 1))) p0 p2 (hs _ (getD_mem hk2)) c
        conv => whnf
        exact NextQ.mk ⟨⟨(k + 1, _), hk2, g2, Int.le_trans g3 p1, (g1.symm.trans (szH_step (F := fun y : ByteArray => szL y.size) (d := (T.df 9)) hk2).symm).trans hR⟩, Nat.sub_lt_sub_left hk2 (Nat.lt_succ_self k), imp_of [] rfl rfl rfl ⟨⟨rfl, congrArg i64 (sc_ hk2 hl)⟩, ⟨rfl, rfl⟩, ⟨rfl, rfl⟩, trivial⟩ trivial⟩
    · have hk2 : k = l.length := Nat.le_antisymm hk (ln_f c)
      conv => whnf
      subst hk2
      exact RetQ.mk ⟨rfl, rfl⟩ ⟨rfl, rfl⟩ ⟨iv (hR.symm.trans szH_end), trivial⟩
theorem szSubS (l : List LS) (x : Int) (h0 : 0 ≤ x) (h1 : x ≤ 1048576) (hl : l.length ≤ 140737488351232) (hs : ∀ y ∈ l, (y : LS).f0.size ≤ 140737488351232) : CallOb T Tryz.prog 94 [.c (.sl eSL l), .c (.sc (.int .i64 x))] (.c (.sc (.int .i64 (thenS (szL l.length x) (szH (fun y : LS => szL y.f0.size) l))))) := by
  have h2 : x ≤ 4611686018427387904 := by omega
  refine call_of_vc hT Tryz.func94 (by kernel_rfl) rfl rfl (fun A => ?_)
  conv => whnf
  refine Split.mk (fun c => ?_) (fun c => ?_)
  · conv => whnf
    exact RetQ.mk ⟨rfl, rfl⟩ ⟨rfl, rfl⟩ ⟨iv (tL_lt h0 h2 hl c), trivial⟩
  · obtain ⟨e1, e2, e3⟩ := tL_ge (K := szH (fun y : LS => szL y.f0.size) l) h0 h2 hl c
    rw [e1]
    generalize hR : szH (fun y : LS => szL y.f0.size) l (wrap64 (x - (l.length : Int))) = R
    conv => whnf
    refine LoopQ.mk { p : Nat × Int // p.1 ≤ l.length ∧ 0 ≤ p.2 ∧ p.2 ≤ x ∧ szH (fun y : LS => szL y.f0.size) (l.drop p.1) p.2 = R } (fun p => (0, [(5, i64 p.1.1), (1, i64 p.1.2), (0, im eSL l)], [])) (fun p => l.length - p.1.1) ⟨(0, _), Nat.zero_le _, e2, e3, hR⟩ (imp_of [] rfl rfl rfl ⟨⟨rfl, rfl⟩, ⟨rfl, rfl⟩, ⟨rfl, rfl⟩, trivial⟩ trivial) ?_
    rintro ⟨⟨k, y⟩, hk, p0, p1, hR⟩
    have p2 : y ≤ 4611686018427387904 := Int.le_trans p1 h2
    have p3 : y ≤ 1048576 := Int.le_trans p1 h1
    conv => whnf
    refine Split.mk (fun c => ?_) (fun c => ?_)
    · have hk2 : k < l.length := ln_t c
      conv => whnf
      refine Need.mk (idx hk2) ?_
      conv => whnf
      refine CallQ.mk _ (szSub (l.getD k (T.df eSL)) y p0 p3 (hs _ (getD_mem hk2))) ?_
      conv => whnf
      refine Split.mk (fun c => ?_) (fun c => ?_)
      · conv => whnf
        exact RetQ.mk ⟨rfl, rfl⟩ ⟨rfl, rfl⟩ ⟨iv ((hR.symm.trans (szH_step (F := fun y : LS => szL y.f0.size) (d := (T.df eSL)) hk2)).trans (tS_lt c)), trivial⟩
      · obtain ⟨g1, g2⟩ := tS_ge (K := szH (fun y : LS => szL y.f0.size) (l.drop (k + 1))) c
        conv => whnf
        exact NextQ.mk ⟨⟨(k + 1, (fun y : LS => szL y.f0.size) (l.getD k (T.df eSL)) y), hk2, g2, Int.le_trans (szL_le p0) p1, (g1.symm.trans (szH_step (F := fun y : LS => szL y.f0.size) (d := (T.df eSL)) hk2).symm).trans hR⟩, Nat.sub_lt_sub_left hk2 (Nat.lt_succ_self k), imp_of [] rfl rfl rfl ⟨⟨rfl, congrArg i64 (sc_ hk2 hl)⟩, ⟨rfl, rfl⟩, ⟨rfl, rfl⟩, trivial⟩ trivial⟩
    · have hk2 : k = l.length := Nat.le_antisymm hk (ln_f c)
      conv => whnf
      subst hk2
      exact RetQ.mk ⟨rfl, rfl⟩ ⟨rfl, rfl⟩ ⟨iv (hR.symm.trans szH_end), trivial⟩
theorem szNodeS_of (l : List LN) (x : Int) (h0 : 0 ≤ x) (h1 : x ≤ 1048576) (hl : l.length ≤ 140737488351232) (F : LN → Int → Int) (ih : ∀ a ∈ l, ∀ x, 0 ≤ x → x ≤ 1048576 → CallOb T Tryz.prog 18 [.ag (T.cells eNL a), .c (.sc (.int .i64 x))] (.c (.sc (.int .i64 (F a x)))) ∧ F a x ≤ x) : CallOb T Tryz.prog 93 [.c (.sl eNL l), .c (.sc (.int .i64 x))] (.c (.sc (.int .i64 (thenS (szL l.length x) (szH (F) l))))) := by
  have h2 : x ≤ 4611686018427387904 := by omega
  refine call_of_vc hT Tryz.func93 (by kernel_rfl) rfl rfl (fun A => ?_)
  conv => whnf
  refine Split.mk (fun c => ?_) (fun c => ?_)
  · conv => whnf
    exact RetQ.mk ⟨rfl, rfl⟩ ⟨rfl, rfl⟩ ⟨iv (tL_lt h0 h2 hl c), trivial⟩
  · obtain ⟨e1, e2, e3⟩ := tL_ge (K := szH (F) l) h0 h2 hl c
    rw [e1]
    generalize hR : szH (F) l (wrap64 (x - (l.length : Int))) = R
    conv => whnf
    refine LoopQ.mk { p : Nat × Int // p.1 ≤ l.length ∧ 0 ≤ p.2 ∧ p.2 ≤ x ∧ szH (F) (l.drop p.1) p.2 = R } (fun p => (0, [(5, i64 p.1.1), (1, i64 p.1.2), (0, im eNL l)], [])) (fun p => l.length - p.1.1) ⟨(0, _), Nat.zero_le _, e2, e3, hR⟩ (imp_of [] rfl rfl rfl ⟨⟨rfl, rfl⟩, ⟨rfl, rfl⟩, ⟨rfl, rfl⟩, trivial⟩ trivial) ?_
    rintro ⟨⟨k, y⟩, hk, p0, p1, hR⟩
    have p2 : y ≤ 4611686018427387904 := Int.le_trans p1 h2
    have p3 : y ≤ 1048576 := Int.le_trans p1 h1
    conv => whnf
    refine Split.mk (fun c => ?_) (fun c => ?_)
    · have hk2 : k < l.length := ln_t c
      conv => whnf
      refine Need.mk (idx hk2) ?_
      conv => whnf
      refine CallQ.mk _ ((ih (l.getD k (T.df eNL)) (getD_mem hk2) y p0 p3).1) ?_
      conv => whnf
      refine Split.mk (fun c => ?_) (fun c => ?_)
      · conv => whnf
        exact RetQ.mk ⟨rfl, rfl⟩ ⟨rfl, rfl⟩ ⟨iv ((hR.symm.trans (szH_step (F := F) (d := (T.df eNL)) hk2)).trans (tS_lt c)), trivial⟩
      · obtain ⟨g1, g2⟩ := tS_ge (K := szH (F) (l.drop (k + 1))) c
        conv => whnf
        exact NextQ.mk ⟨⟨(k + 1, (F) (l.getD k (T.df eNL)) y), hk2, g2, Int.le_trans ((ih (l.getD k (T.df eNL)) (getD_mem hk2) y p0 p3).2) p1, (g1.symm.trans (szH_step (F := F) (d := (T.df eNL)) hk2).symm).trans hR⟩, Nat.sub_lt_sub_left hk2 (Nat.lt_succ_self k), imp_of [] rfl rfl rfl ⟨⟨rfl, congrArg i64 (sc_ hk2 hl)⟩, ⟨rfl, rfl⟩, ⟨rfl, rfl⟩, trivial⟩ trivial⟩
    · have hk2 : k = l.length := Nat.le_antisymm hk (ln_f c)
      conv => whnf
      subst hk2
      exact RetQ.mk ⟨rfl, rfl⟩ ⟨rfl, rfl⟩ ⟨iv (hR.symm.trans szH_end), trivial⟩
theorem szH_neg {α : Type} {F : α → Int → Int} (hF : ∀ a x, 0 ≤ x → F a x < 0 → F a x = -1) : ∀ {l : List α} {x : Int}, 0 ≤ x → szH F l x < 0 → szH F l x = -1
  | [], x, h, h2 => by have : x < 0 := h2; omega
  | a :: l, x, h, h2 => by
    show thenS _ _ = -1
    replace h2 : thenS (F a x) (szH F l) < 0 := h2
    by_cases hr : F a x < 0
    · unfold thenS; rw [if_pos hr]
    · unfold thenS at *; rw [if_neg hr] at *; exact szH_neg hF (by omega) h2
theorem szL_neg {n : Nat} {x : Int} (h : szL n x < 0) : szL n x = -1 := by unfold szL at *; split <;> simp_all
theorem neg2 {l : List LS} {x : Int} (c : decide (thenS (szL l.length x) (szH (fun y : LS => szL y.f0.size) l) < 0) = true) : thenS (szL l.length x) (szH (fun y : LS => szL y.f0.size) l) = -1 := by
  have h := li_t c
  by_cases hr : szL l.length x < 0
  · unfold thenS; rw [if_pos hr]
  · unfold thenS at *; rw [if_neg hr] at *; exact szH_neg (fun a x _ h => szL_neg h) (by omega) h
abbrev sz0 (l : List ByteArray) (x : Int) : Int := thenS (szL l.length x) (szH (fun y : ByteArray => szL y.size) l)
abbrev sz2 (l : List LS) (x : Int) : Int := thenS (szL l.length x) (szH (fun y : LS => szL y.f0.size) l)
theorem sz0_le {l : List ByteArray} {x : Int} (h : 0 ≤ x) : sz0 l x ≤ x := tS_le h (szL_le h) (fun h => szH_le (fun a _ x hx => szL_le hx) h)
theorem sz2_le {l : List LS} {x : Int} (h : 0 ≤ x) : sz2 l x ≤ x := tS_le h (szL_le h) (fun h => szH_le (fun a _ x hx => szL_le hx) h)
mutual
def szN : LN → Int → Int
  | ⟨a, b, c⟩, x => thenS (sz0 a x) fun x => thenS (thenS (szL b.length x) (szNL b)) fun x => sz2 c x
def szNL : List LN → Int → Int
  | [], x => x
  | a :: l, x => thenS (szN a x) (szNL l)
end
theorem szNL_eq : ∀ l : List LN, szNL l = szH szN l
  | [] => by funext x; rw [szNL]; rfl
  | a :: l => by funext x; rw [szNL, szNL_eq l]; rfl
theorem szN_eq (n : LN) (x : Int) : szN n x = thenS (sz0 n.f0 x) fun x => thenS (thenS (szL n.f1.length x) (szH szN n.f1)) fun x => sz2 n.f2 x := by cases n; rw [szN, szNL_eq]
/-- What a row's tree fits. -/
inductive FitN : LN → Prop
  | mk (n : LN) (h0 : n.f0.length ≤ 140737488351232) (z0 : ∀ y ∈ n.f0, (y : ByteArray).size ≤ 140737488351232) (h1 : n.f1.length ≤ 140737488351232) (h2 : n.f2.length ≤ 140737488351232) (z2 : ∀ y ∈ n.f2, (y : LS).f0.size ≤ 140737488351232) (hk : ∀ k ∈ n.f1, FitN k) : FitN n
theorem FitN.kid {n : LN} (h : FitN n) : ∀ k ∈ n.f1, FitN k := by cases h; assumption
theorem szN_le : ∀ (n : LN) {x : Int}, 0 ≤ x → szN n x ≤ x := fun n x h => by
  rw [szN_eq]
  exact tS_le h (sz0_le h) (fun h => tS_le h (tS_le h (szL_le h) (fun h => szH_le (fun a ha x hx => szN_le a hx) h)) (fun h => sz2_le h))
termination_by n => SizeOf.sizeOf n
decreasing_by exact lt_kidL ha
theorem szNode_of (a : LN) (ha : FitN a) (x : Int) (h0 : 0 ≤ x) (h1 : x ≤ 1048576) (ih : ∀ x, 0 ≤ x → x ≤ 1048576 → CallOb T Tryz.prog 93 [.c (.sl eNL a.f1), .c (.sc (.int .i64 x))] (.c (.sc (.int .i64 (thenS (szL a.f1.length x) (szH szN a.f1)))))) : CallOb T Tryz.prog 18 [.ag (T.cells eNL a), .c (.sc (.int .i64 x))] (.c (.sc (.int .i64 (szN a x)))) := by
  obtain ⟨_, l0, z0, l1, l2, z2, _⟩ := ha
  rw [szN_eq]
  refine call_of_vc hT Tryz.func18 (by kernel_rfl) rfl rfl (fun A => ?_)
  conv => whnf
  refine CallQ.mk _ (szStringS a.f0 x h0 h1 l0 z0) ?_
  conv => whnf
  refine Split.mk (fun c => ?_) (fun c => ?_)
  · conv => whnf
    exact RetQ.mk ⟨rfl, rfl⟩ ⟨rfl, rfl⟩ ⟨iv (tS_lt c), trivial⟩
  obtain ⟨g1, g2⟩ := tS_ge (K := fun x => thenS (thenS (szL a.f1.length x) (szH szN a.f1)) fun x => sz2 a.f2 x) c
  have g3 : sz0 a.f0 x ≤ 1048576 := Int.le_trans (sz0_le h0) h1
  rw [g1]
  clear c g1
  conv => whnf
  refine CallQ.mk _ (ih _ g2 g3) ?_
  conv => whnf
  refine Split.mk (fun c => ?_) (fun c => ?_)
  · conv => whnf
    exact RetQ.mk ⟨rfl, rfl⟩ ⟨rfl, rfl⟩ ⟨iv (tS_lt c), trivial⟩
  obtain ⟨g4, g5⟩ := tS_ge (K := fun x => sz2 a.f2 x) c
  have g6 : thenS (szL a.f1.length (sz0 a.f0 x)) (szH szN a.f1) ≤ 1048576 := Int.le_trans (tS_le g2 (szL_le g2) (fun h => szH_le (fun a _ x hx => szN_le a hx) h)) g3
  rw [g4]
  clear c g4
  conv => whnf
  refine CallQ.mk _ (szSubS a.f2 _ g5 g6 l2 z2) ?_
  conv => whnf
  refine Split.mk (fun c => ?_) (fun c => ?_)
  · conv => whnf
    exact RetQ.mk ⟨rfl, rfl⟩ ⟨rfl, rfl⟩ ⟨iv (neg2 c), trivial⟩
  · conv => whnf
    exact RetQ.mk ⟨rfl, rfl⟩ ⟨rfl, rfl⟩ ⟨rfl, trivial⟩
theorem szNode : ∀ (a : LN), FitN a → ∀ (x : Int) (h0 : 0 ≤ x) (h1 : x ≤ 1048576), CallOb T Tryz.prog 18 [.ag (T.cells eNL a), .c (.sc (.int .i64 x))] (.c (.sc (.int .i64 (szN a x)))) := fun a ha x h0 h1 =>
  szNode_of a ha x h0 h1 (fun y g0 g1 => szNodeS_of a.f1 y g0 g1 (by cases ha; assumption) szN (fun k hk z z0 z1 => ⟨szNode k (ha.kid k hk) z z0 z1, szN_le k z0⟩))
termination_by a => SizeOf.sizeOf a
decreasing_by exact lt_kidL hk
end Go.Proofs.YtcnfgfomholheaaGreatDoor.Q
end
section
/- Marks: what is written into rows that are handed over. Out of ZQ6. Printed by a program of this work (gen_tree2.py). -/
namespace Go.Proofs.YtcnfgfomholheaaGreatDoor.Q
open Go.RowKit Go.Proofs.YtcnfgfomholheaaGreatDoor.Z
set_option linter.unusedVariables false
set_option linter.unusedSimpArgs false
set_option maxRecDepth 100000
set_option maxHeartbeats 4000000
/-- The digits of a number, before what is there. -/
def dig (k : Nat) (out : ByteArray) : ByteArray := if h : k = 0 then out else dig (k / 10) (strOfNums [IntKind.u8.wrap (wrap64 (48 + ((k % 10 : Nat) : Int)))] ++ out)
termination_by k
decreasing_by omega
def markT (k : Nat) : ByteArray := (⟨#[109]⟩ : ByteArray) ++ dig k (⟨#[]⟩ : ByteArray)
theorem str1_size (n : Int) : (strOfNums [n]).size = 1 := rfl
theorem ba_app_size (a b : ByteArray) : (a ++ b).size = a.size + b.size := ByteArray.size_append
theorem tmod_ (k : Nat) : ((k : Int).tmod 10) = ((k % 10 : Nat) : Int) := by rw [Int.tmod_eq_emod_of_nonneg (by omega)]; omega
theorem tdiv_ {k : Nat} (h : k ≤ 4611686018427387904) : IntKind.i64.wrap ((k : Int).tdiv 10) = ((k / 10 : Nat) : Int) := by
  rw [Int.tdiv_eq_ediv_of_nonneg (by omega), wrap_i64]
  simp only [wrap64]; omega
theorem num5 (x : Int) : strOfNums (List.map (numOf T 5) [x]) = strOfNums [x] := rfl
theorem digStr (n : Nat) : strOfNums (List.map (numOf T 5) [IntKind.u8.wrap (wrap64 (48 + (n : Int).tmod 10))]) = strOfNums [IntKind.u8.wrap (wrap64 (48 + ((n % 10 : Nat) : Int)))] := by rw [tmod_, num5]
theorem dig0 (out : ByteArray) : dig 0 out = out := by unfold dig; rfl
theorem tx {x y : ByteArray} (h : y = x) : Value.string x = Value.string y := by rw [h]
abbrev tx_ (s : ByteArray) : Slot T := .c (.sc (.string s))
theorem markText (k : Nat) (h0 : 0 < k) (h1 : k ≤ 4611686018427387904) : CallOb T Tryz.prog 118 [.c (.sc (.int .i64 (k : Int)))] (.c (.sc (.string (markT k)))) := by
  refine call_of_vc hT Tryz.func118 (by kernel_rfl) rfl rfl (fun A => ?_)
  conv => whnf
  refine Split.mk (fun c => ?_) (fun c => ?_)
  · exact absurd c (by simp; omega)
  clear c
  conv => whnf
  refine LoopQ.mk { p : Nat × ByteArray // p.1 ≤ k ∧ p.2.size + p.1 ≤ k ∧ dig p.1 p.2 = dig k (⟨#[]⟩ : ByteArray) } (fun p => (0, [(0, i64 p.1.1), (3, tx_ p.1.2)], [])) (fun p => p.1.1) ⟨(k, ⟨#[]⟩), Nat.le_refl _, by show (0 : Nat) + k ≤ k; omega, rfl⟩ (imp_of [] rfl rfl rfl ⟨⟨rfl, rfl⟩, ⟨rfl, rfl⟩, trivial⟩ trivial) ?_
  rintro ⟨⟨n, out⟩, g1, g2, g3⟩
  dsimp only at g1 g2 g3
  conv => whnf
  refine Split.mk (fun c => ?_) (fun c => ?_)
  · have hn : n ≠ 0 := by simp at c; omega
    clear c
    conv => whnf
    refine Need.mk (fun _ => rfl) ?_
    conv => whnf
    refine Need.mk (show 1 + ByteArray.size out ≤ 9223372036854775807 by omega) ?_
    conv => whnf
    refine NextQ.mk ⟨⟨(n / 10, strOfNums [IntKind.u8.wrap (wrap64 (48 + ((n % 10 : Nat) : Int)))] ++ out), by omega, by rw [ba_app_size, str1_size]; omega, ?_⟩, Nat.div_lt_self (by omega) (by decide), imp_of [] rfl rfl rfl ⟨⟨rfl, congrArg i64 (tdiv_ (by omega)).symm⟩, ⟨rfl, ?_⟩, trivial⟩ trivial⟩
    · rw [← g3]
      conv => rhs; unfold dig
      rw [dif_neg hn]
    · exact congrArg (fun x : ByteArray => tx_ (x ++ out)) (digStr n).symm
  · have hn : n = 0 := by simp at c; omega
    subst hn
    clear c
    have g4 : out = dig k (⟨#[]⟩ : ByteArray) := (dig0 out).symm.trans g3
    conv => whnf
    refine Need.mk (show 1 + ByteArray.size out ≤ 9223372036854775807 by omega) ?_
    conv => whnf
    exact RetQ.mk ⟨rfl, rfl⟩ ⟨rfl, rfl⟩ ⟨tx (congrArg (fun x : ByteArray => (⟨#[109]⟩ : ByteArray) ++ x) g4.symm), trivial⟩
/-! ### rows of marks -/
def mkL {β : Type} (s : Nat) (f : Nat → β) (k n : Nat) : List β := (List.range n).map (fun j => f (k + s * j))
def mkP {β : Type} (s : Nat) (f : Nat → β) (k : Nat) (a : List β) (i : Nat) : List β := mkL s f k i ++ a.drop i
section
variable {β : Type} {s : Nat} {f : Nat → β} {k i n : Nat} {a : List β}
theorem mkL_len : (mkL s f k n).length = n := by simp [mkL]
theorem mkP_len (h : i ≤ a.length) : (mkP s f k a i).length = a.length := by simp [mkP, mkL_len]; omega
theorem mkP_lt (hi : i ≤ a.length) (h : i < a.length) : i < (mkP s f k a i).length := by rw [mkP_len hi]; exact h
theorem mkP_zero : a = mkP s f k a 0 := by simp [mkP, mkL]
theorem mkP_all : mkP s f k a a.length = mkL s f k a.length := by simp [mkP]
theorem mkP_set (h : i < a.length) : (mkP s f k a i).set i (f (k + s * i)) = mkP s f k a (i + 1) := by
  unfold mkP
  rw [List.set_append_right _ _ (by simp [mkL_len]), mkL_len, Nat.sub_self, List.drop_eq_getElem_cons h, List.set_cons_zero]
  simp [mkL, List.range_succ]
theorem mkL_get {d : β} (h : i < n) : (mkL s f k n).getD i d = f (k + s * i) := by simp [mkL, h]
end
theorem kn_ {k n : Nat} (h : k + n ≤ 4611686018427387904) (hn : 0 < n) : ((k + 1 : Nat) : Int) = wrap64 ((k : Int) + 1) := by simp only [wrap64]; omega
theorem in_ {m n : Nat} (h : decide ((m : Int) < (n : Int)) = true) {l : Nat} (hl : n = l) : m < l := hl ▸ ln_t h
theorem inf_ {m n : Nat} (h : decide ((m : Int) < (n : Int)) = false) {l : Nat} (hl : n = l) : l ≤ m := hl ▸ ln_f h
def fB (n : Nat) : Int := IntKind.u8.wrap (n : Int)
def fS (n : Nat) : ByteArray := markT n
abbrev hd0 : Slot T := .c (.hd 1000)
theorem gs_ {e : Nat} {l : List (T.Tb e)} {i : Nat} {x : T.Tb e} (h : i < l.length) : getE T e (l.set i x) i = x := by simp [getE, h]
theorem markStringS (a : List ByteArray) (k : Nat) (hl : a.length ≤ 140737488351232) (h0 : 0 < k) (hk : k + 1 * a.length ≤ 4611686018427387904) : CallWOb T Tryz.prog 48 [.c (.ow 9 a 9 (mkL 1 fS k a.length)), .c (.c (.sc (.int .i64 (k : Int))))] (.c (.sc (.int .i64 ((k + 1 * a.length : Nat) : Int)))) := by
  refine call_of_vcW hT Tryz.func48 (by kernel_rfl) rfl rfl (fun A => ?_)
  conv => whnf
  refine LoopQ.mk { i : Nat // i ≤ a.length } (fun p => (1, [(5, i64 p.1), (1, i64 (k + 1 * p.1 : Nat)), (0, hd0)], [(1000, .row 0 9 (mkP 1 fS k a p.1))])) (fun p => a.length - p.1) ⟨0, Nat.zero_le _⟩ (imp_of [] rfl rfl rfl ⟨⟨rfl, rfl⟩, ⟨rfl, rfl⟩, ⟨rfl, rfl⟩, trivial⟩ ⟨show SameRow (T := T) 9 a 9 (mkP 1 fS k a 0) from sr_ mkP_zero, trivial⟩) ?_
  rintro ⟨i, hi⟩
  conv => whnf
  refine Split.mk (fun c => ?_) (fun c => ?_)
  · have hk2 : i < a.length := in_ c (mkP_len hi)
    clear c
    have hb : k + 1 * i + 1 ≤ 4611686018427387904 := by omega
    conv => whnf
    refine CallQ.mk _ (markText (k + 1 * i) (by omega) (by omega)) ?_
    conv => whnf
    refine Need.mk (idx (mkP_lt hi hk2)) ?_
    conv => whnf
    exact NextQ.mk ⟨⟨i + 1, hk2⟩, Nat.sub_lt_sub_left hk2 (Nat.lt_succ_self i), imp_of [] rfl rfl rfl ⟨⟨rfl, congrArg i64 (sc_ hk2 hl)⟩, ⟨rfl, congrArg i64 (kn_ (k := k + 1 * i) (n := 1) (by omega) (by decide))⟩, ⟨rfl, rfl⟩, trivial⟩ ⟨sr_ (mkP_set (s := 1) (f := fS) hk2), trivial⟩⟩
  · have hk2 : i = a.length := Nat.le_antisymm hi (inf_ c (mkP_len hi))
    clear c
    conv => whnf
    subst hk2
    exact RetWQ.mk ⟨rfl, rfl⟩ ⟨⟨rfl, rfl⟩, rfl⟩ ⟨rfl, trivial⟩ ⟨show SameRow (T := T) 9 (mkP 1 fS k a a.length) 9 (mkL 1 fS k a.length) from sr_ mkP_all, trivial⟩
end Go.Proofs.YtcnfgfomholheaaGreatDoor.Q
end
section
/- Rows of structs, and trees, marked. Printed by a program of this work (gen_tree2.py). -/
namespace Go.Proofs.YtcnfgfomholheaaGreatDoor.Q
open Go.RowKit Go.Proofs.YtcnfgfomholheaaGreatDoor.Z
set_option linter.unusedVariables false
set_option linter.unusedSimpArgs false
set_option maxRecDepth 100000
set_option maxHeartbeats 4000000
/-! ### rows of marks, element by element -/
def mkM {β : Type} (f : β → Nat → β × Nat) : List β → Nat → List β × Nat
  | [], k => ([], k)
  | p :: l, k => ((f p k).1 :: (mkM f l (f p k).2).1, (mkM f l (f p k).2).2)
def rowM {β : Type} (f : β → Nat → β × Nat) (a : List β) (k i : Nat) : List β := (mkM f (a.take i) k).1 ++ a.drop i
section
variable {β : Type} {f : β → Nat → β × Nat} {a : List β} {k i : Nat} {d : β}
theorem mkM_app : ∀ (l m : List β) (k : Nat), mkM f (l ++ m) k = ((mkM f l k).1 ++ (mkM f m (mkM f l k).2).1, (mkM f m (mkM f l k).2).2)
  | [], _, _ => rfl
  | p :: l, m, k => by simp only [List.cons_append, mkM, mkM_app l m]
theorem mkM_len : ∀ (l : List β) (k : Nat), (mkM f l k).1.length = l.length
  | [], _ => rfl
  | p :: l, k => by simp only [mkM, List.length_cons, mkM_len l]
theorem mkM_take (h : i < a.length) : mkM f (a.take (i + 1)) k = ((mkM f (a.take i) k).1 ++ [(f (a.getD i d) (mkM f (a.take i) k).2).1], (f (a.getD i d) (mkM f (a.take i) k).2).2) := by
  have e : a.getD i d = a[i] := by simp [h]
  rw [List.take_succ_eq_append_getElem h, mkM_app, e]; rfl
theorem mkM_ge (hf : ∀ p k, k ≤ (f p k).2) : ∀ (l : List β) (k : Nat), k ≤ (mkM f l k).2
  | [], k => Nat.le_refl _
  | p :: l, k => Nat.le_trans (hf p k) (mkM_ge hf l _)
theorem mkM_part (hf : ∀ p k, k ≤ (f p k).2) (i : Nat) : (mkM f (a.take i) k).2 ≤ (mkM f a k).2 := by
  have h := mkM_app (f := f) (a.take i) (a.drop i) k
  rw [List.take_append_drop] at h
  rw [h]; exact mkM_ge hf _ _
theorem rowM_len (h : i ≤ a.length) : (rowM f a k i).length = a.length := by
  rw [rowM, List.length_append, mkM_len, List.length_take, List.length_drop]; omega
theorem rowM_set (h : i < a.length) (x : β) : (rowM f a k i).set i x = (mkM f (a.take i) k).1 ++ x :: a.drop (i + 1) := by
  have hl : (mkM f (a.take i) k).1.length = i := by rw [mkM_len, List.length_take]; omega
  rw [rowM, List.set_append_right _ _ (by omega), hl, Nat.sub_self, List.drop_eq_getElem_cons h]; rfl
theorem rowM_self (h : i < a.length) : rowM f a k i = (rowM f a k i).set i (a.getD i d) := by
  rw [rowM_set h, rowM, List.drop_eq_getElem_cons h]; simp [h]
theorem rowM_next (h : i < a.length) : (rowM f a k i).set i (f (a.getD i d) (mkM f (a.take i) k).2).1 = rowM f a k (i + 1) := by
  rw [rowM_set h, rowM, mkM_take (d := d) h, List.append_assoc]; rfl
theorem rowM_all : rowM f a k a.length = (mkM f a k).1 := by rw [rowM, List.take_length, List.drop_length, List.append_nil]
theorem set_ {e : Nat} {R : List (T.Tb e)} {i : Nat} (h : i < R.length) (x : T.Tb e) (g : T.Tb e → T.Tb e) : (R.set i x).set i (g (getE T e (R.set i x) i)) = R.set i (g x) := by
  rw [gs_ h, List.set_set]
theorem ge_ {e : Nat} {R : List (T.Tb e)} {i : Nat} (h : i < R.length) (x : T.Tb e) (C : T.Tb e → Prop) (hc : C x) : C (getE T e (R.set i x) i) := by
  rw [gs_ h]; exact hc
end
def mkSb (p : SS) (k : Nat) : SS × Nat := (⟨markT k, ((k + 1 : Nat) : Int), ((k + 2 : Nat) : Int)⟩, k + 3)
mutual
def mkN : SN → Nat → SN × Nat
  | ⟨a, b, c⟩, k => (⟨mkL 1 fS k a.length, (mkNL b (k + 1 * a.length)).1, (mkM mkSb c (mkNL b (k + 1 * a.length)).2).1⟩, (mkM mkSb c (mkNL b (k + 1 * a.length)).2).2)
def mkNL : List SN → Nat → List SN × Nat
  | [], k => ([], k)
  | p :: l, k => ((mkN p k).1 :: (mkNL l (mkN p k).2).1, (mkNL l (mkN p k).2).2)
end
theorem mkNL_eq : ∀ l : List SN, mkNL l = mkM mkN l
  | [] => by funext k; rw [mkNL]; rfl
  | p :: l => by funext k; rw [mkNL, mkNL_eq l]; rfl
theorem mkN_eq (n : SN) (k : Nat) : mkN n k = (⟨mkL 1 fS k n.f0.length, (mkM mkN n.f1 (k + 1 * n.f0.length)).1, (mkM mkSb n.f2 (mkM mkN n.f1 (k + 1 * n.f0.length)).2).1⟩, (mkM mkSb n.f2 (mkM mkN n.f1 (k + 1 * n.f0.length)).2).2) := by cases n; rw [mkN, mkNL_eq]
theorem mkSb_ge (p : SS) (k : Nat) : k ≤ (mkSb p k).2 := by show k ≤ k + 3; omega
theorem mkM_ge' {β : Type} {f : β → Nat → β × Nat} : ∀ (l : List β) (k : Nat), (∀ p ∈ l, ∀ k, k ≤ (f p k).2) → k ≤ (mkM f l k).2
  | [], k, _ => Nat.le_refl _
  | p :: l, k, h => Nat.le_trans (h p List.mem_cons_self k) (mkM_ge' l _ (fun q hq => h q (List.mem_cons_of_mem _ hq)))
theorem mkN_ge : ∀ (n : SN) (k : Nat), k ≤ (mkN n k).2 := fun n k => by
  rw [mkN_eq]
  exact Nat.le_trans (Nat.le_trans (Nat.le_add_right _ _) (mkM_ge' n.f1 _ (fun p hp k => mkN_ge p k))) (mkM_ge mkSb_ge _ _)
termination_by n => SizeOf.sizeOf n
decreasing_by exact lt_kid hp
theorem markSubS (a : List SS) (k : Nat) (ha : a.length ≤ 2097152) (h0 : 0 < k) (hk : (mkM (β := SS) mkSb a k).2 ≤ 4611686018427387904) : CallWOb T Tryz.prog 34 [.c (.ow eS a eS (mkM (β := SS) mkSb a k).1), .c (.c (.sc (.int .i64 (k : Int))))] (.c (.sc (.int .i64 ((mkM (β := SS) mkSb a k).2 : Int)))) := by
  refine call_of_VcW hT Tryz.func34 (by kernel_rfl) rfl rfl (fun A => ?_)
  refine Vc.seq 0 hT ?_
  conv => whnf
  refine Vc.seqV ?_
  refine Vc.seq 0 hT ?_
  conv => whnf
  refine Vc.block ?_
  refine Vc.loop (α := { i : Nat // i ≤ a.length }) (fun s => ([(5, i64 s.1), (1, i64 ((mkM (β := SS) mkSb (a.take s.1) k).2 : Nat)), (0, hd0)], [(1000, .row 0 eS (rowM (β := SS) mkSb a k s.1))])) (fun s => a.length - s.1) ⟨0, Nat.zero_le _⟩ (imp_of [] rfl rfl rfl ⟨⟨rfl, rfl⟩, ⟨rfl, rfl⟩, ⟨rfl, rfl⟩, trivial⟩ ⟨show SameRow (T := T) eS a eS (rowM (β := SS) mkSb a k 0) from sr_ rfl, trivial⟩) ?_
  rintro ⟨i, hi⟩
  have hR := rowM_len (β := SS) (f := mkSb) (k := k) hi
  refine Vc.seq 1 hT ?_
  conv => whnf
  refine Split.mk (fun c => ?_) (fun c => ?_)
  · have hk2 : i < a.length := in_ c hR
    clear c
    have hq := mkM_ge (β := SS) mkSb_ge (a.take i) k
    have hself := rowM_self (β := SS) (f := mkSb) (k := k) (d := T.df eS) hk2
    have hnext := rowM_next (β := SS) (f := mkSb) (k := k) (d := T.df eS) hk2
    have hmk := mkM_take (β := SS) (f := mkSb) (k := k) (d := T.df eS) hk2
    have hkp := Nat.le_trans (mkM_part (β := SS) (f := mkSb) (a := a) (k := k) mkSb_ge (i + 1)) hk
    rw [hmk] at hkp
    replace hmk := congrArg Prod.snd hmk
    have hp := getD_mem (α := SS) (d := T.df eS) hk2
    generalize rowM (β := SS) mkSb a k i = R at hself hnext hR ⊢
    generalize (mkM (β := SS) mkSb (a.take i) k).2 = k at hq hnext hmk hkp ⊢
    generalize a.getD i (T.df eS) = p at hself hnext hmk hkp hp ⊢
    have hlt : i < R.length := by omega
    have hk1 : 0 < k := by omega
    have hkb : (mkSb p k).2 ≤ 4611686018427387904 := hkp
    conv => whnf
    refine Vc.imp (tm' := [(5, i64 i), (1, i64 (k : Nat)), (0, hd0)]) (rs' := [(1000, .row 0 eS (R.set i p))]) (imp_of [] rfl rfl rfl ⟨⟨rfl, rfl⟩, ⟨rfl, rfl⟩, ⟨rfl, rfl⟩, trivial⟩ ⟨show SameRow (T := T) eS R eS (R.set i p) from sr_ hself, trivial⟩) ?_
    clear hself
    refine Vc.seqV ?_
    refine Vc.block ?_
    refine Vc.seq 1 hT ?_
    conv => whnf
    refine CallQ.mk _ (markText k (by omega) (by simp only [mkSb] at hkb; omega)) ?_
    conv => whnf
    refine Need.mk (idx (Nat.lt_of_lt_of_eq hlt List.length_set.symm)) ?_
    conv => whnf
    refine Vc.cut (α := Unit) 50 (fun _ => True) (fun _ => [(5, i64 i), (1, i64 ((k + 1) : Nat)), (0, hd0)]) (fun _ => [(1000, .row 0 eS (R.set i (⟨markT k, p.f1, p.f2⟩ : SS)))]) hT ?_ (fun _ _ => ?_)
    · conv => whnf
      exact CutQ.mk ⟨(), trivial, imp_of [] rfl rfl rfl ⟨⟨rfl, rfl⟩, ⟨rfl, congrArg i64 (kn_ (k := k) (n := 1) (by simp only [mkSb] at hkb; omega) (by decide))⟩, ⟨rfl, rfl⟩, trivial⟩ ⟨sr_ (set_ (e := eS) hlt (p : SS) (fun q : T.Tb eS => (⟨markT k, q.f1, q.f2⟩ : SS))), trivial⟩⟩
    refine Vc.seq 1 hT ?_
    conv => whnf
    refine Need.mk (idx (Nat.lt_of_lt_of_eq hlt List.length_set.symm)) ?_
    conv => whnf
    refine Vc.cut (α := Unit) 50 (fun _ => True) (fun _ => [(5, i64 i), (1, i64 (((k + 1) + 1) : Nat)), (0, hd0)]) (fun _ => [(1000, .row 0 eS (R.set i (⟨markT k, (((k + 1) : Nat) : Int), p.f2⟩ : SS)))]) hT ?_ (fun _ _ => ?_)
    · conv => whnf
      exact CutQ.mk ⟨(), trivial, imp_of [] rfl rfl rfl ⟨⟨rfl, rfl⟩, ⟨rfl, congrArg i64 (kn_ (k := (k + 1)) (n := 1) (by simp only [mkSb] at hkb; omega) (by decide))⟩, ⟨rfl, rfl⟩, trivial⟩ ⟨sr_ (set_ (e := eS) hlt (⟨markT k, p.f1, p.f2⟩ : SS) (fun q : T.Tb eS => (⟨q.f0, (((k + 1) : Nat) : Int), q.f2⟩ : SS))), trivial⟩⟩
    refine Vc.seq 1 hT ?_
    conv => whnf
    refine Need.mk (idx (Nat.lt_of_lt_of_eq hlt List.length_set.symm)) ?_
    conv => whnf
    refine Vc.of 1 hT ?_
    conv => whnf
    refine Vc.of 1 hT ?_
    conv => whnf
    exact NextQ.mk ⟨⟨i + 1, hk2⟩, Nat.sub_lt_sub_left hk2 (Nat.lt_succ_self i), imp_of [] rfl rfl rfl ⟨⟨rfl, congrArg i64 (sc_ hk2 (by omega))⟩, ⟨rfl, congrArg i64 ((congrArg (fun x : Nat => (x : Int)) (hmk)).trans (kn_ (k := ((k + 1) + 1)) (n := 1) (by simp only [mkSb] at hkb; omega) (by decide)))⟩, ⟨rfl, rfl⟩, trivial⟩ ⟨sr_ ((set_ (e := eS) hlt (⟨markT k, (((k + 1) : Nat) : Int), p.f2⟩ : SS) (fun q : T.Tb eS => (⟨q.f0, q.f1, ((((k + 1) + 1) : Nat) : Int)⟩ : SS))).trans hnext), trivial⟩⟩
  · have hk2 : i = a.length := Nat.le_antisymm hi (inf_ c hR)
    clear c hR
    subst hk2
    conv => whnf
    refine Vc.of 1 hT ?_
    conv => whnf
    exact RetWQ.mk ⟨rfl, rfl⟩ ⟨⟨rfl, rfl⟩, rfl⟩ ⟨iv (by rw [List.take_length]), trivial⟩ ⟨show SameRow (T := T) eS (rowM (β := SS) mkSb a k a.length) eS (mkM (β := SS) mkSb a k).1 from sr_ rowM_all, trivial⟩
theorem markNodeS_of (a : List SN) (k : Nat) (ha : a.length ≤ 2097152) (hy : ∀ y ∈ a, Bd y ∧ ∀ k, 0 < k → (mkM mkN y.f1 k).2 ≤ 4611686018427387904 → CallWOb T Tryz.prog 103 [.c (.ow eN y.f1 eN (mkM mkN y.f1 k).1), .c (.c (.sc (.int .i64 (k : Int))))] (.c (.sc (.int .i64 ((mkM mkN y.f1 k).2 : Int))))) (h0 : 0 < k) (hk : (mkM (β := SN) mkN a k).2 ≤ 4611686018427387904) : CallWOb T Tryz.prog 103 [.c (.ow eN a eN (mkM (β := SN) mkN a k).1), .c (.c (.sc (.int .i64 (k : Int))))] (.c (.sc (.int .i64 ((mkM (β := SN) mkN a k).2 : Int)))) := by
  refine call_of_VcW hT Tryz.func103 (by kernel_rfl) rfl rfl (fun A => ?_)
  refine Vc.seq 0 hT ?_
  conv => whnf
  refine Vc.seqV ?_
  refine Vc.seq 0 hT ?_
  conv => whnf
  refine Vc.block ?_
  refine Vc.loop (α := { i : Nat // i ≤ a.length }) (fun s => ([(5, i64 s.1), (1, i64 ((mkM (β := SN) mkN (a.take s.1) k).2 : Nat)), (0, hd0)], [(1000, .row 0 eN (rowM (β := SN) mkN a k s.1))])) (fun s => a.length - s.1) ⟨0, Nat.zero_le _⟩ (imp_of [] rfl rfl rfl ⟨⟨rfl, rfl⟩, ⟨rfl, rfl⟩, ⟨rfl, rfl⟩, trivial⟩ ⟨show SameRow (T := T) eN a eN (rowM (β := SN) mkN a k 0) from sr_ rfl, trivial⟩) ?_
  rintro ⟨i, hi⟩
  have hR := rowM_len (β := SN) (f := mkN) (k := k) hi
  refine Vc.seq 1 hT ?_
  conv => whnf
  refine Split.mk (fun c => ?_) (fun c => ?_)
  · have hk2 : i < a.length := in_ c hR
    clear c
    have hq := mkM_ge (β := SN) mkN_ge (a.take i) k
    have hself := rowM_self (β := SN) (f := mkN) (k := k) (d := T.df eN) hk2
    have hnext := rowM_next (β := SN) (f := mkN) (k := k) (d := T.df eN) hk2
    have hmk := mkM_take (β := SN) (f := mkN) (k := k) (d := T.df eN) hk2
    have hkp := Nat.le_trans (mkM_part (β := SN) (f := mkN) (a := a) (k := k) mkN_ge (i + 1)) hk
    rw [hmk] at hkp
    replace hmk := congrArg Prod.snd hmk
    have hp := getD_mem (α := SN) (d := T.df eN) hk2
    have hpb := hy _ hp
    rw [mkN_eq] at hkp
    generalize rowM (β := SN) mkN a k i = R at hself hnext hR ⊢
    generalize (mkM (β := SN) mkN (a.take i) k).2 = k at hq hnext hmk hkp ⊢
    generalize a.getD i (T.df eN) = p at hself hnext hmk hkp hp hpb ⊢
    have hlt : i < R.length := by omega
    have hk1 : 0 < k := by omega
    have hkb : (mkM mkSb p.f2 (mkM mkN p.f1 (k + 1 * p.f0.length)).2).2 ≤ 4611686018427387904 := hkp
    conv => whnf
    refine Vc.imp (tm' := [(5, i64 i), (1, i64 (k : Nat)), (0, hd0)]) (rs' := [(1000, .row 0 eN (R.set i p))]) (imp_of [] rfl rfl rfl ⟨⟨rfl, rfl⟩, ⟨rfl, rfl⟩, ⟨rfl, rfl⟩, trivial⟩ ⟨show SameRow (T := T) eN R eN (R.set i p) from sr_ hself, trivial⟩) ?_
    clear hself
    refine Vc.seqV ?_
    refine Vc.block ?_
    refine Vc.cut (α := Unit) 50 (fun _ => True) (fun _ => [(5, i64 i), (1, i64 ((k + 1 * p.f0.length) : Nat)), (0, hd0)]) (fun _ => [(1000, .row 0 eN (R.set i (⟨mkL 1 fS k p.f0.length, p.f1, p.f2⟩ : SN)))]) hT ?_ (fun _ _ => ?_)
    · conv => whnf
      refine Need.mk (idx (Nat.lt_of_lt_of_eq hlt List.length_set.symm)) ?_
      conv => whnf
      refine CallQ.wr [[NW.wr 9 (mkL 1 fS k p.f0.length)], [NW.rd]] (.c (.sc (.int .i64 (((k + 1 * p.f0.length) : Nat) : Int)))) ?_
      conv => whnf
      refine CallWQ.mk (ge_ (e := eN) hlt (p : SN) (fun q => CallWOb T Tryz.prog 48 [.c (.ow 9 q.f0 9 (mkL 1 fS k p.f0.length)), .c (.c (.sc (.int .i64 ((k : Nat) : Int))))] (.c (.sc (.int .i64 (((k + 1 * p.f0.length) : Nat) : Int))))) (markStringS p.f0 (k) (Nat.le_trans hpb.1.l0 (by decide)) (by omega) (Nat.le_trans (Nat.le_trans (mkM_ge mkN_ge p.f1 _) (mkM_ge mkSb_ge p.f2 _)) hkb))) ?_
      conv => whnf
      exact CutQ.mk ⟨(), trivial, imp_of [] rfl rfl rfl ⟨⟨rfl, rfl⟩, ⟨rfl, rfl⟩, ⟨rfl, rfl⟩, trivial⟩ ⟨sr_ (set_ (e := eN) hlt (p : SN) (fun q : T.Tb eN => (⟨mkL 1 fS k p.f0.length, q.f1, q.f2⟩ : SN))), trivial⟩⟩
    refine Vc.cut (α := Unit) 50 (fun _ => True) (fun _ => [(5, i64 i), (1, i64 ((mkM mkN p.f1 (k + 1 * p.f0.length)).2 : Nat)), (0, hd0)]) (fun _ => [(1000, .row 0 eN (R.set i (⟨mkL 1 fS k p.f0.length, (mkM mkN p.f1 (k + 1 * p.f0.length)).1, p.f2⟩ : SN)))]) hT ?_ (fun _ _ => ?_)
    · conv => whnf
      refine Need.mk (idx (Nat.lt_of_lt_of_eq hlt List.length_set.symm)) ?_
      conv => whnf
      refine CallQ.wr [[NW.wr eN ((mkM mkN p.f1 (k + 1 * p.f0.length)).1)], [NW.rd]] (.c (.sc (.int .i64 (((mkM mkN p.f1 (k + 1 * p.f0.length)).2 : Nat) : Int)))) ?_
      conv => whnf
      refine CallWQ.mk (ge_ (e := eN) hlt (⟨mkL 1 fS k p.f0.length, p.f1, p.f2⟩ : SN) (fun q => CallWOb T Tryz.prog 103 [.c (.ow eN q.f1 eN ((mkM mkN p.f1 (k + 1 * p.f0.length)).1)), .c (.c (.sc (.int .i64 (((k + 1 * p.f0.length) : Nat) : Int))))] (.c (.sc (.int .i64 (((mkM mkN p.f1 (k + 1 * p.f0.length)).2 : Nat) : Int))))) (hpb.2 ((k + 1 * p.f0.length)) (by omega) (Nat.le_trans (mkM_ge mkSb_ge p.f2 _) hkb))) ?_
      conv => whnf
      exact CutQ.mk ⟨(), trivial, imp_of [] rfl rfl rfl ⟨⟨rfl, rfl⟩, ⟨rfl, rfl⟩, ⟨rfl, rfl⟩, trivial⟩ ⟨sr_ (set_ (e := eN) hlt (⟨mkL 1 fS k p.f0.length, p.f1, p.f2⟩ : SN) (fun q : T.Tb eN => (⟨q.f0, (mkM mkN p.f1 (k + 1 * p.f0.length)).1, q.f2⟩ : SN))), trivial⟩⟩
    refine Vc.of 1 hT ?_
    conv => whnf
    refine Need.mk (idx (Nat.lt_of_lt_of_eq hlt List.length_set.symm)) ?_
    conv => whnf
    refine CallQ.wr [[NW.wr eS ((mkM mkSb p.f2 (mkM mkN p.f1 (k + 1 * p.f0.length)).2).1)], [NW.rd]] (.c (.sc (.int .i64 (((mkM mkSb p.f2 (mkM mkN p.f1 (k + 1 * p.f0.length)).2).2 : Nat) : Int)))) ?_
    conv => whnf
    refine CallWQ.mk (ge_ (e := eN) hlt (⟨mkL 1 fS k p.f0.length, (mkM mkN p.f1 (k + 1 * p.f0.length)).1, p.f2⟩ : SN) (fun q => CallWOb T Tryz.prog 34 [.c (.ow eS q.f2 eS ((mkM mkSb p.f2 (mkM mkN p.f1 (k + 1 * p.f0.length)).2).1)), .c (.c (.sc (.int .i64 (((mkM mkN p.f1 (k + 1 * p.f0.length)).2 : Nat) : Int))))] (.c (.sc (.int .i64 (((mkM mkSb p.f2 (mkM mkN p.f1 (k + 1 * p.f0.length)).2).2 : Nat) : Int))))) (markSubS p.f2 ((mkM mkN p.f1 (k + 1 * p.f0.length)).2) hpb.1.l2 (Nat.lt_of_lt_of_le (show 0 < k + 1 * p.f0.length by omega) (mkM_ge mkN_ge _ _)) hkb)) ?_
    conv => whnf
    refine Vc.of 1 hT ?_
    conv => whnf
    exact NextQ.mk ⟨⟨i + 1, hk2⟩, Nat.sub_lt_sub_left hk2 (Nat.lt_succ_self i), imp_of [] rfl rfl rfl ⟨⟨rfl, congrArg i64 (sc_ hk2 (by omega))⟩, ⟨rfl, congrArg i64 ((congrArg (fun x : Nat => (x : Int)) (hmk.trans (show (mkN p k).2 = _ from congrArg Prod.snd (mkN_eq p k)))).trans (rfl))⟩, ⟨rfl, rfl⟩, trivial⟩ ⟨sr_ ((set_ (e := eN) hlt (⟨mkL 1 fS k p.f0.length, (mkM mkN p.f1 (k + 1 * p.f0.length)).1, p.f2⟩ : SN) (fun q : T.Tb eN => (⟨q.f0, q.f1, (mkM mkSb p.f2 (mkM mkN p.f1 (k + 1 * p.f0.length)).2).1⟩ : SN))).trans (Eq.trans (congrArg (fun z : SN × Nat => List.set R i z.1) (mkN_eq p k).symm) hnext)), trivial⟩⟩
  · have hk2 : i = a.length := Nat.le_antisymm hi (inf_ c hR)
    clear c hR
    subst hk2
    conv => whnf
    refine Vc.of 1 hT ?_
    conv => whnf
    exact RetWQ.mk ⟨rfl, rfl⟩ ⟨⟨rfl, rfl⟩, rfl⟩ ⟨iv (by rw [List.take_length]), trivial⟩ ⟨show SameRow (T := T) eN (rowM (β := SN) mkN a k a.length) eN (mkM (β := SN) mkN a k).1 from sr_ rowM_all, trivial⟩
theorem markNodeS : ∀ (n : SN), Bd n → ∀ k, 0 < k → (mkM mkN n.f1 k).2 ≤ 4611686018427387904 → CallWOb T Tryz.prog 103 [.c (.ow eN n.f1 eN (mkM mkN n.f1 k).1), .c (.c (.sc (.int .i64 (k : Int))))] (.c (.sc (.int .i64 ((mkM mkN n.f1 k).2 : Int)))) := fun n hn k h0 hk =>
  markNodeS_of n.f1 k hn.l1 (fun y hy => ⟨hn.kid y hy, markNodeS y (hn.kid y hy)⟩) h0 hk
termination_by n => SizeOf.sizeOf n
decreasing_by exact lt_kid hy
theorem markNode (n : SN) (k : Nat) (hn : Bd n) (h0 : 0 < k) (hk : (mkN n k).2 ≤ 4611686018427387904) : CallWOb T Tryz.prog 23 [.ag [.ow 9 n.f0 9 (mkN n k).1.f0, .ow eN n.f1 eN (mkN n k).1.f1, .ow eS n.f2 eS (mkN n k).1.f2], .c (.c (.sc (.int .i64 (k : Int))))] (.c (.sc (.int .i64 ((mkN n k).2 : Int)))) := by
  rw [mkN_eq] at hk ⊢
  have g1 := mkM_ge mkN_ge n.f1 (k + 1 * n.f0.length)
  have g2 := mkM_ge mkSb_ge n.f2 (mkM mkN n.f1 (k + 1 * n.f0.length)).2
  have h1 := markStringS n.f0 k (Nat.le_trans hn.l0 (by decide)) h0 (Nat.le_trans (Nat.le_trans g1 g2) hk)
  have h2 := markNodeS n hn (k + 1 * n.f0.length) (by omega) (Nat.le_trans g2 hk)
  have h3 := markSubS n.f2 (mkM mkN n.f1 (k + 1 * n.f0.length)).2 hn.l2 (by omega) hk
  refine call_of_vcW hT Tryz.func23 (by kernel_rfl) rfl rfl (fun A => ?_)
  conv => whnf
  refine CallQ.wr [[NW.wr 9 (mkL 1 fS k n.f0.length)], [NW.rd]] (.c (.sc (.int .i64 ((k + 1 * n.f0.length : Nat) : Int)))) ?_
  conv => whnf
  refine CallWQ.mk h1 ?_
  conv => whnf
  refine CallQ.wr [[NW.wr eN (mkM mkN n.f1 (k + 1 * n.f0.length)).1], [NW.rd]] (.c (.sc (.int .i64 ((mkM mkN n.f1 (k + 1 * n.f0.length)).2 : Int)))) ?_
  conv => whnf
  refine CallWQ.mk h2 ?_
  conv => whnf
  refine CallQ.wr [[NW.wr eS (mkM mkSb n.f2 (mkM mkN n.f1 (k + 1 * n.f0.length)).2).1], [NW.rd]] (.c (.sc (.int .i64 ((mkM mkSb n.f2 (mkM mkN n.f1 (k + 1 * n.f0.length)).2).2 : Int)))) ?_
  conv => whnf
  refine CallWQ.mk h3 ?_
  conv => whnf
  exact RetWQ.mk ⟨rfl, rfl⟩ ⟨⟨rfl, rfl⟩, rfl⟩ ⟨rfl, trivial⟩ ⟨rfl, rfl, rfl, trivial⟩
end Go.Proofs.YtcnfgfomholheaaGreatDoor.Q
end
section
/- Marks found again. Printed by a program of this work (gen_tree3.py). -/
namespace Go.Proofs.YtcnfgfomholheaaGreatDoor.Q
open Go.RowKit Go.Proofs.YtcnfgfomholheaaGreatDoor.Z
set_option linter.unusedVariables false
set_option linter.unusedSimpArgs false
set_option maxRecDepth 100000
set_option maxHeartbeats 4000000
theorem ng_ {n : Nat} {q : Prop} (c : decide ((n : Int) < 0) = true) : q := by have := li_t c; omega
theorem heldStringS (n k : Nat) (hl : n ≤ 140737488351232) (h0 : 0 < k) (hk : k + 1 * n ≤ 4611686018427387904) : CallOb T Tryz.prog 104 [.c (.sl 9 (mkL 1 fS k n)), .c (.sc (.int .i64 (k : Int)))] (.c (.sc (.int .i64 ((k + 1 * n : Nat) : Int)))) := by
  refine call_of_vc hT Tryz.func104 (by kernel_rfl) rfl rfl (fun A => ?_)
  conv => whnf
  refine LoopQ.mk { i : Nat // i ≤ n } (fun p => (0, [(5, i64 p.1), (1, i64 (k + 1 * p.1 : Nat)), (0, im 9 (mkL 1 fS k n))], [])) (fun p => n - p.1) ⟨0, Nat.zero_le _⟩ (imp_of [] rfl rfl rfl ⟨⟨rfl, rfl⟩, ⟨rfl, rfl⟩, ⟨rfl, rfl⟩, trivial⟩ trivial) ?_
  rintro ⟨i, hi⟩
  conv => whnf
  refine Split.mk (fun c => ?_) (fun c => ?_)
  · have hk2 : i < n := in_ c mkL_len
    clear c
    have hb : k + 1 * i + 1 ≤ 4611686018427387904 := by omega
    conv => whnf
    refine Need.mk (idx (Nat.lt_of_lt_of_eq hk2 mkL_len.symm)) ?_
    conv => whnf
    refine CallQ.mk _ (markText (k + 1 * i) (by omega) (by omega)) ?_
    conv => whnf
    refine DrawQ.mk ⟨by kernel_rfl, by kernel_rfl⟩ ?_
    conv => whnf
    refine Split.mk (fun c => (sx_t c (mkL_get (s := 1) (f := fS) (k := k) (d := ByteArray.empty) hk2)).elim) (fun c => ?_)
    clear c
    conv => whnf
    exact NextQ.mk ⟨⟨i + 1, hk2⟩, Nat.sub_lt_sub_left hk2 (Nat.lt_succ_self i), imp_of [] rfl rfl rfl ⟨⟨rfl, congrArg i64 (sc_ hk2 hl)⟩, ⟨rfl, congrArg i64 (kn_ (k := k + 1 * i) (n := 1) (by omega) (by decide))⟩, ⟨rfl, rfl⟩, trivial⟩ trivial⟩
  · have hk2 : i = n := Nat.le_antisymm hi (inf_ c mkL_len)
    clear c
    conv => whnf
    subst hk2
    exact RetQ.mk ⟨rfl, rfl⟩ ⟨rfl, rfl⟩ ⟨rfl, trivial⟩
theorem mkM_get {β : Type} {f : β → Nat → β × Nat} {a : List β} {k i : Nat} {d : β} (h : i < a.length) : (mkM f a k).1.getD i d = (f (a.getD i d) (mkM f (a.take i) k).2).1 := by
  have e : a.getD i d = a[i] := by simp [h]
  have h1 := mkM_app (f := f) (a.take i) (a.drop i) k
  rw [List.take_append_drop, List.drop_eq_getElem_cons h] at h1
  have hl : (mkM f (a.take i) k).1.length = i := by rw [mkM_len, List.length_take]; omega
  rw [h1, List.getD_eq_getElem?_getD, List.getElem?_append_right (by omega), hl, Nat.sub_self, e]
  rfl
theorem ge2_ {e : Nat} {R : List (T.Tb e)} {i : Nat} {x : T.Tb e} (h : R.getD i (T.df e) = x) (C : T.Tb e → Prop) (hc : C x) : C (getE T e R i) := by
  rw [show getE T e R i = x from h]; exact hc
theorem k3_ {k : Nat} (h : k + 3 ≤ 4611686018427387904) : ((k + 3 : Nat) : Int) = wrap64 (wrap64 (wrap64 ((k : Int) + 1) + 1) + 1) := by simp only [wrap64]; omega
theorem k2b_ {k : Nat} (h : k + 2 ≤ 4611686018427387904) : ((k + 2 : Nat) : Int) = wrap64 (wrap64 ((k : Int) + 1) + 1) := by simp only [wrap64]; omega
theorem heldSubS (a : List SS) (k : Nat) (ha : a.length ≤ 2097152) (h0 : 0 < k) (hk : (mkM (β := SS) mkSb a k).2 ≤ 4611686018427387904) : CallOb T Tryz.prog 35 [.c (.sl eS (mkM (β := SS) mkSb a k).1), .c (.sc (.int .i64 (k : Int)))] (.c (.sc (.int .i64 ((mkM (β := SS) mkSb a k).2 : Int)))) := by
  refine call_of_vc hT Tryz.func35 (by kernel_rfl) rfl rfl (fun A => ?_)
  conv => whnf
  refine LoopQ.mk { i : Nat // i ≤ a.length } (fun p => (0, [(5, i64 p.1), (1, i64 ((mkM (β := SS) mkSb (a.take p.1) k).2 : Nat)), (0, im eS (mkM (β := SS) mkSb a k).1)], [])) (fun p => a.length - p.1) ⟨0, Nat.zero_le _⟩ (imp_of [] rfl rfl rfl ⟨⟨rfl, rfl⟩, ⟨rfl, rfl⟩, ⟨rfl, rfl⟩, trivial⟩ trivial) ?_
  rintro ⟨i, hi⟩
  have hR := mkM_len (f := mkSb) a k
  conv => whnf
  refine Split.mk (fun c => ?_) (fun c => ?_)
  · have hk2 : i < a.length := in_ c hR
    clear c
    have hq := mkM_ge (β := SS) mkSb_ge (a.take i) k
    have hg := mkM_get (β := SS) (f := mkSb) (k := k) (d := T.df eS) hk2
    have hmk := congrArg Prod.snd (mkM_take (β := SS) (f := mkSb) (k := k) (d := T.df eS) hk2)
    have hkb := Nat.le_trans (mkM_part (β := SS) (f := mkSb) (a := a) (k := k) mkSb_ge (i + 1)) hk
    rw [hmk] at hkb
    have hp := getD_mem (α := SS) (d := T.df eS) hk2
    dsimp only at hkb
    generalize (mkM (β := SS) mkSb (a.take i) k).2 = k2 at hq hg hmk hkb ⊢
    generalize a.getD i (T.df eS) = p at hg hmk hkb hp ⊢
    have hk1 : 0 < k2 := by omega
    generalize hrw : (mkM (β := SS) mkSb a k).1 = R at hg hR ⊢
    have hlt : i < R.length := by omega
    conv => whnf
    refine Need.mk (idx hlt) ?_
    conv => whnf
    refine CallQ.mk _ (markText k2 (by omega) (by simp only [mkSb] at hkb; omega)) ?_
    conv => whnf
    refine DrawQ.mk ⟨by kernel_rfl, by kernel_rfl⟩ ?_
    conv => whnf
    refine Split.mk (fun c => (sx_t c (congrArg (fun z : SS => z.f0) hg)).elim) (fun c => ?_)
    clear c
    conv => whnf
    refine Need.mk (idx hlt) ?_
    conv => whnf
    refine Split.mk (fun c => (ne_t c ((congrArg (fun z : SS => z.f1) hg).trans (kn_ (k := k2) (n := 1) (by simp only [mkSb] at hkb; omega) (by decide)))).elim) (fun c => ?_)
    clear c
    conv => whnf
    refine Need.mk (idx hlt) ?_
    conv => whnf
    refine Split.mk (fun c => (ne_t c ((congrArg (fun z : SS => z.f2) hg).trans (k2b_ (k := k2) (by simp only [mkSb] at hkb; omega)))).elim) (fun c => ?_)
    clear c
    conv => whnf
    exact NextQ.mk ⟨⟨i + 1, hk2⟩, Nat.sub_lt_sub_left hk2 (Nat.lt_succ_self i), imp_of [] rfl rfl rfl ⟨⟨rfl, congrArg i64 (sc_ hk2 (by omega))⟩, ⟨rfl, congrArg i64 ((congrArg (fun x : Nat => (x : Int)) (hmk)).trans (k3_ (k := k2) (by simp only [mkSb] at hkb; omega)))⟩, ⟨rfl, rfl⟩, trivial⟩ trivial⟩
  · have hk2 : i = a.length := Nat.le_antisymm hi (inf_ c hR)
    clear c
    conv => whnf
    subst hk2
    exact RetQ.mk ⟨rfl, rfl⟩ ⟨rfl, rfl⟩ ⟨iv (by rw [List.take_length]), trivial⟩
theorem heldNodeS_of (a : List SN) (k : Nat) (ha : a.length ≤ 2097152) (hy : ∀ y ∈ a, Bd y ∧ ∀ k, 0 < k → (mkM mkN y.f1 k).2 ≤ 4611686018427387904 → CallOb T Tryz.prog 105 [.c (.sl eN (mkM mkN y.f1 k).1), .c (.sc (.int .i64 (k : Int)))] (.c (.sc (.int .i64 ((mkM mkN y.f1 k).2 : Int))))) (h0 : 0 < k) (hk : (mkM (β := SN) mkN a k).2 ≤ 4611686018427387904) : CallOb T Tryz.prog 105 [.c (.sl eN (mkM (β := SN) mkN a k).1), .c (.sc (.int .i64 (k : Int)))] (.c (.sc (.int .i64 ((mkM (β := SN) mkN a k).2 : Int)))) := by
  refine call_of_vc hT Tryz.func105 (by kernel_rfl) rfl rfl (fun A => ?_)
  conv => whnf
  refine LoopQ.mk { i : Nat // i ≤ a.length } (fun p => (0, [(5, i64 p.1), (1, i64 ((mkM (β := SN) mkN (a.take p.1) k).2 : Nat)), (0, im eN (mkM (β := SN) mkN a k).1)], [])) (fun p => a.length - p.1) ⟨0, Nat.zero_le _⟩ (imp_of [] rfl rfl rfl ⟨⟨rfl, rfl⟩, ⟨rfl, rfl⟩, ⟨rfl, rfl⟩, trivial⟩ trivial) ?_
  rintro ⟨i, hi⟩
  have hR := mkM_len (f := mkN) a k
  conv => whnf
  refine Split.mk (fun c => ?_) (fun c => ?_)
  · have hk2 : i < a.length := in_ c hR
    clear c
    have hq := mkM_ge (β := SN) mkN_ge (a.take i) k
    have hg := mkM_get (β := SN) (f := mkN) (k := k) (d := T.df eN) hk2
    have hmk := congrArg Prod.snd (mkM_take (β := SN) (f := mkN) (k := k) (d := T.df eN) hk2)
    have hkb := Nat.le_trans (mkM_part (β := SN) (f := mkN) (a := a) (k := k) mkN_ge (i + 1)) hk
    rw [hmk] at hkb
    have hp := getD_mem (α := SN) (d := T.df eN) hk2
    have hpb := hy _ hp
    rw [mkN_eq] at hkb hg
    dsimp only at hkb
    generalize (mkM (β := SN) mkN (a.take i) k).2 = k2 at hq hg hmk hkb ⊢
    generalize a.getD i (T.df eN) = p at hg hmk hkb hp hpb ⊢
    have hk1 : 0 < k2 := by omega
    generalize hrw : (mkM (β := SN) mkN a k).1 = R at hg hR ⊢
    have hlt : i < R.length := by omega
    conv => whnf
    refine Need.mk (idx hlt) ?_
    conv => whnf
    refine CallQ.mk (.c (.sc (.int .i64 (((k2 + 1 * p.f0.length) : Nat) : Int)))) (ge2_ (e := eN) hg (fun q => CallOb T Tryz.prog 104 [.c (.sl 9 q.f0), .c (.sc (.int .i64 ((k2 : Nat))))] (.c (.sc (.int .i64 (((k2 + 1 * p.f0.length) : Nat) : Int))))) (heldStringS p.f0.length k2 (Nat.le_trans hpb.1.l0 (by decide)) (by omega) (Nat.le_trans (Nat.le_trans (mkM_ge mkN_ge p.f1 _) (mkM_ge mkSb_ge p.f2 _)) hkb))) ?_
    conv => whnf
    refine Split.mk (fun c => ng_ c) (fun c => ?_)
    clear c
    conv => whnf
    refine Need.mk (idx hlt) ?_
    conv => whnf
    refine CallQ.mk (.c (.sc (.int .i64 (((mkM mkN p.f1 (k2 + 1 * p.f0.length)).2 : Nat) : Int)))) (ge2_ (e := eN) hg (fun q => CallOb T Tryz.prog 105 [.c (.sl eN q.f1), .c (.sc (.int .i64 (((k2 + 1 * p.f0.length) : Nat))))] (.c (.sc (.int .i64 (((mkM mkN p.f1 (k2 + 1 * p.f0.length)).2 : Nat) : Int))))) (hpb.2 ((k2 + 1 * p.f0.length)) (by omega) (Nat.le_trans (mkM_ge mkSb_ge p.f2 _) hkb))) ?_
    conv => whnf
    refine Split.mk (fun c => ng_ c) (fun c => ?_)
    clear c
    conv => whnf
    refine Need.mk (idx hlt) ?_
    conv => whnf
    refine CallQ.mk (.c (.sc (.int .i64 (((mkM mkSb p.f2 (mkM mkN p.f1 (k2 + 1 * p.f0.length)).2).2 : Nat) : Int)))) (ge2_ (e := eN) hg (fun q => CallOb T Tryz.prog 35 [.c (.sl eS q.f2), .c (.sc (.int .i64 (((mkM mkN p.f1 (k2 + 1 * p.f0.length)).2 : Nat))))] (.c (.sc (.int .i64 (((mkM mkSb p.f2 (mkM mkN p.f1 (k2 + 1 * p.f0.length)).2).2 : Nat) : Int))))) (heldSubS p.f2 ((mkM mkN p.f1 (k2 + 1 * p.f0.length)).2) hpb.1.l2 (Nat.lt_of_lt_of_le (show 0 < k2 + 1 * p.f0.length by omega) (mkM_ge mkN_ge _ _)) hkb)) ?_
    conv => whnf
    refine Split.mk (fun c => ng_ c) (fun c => ?_)
    clear c
    conv => whnf
    exact NextQ.mk ⟨⟨i + 1, hk2⟩, Nat.sub_lt_sub_left hk2 (Nat.lt_succ_self i), imp_of [] rfl rfl rfl ⟨⟨rfl, congrArg i64 (sc_ hk2 (by omega))⟩, ⟨rfl, congrArg i64 ((congrArg (fun x : Nat => (x : Int)) (hmk.trans (show (mkN p k2).2 = _ from congrArg Prod.snd (mkN_eq p k2)))).trans (rfl))⟩, ⟨rfl, rfl⟩, trivial⟩ trivial⟩
  · have hk2 : i = a.length := Nat.le_antisymm hi (inf_ c hR)
    clear c
    conv => whnf
    subst hk2
    exact RetQ.mk ⟨rfl, rfl⟩ ⟨rfl, rfl⟩ ⟨iv (by rw [List.take_length]), trivial⟩
theorem heldNodeS : ∀ (n : SN), Bd n → ∀ k, 0 < k → (mkM mkN n.f1 k).2 ≤ 4611686018427387904 → CallOb T Tryz.prog 105 [.c (.sl eN (mkM mkN n.f1 k).1), .c (.sc (.int .i64 (k : Int)))] (.c (.sc (.int .i64 ((mkM mkN n.f1 k).2 : Int)))) := fun n hn k h0 hk =>
  heldNodeS_of n.f1 k hn.l1 (fun y hy => ⟨hn.kid y hy, heldNodeS y (hn.kid y hy)⟩) h0 hk
termination_by n => SizeOf.sizeOf n
decreasing_by exact lt_kid hy
theorem heldNode (n : SN) (k : Nat) (hn : Bd n) (h0 : 0 < k) (hk : (mkN n k).2 ≤ 4611686018427387904) : CallOb T Tryz.prog 24 [.ag [.sl 9 (mkN n k).1.f0, .sl eN (mkN n k).1.f1, .sl eS (mkN n k).1.f2], .c (.sc (.int .i64 (k : Int)))] (.c (.sc (.int .i64 ((mkN n k).2 : Int)))) := by
  rw [mkN_eq] at hk ⊢
  have g1 := mkM_ge mkN_ge n.f1 (k + 1 * n.f0.length)
  have g2 := mkM_ge mkSb_ge n.f2 (mkM mkN n.f1 (k + 1 * n.f0.length)).2
  have h1 := heldStringS n.f0.length k (Nat.le_trans hn.l0 (by decide)) h0 (Nat.le_trans (Nat.le_trans g1 g2) hk)
  have h2 := heldNodeS n hn (k + 1 * n.f0.length) (by omega) (Nat.le_trans g2 hk)
  have h3 := heldSubS n.f2 (mkM mkN n.f1 (k + 1 * n.f0.length)).2 hn.l2 (by omega) hk
  refine call_of_vc hT Tryz.func24 (by kernel_rfl) rfl rfl (fun A => ?_)
  conv => whnf
  refine CallQ.mk _ h1 ?_
  conv => whnf
  refine Split.mk (fun c => ng_ c) (fun c => ?_)
  clear c
  conv => whnf
  refine CallQ.mk _ h2 ?_
  conv => whnf
  refine Split.mk (fun c => ng_ c) (fun c => ?_)
  clear c
  conv => whnf
  refine CallQ.mk _ h3 ?_
  conv => whnf
  refine Split.mk (fun c => ng_ c) (fun c => ?_)
  clear c
  conv => whnf
  exact RetQ.mk ⟨rfl, rfl⟩ ⟨rfl, rfl⟩ ⟨rfl, trivial⟩
end Go.Proofs.YtcnfgfomholheaaGreatDoor.Q
end
section
/- Trees in plain Lean: NodeOk on both sides, all entries. Out of XV and XN. Printed by a program of this work (gen_tree4.py). -/
namespace Go.Proofs.YtcnfgfomholheaaGreatDoor.Q
open Go.RowKit Go.Proofs.YtcnfgfomholheaaGreatDoor.Z Go.Proofs.YtcnfgfomholheaaGreatDoor.X Go.Proofs.YtcnfgfomholheaaGreatDoor.Pure
set_option linter.unusedVariables false
set_option linter.unusedSimpArgs false
abbrev NI := SN
abbrev SI := SS
abbrev EI := SE
theorem accLo_ge (b : Nat) (h : Lib.firstT b % 8 = 2 ∨ Lib.firstT b % 8 = 3 ∨ Lib.firstT b % 8 = 4) : 128 ≤ Lib.accLo (Lib.firstT b / 16) := by
  unfold Lib.firstT at h ⊢
  unfold Lib.accLo
  repeat' split at h
  all_goals first | (exfalso; omega) | (simp [*]; done) | (simp [*]; omega)
theorem app_at (a b : List UInt8) (i : Nat) (h : i < a.length) : (a ++ 47 :: b).getD i 0 = a.getD i 0 := by
  rw [List.getD_eq_getElem?_getD, List.getD_eq_getElem?_getD, List.getElem?_append_left h]
theorem app_is (a b : List UInt8) (i : Nat) (h : i = a.length) : (a ++ 47 :: b).getD i 0 = 47 := by
  subst h
  rw [List.getD_eq_getElem?_getD, List.getElem?_append_right (Nat.le_refl _)]
  simp
theorem drop_app (a b : List UInt8) (k : Nat) (h : k ≤ a.length) : (a ++ 47 :: b).drop k = a.drop k ++ 47 :: b := List.drop_append_of_le_length h
/-- What the tables ask of the bytes behind a lead is met by none that is a stroke. -/
theorem check_cut (a b : List UInt8) (h0 : 0 < a.length) (sz lo hi k : Nat) (hlo : sz = 2 ∨ sz = 3 ∨ sz = 4 → 128 ≤ lo)
    (h : Lib.checkN (a ++ 47 :: b).length ((a ++ 47 :: b).getD 1 0).toNat ((a ++ 47 :: b).getD 2 0).toNat ((a ++ 47 :: b).getD 3 0).toNat sz lo hi = some k) :
    k ≤ a.length ∧ 1 ≤ k ∧ Lib.checkN a.length (a.getD 1 0).toNat (a.getD 2 0).toNat (a.getD 3 0).toNat sz lo hi = some k := by
  have e47 : (47 : UInt8).toNat = 47 := rfl
  have at1 : a.length = 1 → ((a ++ 47 :: b).getD 1 0).toNat = 47 := fun e => by rw [app_is a b 1 e.symm]; rfl
  have at2 : a.length = 2 → ((a ++ 47 :: b).getD 2 0).toNat = 47 := fun e => by rw [app_is a b 2 e.symm]; rfl
  have at3 : a.length = 3 → ((a ++ 47 :: b).getD 3 0).toNat = 47 := fun e => by rw [app_is a b 3 e.symm]; rfl
  have in1 : 1 < a.length → (a ++ 47 :: b).getD 1 0 = a.getD 1 0 := fun e => app_at a b 1 e
  have in2 : 2 < a.length → (a ++ 47 :: b).getD 2 0 = a.getD 2 0 := fun e => app_at a b 2 e
  have in3 : 3 < a.length → (a ++ 47 :: b).getD 3 0 = a.getD 3 0 := fun e => app_at a b 3 e
  unfold Lib.checkN at h ⊢
  by_cases c1 : sz = 2
  · have hlo := hlo (.inl c1)
    rw [if_pos c1] at h ⊢
    split at h
    · cases h
    · rename_i q
      obtain rfl : k = 2 := by injection h with h; exact h.symm
      have l1 : a.length ≠ 1 := fun e => by have := at1 e; omega
      have := in1 (by omega)
      rw [this] at q
      refine ⟨by omega, by omega, ?_⟩
      rw [if_neg (by omega)]
  rw [if_neg c1] at h ⊢
  by_cases c2 : sz = 3
  · have hlo := hlo (.inr (.inl c2))
    rw [if_pos c2] at h ⊢
    split at h
    · cases h
    · rename_i q
      obtain rfl : k = 3 := by injection h with h; exact h.symm
      have l1 : a.length ≠ 1 := fun e => by have := at1 e; omega
      have l2 : a.length ≠ 2 := fun e => by have := at2 e; omega
      have e1 := in1 (by omega)
      have e2 := in2 (by omega)
      rw [e1, e2] at q
      refine ⟨by omega, by omega, ?_⟩
      rw [if_neg (by omega)]
  rw [if_neg c2] at h ⊢
  by_cases c3 : sz = 4
  · have hlo := hlo (.inr (.inr c3))
    rw [if_pos c3] at h ⊢
    split at h
    · cases h
    · rename_i q
      obtain rfl : k = 4 := by injection h with h; exact h.symm
      have l1 : a.length ≠ 1 := fun e => by have := at1 e; omega
      have l2 : a.length ≠ 2 := fun e => by have := at2 e; omega
      have l3 : a.length ≠ 3 := fun e => by have := at3 e; omega
      have e1 := in1 (by omega)
      have e2 := in2 (by omega)
      have e3 := in3 (by omega)
      rw [e1, e2, e3] at q
      refine ⟨by omega, by omega, ?_⟩
      rw [if_neg (by omega)]
  · rw [if_neg c3] at h
    cases h
theorem valid_cut : ∀ (n : Nat) (a b : List UInt8), a.length ≤ n → Lib.validD (a ++ 47 :: b) = true → Lib.validD a = true ∧ Lib.validD b = true
  | n, [], b, _, h => ⟨rfl, by rw [← Lib.validD_cons 47 b (by decide)]; exact h⟩
  | 0, x :: t, b, hn, h => by simp at hn
  | n + 1, x :: t, b, hn, h => by
    have hn' : t.length ≤ n := by simpa using hn
    by_cases hx : x.toNat < 128
    · rw [List.cons_append, Lib.validD_cons x _ hx] at h
      rw [Lib.validD_cons x t hx]
      exact valid_cut n t b hn' h
    · have h128 : 128 ≤ (((x :: t) ++ 47 :: b).getD 0 0).toNat := by show 128 ≤ x.toNat; omega
      have h128' : 128 ≤ ((x :: t).getD 0 0).toNat := by show 128 ≤ x.toNat; omega
      have hg : ((x :: t) ++ 47 :: b).getD 0 0 = (x :: t).getD 0 0 := rfl
      rw [Lib.validD_lead _ (by simp) h128, hg] at h
      split at h
      · cases h
      · rename_i k hk
        obtain ⟨hk1, hk2, hk3⟩ := check_cut (x :: t) b (by simp) _ _ _ k (accLo_ge _) hk
        rw [drop_app _ _ _ hk1] at h
        have hl : ((x :: t).drop k).length ≤ n := by rw [List.length_drop, List.length_cons]; omega
        obtain ⟨i1, i2⟩ := valid_cut n ((x :: t).drop k) b hl h
        refine ⟨?_, i2⟩
        rw [Lib.validD_lead _ (by simp) h128', hk3]
        exact i1
theorem dec_zero (n b0 b1 b2 b3 : Nat) : (Lib.decodeN n b0 b1 b2 b3).1 = 0 ↔ b0 = 0 := by
  unfold Lib.decodeN
  repeat' split
  all_goals first | (simp only []; omega) | (constructor <;> intro h <;> first | omega | (simp at h; omega))
theorem dec_tail (n b0 b1 b2 b3 : Nat) : 1 ≤ (Lib.decodeN n b0 b1 b2 b3).2 ∧ (Lib.decodeN n b0 b1 b2 b3).2 ≤ 4 ∧ (2 ≤ (Lib.decodeN n b0 b1 b2 b3).2 → 128 ≤ b1) ∧ (3 ≤ (Lib.decodeN n b0 b1 b2 b3).2 → 128 ≤ b2) ∧ (4 ≤ (Lib.decodeN n b0 b1 b2 b3).2 → 128 ≤ b3) := by
  unfold Lib.decodeN
  repeat' split
  all_goals (refine ⟨?_, ?_, ?_, ?_, ?_⟩ <;> simp only [] <;> omega)
theorem noZero_iff (s : ByteArray) : ∀ (b pos : Nat), s.size ≤ pos + b → (noZero s b pos = true ↔ ∀ j, pos ≤ j → j < s.size → (s.get! j).toNat ≠ 0)
  | 0, pos, h => by
    constructor
    · intro _ j h1 h2
      omega
    · intro _
      rfl
  | b + 1, pos, h => by
    unfold noZero
    by_cases hp : pos < s.size
    · rw [if_pos hp]
      have e := Lib.decode_at s pos
      have hz := dec_zero (s.size - pos) (s.get! pos).toNat (s.get! (pos + 1)).toNat (s.get! (pos + 2)).toNat (s.get! (pos + 3)).toNat
      obtain ⟨w1, w4, t1, t2, t3⟩ := dec_tail (s.size - pos) (s.get! pos).toNat (s.get! (pos + 1)).toNat (s.get! (pos + 2)).toNat (s.get! (pos + 3)).toNat
      rw [← e] at hz w1 w4 t1 t2 t3
      by_cases h0 : (Utf8.decode s pos).1 = 0
      · rw [if_pos h0]
        constructor
        · intro q
          cases q
        · intro q
          exact absurd (hz.1 h0) (q pos (Nat.le_refl _) hp)
      · rw [if_neg h0, noZero_iff s b _ (by omega)]
        constructor
        · intro q j h1 h2
          by_cases hj : pos + (Utf8.decode s pos).2 ≤ j
          · exact q j hj h2
          · have : j = pos ∨ j = pos + 1 ∨ j = pos + 2 ∨ j = pos + 3 := by omega
            rcases this with rfl | rfl | rfl | rfl
            · exact fun hh => h0 (hz.2 hh)
            · have := t1 (by omega); omega
            · have := t2 (by omega); omega
            · have := t3 (by omega); omega
        · intro q j h1 h2
          exact q j (by omega) h2
    · rw [if_neg hp]
      constructor
      · intro _ j h1 h2
        omega
      · intro _
        rfl
theorem tail_cons (y : List UInt8) (r : List (List UInt8)) : Lib.joinTail [47] (y :: r) = 47 :: (y ++ Lib.joinTail [47] r) := by simp [Lib.joinTail]
theorem join_valid : ∀ (t : List (List UInt8)) (x : List UInt8), Lib.validD (x ++ Lib.joinTail [47] t) = true → ∀ y ∈ x :: t, Lib.validD y = true
  | [], x, h, y, hy => by
    have : y = x := by simpa using hy
    subst this
    simpa [Lib.joinTail] using h
  | z :: t, x, h, y, hy => by
    rw [tail_cons] at h
    obtain ⟨h1, h2⟩ := valid_cut _ x _ (Nat.le_refl _) h
    rcases List.mem_cons.1 hy with rfl | hy
    · exact h1
    · exact join_valid t z h2 y hy
theorem join_mem : ∀ (t : List (List UInt8)) (x : List UInt8) (b : UInt8), ∀ y ∈ x :: t, b ∈ y → b ∈ x ++ Lib.joinTail [47] t
  | [], x, b, y, hy, hb => by
    have : y = x := by simpa using hy
    subst this
    simp [hb]
  | z :: t, x, b, y, hy, hb => by
    rw [tail_cons]
    rcases List.mem_cons.1 hy with rfl | hy
    · simp [hb]
    · have := join_mem t z b y hy hb
      simp only [List.mem_append, List.mem_cons] at this ⊢
      exact .inr (.inr this)
theorem join_size : ∀ (t : List (List UInt8)) (x : List UInt8), ∀ y ∈ x :: t, y.length ≤ (x ++ Lib.joinTail [47] t).length
  | [], x, y, hy => by
    have : y = x := by simpa using hy
    subst this
    simp
  | z :: t, x, y, hy => by
    rw [tail_cons]
    rcases List.mem_cons.1 hy with rfl | hy
    · simp
    · have := join_size t z y hy
      simp only [List.length_append, List.length_cons] at this ⊢
      omega
theorem cut_at : ∀ (a b : List UInt8), (47 : UInt8) ∉ a → cutL (a ++ 47 :: b) = a :: cutL b
  | [], b, _ => by
    show cutL (47 :: b) = _
    rw [cutL, if_pos rfl]
  | c :: a, b, h => by
    have ih := cut_at a b (fun m => h (List.mem_cons_of_mem _ m))
    show cutL (c :: (a ++ 47 :: b)) = _
    rw [cutL, if_neg (fun q => h (by rw [q]; exact List.mem_cons_self)), ih]
theorem cut_join : ∀ (t : List (List UInt8)) (x : List UInt8), (∀ y ∈ x :: t, (47 : UInt8) ∉ y) → cutL (x ++ Lib.joinTail [47] t) = x :: t
  | [], x, h => by
    have e : x ++ Lib.joinTail [47] [] = x := by simp [Lib.joinTail]
    rw [e]
    exact cutL_one x (h x List.mem_cons_self)
  | z :: t, x, h => by
    rw [tail_cons, cut_at x _ (h x List.mem_cons_self), cut_join t z (fun y hy => h y (List.mem_cons_of_mem _ hy))]
theorem textOk_iff (s : ByteArray) : textOkP s = true ↔ (0 : UInt8) ∉ dl s ∧ Lib.validD (dl s) = true ∧ s.size ≤ 60 := by
  unfold textOkP
  rw [Bool.and_eq_true, Bool.and_eq_true, decide_eq_true_eq, noZero_iff s s.size 0 (by omega)]
  have e : (∀ j, 0 ≤ j → j < s.size → (s.get! j).toNat ≠ 0) ↔ (0 : UInt8) ∉ dl s := by
    have g : ∀ (j : Nat) (h : j < (dl s).length), s.get! j = (dl s)[j] := by
      intro j h
      have h2 : j < s.data.size := by rw [dl_len] at h; exact h
      show s.data[j]! = _
      rw [getElem!_pos s.data j h2]
      rfl
    constructor
    · intro h m
      obtain ⟨j, hj, e⟩ := List.mem_iff_getElem.1 m
      refine h j (Nat.zero_le _) (by rw [dl_len] at hj; exact hj) ?_
      rw [g j hj, e]
      rfl
    · intro h j _ hj hz
      have hj' : j < (dl s).length := by rw [dl_len]; exact hj
      rw [g j hj'] at hz
      refine h ?_
      have : (dl s)[j] = 0 := UInt8.toNat_inj.1 hz
      rw [← this]
      exact List.getElem_mem hj'
  rw [e]
/-- Levels that lead somewhere, told as one text. -/
def joinB (p : List ByteArray) : ByteArray := ⟨(Lib.join (p.map dl) [47]).toArray⟩
theorem dl_joinB (p : List ByteArray) : dl (joinB p) = Lib.join (p.map dl) [47] := rfl
theorem joinB_size (p : List ByteArray) : (joinB p).size = (Lib.join (p.map dl) [47]).length := by rw [← dl_len, dl_joinB]
/-- The parts of a text that is right are right. -/
theorem textOk_parts (p : List ByteArray) (h : textOkP (joinB p) = true) : ∀ x ∈ p, textOkP x = true := by
  intro x hx
  obtain ⟨h1, h2, h3⟩ := (textOk_iff _).1 h
  cases p with
  | nil => cases hx
  | cons y t =>
    rw [dl_joinB, List.map_cons, Lib.join_cons] at h1 h2
    rw [joinB_size, List.map_cons, Lib.join_cons] at h3
    have hm : dl x ∈ dl y :: t.map dl := by rw [← List.map_cons]; exact List.mem_map_of_mem hx
    refine (textOk_iff x).2 ⟨fun m => h1 (join_mem _ _ 0 _ hm m), join_valid _ _ h2 _ hm, ?_⟩
    have := join_size (t.map dl) (dl y) _ hm
    rw [dl_len] at this
    omega
/-- Its levels are the parts. -/
theorem cut_joinB (p : List ByteArray) (hp : p ≠ []) (h : ∀ x ∈ p, (47 : UInt8) ∉ dl x) : cutL (dl (joinB p)) = p.map dl := by
  cases p with
  | nil => exact absurd rfl hp
  | cons y t =>
    rw [dl_joinB, List.map_cons, Lib.join_cons]
    refine cut_join _ _ (fun z hz => ?_)
    rw [← List.map_cons] at hz
    obtain ⟨x, hx, rfl⟩ := List.mem_map.1 hz
    exact h x hx
theorem joinB_one (x : ByteArray) : joinB [x] = x := by
  refine Go.WideShapes.bytes_inj ?_
  show dl (joinB [x]) = dl x
  rw [dl_joinB]
  exact Lib.join_one _ _
theorem joinB_snoc (p : List ByteArray) (hp : p ≠ []) (x : ByteArray) : joinB (p ++ [x]) = (joinB p ++ (⟨#[47]⟩ : ByteArray)) ++ x := by
  refine Go.WideShapes.bytes_inj ?_
  show dl (joinB (p ++ [x])) = dl ((joinB p ++ (⟨#[47]⟩ : ByteArray)) ++ x)
  have ap : ∀ a b : ByteArray, dl (a ++ b) = dl a ++ dl b := fun a b => by
    unfold dl
    rw [ByteArray.data_append, Array.toList_append]
  rw [ap, ap, dl_joinB, dl_joinB]
  cases p with
  | nil => exact absurd rfl hp
  | cons y t =>
    rw [List.cons_append, List.map_cons, List.map_append, Lib.join_cons, show (y :: t).map dl = dl y :: t.map dl from rfl, Lib.join_cons]
    have e : ∀ l : List (List UInt8), Lib.joinTail [47] (l ++ [dl x]) = Lib.joinTail [47] l ++ [47] ++ dl x := fun l => by simp [Lib.joinTail]
    show dl y ++ Lib.joinTail [47] (t.map dl ++ [dl x]) = _
    rw [e]
    simp [List.append_assoc]
    rfl
theorem joinB_le (m : Nat) : ∀ (p : List ByteArray), (∀ x ∈ p, x.size ≤ m) → (joinB p).size ≤ p.length * (m + 1) := by
  intro p h
  rw [joinB_size]
  cases p with
  | nil => simp [Lib.join_nil]
  | cons y t =>
    have aux : ∀ (t : List ByteArray), (∀ x ∈ t, x.size ≤ m) → (Lib.joinTail [47] (t.map dl)).length ≤ t.length * (m + 1) := by
      intro t
      induction t with
      | nil => intro _; simp [Lib.joinTail]
      | cons z t ih =>
        intro h
        have h1 := h z List.mem_cons_self
        have h2 := ih (fun x hx => h x (List.mem_cons_of_mem _ hx))
        rw [List.map_cons, tail_cons, List.length_cons, List.length_append, dl_len, List.length_cons, Nat.succ_mul]
        omega
    have h1 := h y List.mem_cons_self
    have h2 := aux t (fun x hx => h x (List.mem_cons_of_mem _ hx))
    rw [List.map_cons, Lib.join_cons, List.length_append, dl_len, List.length_cons, Nat.succ_mul]
    omega
mutual
def cnt : NI → Nat
  | ⟨a, b, c⟩ => a.length + c.length + cntL b
def cntL : List NI → Nat
  | [] => 0
  | k :: r => cnt k + cntL r
end
theorem cnt_eq (n : NI) : cnt n = n.f0.length + n.f2.length + cntL n.f1 := by cases n; rw [cnt]
def nameP (s : ByteArray) : Bool := textOkP s && !(dl s).isEmpty
def okSub (x : SI) : Bool := nameP x.f0 && ((decide (0 ≤ x.f1) && decide (x.f1 ≤ 2)) && decide (x.f2 ≥ 0))
def levelS (x : ByteArray) : Bool := (filterL x && !(dl x).contains 47) || (dl x).isEmpty
def riseP : Option ByteArray → ByteArray → Bool
  | none, _ => true
  | some y, x => Op.bytesLess y.toList x.toList
def subsF : Option ByteArray → List SI → Bool
  | _, [] => true
  | y, s :: r => okSub s && (riseP y s.f0 && subsF (some s.f0) r)
def subsL (l : List SI) : Bool := subsF none l
def hashP (x : ByteArray) : Bool := decide (x.toList = ([35] : List UInt8))
mutual
def okS : Nat → NI → Bool
  | d, ⟨ns, ks, ss⟩ => decide (ns.length = ks.length) && (!(decide (0 < ns.length) && decide (d = 6)) && (subsL ss && okSL d ns none ks))
def okSL : Nat → List ByteArray → Option ByteArray → List NI → Bool
  | d, x :: r, p, k :: q => levelS x && (riseP p x && (!(decide (k.f0.length = 0) && decide (k.f2.length = 0)) && (!(hashP x && !decide (k.f0.length = 0)) && (okS (d + 1) k && okSL d r (some x) q))))
  | _, _, _, _ => true
end
theorem okS_eq (d : Nat) (n : NI) : okS d n = (decide (n.f0.length = n.f1.length) && (!(decide (0 < n.f0.length) && decide (d = 6)) && (subsL n.f2 && okSL d n.f0 none n.f1))) := by
  cases n; rw [okS]
mutual
def txS : Nat → ByteArray → NI → Bool
  | d, a, ⟨ns, ks, ss⟩ => !(decide (0 < d) && (decide (0 < ss.length) && !filterL a)) && txSL d a ns ks
def txSL : Nat → ByteArray → List ByteArray → List NI → Bool
  | d, a, x :: r, k :: q => txS (d + 1) (if 0 < d then (a ++ (⟨#[47]⟩ : ByteArray)) ++ x else x) k && txSL d a r q
  | _, _, _, _ => true
end
theorem txS_eq (d : Nat) (a : ByteArray) (n : NI) : txS d a n = (!(decide (0 < d) && (decide (0 < n.f2.length) && !filterL a)) && txSL d a n.f0 n.f1) := by
  cases n; rw [txS]
theorem emp_dl (s : ByteArray) : (s.toList == ([] : List UInt8)) = (dl s).isEmpty := by
  rw [Bool.eq_iff_iff, beq_iff_eq]
  exact ne_dl s
def wayP (x : ByteArray) (k : NI) : Bool := decide ((cutL (dl x)).length ≤ 1) && levelL (dl x) (decide (k.f1.length = 0))
mutual
def okI : List ByteArray → NI → Bool
  | p, ⟨ns, ks, ss⟩ => decide (ns.length = ks.length) && (decide (p.length ≤ 6) && (subsL ss && ((decide (ss.length = 0) || filterL (joinB p)) && okIL p ns none ks)))
def okIL : List ByteArray → List ByteArray → Option ByteArray → List NI → Bool
  | p, x :: r, y, k :: q => riseP y x && (wayP x k && (!(decide (k.f1.length = 0) && decide (k.f2.length = 0)) && (okI (p ++ [x]) k && okIL p r (some x) q)))
  | _, _, _, _ => true
end
theorem okI_eq (p : List ByteArray) (n : NI) : okI p n = (decide (n.f0.length = n.f1.length) && (decide (p.length ≤ 6) && (subsL n.f2 && ((decide (n.f2.length = 0) || filterL (joinB p)) && okIL p n.f0 none n.f1)))) := by
  cases n; rw [okI]
theorem okSL_mem (d : Nat) : ∀ (ns : List ByteArray) (pr : Option ByteArray) (ks : List NI), ns.length = ks.length → okSL d ns pr ks = true → ∀ k ∈ ks, okS (d + 1) k = true
  | [], pr, [], _, _, k, hk => by cases hk
  | [], pr, _ :: _, e, _, k, hk => by simp at e
  | _ :: _, pr, [], e, _, k, hk => by cases hk
  | x :: r, pr, y :: q, e, h, k, hk => by
    rw [okSL] at h
    simp only [Bool.and_eq_true] at h
    obtain ⟨_, _, _, _, h1, h2⟩ := h
    rcases List.mem_cons.1 hk with rfl | hk
    · exact h1
    · exact okSL_mem d r (some x) q (by simpa using e) h2 k hk
theorem okS_parts {d : Nat} {n : NI} (h : okS d n = true) : n.f0.length = n.f1.length ∧ (0 < n.f0.length → d ≠ 6) ∧ subsL n.f2 = true ∧ okSL d n.f0 none n.f1 = true := by
  rw [okS_eq] at h
  simp only [Bool.and_eq_true, decide_eq_true_eq, Bool.not_eq_true', Bool.and_eq_false_iff, decide_eq_false_iff_not] at h
  obtain ⟨h1, h2, h3, h4⟩ := h
  exact ⟨h1, fun q => by rcases h2 with h2 | h2 <;> omega, h3, h4⟩
theorem okI_parts {p : List ByteArray} {n : NI} : okI p n = true ↔ n.f0.length = n.f1.length ∧ p.length ≤ 6 ∧ subsL n.f2 = true ∧ (n.f2.length = 0 ∨ filterL (joinB p) = true) ∧ okIL p n.f0 none n.f1 = true := by
  rw [okI_eq]
  simp only [Bool.and_eq_true, decide_eq_true_eq, Bool.or_eq_true]
theorem none_both (a b : Nat) : ((!(decide (a = 0) && decide (b = 0))) = true) ↔ (a ≠ 0 ∨ b ≠ 0) := by
  by_cases h : a = 0 <;> by_cases k : b = 0 <;> simp [h, k]
theorem none_last (c : Bool) (a : Nat) : ((!(c && !decide (a = 0))) = true) ↔ (c = false ∨ a = 0) := by
  cases c <;> by_cases h : a = 0 <;> simp [h]
theorem okIL_cons {p : List ByteArray} {x : ByteArray} {r : List ByteArray} {y : Option ByteArray} {k : NI} {q : List NI} : okIL p (x :: r) y (k :: q) = true ↔ riseP y x = true ∧ wayP x k = true ∧ (k.f1.length ≠ 0 ∨ k.f2.length ≠ 0) ∧ okI (p ++ [x]) k = true ∧ okIL p r (some x) q = true := by
  rw [okIL, Bool.and_eq_true, Bool.and_eq_true, Bool.and_eq_true, Bool.and_eq_true, none_both]
theorem okSL_cons {d : Nat} {x : ByteArray} {r : List ByteArray} {y : Option ByteArray} {k : NI} {q : List NI} : okSL d (x :: r) y (k :: q) = true ↔ levelS x = true ∧ riseP y x = true ∧ (k.f0.length ≠ 0 ∨ k.f2.length ≠ 0) ∧ (hashP x = false ∨ k.f0.length = 0) ∧ okS (d + 1) k = true ∧ okSL d r (some x) q = true := by
  rw [okSL, Bool.and_eq_true, Bool.and_eq_true, Bool.and_eq_true, Bool.and_eq_true, Bool.and_eq_true, none_both, none_last]
/-- Where a tree is right and not empty, some text that is right begins with the levels that lead there. -/
theorem okI_ne {n : NI} (hn : Bd n) : ∀ p : List ByteArray, okI p n = true → (n.f1.length ≠ 0 ∨ n.f2.length ≠ 0) → ∃ ext, filterL (joinB (p ++ ext)) = true := by
  induction hn with
  | mk n h0 z0 h1 h2 z2 hk ih =>
    intro p h hne
    obtain ⟨e1, e2, e3, e4, e5⟩ := okI_parts.1 h
    by_cases c : n.f2.length = 0
    · have c1 : n.f1.length ≠ 0 := by omega
      cases hk0 : n.f1 with
      | nil => rw [hk0] at c1; simp at c1
      | cons k q =>
        cases hx0 : n.f0 with
        | nil => rw [hx0, hk0] at e1; simp at e1
        | cons x r =>
          rw [hx0, hk0] at e5
          obtain ⟨_, _, f1, f2, _⟩ := okIL_cons.1 e5
          obtain ⟨ext, he⟩ := ih k (by rw [hk0]; exact List.mem_cons_self) (p ++ [x]) f2 f1
          exact ⟨x :: ext, by rw [List.append_assoc] at he; exact he⟩
    · refine ⟨[], ?_⟩
      rw [List.append_nil]
      rcases e4 with e4 | e4
      · exact absurd e4 c
      · exact e4
theorem allL_one (l : List UInt8) : allL [l] = levelL l true := by
  rw [allL, allL, Bool.and_true]
  rfl
theorem cut_le_one (l : List UInt8) : (cutL l).length ≤ 1 ↔ (47 : UInt8) ∉ l := by
  constructor
  · intro h
    obtain ⟨a, r, e⟩ := cutL_ex l
    rw [e, List.length_cons] at h
    have : r = [] := List.length_eq_zero_iff.1 (by omega)
    subst this
    have e2 := join_cut l
    rw [e, Lib.join_one] at e2
    rw [← e2]
    exact cutL_no l a (by rw [e]; exact List.mem_cons_self)
  · intro h
    rw [cutL_one l h]
    exact Nat.le_refl _
theorem levelL_up {l : List UInt8} {b : Bool} (h : levelL l b = true) : levelL l true = true := by
  unfold levelL at h ⊢
  cases b
  · simp only [Bool.and_false, Bool.or_false] at h
    rw [h, Bool.true_or]
  · exact h
theorem filter_one {x : ByteArray} (h : (47 : UInt8) ∉ dl x) : filterL x = (levelL (dl x) true && textOkP x && !(dl x).isEmpty) := by
  unfold filterL
  rw [cutL_one _ h, allL_one]
  simp
theorem hash_dl (x : ByteArray) : hashP x = true ↔ dl x = [35] := by
  unfold hashP
  rw [decide_eq_true_eq, Lib.toList_data]
theorem level_hash {b : Bool} (h : levelL [35] b = true) : b = true := by
  cases b
  · exact absurd h (by decide)
  · rfl
theorem level_same {l : List UInt8} (h : l ≠ [35]) (a b : Bool) : levelL l a = levelL l b := by
  unfold levelL
  have : (l == [35]) = false := beq_eq_false_iff_ne.2 h
  rw [this, Bool.false_and, Bool.false_and]
/-- A name that leads on: told by either side. -/
theorem way_level {p : List ByteArray} {x : ByteArray} {k : NI} (hb : Bd k) (he : k.f0.length = k.f1.length) (ht : textOkP x = true) : wayP x k = true ↔ levelS x = true ∧ (hashP x = false ∨ k.f0.length = 0) := by
  unfold wayP levelS
  rw [Bool.and_eq_true, decide_eq_true_eq, cut_le_one]
  constructor
  · rintro ⟨h1, h2⟩
    refine ⟨?_, ?_⟩
    · rw [filter_one h1, levelL_up h2, ht]
      have : (dl x).contains 47 = false := by
        rw [Bool.eq_false_iff]
        intro m
        exact h1 (List.contains_iff_mem.1 m)
      rw [this]
      cases (dl x).isEmpty <;> rfl
    · by_cases q : hashP x = true
      · right
        rw [(hash_dl x).1 q] at h2
        have := level_hash h2
        rw [decide_eq_true_eq] at this
        omega
      · exact .inl (Bool.eq_false_iff.2 q)
  · rintro ⟨h1, h2⟩
    rw [Bool.or_eq_true] at h1
    rcases h1 with h1 | h1
    · rw [Bool.and_eq_true, Bool.not_eq_true'] at h1
      obtain ⟨f1, f2⟩ := h1
      have n47 : (47 : UInt8) ∉ dl x := fun m => by
        rw [List.contains_iff_mem.2 m] at f2
        cases f2
      refine ⟨n47, ?_⟩
      rw [filter_one n47, Bool.and_eq_true, Bool.and_eq_true] at f1
      by_cases q : dl x = [35]
      · rcases h2 with h2 | h2
        · rw [(hash_dl x).2 q] at h2; cases h2
        · rw [show decide (k.f1.length = 0) = true from decide_eq_true (by omega)]
          exact f1.1.1
      · rw [level_same q _ true]
        exact f1.1.1
    · rw [List.isEmpty_iff] at h1
      rw [h1]
      refine ⟨by simp, ?_⟩
      rfl
theorem levelS_text {x : ByteArray} (h : levelS x = true) : textOkP x = true := by
  unfold levelS at h
  rw [Bool.or_eq_true] at h
  rcases h with h | h
  · rw [Bool.and_eq_true] at h
    have h := h.1
    unfold filterL at h
    rw [Bool.and_eq_true, Bool.and_eq_true, Bool.and_eq_true] at h
    exact h.1.1.2
  · rw [List.isEmpty_iff] at h
    refine (textOk_iff x).2 ⟨by rw [h]; simp, by rw [h]; rfl, ?_⟩
    have : (dl x).length = 0 := by rw [h]; rfl
    rw [dl_len] at this
    omega
theorem filter_text {s : ByteArray} (h : filterL s = true) : textOkP s = true := by
  unfold filterL at h
  rw [Bool.and_eq_true, Bool.and_eq_true, Bool.and_eq_true] at h
  exact h.1.1.2
theorem join_next (p : List ByteArray) (d : Nat) (hp : p.length = d) (x : ByteArray) : (if 0 < d then (joinB p ++ (⟨#[47]⟩ : ByteArray)) ++ x else x) = joinB (p ++ [x]) := by
  cases p with
  | nil =>
    rw [if_neg (by simp at hp; omega)]
    exact (joinB_one x).symm
  | cons y t =>
    rw [if_pos (by simp at hp; omega), joinB_snoc _ (by simp)]
theorem both_l (p : List ByteArray) (d : Nat) (hp : p.length = d) (hd : d < 6) : ∀ (ns : List ByteArray) (ks : List NI) (y : Option ByteArray), ns.length = ks.length → (∀ k ∈ ks, Bd k) →
    (∀ k ∈ ks, ∀ x : ByteArray, (okI (p ++ [x]) k = true ↔ okS (d + 1) k = true ∧ txS (d + 1) (joinB (p ++ [x])) k = true)) →
    (okIL p ns y ks = true ↔ okSL d ns y ks = true ∧ txSL d (joinB p) ns ks = true)
  | [], [], y, _, _, _ => by
    rw [okIL, okSL, txSL]
    · simp
    all_goals (intro x1 x2 x3 x4 e; cases e)
  | [], _ :: _, y, e, _, _ => by simp at e
  | _ :: _, [], y, e, _, _ => by simp at e
  | x :: r, k :: q, y, e, hb, ih => by
    have ih2 := both_l p d hp hd r q (some x) (by simpa using e) (fun k hk => hb k (List.mem_cons_of_mem _ hk)) (fun k hk => ih k (List.mem_cons_of_mem _ hk))
    have hk := hb k List.mem_cons_self
    have ihk := ih k List.mem_cons_self x
    rw [okIL_cons, okSL_cons, txSL, Bool.and_eq_true, join_next p d hp x, ih2]
    constructor
    · rintro ⟨a1, a2, a3, a4, a5, a6⟩
      obtain ⟨b1, b2⟩ := ihk.1 a4
      obtain ⟨e1, _, _, _⟩ := okS_parts b1
      obtain ⟨ext, he⟩ := okI_ne hk (p ++ [x]) a4 a3
      have ht : textOkP x = true := textOk_parts _ (filter_text he) x (by simp)
      obtain ⟨c1, c2⟩ := (way_level (p := p) hk e1 ht).1 a2
      exact ⟨⟨c1, a1, by omega, c2, b1, a5⟩, b2, a6⟩
    · rintro ⟨⟨c1, a1, a3, c2, b1, a5⟩, b2, a6⟩
      obtain ⟨e1, _, _, _⟩ := okS_parts b1
      exact ⟨a1, (way_level (p := p) hk e1 (levelS_text c1)).2 ⟨c1, c2⟩, by omega, ihk.2 ⟨b1, b2⟩, a5, a6⟩
theorem tree_both {n : NI} (hn : Bd n) : ∀ (p : List ByteArray) (d : Nat), p.length = d → d ≤ 6 → (d = 0 → n.f2.length = 0) → (okI p n = true ↔ okS d n = true ∧ txS d (joinB p) n = true) := by
  induction hn with
  | mk n h0 z0 h1 h2 z2 hk ih =>
    intro p d hp hd h00
    have ihk : d < 6 → ∀ k ∈ n.f1, ∀ x : ByteArray, (okI (p ++ [x]) k = true ↔ okS (d + 1) k = true ∧ txS (d + 1) (joinB (p ++ [x])) k = true) := fun hd2 k hk2 x =>
      ih k hk2 (p ++ [x]) (d + 1) (by simp only [List.length_append, List.length_cons, List.length_nil]; omega) (by omega) (fun z => by omega)
    have tx : txS d (joinB p) n = true ↔ (n.f2.length = 0 ∨ filterL (joinB p) = true) ∧ txSL d (joinB p) n.f0 n.f1 = true := by
      rw [txS_eq, Bool.and_eq_true]
      simp only [Bool.not_eq_true', Bool.and_eq_false_iff, decide_eq_false_iff_not, Bool.not_eq_false']
      constructor
      · rintro ⟨a, b⟩
        refine ⟨?_, b⟩
        rcases a with a | a | a
        · exact .inl (h00 (by omega))
        · exact .inl (by omega)
        · exact .inr a
      · rintro ⟨a, b⟩
        refine ⟨?_, b⟩
        rcases a with a | a
        · exact .inr (.inl (by omega))
        · exact .inr (.inr a)
    rw [okI_parts, tx]
    constructor
    · rintro ⟨e1, e2, e3, e4, e5⟩
      by_cases c : n.f0.length = 0
      · have c0 : n.f0 = [] := List.length_eq_zero_iff.1 c
        have c1 : n.f1 = [] := List.length_eq_zero_iff.1 (by omega)
        refine ⟨?_, e4, ?_⟩
        · rw [okS_eq, e3, c0, c1]
          rw [okSL]
          · simp
          · intro x1 x2 x3 x4 e; cases e
        · rw [c0, c1, txSL]
          intro x1 x2 x3 x4 e; cases e
      · have hd2 : d < 6 := by
          cases hx0 : n.f0 with
          | nil => rw [hx0] at c; simp at c
          | cons x r =>
            cases hk0 : n.f1 with
            | nil => rw [hx0, hk0] at e1; simp at e1
            | cons k q =>
              rw [hx0, hk0] at e5
              obtain ⟨_, _, _, f2, _⟩ := okIL_cons.1 e5
              obtain ⟨_, g2, _⟩ := okI_parts.1 f2
              simp only [List.length_append, List.length_cons, List.length_nil] at g2
              omega
        obtain ⟨a, b⟩ := (both_l p d hp hd2 n.f0 n.f1 none e1 hk (ihk hd2)).1 e5
        refine ⟨?_, e4, b⟩
        rw [okS_eq, e3, a, decide_eq_true e1, show decide (d = 6) = false from decide_eq_false (by omega), Bool.and_false]
        rfl
    · rintro ⟨h, e4, b⟩
      obtain ⟨e1, e2, e3, a⟩ := okS_parts h
      refine ⟨e1, by omega, e3, e4, ?_⟩
      by_cases c : n.f0.length = 0
      · have c0 : n.f0 = [] := List.length_eq_zero_iff.1 c
        rw [c0, okIL]
        intro x1 x2 x3 x4 e; cases e
      · have hd2 : d < 6 := by have := e2 (by omega); omega
        exact (both_l p d hp hd2 n.f0 n.f1 none e1 hk (ihk hd2)).2 ⟨a, b⟩
/-- The two sides of NodeOk answer alike. -/
def nodeP (n : NI) : Bool := decide (n.f2.length = 0) && okI [] n
mutual
def entL : List ByteArray → NI → List EI
  | p, ⟨ns, ks, ss⟩ => ss.map (fun s => ⟨joinB p, s.f0, s.f1, s.f2⟩) ++ entLL p ns ks
def entLL : List ByteArray → List ByteArray → List NI → List EI
  | p, x :: r, k :: q => entL (p ++ [x]) k ++ entLL p r q
  | _, [], _ => []
  | _, _ :: _, [] => []
end
theorem entL_eq (p : List ByteArray) (n : NI) : entL p n = n.f2.map (fun s => ⟨joinB p, s.f0, s.f1, s.f2⟩) ++ entLL p n.f0 n.f1 := by cases n; rw [entL]
mutual
theorem entL_le : ∀ (p : List ByteArray) (n : NI), (entL p n).length ≤ cnt n
  | p, ⟨ns, ks, ss⟩ => by
    rw [entL, cnt, List.length_append, List.length_map]
    have := entLL_le p ns ks
    omega
theorem entLL_le : ∀ (p : List ByteArray) (ns : List ByteArray) (ks : List NI), (entLL p ns ks).length ≤ cntL ks
  | p, x :: r, k :: q => by
    rw [entLL, cntL, List.length_append]
    have := entL_le (p ++ [x]) k
    have := entLL_le p r q
    omega
  | _, [], _ => by rw [entLL]; exact Nat.zero_le _
  | _, _ :: _, [] => by rw [entLL]; exact Nat.zero_le _
end
theorem joinB_small (p : List ByteArray) (hp : p.length ≤ 7) (hz : ∀ x ∈ p, x.size ≤ 1048576) : (joinB p).size ≤ 1073741824 := by
  have h3 := joinB_le 1048576 p hz
  have h4 : p.length * (1048576 + 1) ≤ 7 * (1048576 + 1) := Nat.mul_le_mul_right _ hp
  omega
def entsL (n : NI) : List EI := if nodeP n = true then entL [] n else []
theorem entsL_le (n : NI) : (entsL n).length ≤ cnt n := by
  unfold entsL
  split
  · exact entL_le [] n
  · exact Nat.zero_le _
end Go.Proofs.YtcnfgfomholheaaGreatDoor.Q
end
section
/- Texts, levels, topics and filters: the printed contracts in the form of the path calculus. -/
namespace Go.Proofs.YtcnfgfomholheaaGreatDoor.Q
open Go.RowKit Go.Proofs.YtcnfgfomholheaaGreatDoor.Z
set_option linter.unusedVariables false
theorem enc9_get {r : List (T.Tb 9)} {j : Nat} {l : List V} (h : (r.map (T.enc 9))[j]? = some l) : ∃ s : ByteArray, r[j]? = some s ∧ l = [.sc (.string s)] := by
  rw [List.getElem?_map] at h
  obtain ⟨s, hs, rfl⟩ := Option.map_eq_some_iff.1 h
  exact ⟨s, hs, rfl⟩
theorem enc9_at {r : List (T.Tb 9)} {j : Nat} {s : ByteArray} (h : r[j]? = some s) : (r.map (T.enc 9))[j]? = some [.sc (.string s)] := by
  rw [List.getElem?_map, h]; rfl
open Go.Proofs.YtcnfgfomholheaaGreatDoorW.PrintWords in
theorem ow_str {w : World} {base : Nat} {v : Value} {r : List (T.Tb 9)} (h : Kd.R Kd.string 9 w base (fun _ => True) v r) : Ow T.sz w (fun k => base ≤ k ∧ k < w.heap.size) (.sl 9 (r.map (T.enc 9))) v := by
  obtain ⟨_, inner, ho, hr⟩ := h
  have hone : ∀ (j : Nat) (s : ByteArray), r[j]? = some s → inner[j]? = some (.string s) := fun j s hj => by
    have h2 : (inner.drop (j * 1)).take 1 = [.string s] := hr.2 j s hj
    have h3 : ((inner.drop (j * 1)).take 1)[0]? = some (.string s) := by rw [h2]; rfl
    rw [List.getElem?_take_of_lt (by decide), List.getElem?_drop] at h3
    simpa using h3
  have hlen : (r.map (T.enc 9)).length = r.length := List.length_map ..
  have hget : ∀ {j : Nat} {l : List V}, (r.map (T.enc 9))[j]? = some l → ∃ s : ByteArray, r[j]? = some s ∧ l = [.sc (.string s)] := fun h => enc9_get h
  generalize r.map (T.enc 9) = xs at hlen hget
  have ho2 : w.ownsRow 0 9 (T.sz 9) v xs.length inner := by
    rw [hlen]
    exact own_weaken ho (Nat.zero_le _)
  refine owns_ow ho2 (fun j _ => inner.getD j undef) (fun _ _ _ => False) (fun j l hj => ?_) (fun j l q x hj hq => ?_) (fun _ _ _ h => h.elim) (fun _ _ _ _ _ h => h.elim) (fun g hg => ⟨own_base ho g hg, own_lt ho g hg⟩)
  · obtain ⟨s, _, rfl⟩ := hget hj
    rfl
  · obtain ⟨s, hs, rfl⟩ := hget hj
    have hq0 : q = 0 := by have := (List.getElem?_eq_some_iff.1 hq).1; simp at this; exact this
    subst hq0
    have hx : x = .sc (.string s) := (Option.some.inj hq).symm
    subst hx
    have h1 := hone j s hs
    have e : j * T.sz 9 + 0 = j := Nat.mul_one j
    rw [e]
    refine ⟨by rw [List.getD_eq_getElem?_getD, h1]; rfl, ?_⟩
    rw [List.getD_eq_getElem?_getD, h1]
    exact .sc _ _ rfl
open Go.Proofs.YtcnfgfomholheaaGreatDoorW.PrintWords in
theorem c_str {w : World} {S : Nat → Prop} {v : Value} {l : List (T.Tb 9)} (h : Rd T.sz w S (.sl 9 (l.map (T.enc 9))) v) (hl : l.length ≤ 9223372036854775807) : ∃ A c, v = .slice A l.length c ∧ l.length ≤ c ∧ Kd.C Kd.string w A l.length l := by
  have hlen : (l.map (T.enc 9)).length = l.length := List.length_map ..
  have hat : ∀ {j : Nat} {s : ByteArray}, l[j]? = some s → (l.map (T.enc 9))[j]? = some [.sc (.string s)] := fun h => enc9_at h
  generalize l.map (T.enc 9) = xs at hlen hat h
  obtain ⟨A, c, e, hc⟩ := h.slice
  rw [hlen] at e hc
  subst e
  refine ⟨A, c, rfl, hc, rfl, hl, fun h0 => ?_⟩
  have hj0 := hat (List.getElem?_eq_getElem h0)
  obtain ⟨ad, c', e, _⟩ := h.elem hj0
  have eA : A = some ad := (Value.slice.inj e).1
  subst eA
  refine ⟨ad, rfl, fun j s hj => ⟨[.string s], rfl, rfl, fun i u hi => ?_⟩⟩
  have hi0 : i = 0 := by have := (List.getElem?_eq_some_iff.1 hi).1; simp at this; exact this
  subst hi0
  have hu : u = .string s := (Option.some.inj hi).symm
  subst hu
  obtain ⟨ad', c'', e', _, _, _, _, hx⟩ := h.elem (hat hj)
  have : ad' = ad := (Option.some.inj (Value.slice.inj e').1).symm
  subst this
  obtain ⟨u, h1, h2⟩ := hx 0 (.sc (.string s)) rfl
  have e3 : u = .string s := by cases h2; rfl
  rw [e3] at h1
  exact h1
theorem ob_text {f : FuncId} {fn : Func} {c : Code} (hf : Tryz.prog.funcs[f]? = some fn) (hname : (fn.name == "runtime.NumGoroutine") = false) (hb : fn.body = some c) {s : ByteArray} {b : Bool}
    (h : ∀ w, Go.Proofs.YtcnfgfomholheaaGreatDoor.X.Tabs w → Calls Tryz.prog f #[.string s] w fun e w' => e = .returned (.bool b) ∧ Below w.heap.size w w') : CallOb T Tryz.prog f [.c (.sc (.string s))] (.c (.sc (.bool b))) := by
  refine ⟨⟨fn, hf, hname, by rw [hb]; rfl⟩, fun w vs S hj ha => ?_⟩
  obtain ⟨v, r, rfl, ⟨rfl, _⟩, rfl⟩ := ha
  refine (h w hj).mono ?_
  rintro e w' ⟨rfl, hb⟩
  exact ⟨.bool b, fun _ _ => False, rfl, hb, fun _ _ h => h.elim, fun _ _ _ h => h.elim, [.bool b], rfl, [], rfl, rfl, rfl⟩
theorem ob_two {f : FuncId} {fn : Func} {c : Code} (hf : Tryz.prog.funcs[f]? = some fn) (hname : (fn.name == "runtime.NumGoroutine") = false) (hb : fn.body = some c) {s t : Value} {b : Bool}
    (h : ∀ w, Go.Proofs.YtcnfgfomholheaaGreatDoor.X.Tabs w → Calls Tryz.prog f #[s, t] w fun e w' => e = .returned (.bool b) ∧ Below w.heap.size w w') : CallOb T Tryz.prog f [.c (.sc s), .c (.sc t)] (.c (.sc (.bool b))) := by
  refine ⟨⟨fn, hf, hname, by rw [hb]; rfl⟩, fun w vs S hj ha => ?_⟩
  obtain ⟨v, r, rfl, ⟨rfl, _⟩, v2, r2, rfl, ⟨rfl, _⟩, rfl⟩ := ha
  refine (h w hj).mono ?_
  rintro e w' ⟨rfl, hb⟩
  exact ⟨.bool b, fun _ _ => False, rfl, hb, fun _ _ h => h.elim, fun _ _ _ h => h.elim, [.bool b], rfl, [], rfl, rfl, rfl⟩
theorem ob_row {f : FuncId} {fn : Func} {c : Code} (hf : Tryz.prog.funcs[f]? = some fn) (hname : (fn.name == "runtime.NumGoroutine") = false) (hb : fn.body = some c) {s : ByteArray} {r : List (T.Tb 9)}
    (h : ∀ w, Go.Proofs.YtcnfgfomholheaaGreatDoor.X.Tabs w → Calls Tryz.prog f #[.string s] w fun e w' => ∃ v0_ : Value, e = .returned (v0_) ∧ Go.Proofs.YtcnfgfomholheaaGreatDoorW.PrintWords.Kd.R Go.Proofs.YtcnfgfomholheaaGreatDoorW.PrintWords.Kd.string 9 w' w.heap.size (fun _ => True) v0_ r ∧ Below w.heap.size w w') : CallOb T Tryz.prog f [.c (.sc (.string s))] (.c (.ow 9 r)) := by
  refine ⟨⟨fn, hf, hname, by rw [hb]; rfl⟩, fun w vs S hj ha => ?_⟩
  obtain ⟨v, q, rfl, ⟨rfl, _⟩, rfl⟩ := ha
  refine (h w hj).mono ?_
  rintro e w' ⟨v, rfl, hr, hb⟩
  exact ⟨v, fun i k => i = 0 ∧ w.heap.size ≤ k ∧ k < w'.heap.size, rfl, hb, fun i k hk => hk.2, fun i j k h1 h2 => h1.1.trans h2.1.symm, [v], rfl, v, [], rfl, (ow_str hr).mono (fun k hk => ⟨rfl, hk⟩), rfl⟩
theorem implTextOk (s : ByteArray) (hs : s.size ≤ 140737488351232) : CallOb T Tryz.prog 147 [.c (.sc (.string s))] (.c (.sc (.bool (X.textOkP s)))) :=
  ob_text Tryz.func147 (by kernel_rfl) rfl (fun w hT => X.impl_TextOk.calls s _ w hT (Pure.implTextOk_eq s hs))
theorem specTextOk (s : ByteArray) : CallOb T Tryz.prog 177 [.c (.sc (.string s))] (.c (.sc (.bool (X.textOkP s)))) := by
  obtain ⟨k, h⟩ := (Pure.specTextOk_ev s)
  exact ob_text Tryz.func177 (by kernel_rfl) rfl (fun w hT => P.spec_TextOk.calls _ s _ w (h k (Nat.le_refl _)))
theorem implFilterOk (s : ByteArray) (hs : s.size ≤ 1073741824) : CallOb T Tryz.prog 77 [.c (.sc (.string s))] (.c (.sc (.bool (Pure.filterL s)))) := by
  obtain ⟨k, h⟩ := (Pure.implFilterOk_ev s hs)
  exact ob_text Tryz.func77 (by kernel_rfl) rfl (fun w hT => P.impl_FilterOk.calls _ s _ w hT (h k (Nat.le_refl _)))
theorem specFilterOk (s : ByteArray) (hs : s.size ≤ 1073741824) : CallOb T Tryz.prog 106 [.c (.sc (.string s))] (.c (.sc (.bool (Pure.filterL s)))) := by
  obtain ⟨k, h⟩ := (Pure.specFilterOk_ev s hs)
  exact ob_text Tryz.func106 (by kernel_rfl) rfl (fun w hT => P.spec_FilterOk.calls _ s _ w (h k (Nat.le_refl _)))
/-- A text's levels. -/
abbrev lev (s : ByteArray) : List ByteArray := X.pieces s Pure.stroke
theorem implLevels (s : ByteArray) (hs : s.size ≤ 1073741824) : CallOb T Tryz.prog 101 [.c (.sc (.string s))] (.c (.ow 9 (lev s))) :=
  ob_row Tryz.func101 (by kernel_rfl) rfl (fun w hT => P.impl_Levels.calls s _ w hT (Pure.implLevels_eq s hs))
theorem implLevelOk (s : ByteArray) (b : Bool) (hs : s.size ≤ 1073741824) : CallOb T Tryz.prog 146 [.c (.sc (.string s)), .c (.sc (.bool b))] (.c (.sc (.bool (Pure.levelL (Pure.dl s) b)))) :=
  ob_two Tryz.func146 (by kernel_rfl) rfl (fun w hT => P.impl_levelOk.calls s b _ w (Pure.levelOk_eq s b hs))
theorem has47_ev (s : ByteArray) (hs : s.size ≤ 1073741824) : Go.Proofs.YtcnfgfomholheaaGreatDoorW.PrintWords.Ev (fun k => P.spec_l3Has.f k s 47) ((Pure.dl s).contains 47) := by
  unfold P.spec_l3Has.f
  exact Pure.has_l s 47 hs s.size 0 (by omega)
theorem specHas47 (s : ByteArray) (hs : s.size ≤ 1073741824) : CallOb T Tryz.prog 176 [.c (.sc (.string s)), .c (.sc (.int .u8 47))] (.c (.sc (.bool ((Pure.dl s).contains 47)))) := by
  obtain ⟨k, h⟩ := (has47_ev s hs)
  exact ob_two Tryz.func176 (by kernel_rfl) rfl (fun w hT => (P.spec_l3Has.calls _ s _ _ w (h k (Nat.le_refl _))).mono (fun e w' h => ⟨h.1, h.2.below⟩))
theorem implJoin_eq (p : List ByteArray) (h : p.length ≤ 1048576) (hs : (joinB p).size ≤ 1073741824) : P.impl_Join.f p = some (joinB p) := by
  unfold P.impl_Join.f X.strings_Join.f
  have e : joinB p = ⟨(Lib.join (p.map (fun x => x.data.toList)) [47]).toArray⟩ := rfl
  have hs2 : (Lib.join (p.map (fun x => x.data.toList)) [47]).length ≤ 1073741824 := by rw [e] at hs; simpa [ByteArray.size] using hs
  rw [if_pos ⟨by omega, Nat.le_trans hs2 (by decide)⟩]
  rfl
theorem implJoin (p : List ByteArray) (hp : p.length ≤ 1048576) (hs : (joinB p).size ≤ 1073741824) : CallOb T Tryz.prog 189 [.c (.sl 9 p)] (.c (.sc (.string (joinB p)))) := by
  refine ⟨⟨_, Tryz.func189, (by kernel_rfl), rfl⟩, fun w vs S hj ha => ?_⟩
  obtain ⟨v, r, rfl, hv, rfl⟩ := ha
  obtain ⟨A, c, rfl, hc, hC⟩ := c_str hv (Nat.le_trans hp (by decide))
  refine (P.impl_Join.calls A c p _ w hC hc (implJoin_eq p hp hs)).mono ?_
  rintro e w' ⟨rfl, hb⟩
  exact ⟨.string (joinB p), fun _ _ => False, rfl, hb, fun _ _ h => h.elim, fun _ _ _ h => h.elim, [.string (joinB p)], rfl, [], rfl, rfl, rfl⟩
end Go.Proofs.YtcnfgfomholheaaGreatDoor.Q
end
section
/- What a sub, a row of subs, a level is: both sides. -/
namespace Go.Proofs.YtcnfgfomholheaaGreatDoor.Q
open Go.RowKit Go.Proofs.YtcnfgfomholheaaGreatDoor.Z Go.Proofs.YtcnfgfomholheaaGreatDoor.Pure
set_option linter.unusedVariables false
set_option linter.unusedSimpArgs false
set_option maxRecDepth 100000
set_option maxHeartbeats 4000000
abbrev zS : SS := z44
abbrev zN : SN := z31
abbrev tx_s (s : ByteArray) : Slot T := .c (.sc (.string s))
theorem emp_bs (s : ByteArray) : (s.toList == (⟨#[]⟩ : ByteArray).toList) = (dl s).isEmpty := by
  rw [show (⟨#[]⟩ : ByteArray).toList = [] by simp [ByteArray.toList_eq]]; exact emp_dl s
theorem implNameOk (s : ByteArray) (hs : s.size ≤ 1073741824) : CallOb T Tryz.prog 127 [.c (.sc (.string s))] (.c (.sc (.bool (nameP s)))) := by
  refine call_of_vc hT Tryz.func127 (by kernel_rfl) rfl rfl (fun A => ?_)
  conv => whnf
  refine CallQ.mk _ (implTextOk s (Nat.le_trans hs (by decide))) ?_
  conv => whnf
  refine Split.mk (fun c => ?_) (fun c => ?_)
  · conv => whnf
    exact RetQ.mk ⟨rfl, rfl⟩ ⟨rfl, rfl⟩ ⟨bv (by rw [emp_bs]; unfold nameP; rw [c]; rfl), trivial⟩
  · conv => whnf
    exact RetQ.mk ⟨rfl, rfl⟩ ⟨rfl, rfl⟩ ⟨bv (by unfold nameP; rw [c]; rfl), trivial⟩
theorem implWithin (a lo hi : Int) : CallOb T Tryz.prog 161 [.c (.sc (.int .i64 a)), .c (.sc (.int .i64 lo)), .c (.sc (.int .i64 hi))] (.c (.sc (.bool (decide (lo ≤ a) && decide (a ≤ hi))))) := by
  refine call_of_vc hT Tryz.func161 (by kernel_rfl) rfl rfl (fun A => ?_)
  conv => whnf
  refine Split.mk (fun c => ?_) (fun c => ?_)
  · conv => whnf
    exact RetQ.mk ⟨rfl, rfl⟩ ⟨rfl, rfl⟩ ⟨bv (by rw [show decide (lo ≤ a) = true from c]; rfl), trivial⟩
  · conv => whnf
    exact RetQ.mk ⟨rfl, rfl⟩ ⟨rfl, rfl⟩ ⟨bv (by rw [show decide (lo ≤ a) = false from c]; rfl), trivial⟩
theorem specIn (a lo hi : Int) : CallOb T Tryz.prog 159 [.c (.sc (.int .i64 a)), .c (.sc (.int .i64 lo)), .c (.sc (.int .i64 hi))] (.c (.sc (.bool (decide (lo ≤ a) && decide (a ≤ hi))))) := by
  refine call_of_vc hT Tryz.func159 (by kernel_rfl) rfl rfl (fun A => ?_)
  conv => whnf
  refine Split.mk (fun c => ?_) (fun c => ?_)
  · conv => whnf
    exact RetQ.mk ⟨rfl, rfl⟩ ⟨rfl, rfl⟩ ⟨bv (by rw [show decide (lo ≤ a) = true from c]; rfl), trivial⟩
  · conv => whnf
    exact RetQ.mk ⟨rfl, rfl⟩ ⟨rfl, rfl⟩ ⟨bv (by rw [show decide (lo ≤ a) = false from c]; rfl), trivial⟩
theorem implIsQos (a : Int) : CallOb T Tryz.prog 128 [.c (.sc (.int .i64 a))] (.c (.sc (.bool (decide (0 ≤ a) && decide (a ≤ 2))))) := by
  refine call_of_vc hT Tryz.func128 (by kernel_rfl) rfl rfl (fun A => ?_)
  conv => whnf
  refine CallQ.mk _ (implWithin a 0 2) ?_
  conv => whnf
  exact RetQ.mk ⟨rfl, rfl⟩ ⟨rfl, rfl⟩ ⟨rfl, trivial⟩
theorem implSubOk (x : SS) (hs : x.f0.size ≤ 1073741824) : CallOb T Tryz.prog 111 [.ag (T.cells eS x)] (.c (.sc (.bool (okSub x)))) := by
  refine call_of_vc hT Tryz.func111 (by kernel_rfl) rfl rfl (fun A => ?_)
  conv => whnf
  refine CallQ.mk _ (implNameOk x.f0 hs) ?_
  conv => whnf
  refine Split.mk (fun c => ?_) (fun c => ?_)
  · conv => whnf
    refine CallQ.mk _ (implIsQos x.f1) ?_
    conv => whnf
    refine Split.mk (fun d => ?_) (fun d => ?_)
    · conv => whnf
      exact RetQ.mk ⟨rfl, rfl⟩ ⟨rfl, rfl⟩ ⟨bv (by unfold okSub; rw [c, d]; rfl), trivial⟩
    · conv => whnf
      exact RetQ.mk ⟨rfl, rfl⟩ ⟨rfl, rfl⟩ ⟨bv (by unfold okSub; rw [c, d]; rfl), trivial⟩
  · conv => whnf
    refine Split.mk (fun d => ft_ d) (fun d => ?_)
    conv => whnf
    exact RetQ.mk ⟨rfl, rfl⟩ ⟨rfl, rfl⟩ ⟨bv (by unfold okSub; rw [c]; rfl), trivial⟩
theorem specSubOk (x : SS) : CallOb T Tryz.prog 109 [.ag (T.cells eS x)] (.c (.sc (.bool (okSub x)))) := by
  refine call_of_vc hT Tryz.func109 (by kernel_rfl) rfl rfl (fun A => ?_)
  conv => whnf
  refine CallQ.mk _ (specTextOk x.f0) ?_
  conv => whnf
  refine Split.mk (fun c => ?_) (fun c => ?_)
  · conv => whnf
    refine Split.mk (fun d => ?_) (fun d => ?_)
    · conv => whnf
      refine CallQ.mk _ (specIn x.f1 0 2) ?_
      conv => whnf
      refine Split.mk (fun e => ?_) (fun e => ?_)
      · conv => whnf
        exact RetQ.mk ⟨rfl, rfl⟩ ⟨rfl, rfl⟩ ⟨bv (by rw [emp_bs] at d; unfold okSub nameP; rw [c, d, e]; rfl), trivial⟩
      · conv => whnf
        exact RetQ.mk ⟨rfl, rfl⟩ ⟨rfl, rfl⟩ ⟨bv (by rw [emp_bs] at d; unfold okSub nameP; rw [c, d, e]; rfl), trivial⟩
    · conv => whnf
      refine Split.mk (fun e => ft_ e) (fun e => ?_)
      conv => whnf
      exact RetQ.mk ⟨rfl, rfl⟩ ⟨rfl, rfl⟩ ⟨bv (by rw [emp_bs] at d; unfold okSub nameP; rw [c, d]; rfl), trivial⟩
  · conv => whnf
    repeat (refine Split.mk (fun e => ft_ e) (fun e => ?_); conv => whnf)
    exact RetQ.mk ⟨rfl, rfl⟩ ⟨rfl, rfl⟩ ⟨bv (by unfold okSub nameP; rw [c]; rfl), trivial⟩
theorem specLevel (x : ByteArray) (hs : x.size ≤ 1073741824) : CallOb T Tryz.prog 192 [.c (.sc (.string x))] (.c (.sc (.bool (levelS x)))) := by
  refine call_of_vc hT Tryz.func192 (by kernel_rfl) rfl rfl (fun A => ?_)
  conv => whnf
  refine CallQ.mk _ (specFilterOk x hs) ?_
  conv => whnf
  refine Split.mk (fun c => ?_) (fun c => ?_)
  · conv => whnf
    refine CallQ.mk _ (specHas47 x hs) ?_
    conv => whnf
    refine Split.mk (fun d => ?_) (fun d => ?_)
    · conv => whnf
      exact RetQ.mk ⟨rfl, rfl⟩ ⟨rfl, rfl⟩ ⟨bv (by unfold levelS; rw [c, d]; rfl), trivial⟩
    · conv => whnf
      exact RetQ.mk ⟨rfl, rfl⟩ ⟨rfl, rfl⟩ ⟨bv (by rw [emp_bs]; unfold levelS; rw [c, d]; rfl), trivial⟩
  · conv => whnf
    refine Split.mk (fun d => ft_ d) (fun d => ?_)
    conv => whnf
    exact RetQ.mk ⟨rfl, rfl⟩ ⟨rfl, rfl⟩ ⟨bv (by rw [emp_bs]; unfold levelS; rw [c]; rfl), trivial⟩
/-! ### rows of subs -/
def prevOf (l : List ByteArray) (i : Nat) : Option ByteArray := if i = 0 then none else l[i - 1]?
theorem prevOf_succ {l : List ByteArray} {i : Nat} (h : i < l.length) : prevOf l (i + 1) = some (l.getD i ByteArray.empty) := by
  unfold prevOf; rw [if_neg (by omega)]; simp [h]
def nm (l : List SS) : List ByteArray := l.map (fun s => s.f0)
theorem subsF_step {l : List SS} {i : Nat} (h : i < l.length) : subsF (prevOf (nm l) i) (l.drop i) = (okSub (l.getD i zS) && (riseP (prevOf (nm l) i) (l.getD i zS).f0 && subsF (prevOf (nm l) (i + 1)) (l.drop (i + 1)))) := by
  have e : l.getD i zS = l[i] := by simp [h]
  rw [List.drop_eq_getElem_cons h, subsF, e, prevOf_succ (by simpa [nm] using h)]
  simp [nm, h]
theorem subsF_end {l : List SS} {p : Option ByteArray} : subsF p (l.drop l.length) = true := by rw [List.drop_length]; cases p <;> rfl
/-- What the code asks of a name and the one before it. -/
theorem rise_0 {l : List ByteArray} {x : ByteArray} : riseP (prevOf l 0) x = true := rfl
theorem rise_at {l : List SS} {i : Nat} (h0 : 0 < i) (h : i < l.length) {x : ByteArray} : riseP (prevOf (nm l) i) x = Op.bytesLess (l.getD (i - 1) zS).f0.toList x.toList := by
  unfold prevOf
  rw [if_neg (by omega)]
  have h1 : i - 1 < l.length := by omega
  simp [nm, h1, riseP]
theorem pred_ {i : Nat} (h0 : 0 < i) (hi : i ≤ 140737488351232) : wrap64 ((i : Int) - 1) = ((i - 1 : Nat) : Int) := by simp only [wrap64]; omega
theorem gt0_t {i : Nat} (c : decide ((i : Int) > 0) = true) : 0 < i := by simp at c; omega
theorem gt0_f {i : Nat} (c : decide ((i : Int) > 0) = false) : i = 0 := by simp at c; omega
theorem implSubsOk (l : List SS) (hl : l.length ≤ 2097152) (hs : ∀ x ∈ l, x.f0.size ≤ 1073741824) : CallOb T Tryz.prog 190 [.c (.sl eS l)] (.c (.sc (.bool (subsL l)))) := by
  refine call_of_vc hT Tryz.func190 (by kernel_rfl) rfl rfl (fun A => ?_)
  generalize hR : subsL l = R
  conv => whnf
  refine LoopQ.mk { i : Nat // i ≤ l.length ∧ subsF (prevOf (nm l) i) (l.drop i) = R } (fun p => (0, [(7, i64 p.1), (6, i64 l.length), (5, im eS l), (0, im eS l)], [])) (fun p => l.length - p.1) ⟨0, Nat.zero_le _, hR⟩ (imp_of [] rfl rfl rfl ⟨⟨rfl, rfl⟩, ⟨rfl, rfl⟩, ⟨rfl, rfl⟩, ⟨rfl, rfl⟩, trivial⟩ trivial) ?_
  rintro ⟨i, hi, hR⟩
  conv => whnf
  refine Split.mk (fun c => ?_) (fun c => ?_)
  · have hk2 : i < l.length := ln_t c
    clear c
    rw [subsF_step hk2] at hR
    conv => whnf
    refine Need.mk (idx hk2) ?_
    conv => whnf
    refine CallQ.mk _ (implSubOk _ (hs _ (getD_mem hk2))) ?_
    conv => whnf
    refine Split.mk (fun c => ?_) (fun c => ?_)
    · have c1 : okSub (l.getD i zS) = false := not_t c
      conv => whnf
      refine DrawQ.mk ⟨by kernel_rfl, by kernel_rfl⟩ ?_
      conv => whnf
      refine Split.mk (fun _ => ?_) (fun e => tf_ e)
      conv => whnf
      exact RetQ.mk ⟨rfl, rfl⟩ ⟨rfl, rfl⟩ ⟨bv (by rw [← hR, c1]; rfl), trivial⟩
    · have c1 : okSub (l.getD i zS) = true := not_f c
      rw [c1, Bool.true_and] at hR
      clear c
      conv => whnf
      refine Split.mk (fun c => ?_) (fun c => ?_)
      · have h0 : 0 < i := gt0_t c
        rw [rise_at h0 hk2] at hR
        have hpr := pred_ h0 (by omega)
        have hpt : (wrap64 ((i : Int) - 1)).toNat = i - 1 := by rw [hpr]; rfl
        clear c
        conv => whnf
        refine Need.mk (by rw [hpr]; exact idx (show i - 1 < l.length by omega)) ?_
        conv => whnf
        refine DrawQ.mk ⟨by kernel_rfl, by kernel_rfl⟩ ?_
        conv => whnf
        refine Split.mk (fun c => ?_) (fun c => ?_)
        · have c2 : Op.bytesLess (l.getD (i - 1) zS).f0.toList (l.getD i zS).f0.toList = false := (congrArg (fun j => Op.bytesLess (l.getD j zS).f0.toList (l.getD i zS).f0.toList) hpt.symm).trans (not_t c)
          conv => whnf
          exact RetQ.mk ⟨rfl, rfl⟩ ⟨rfl, rfl⟩ ⟨bv (by rw [← hR, c2]; rfl), trivial⟩
        · have c2 : Op.bytesLess (l.getD (i - 1) zS).f0.toList (l.getD i zS).f0.toList = true := (congrArg (fun j => Op.bytesLess (l.getD j zS).f0.toList (l.getD i zS).f0.toList) hpt.symm).trans (not_f c)
          rw [c2, Bool.true_and] at hR
          conv => whnf
          exact NextQ.mk ⟨⟨i + 1, hk2, hR⟩, Nat.sub_lt_sub_left hk2 (Nat.lt_succ_self i), imp_of [] rfl rfl rfl ⟨⟨rfl, congrArg i64 (sc_ hk2 (by omega))⟩, ⟨rfl, rfl⟩, ⟨rfl, rfl⟩, ⟨rfl, rfl⟩, trivial⟩ trivial⟩
      · have h0 : i = 0 := gt0_f c
        subst h0
        rw [rise_0, Bool.true_and] at hR
        clear c
        conv => whnf
        refine DrawQ.mk ⟨by kernel_rfl, by kernel_rfl⟩ ?_
        conv => whnf
        refine Split.mk (fun e => ft_ e) (fun _ => ?_)
        conv => whnf
        exact NextQ.mk ⟨⟨0 + 1, hk2, hR⟩, Nat.sub_lt_sub_left hk2 (Nat.lt_succ_self 0), imp_of [] rfl rfl rfl ⟨⟨rfl, congrArg i64 (sc_ hk2 (by omega))⟩, ⟨rfl, rfl⟩, ⟨rfl, rfl⟩, ⟨rfl, rfl⟩, trivial⟩ trivial⟩
  · have hk2 : i = l.length := Nat.le_antisymm hi (ln_f c)
    subst hk2
    conv => whnf
    exact RetQ.mk ⟨rfl, rfl⟩ ⟨rfl, rfl⟩ ⟨bv (hR.symm.trans subsF_end), trivial⟩
end Go.Proofs.YtcnfgfomholheaaGreatDoor.Q
end
section
/- Is a node right? The spec's side. Printed by a program of this work (gen_tree5.py). -/
namespace Go.Proofs.YtcnfgfomholheaaGreatDoor.Q
open Go.RowKit Go.Proofs.YtcnfgfomholheaaGreatDoor.Z Go.Proofs.YtcnfgfomholheaaGreatDoor.Pure
set_option linter.unusedVariables false
set_option linter.unusedSimpArgs false
set_option maxRecDepth 100000
set_option maxHeartbeats 4000000
abbrev bxN (n : SN) : Res T := .bx eN ((T.cells eN n).map (toCell none))
theorem e0_t {a : Nat} (c : ((a : Int) == 0) = true) : a = 0 := by simp at c; omega
theorem e0_f {a : Nat} (c : ((a : Int) == 0) = false) : a ≠ 0 := by simp at c; omega
section
variable {a b : Nat} {x : ByteArray} {r R q : Bool}
theorem and_t (h : q = true) (hR : (q && r) = R) : r = R := by rw [h, Bool.true_and] at hR; exact hR
theorem and_f (h : q = false) (hR : (q && r) = R) : R = false := by rw [h, Bool.false_and] at hR; exact hR.symm
theorem no1 {c : Bool} (h : a ≠ 0) (hR : (!(decide (a = 0) && c) && r) = R) : r = R := and_t (by simp [h]) hR
theorem no2 (h : a = 0) (h2 : b ≠ 0) (hR : (!(decide (a = 0) && decide (b = 0)) && r) = R) : r = R := and_t (by simp [h, h2]) hR
theorem no3 (h : a = 0) (h2 : b = 0) (hR : (!(decide (a = 0) && decide (b = 0)) && r) = R) : R = false := and_f (by simp [h, h2]) hR
theorem ha1 (h : hashP x = true) (h2 : a ≠ 0) (hR : (!(hashP x && !decide (a = 0)) && r) = R) : R = false := and_f (by simp [h, h2]) hR
theorem ha2 (h2 : a = 0) (hR : (!(hashP x && !decide (a = 0)) && r) = R) : r = R := and_t (by simp [h2]) hR
theorem ha3 (h : hashP x = false) (hR : (!(hashP x && !decide (a = 0)) && r) = R) : r = R := and_t (by simp [h]) hR
end
theorem hash_t {x : ByteArray} (c : (x.toList == (⟨#[35]⟩ : ByteArray).toList) = true) : hashP x = true := by
  rw [show (⟨#[35]⟩ : ByteArray).toList = [35] by simp [ByteArray.toList_eq]] at c
  unfold hashP; simpa using c
theorem hash_f {x : ByteArray} (c : (x.toList == (⟨#[35]⟩ : ByteArray).toList) = false) : hashP x = false := by
  rw [show (⟨#[35]⟩ : ByteArray).toList = [35] by simp [ByteArray.toList_eq]] at c
  unfold hashP; simpa using c
theorem rise_n {l : List ByteArray} {i : Nat} (h0 : 0 < i) (h : i < l.length) {x : ByteArray} : riseP (prevOf l i) x = Op.bytesLess (l.getD (i - 1) ByteArray.empty).toList x.toList := by
  unfold prevOf
  rw [if_neg (by omega)]
  have h1 : i - 1 < l.length := by omega
  simp [h1, riseP]
theorem okSL_step {d i : Nat} {ns : List ByteArray} {ks : List SN} (h : i < ns.length) (h2 : i < ks.length) : okSL d (ns.drop i) (prevOf ns i) (ks.drop i) = (levelS (ns.getD i ByteArray.empty) && (riseP (prevOf ns i) (ns.getD i ByteArray.empty) && (!(decide ((ks.getD i zN).f0.length = 0) && decide ((ks.getD i zN).f2.length = 0)) && (!(hashP (ns.getD i ByteArray.empty) && !decide ((ks.getD i zN).f0.length = 0)) && (okS (d + 1) (ks.getD i zN) && okSL d (ns.drop (i + 1)) (prevOf ns (i + 1)) (ks.drop (i + 1))))))) := by
  have e : ns.getD i ByteArray.empty = ns[i] := by simp [h]
  have e2 : ks.getD i zN = ks[i] := by simp [h2]
  rw [List.drop_eq_getElem_cons h, List.drop_eq_getElem_cons h2, okSL, e, e2, prevOf_succ h, e]
theorem okSL_end {d : Nat} {ns : List ByteArray} {ks : List SN} {p : Option ByteArray} : okSL d (ns.drop ns.length) p ks = true := by
  rw [List.drop_length]; cases ks <;> rw [okSL] <;> (intro x1 x2 x3 x4 e; cases e)
theorem d1_ {d : Nat} (h : d ≤ 1000) : ((d + 1 : Nat) : Int) = wrap64 ((d : Int) + 1) := by simp only [wrap64]; omega
theorem specOk_of (n : SN) (d : Nat) (hn : Bd n) (hd : d ≤ 6) (ih : d < 6 → ∀ k ∈ n.f1, CallOb T Tryz.prog 144 [.ag (T.cells eN k), .c (.sc (.int .i64 ((d + 1 : Nat) : Int)))] (.c (.sc (.bool (okS (d + 1) k))))) : CallOb T Tryz.prog 144 [.ag (T.cells eN n), .c (.sc (.int .i64 (d : Int)))] (.c (.sc (.bool (okS d n)))) := by
  refine call_of_Vc hT Tryz.func144 (by kernel_rfl) rfl rfl (fun A => ?_)
  have hR := okS_eq d n
  generalize okS d n = R at hR ⊢
  refine Vc.seq 0 hT ?_
  conv => whnf
  refine Vc.cut (α := Unit) 2 (fun _ => n.f0.length = n.f1.length ∧ (n.f0.length = 0 ∨ d < 6)) (fun _ => [(2, .c (.px 0 0)), (1, i64 d)]) (fun _ => [(0, bxN n)]) hT ?_ (fun _ ⟨hl, h6⟩ => ?_)
  · conv => whnf
    refine Split.mk (fun c => ?_) (fun c => ?_)
    · have h1 : ¬ n.f0.length = n.f1.length := nn_t c
      rw [decide_eq_false h1, Bool.false_and] at hR
      conv => whnf
      refine Split.mk (fun _ => ?_) (fun e => tf_ e)
      conv => whnf
      exact RetQ.mk ⟨rfl, rfl⟩ ⟨rfl, rfl⟩ ⟨bv (hR), trivial⟩
    · have h1 : n.f0.length = n.f1.length := nn_f c
      clear c
      conv => whnf
      refine Split.mk (fun c => ?_) (fun c => ?_)
      · have h2 : 0 < n.f0.length := gt0_t c
        clear c
        conv => whnf
        refine Split.mk (fun c => ?_) (fun c => ?_)
        · have h3 : d = 6 := by have := eq_t c; omega
          rw [decide_eq_true h1, decide_eq_true h2, decide_eq_true h3] at hR
          conv => whnf
          exact RetQ.mk ⟨rfl, rfl⟩ ⟨rfl, rfl⟩ ⟨bv (hR), trivial⟩
        · have h3 : ¬ d = 6 := by have := eq_f c; omega
          conv => whnf
          exact CutQ.mk ⟨(), ⟨h1, .inr (by omega)⟩, imp_of [(0, 0)] rfl rfl rfl ⟨⟨rfl, rfl⟩, ⟨rfl, rfl⟩, trivial⟩ ⟨⟨rfl, rfl⟩, trivial⟩⟩
      · have h2 : n.f0.length = 0 := gt0_f c
        clear c
        conv => whnf
        refine Split.mk (fun e => ft_ e) (fun _ => ?_)
        conv => whnf
        exact CutQ.mk ⟨(), ⟨h1, .inl h2⟩, imp_of [(0, 0)] rfl rfl rfl ⟨⟨rfl, rfl⟩, ⟨rfl, rfl⟩, trivial⟩ ⟨⟨rfl, rfl⟩, trivial⟩⟩
  refine Vc.of 1 hT ?_
  conv => whnf
  have hb : (!(decide (0 < n.f0.length) && decide (d = 6))) = true := by
    rcases h6 with h | h
    · rw [decide_eq_false (by omega)]; rfl
    · rw [decide_eq_false (p := d = 6) (by omega), Bool.and_false]; rfl
  rw [decide_eq_true hl, Bool.true_and, hb, Bool.true_and] at hR
  replace hR := hR.symm
  clear hb
  conv => whnf
  refine LoopQ.mk { i : Nat // i ≤ n.f2.length ∧ (subsF (prevOf (nm n.f2) i) (n.f2.drop i) && okSL d n.f0 none n.f1) = R } (fun p => (1, [(5, i64 p.1), (2, .c (.px 0 0)), (1, i64 d)], [(0, bxN n)])) (fun p => n.f2.length - p.1) ⟨0, Nat.zero_le _, hR⟩ (imp_of [(0, 0)] rfl rfl rfl ⟨⟨rfl, rfl⟩, ⟨rfl, rfl⟩, ⟨rfl, rfl⟩, trivial⟩ ⟨⟨rfl, rfl⟩, trivial⟩) ?_
  clear hR
  rintro ⟨i, hi, hR⟩
  conv => whnf
  refine Split.mk (fun c => ?_) (fun c => ?_)
  · have hk2 : i < n.f2.length := ln_t c
    clear c
    rw [subsF_step hk2, Bool.and_assoc, Bool.and_assoc] at hR
    conv => whnf
    refine Need.mk (idx hk2) ?_
    conv => whnf
    refine CallQ.mk _ (specSubOk _) ?_
    conv => whnf
    refine Split.mk (fun c => ?_) (fun c => ?_)
    · have c1 : okSub (n.f2.getD i zS) = false := not_t c
      clear c
      conv => whnf
      refine DrawQ.mk ⟨by kernel_rfl, by kernel_rfl⟩ ?_
      conv => whnf
      refine Split.mk (fun _ => ?_) (fun e => tf_ e)
      conv => whnf
      exact RetQ.mk ⟨rfl, rfl⟩ ⟨rfl, rfl⟩ ⟨bv (and_f c1 hR), trivial⟩
    · have c1 : okSub (n.f2.getD i zS) = true := not_f c
      clear c
      replace hR := and_t c1 hR
      conv => whnf
      refine Split.mk (fun c => ?_) (fun c => ?_)
      · have h0 : 0 < i := gt0_t c
        clear c
        have hl2 := hn.l2
        rw [rise_at h0 hk2] at hR
        have hpr := pred_ h0 (by omega)
        have hpt : (wrap64 ((i : Int) - 1)).toNat = i - 1 := by rw [hpr]; rfl
        conv => whnf
        refine Need.mk (by rw [hpr]; exact idx (show i - 1 < n.f2.length by omega)) ?_
        conv => whnf
        refine Need.mk (idx hk2) ?_
        conv => whnf
        refine DrawQ.mk ⟨by kernel_rfl, by kernel_rfl⟩ ?_
        conv => whnf
        refine Split.mk (fun c => ?_) (fun c => ?_)
        · have c2 : Op.bytesLess (n.f2.getD (i - 1) zS).f0.toList (n.f2.getD i zS).f0.toList = false := (congrArg (fun j => Op.bytesLess (n.f2.getD j zS).f0.toList (n.f2.getD i zS).f0.toList) hpt.symm).trans (not_t c)
          conv => whnf
          exact RetQ.mk ⟨rfl, rfl⟩ ⟨rfl, rfl⟩ ⟨bv (and_f c2 hR), trivial⟩
        · have c2 : Op.bytesLess (n.f2.getD (i - 1) zS).f0.toList (n.f2.getD i zS).f0.toList = true := (congrArg (fun j => Op.bytesLess (n.f2.getD j zS).f0.toList (n.f2.getD i zS).f0.toList) hpt.symm).trans (not_f c)
          replace hR := and_t c2 hR
          conv => whnf
          exact NextQ.mk ⟨⟨i + 1, hk2, hR⟩, Nat.sub_lt_sub_left hk2 (Nat.lt_succ_self i), imp_of [(0, 0)] rfl rfl rfl ⟨⟨rfl, congrArg i64 (sc_ hk2 (Nat.le_trans hn.l2 (by decide)))⟩, ⟨rfl, rfl⟩, ⟨rfl, rfl⟩, trivial⟩ ⟨⟨rfl, rfl⟩, trivial⟩⟩
      · have h0 : i = 0 := gt0_f c
        clear c
        subst h0
        rw [rise_0, Bool.true_and] at hR
        conv => whnf
        refine DrawQ.mk ⟨by kernel_rfl, by kernel_rfl⟩ ?_
        conv => whnf
        refine Split.mk (fun e => ft_ e) (fun _ => ?_)
        conv => whnf
        exact NextQ.mk ⟨⟨0 + 1, hk2, hR⟩, Nat.sub_lt_sub_left hk2 (Nat.lt_succ_self 0), imp_of [(0, 0)] rfl rfl rfl ⟨⟨rfl, congrArg i64 (sc_ hk2 (Nat.le_trans hn.l2 (by decide)))⟩, ⟨rfl, rfl⟩, ⟨rfl, rfl⟩, trivial⟩ ⟨⟨rfl, rfl⟩, trivial⟩⟩
  · have hk2 : i = n.f2.length := Nat.le_antisymm hi (ln_f c)
    subst hk2
    rw [subsF_end, Bool.true_and] at hR
    clear c
    conv => whnf
    refine LoopQ.mk { i : Nat // i ≤ n.f0.length ∧ okSL d (n.f0.drop i) (prevOf n.f0 i) (n.f1.drop i) = R } (fun p => (1, [(6, i64 p.1), (2, .c (.px 0 0)), (1, i64 d)], [(0, bxN n)])) (fun p => n.f0.length - p.1) ⟨0, Nat.zero_le _, hR⟩ (imp_of [(0, 0)] rfl rfl rfl ⟨⟨rfl, rfl⟩, ⟨rfl, rfl⟩, ⟨rfl, rfl⟩, trivial⟩ ⟨⟨rfl, rfl⟩, trivial⟩) ?_
    clear hR
    rintro ⟨i, hi, hR⟩
    conv => whnf
    refine Split.mk (fun c => ?_) (fun c => ?_)
    · have hk2 : i < n.f0.length := ln_t c
      clear c
      have hk3 : i < n.f1.length := hl ▸ hk2
      have hd6 : d < 6 := by omega
      have ihk := ih hd6 _ (getD_mem (d := zN) hk3)
      rw [d1_ (by omega)] at ihk
      rw [okSL_step hk2 hk3] at hR
      have hx := hn.z0 _ (getD_mem (d := ByteArray.empty) hk2)
      conv => whnf
      refine Need.mk (idx hk3) ?_
      conv => whnf
      refine Need.mk (idx hk2) ?_
      conv => whnf
      refine CallQ.mk _ (specLevel _ (Nat.le_trans hx (by decide))) ?_
      conv => whnf
      refine Split.mk (fun c => ?_) (fun c => ?_)
      · have c1 : levelS (n.f0.getD i ByteArray.empty) = false := not_t c
        clear c
        conv => whnf
        refine Split.mk (fun _ => ?_) (fun e => tf_ e)
        conv => whnf
        refine Split.mk (fun _ => ?_) (fun e => tf_ e)
        conv => whnf
        refine Split.mk (fun _ => ?_) (fun e => tf_ e)
        conv => whnf
        refine DrawQ.mk ⟨by kernel_rfl, by kernel_rfl⟩ ?_
        conv => whnf
        refine Split.mk (fun _ => ?_) (fun e => tf_ e)
        conv => whnf
        exact RetQ.mk ⟨rfl, rfl⟩ ⟨rfl, rfl⟩ ⟨bv (and_f c1 hR), trivial⟩
      · have c1 : levelS (n.f0.getD i ByteArray.empty) = true := not_f c
        clear c
        replace hR := and_t c1 hR
        conv => whnf
        refine Split.mk (fun c => ?_) (fun c => ?_)
        · have h0 : 0 < i := gt0_t c
          clear c
          have hl0 := hn.l0
          rw [rise_n h0 hk2] at hR
          have hpr := pred_ h0 (by omega)
          have hpt : (wrap64 ((i : Int) - 1)).toNat = i - 1 := by rw [hpr]; rfl
          conv => whnf
          refine Need.mk (by rw [hpr]; exact idx (show i - 1 < n.f0.length by omega)) ?_
          conv => whnf
          refine Need.mk (idx hk2) ?_
          conv => whnf
          refine Split.mk (fun c => ?_) (fun c => ?_)
          · have c2 : Op.bytesLess (n.f0.getD (i - 1) ByteArray.empty).toList (n.f0.getD i ByteArray.empty).toList = false := (congrArg (fun j => Op.bytesLess (n.f0.getD j ByteArray.empty).toList (n.f0.getD i ByteArray.empty).toList) hpt.symm).trans (not_t c)
            clear c
            conv => whnf
            refine Split.mk (fun _ => ?_) (fun e => tf_ e)
            conv => whnf
            refine Split.mk (fun _ => ?_) (fun e => tf_ e)
            conv => whnf
            refine DrawQ.mk ⟨by kernel_rfl, by kernel_rfl⟩ ?_
            conv => whnf
            refine Split.mk (fun _ => ?_) (fun e => tf_ e)
            conv => whnf
            exact RetQ.mk ⟨rfl, rfl⟩ ⟨rfl, rfl⟩ ⟨bv (and_f c2 hR), trivial⟩
          · have c2 : Op.bytesLess (n.f0.getD (i - 1) ByteArray.empty).toList (n.f0.getD i ByteArray.empty).toList = true := (congrArg (fun j => Op.bytesLess (n.f0.getD j ByteArray.empty).toList (n.f0.getD i ByteArray.empty).toList) hpt.symm).trans (not_f c)
            clear c
            replace hR := and_t c2 hR
            conv => whnf
            refine Split.mk (fun c => ?_) (fun c => ?_)
            · have c3 : (n.f1.getD i zN).f0.length = 0 := e0_t c
              clear c
              conv => whnf
              refine Split.mk (fun c => ?_) (fun c => ?_)
              · have c5 : (n.f1.getD i zN).f2.length = 0 := e0_t c
                clear c
                conv => whnf
                refine Split.mk (fun _ => ?_) (fun e => tf_ e)
                conv => whnf
                refine DrawQ.mk ⟨by kernel_rfl, by kernel_rfl⟩ ?_
                conv => whnf
                refine Split.mk (fun _ => ?_) (fun e => tf_ e)
                conv => whnf
                exact RetQ.mk ⟨rfl, rfl⟩ ⟨rfl, rfl⟩ ⟨bv (no3 c3 c5 hR), trivial⟩
              · have c5 : (n.f1.getD i zN).f2.length ≠ 0 := e0_f c
                clear c
                replace hR := no2 c3 c5 hR
                conv => whnf
                refine Need.mk (idx hk2) ?_
                conv => whnf
                refine Split.mk (fun c => ?_) (fun c => ?_)
                · have c3 := hash_t c
                  clear c
                  conv => whnf
                  refine Split.mk (fun c => ?_) (fun c => ?_)
                  · have c5 : (n.f1.getD i zN).f0.length ≠ 0 := Nat.ne_of_gt (gt0_t c)
                    clear c
                    conv => whnf
                    refine DrawQ.mk ⟨by kernel_rfl, by kernel_rfl⟩ ?_
                    conv => whnf
                    refine Split.mk (fun _ => ?_) (fun e => tf_ e)
                    conv => whnf
                    exact RetQ.mk ⟨rfl, rfl⟩ ⟨rfl, rfl⟩ ⟨bv (ha1 c3 c5 hR), trivial⟩
                  · have c5 : (n.f1.getD i zN).f0.length = 0 := gt0_f c
                    clear c
                    replace hR := ha2 c5 hR
                    conv => whnf
                    refine CallQ.mk _ ihk ?_
                    conv => whnf
                    refine DrawQ.mk ⟨by kernel_rfl, by kernel_rfl⟩ ?_
                    conv => whnf
                    refine Split.mk (fun c => ?_) (fun c => ?_)
                    · have c4 : okS (d + 1) (n.f1.getD i zN) = false := not_t c
                      conv => whnf
                      exact RetQ.mk ⟨rfl, rfl⟩ ⟨rfl, rfl⟩ ⟨bv (and_f c4 hR), trivial⟩
                    · have c4 : okS (d + 1) (n.f1.getD i zN) = true := not_f c
                      replace hR := and_t c4 hR
                      conv => whnf
                      exact NextQ.mk ⟨⟨i + 1, hk2, hR⟩, Nat.sub_lt_sub_left hk2 (Nat.lt_succ_self i), imp_of [(0, 0)] rfl rfl rfl ⟨⟨rfl, congrArg i64 (sc_ hk2 (Nat.le_trans hn.l0 (by decide)))⟩, ⟨rfl, rfl⟩, ⟨rfl, rfl⟩, trivial⟩ ⟨⟨rfl, rfl⟩, trivial⟩⟩
                · have c3 := hash_f c
                  clear c
                  replace hR := ha3 c3 hR
                  conv => whnf
                  refine Split.mk (fun e => ft_ e) (fun _ => ?_)
                  conv => whnf
                  refine CallQ.mk _ ihk ?_
                  conv => whnf
                  refine DrawQ.mk ⟨by kernel_rfl, by kernel_rfl⟩ ?_
                  conv => whnf
                  refine Split.mk (fun c => ?_) (fun c => ?_)
                  · have c4 : okS (d + 1) (n.f1.getD i zN) = false := not_t c
                    conv => whnf
                    exact RetQ.mk ⟨rfl, rfl⟩ ⟨rfl, rfl⟩ ⟨bv (and_f c4 hR), trivial⟩
                  · have c4 : okS (d + 1) (n.f1.getD i zN) = true := not_f c
                    replace hR := and_t c4 hR
                    conv => whnf
                    exact NextQ.mk ⟨⟨i + 1, hk2, hR⟩, Nat.sub_lt_sub_left hk2 (Nat.lt_succ_self i), imp_of [(0, 0)] rfl rfl rfl ⟨⟨rfl, congrArg i64 (sc_ hk2 (Nat.le_trans hn.l0 (by decide)))⟩, ⟨rfl, rfl⟩, ⟨rfl, rfl⟩, trivial⟩ ⟨⟨rfl, rfl⟩, trivial⟩⟩
            · have c3 : (n.f1.getD i zN).f0.length ≠ 0 := e0_f c
              clear c
              replace hR := no1 c3 hR
              conv => whnf
              refine Split.mk (fun e => ft_ e) (fun _ => ?_)
              conv => whnf
              refine Need.mk (idx hk2) ?_
              conv => whnf
              refine Split.mk (fun c => ?_) (fun c => ?_)
              · have c3 := hash_t c
                clear c
                conv => whnf
                refine Split.mk (fun c => ?_) (fun c => ?_)
                · have c5 : (n.f1.getD i zN).f0.length ≠ 0 := Nat.ne_of_gt (gt0_t c)
                  clear c
                  conv => whnf
                  refine DrawQ.mk ⟨by kernel_rfl, by kernel_rfl⟩ ?_
                  conv => whnf
                  refine Split.mk (fun _ => ?_) (fun e => tf_ e)
                  conv => whnf
                  exact RetQ.mk ⟨rfl, rfl⟩ ⟨rfl, rfl⟩ ⟨bv (ha1 c3 c5 hR), trivial⟩
                · have c5 : (n.f1.getD i zN).f0.length = 0 := gt0_f c
                  clear c
                  replace hR := ha2 c5 hR
                  conv => whnf
                  refine CallQ.mk _ ihk ?_
                  conv => whnf
                  refine DrawQ.mk ⟨by kernel_rfl, by kernel_rfl⟩ ?_
                  conv => whnf
                  refine Split.mk (fun c => ?_) (fun c => ?_)
                  · have c4 : okS (d + 1) (n.f1.getD i zN) = false := not_t c
                    conv => whnf
                    exact RetQ.mk ⟨rfl, rfl⟩ ⟨rfl, rfl⟩ ⟨bv (and_f c4 hR), trivial⟩
                  · have c4 : okS (d + 1) (n.f1.getD i zN) = true := not_f c
                    replace hR := and_t c4 hR
                    conv => whnf
                    exact NextQ.mk ⟨⟨i + 1, hk2, hR⟩, Nat.sub_lt_sub_left hk2 (Nat.lt_succ_self i), imp_of [(0, 0)] rfl rfl rfl ⟨⟨rfl, congrArg i64 (sc_ hk2 (Nat.le_trans hn.l0 (by decide)))⟩, ⟨rfl, rfl⟩, ⟨rfl, rfl⟩, trivial⟩ ⟨⟨rfl, rfl⟩, trivial⟩⟩
              · have c3 := hash_f c
                clear c
                replace hR := ha3 c3 hR
                conv => whnf
                refine Split.mk (fun e => ft_ e) (fun _ => ?_)
                conv => whnf
                refine CallQ.mk _ ihk ?_
                conv => whnf
                refine DrawQ.mk ⟨by kernel_rfl, by kernel_rfl⟩ ?_
                conv => whnf
                refine Split.mk (fun c => ?_) (fun c => ?_)
                · have c4 : okS (d + 1) (n.f1.getD i zN) = false := not_t c
                  conv => whnf
                  exact RetQ.mk ⟨rfl, rfl⟩ ⟨rfl, rfl⟩ ⟨bv (and_f c4 hR), trivial⟩
                · have c4 : okS (d + 1) (n.f1.getD i zN) = true := not_f c
                  replace hR := and_t c4 hR
                  conv => whnf
                  exact NextQ.mk ⟨⟨i + 1, hk2, hR⟩, Nat.sub_lt_sub_left hk2 (Nat.lt_succ_self i), imp_of [(0, 0)] rfl rfl rfl ⟨⟨rfl, congrArg i64 (sc_ hk2 (Nat.le_trans hn.l0 (by decide)))⟩, ⟨rfl, rfl⟩, ⟨rfl, rfl⟩, trivial⟩ ⟨⟨rfl, rfl⟩, trivial⟩⟩
        · have h0 : i = 0 := gt0_f c
          clear c
          subst h0
          rw [rise_0, Bool.true_and] at hR
          conv => whnf
          refine Split.mk (fun e => ft_ e) (fun _ => ?_)
          conv => whnf
          refine Split.mk (fun c => ?_) (fun c => ?_)
          · have c3 : (n.f1.getD 0 zN).f0.length = 0 := e0_t c
            clear c
            conv => whnf
            refine Split.mk (fun c => ?_) (fun c => ?_)
            · have c5 : (n.f1.getD 0 zN).f2.length = 0 := e0_t c
              clear c
              conv => whnf
              refine Split.mk (fun _ => ?_) (fun e => tf_ e)
              conv => whnf
              refine DrawQ.mk ⟨by kernel_rfl, by kernel_rfl⟩ ?_
              conv => whnf
              refine Split.mk (fun _ => ?_) (fun e => tf_ e)
              conv => whnf
              exact RetQ.mk ⟨rfl, rfl⟩ ⟨rfl, rfl⟩ ⟨bv (no3 c3 c5 hR), trivial⟩
            · have c5 : (n.f1.getD 0 zN).f2.length ≠ 0 := e0_f c
              clear c
              replace hR := no2 c3 c5 hR
              conv => whnf
              refine Need.mk (idx hk2) ?_
              conv => whnf
              refine Split.mk (fun c => ?_) (fun c => ?_)
              · have c3 := hash_t c
                clear c
                conv => whnf
                refine Split.mk (fun c => ?_) (fun c => ?_)
                · have c5 : (n.f1.getD 0 zN).f0.length ≠ 0 := Nat.ne_of_gt (gt0_t c)
                  clear c
                  conv => whnf
                  refine DrawQ.mk ⟨by kernel_rfl, by kernel_rfl⟩ ?_
                  conv => whnf
                  refine Split.mk (fun _ => ?_) (fun e => tf_ e)
                  conv => whnf
                  exact RetQ.mk ⟨rfl, rfl⟩ ⟨rfl, rfl⟩ ⟨bv (ha1 c3 c5 hR), trivial⟩
                · have c5 : (n.f1.getD 0 zN).f0.length = 0 := gt0_f c
                  clear c
                  replace hR := ha2 c5 hR
                  conv => whnf
                  refine CallQ.mk _ ihk ?_
                  conv => whnf
                  refine DrawQ.mk ⟨by kernel_rfl, by kernel_rfl⟩ ?_
                  conv => whnf
                  refine Split.mk (fun c => ?_) (fun c => ?_)
                  · have c4 : okS (d + 1) (n.f1.getD 0 zN) = false := not_t c
                    conv => whnf
                    exact RetQ.mk ⟨rfl, rfl⟩ ⟨rfl, rfl⟩ ⟨bv (and_f c4 hR), trivial⟩
                  · have c4 : okS (d + 1) (n.f1.getD 0 zN) = true := not_f c
                    replace hR := and_t c4 hR
                    conv => whnf
                    exact NextQ.mk ⟨⟨0 + 1, hk2, hR⟩, Nat.sub_lt_sub_left hk2 (Nat.lt_succ_self 0), imp_of [(0, 0)] rfl rfl rfl ⟨⟨rfl, congrArg i64 (sc_ hk2 (Nat.le_trans hn.l0 (by decide)))⟩, ⟨rfl, rfl⟩, ⟨rfl, rfl⟩, trivial⟩ ⟨⟨rfl, rfl⟩, trivial⟩⟩
              · have c3 := hash_f c
                clear c
                replace hR := ha3 c3 hR
                conv => whnf
                refine Split.mk (fun e => ft_ e) (fun _ => ?_)
                conv => whnf
                refine CallQ.mk _ ihk ?_
                conv => whnf
                refine DrawQ.mk ⟨by kernel_rfl, by kernel_rfl⟩ ?_
                conv => whnf
                refine Split.mk (fun c => ?_) (fun c => ?_)
                · have c4 : okS (d + 1) (n.f1.getD 0 zN) = false := not_t c
                  conv => whnf
                  exact RetQ.mk ⟨rfl, rfl⟩ ⟨rfl, rfl⟩ ⟨bv (and_f c4 hR), trivial⟩
                · have c4 : okS (d + 1) (n.f1.getD 0 zN) = true := not_f c
                  replace hR := and_t c4 hR
                  conv => whnf
                  exact NextQ.mk ⟨⟨0 + 1, hk2, hR⟩, Nat.sub_lt_sub_left hk2 (Nat.lt_succ_self 0), imp_of [(0, 0)] rfl rfl rfl ⟨⟨rfl, congrArg i64 (sc_ hk2 (Nat.le_trans hn.l0 (by decide)))⟩, ⟨rfl, rfl⟩, ⟨rfl, rfl⟩, trivial⟩ ⟨⟨rfl, rfl⟩, trivial⟩⟩
          · have c3 : (n.f1.getD 0 zN).f0.length ≠ 0 := e0_f c
            clear c
            replace hR := no1 c3 hR
            conv => whnf
            refine Split.mk (fun e => ft_ e) (fun _ => ?_)
            conv => whnf
            refine Need.mk (idx hk2) ?_
            conv => whnf
            refine Split.mk (fun c => ?_) (fun c => ?_)
            · have c3 := hash_t c
              clear c
              conv => whnf
              refine Split.mk (fun c => ?_) (fun c => ?_)
              · have c5 : (n.f1.getD 0 zN).f0.length ≠ 0 := Nat.ne_of_gt (gt0_t c)
                clear c
                conv => whnf
                refine DrawQ.mk ⟨by kernel_rfl, by kernel_rfl⟩ ?_
                conv => whnf
                refine Split.mk (fun _ => ?_) (fun e => tf_ e)
                conv => whnf
                exact RetQ.mk ⟨rfl, rfl⟩ ⟨rfl, rfl⟩ ⟨bv (ha1 c3 c5 hR), trivial⟩
              · have c5 : (n.f1.getD 0 zN).f0.length = 0 := gt0_f c
                clear c
                replace hR := ha2 c5 hR
                conv => whnf
                refine CallQ.mk _ ihk ?_
                conv => whnf
                refine DrawQ.mk ⟨by kernel_rfl, by kernel_rfl⟩ ?_
                conv => whnf
                refine Split.mk (fun c => ?_) (fun c => ?_)
                · have c4 : okS (d + 1) (n.f1.getD 0 zN) = false := not_t c
                  conv => whnf
                  exact RetQ.mk ⟨rfl, rfl⟩ ⟨rfl, rfl⟩ ⟨bv (and_f c4 hR), trivial⟩
                · have c4 : okS (d + 1) (n.f1.getD 0 zN) = true := not_f c
                  replace hR := and_t c4 hR
                  conv => whnf
                  exact NextQ.mk ⟨⟨0 + 1, hk2, hR⟩, Nat.sub_lt_sub_left hk2 (Nat.lt_succ_self 0), imp_of [(0, 0)] rfl rfl rfl ⟨⟨rfl, congrArg i64 (sc_ hk2 (Nat.le_trans hn.l0 (by decide)))⟩, ⟨rfl, rfl⟩, ⟨rfl, rfl⟩, trivial⟩ ⟨⟨rfl, rfl⟩, trivial⟩⟩
            · have c3 := hash_f c
              clear c
              replace hR := ha3 c3 hR
              conv => whnf
              refine Split.mk (fun e => ft_ e) (fun _ => ?_)
              conv => whnf
              refine CallQ.mk _ ihk ?_
              conv => whnf
              refine DrawQ.mk ⟨by kernel_rfl, by kernel_rfl⟩ ?_
              conv => whnf
              refine Split.mk (fun c => ?_) (fun c => ?_)
              · have c4 : okS (d + 1) (n.f1.getD 0 zN) = false := not_t c
                conv => whnf
                exact RetQ.mk ⟨rfl, rfl⟩ ⟨rfl, rfl⟩ ⟨bv (and_f c4 hR), trivial⟩
              · have c4 : okS (d + 1) (n.f1.getD 0 zN) = true := not_f c
                replace hR := and_t c4 hR
                conv => whnf
                exact NextQ.mk ⟨⟨0 + 1, hk2, hR⟩, Nat.sub_lt_sub_left hk2 (Nat.lt_succ_self 0), imp_of [(0, 0)] rfl rfl rfl ⟨⟨rfl, congrArg i64 (sc_ hk2 (Nat.le_trans hn.l0 (by decide)))⟩, ⟨rfl, rfl⟩, ⟨rfl, rfl⟩, trivial⟩ ⟨⟨rfl, rfl⟩, trivial⟩⟩
    · have hk2 : i = n.f0.length := Nat.le_antisymm hi (ln_f c)
      subst hk2
      conv => whnf
      exact RetQ.mk ⟨rfl, rfl⟩ ⟨rfl, rfl⟩ ⟨bv (hR.symm.trans okSL_end), trivial⟩
theorem specOk : ∀ (n : SN), Bd n → ∀ d : Nat, d ≤ 6 → CallOb T Tryz.prog 144 [.ag (T.cells eN n), .c (.sc (.int .i64 (d : Int)))] (.c (.sc (.bool (okS d n)))) := fun n hn d hd =>
  specOk_of n d hn hd (fun h k hk => specOk k (hn.kid k hk) (d + 1) h)
termination_by n => SizeOf.sizeOf n
decreasing_by exact lt_kid hk
end Go.Proofs.YtcnfgfomholheaaGreatDoor.Q
end
section
/- Are all filters right? The spec's side; NodeOk. Printed by a program of this work (gen_tree5.py). -/
namespace Go.Proofs.YtcnfgfomholheaaGreatDoor.Q
open Go.RowKit Go.Proofs.YtcnfgfomholheaaGreatDoor.Z Go.Proofs.YtcnfgfomholheaaGreatDoor.Pure
set_option linter.unusedVariables false
set_option linter.unusedSimpArgs false
set_option maxRecDepth 100000
set_option maxHeartbeats 4000000
theorem txSL_step {d i : Nat} {a : ByteArray} {ns : List ByteArray} {ks : List SN} (h : i < ns.length) (h2 : i < ks.length) : txSL d a (ns.drop i) (ks.drop i) = (txS (d + 1) (if 0 < d then (a ++ (⟨#[47]⟩ : ByteArray)) ++ ns.getD i ByteArray.empty else ns.getD i ByteArray.empty) (ks.getD i zN) && txSL d a (ns.drop (i + 1)) (ks.drop (i + 1))) := by
  have e : ns.getD i ByteArray.empty = ns[i] := by simp [h]
  have e2 : ks.getD i zN = ks[i] := by simp [h2]
  rw [List.drop_eq_getElem_cons h, List.drop_eq_getElem_cons h2, txSL, e, e2]
theorem txSL_end {d : Nat} {a : ByteArray} {ns : List ByteArray} {ks : List SN} : txSL d a (ns.drop ns.length) ks = true := by
  rw [List.drop_length]; cases ks <;> rw [txSL] <;> (intro x1 x2 x3 x4 e; cases e)
theorem kid_ok {d i : Nat} {n : SN} (h : okS d n = true) (hi : i < n.f1.length) : okS (d + 1) (n.f1.getD i zN) = true := by
  obtain ⟨e1, e2, e3, e4⟩ := okS_parts h
  exact okSL_mem d n.f0 none n.f1 e1 e4 _ (getD_mem hi)
theorem specTexts_of (n : SN) (d : Nat) (a : ByteArray) (hn : Bd n) (hd : d ≤ 6) (ha : a.size ≤ d * 1048577) (hok : okS d n = true) (ih : ∀ k ∈ n.f1, okS (d + 1) k = true → d < 6 → ∀ b : ByteArray, b.size ≤ (d + 1) * 1048577 → CallOb T Tryz.prog 145 [.ag (T.cells eN k), .c (.sc (.string b)), .c (.sc (.int .i64 ((d + 1 : Nat) : Int)))] (.c (.sc (.bool (txS (d + 1) b k))))) : CallOb T Tryz.prog 145 [.ag (T.cells eN n), .c (.sc (.string a)), .c (.sc (.int .i64 (d : Int)))] (.c (.sc (.bool (txS d a n)))) := by
  refine call_of_Vc hT Tryz.func145 (by kernel_rfl) rfl rfl (fun A => ?_)
  have hR := txS_eq d a n
  generalize txS d a n = R at hR ⊢
  replace hR := hR.symm
  obtain ⟨hl, h6, _, _⟩ := okS_parts hok
  refine Vc.seq 0 hT ?_
  conv => whnf
  refine Vc.cut (α := Unit) 2 (fun _ => txSL d a n.f0 n.f1 = R) (fun _ => [(3, .c (.px 0 0)), (1, tx_s a), (2, i64 d)]) (fun _ => [(0, bxN n)]) hT ?_ (fun _ hR => ?_)
  · conv => whnf
    refine Split.mk (fun c => ?_) (fun c => ?_)
    · have h1 : 0 < d := gt0_t c
      clear c
      rw [decide_eq_true h1, Bool.true_and] at hR
      conv => whnf
      refine Split.mk (fun c => ?_) (fun c => ?_)
      · have h2 : 0 < n.f2.length := gt0_t c
        clear c
        rw [decide_eq_true h2, Bool.true_and, Bool.not_not] at hR
        conv => whnf
        refine CallQ.mk _ (specFilterOk a (by omega)) ?_
        conv => whnf
        refine Split.mk (fun c => ?_) (fun c => ?_)
        · have c1 : filterL a = false := not_t c
          clear c
          conv => whnf
          exact RetQ.mk ⟨rfl, rfl⟩ ⟨rfl, rfl⟩ ⟨bv (and_f c1 hR), trivial⟩
        · have c1 : filterL a = true := not_f c
          clear c
          conv => whnf
          exact CutQ.mk ⟨(), and_t c1 hR, imp_of [(0, 0)] rfl rfl rfl ⟨⟨rfl, rfl⟩, ⟨rfl, rfl⟩, ⟨rfl, rfl⟩, trivial⟩ ⟨⟨rfl, rfl⟩, trivial⟩⟩
      · have h2 : n.f2.length = 0 := gt0_f c
        clear c
        have hR := and_t (by rw [decide_eq_false (by omega)]; rfl) hR
        conv => whnf
        refine Split.mk (fun e => ft_ e) (fun _ => ?_)
        conv => whnf
        exact CutQ.mk ⟨(), hR, imp_of [(0, 0)] rfl rfl rfl ⟨⟨rfl, rfl⟩, ⟨rfl, rfl⟩, ⟨rfl, rfl⟩, trivial⟩ ⟨⟨rfl, rfl⟩, trivial⟩⟩
    · have h1 : d = 0 := gt0_f c
      clear c
      have hR := and_t (by rw [decide_eq_false (by omega)]; rfl) hR
      conv => whnf
      refine Split.mk (fun e => ft_ e) (fun _ => ?_)
      conv => whnf
      refine Split.mk (fun e => ft_ e) (fun _ => ?_)
      conv => whnf
      exact CutQ.mk ⟨(), hR, imp_of [(0, 0)] rfl rfl rfl ⟨⟨rfl, rfl⟩, ⟨rfl, rfl⟩, ⟨rfl, rfl⟩, trivial⟩ ⟨⟨rfl, rfl⟩, trivial⟩⟩
  refine Vc.of 1 hT ?_
  conv => whnf
  refine LoopQ.mk { i : Nat // i ≤ n.f0.length ∧ txSL d a (n.f0.drop i) (n.f1.drop i) = R } (fun p => (1, [(7, i64 p.1), (3, .c (.px 0 0)), (1, tx_s a), (2, i64 d)], [(0, bxN n)])) (fun p => n.f0.length - p.1) ⟨0, Nat.zero_le _, hR⟩ (imp_of [(0, 0)] rfl rfl rfl ⟨⟨rfl, rfl⟩, ⟨rfl, rfl⟩, ⟨rfl, rfl⟩, ⟨rfl, rfl⟩, trivial⟩ ⟨⟨rfl, rfl⟩, trivial⟩) ?_
  rename_i hR0
  clear hR hR0
  rintro ⟨i, hi, hR⟩
  conv => whnf
  refine Split.mk (fun c => ?_) (fun c => ?_)
  · have hk2 : i < n.f0.length := ln_t c
    clear c
    have hk3 : i < n.f1.length := hl ▸ hk2
    have hd6 : d < 6 := by have := h6 (by omega); omega
    have hx := hn.z0 _ (getD_mem (d := ByteArray.empty) hk2)
    have ihk := ih _ (getD_mem (d := zN) hk3) (kid_ok hok hk3) hd6
    rw [d1_ (by omega)] at ihk
    rw [txSL_step hk2 hk3] at hR
    conv => whnf
    refine Need.mk (idx hk2) ?_
    conv => whnf
    refine Split.mk (fun c => ?_) (fun c => ?_)
    · have h1 : 0 < d := gt0_t c
      clear c
      rw [if_pos h1] at hR
      have hs1 : (a ++ (⟨#[47]⟩ : ByteArray)).size = a.size + 1 := ba_app_size _ _
      have hs2 : ((a ++ (⟨#[47]⟩ : ByteArray)) ++ n.f0.getD i ByteArray.empty).size = a.size + 1 + (n.f0.getD i ByteArray.empty).size := by rw [ba_app_size, hs1]
      conv => whnf
      refine Need.mk (show a.size + 1 ≤ 9223372036854775807 by omega) ?_
      conv => whnf
      refine Need.mk (show (a ++ (⟨#[47]⟩ : ByteArray)).size + (n.f0.getD i ByteArray.empty).size ≤ 9223372036854775807 by omega) ?_
      conv => whnf
      refine Need.mk (idx hk3) ?_
      conv => whnf
      refine CallQ.mk _ (ihk _ (by show ((a ++ (⟨#[47]⟩ : ByteArray)) ++ n.f0.getD i ByteArray.empty).size ≤ _; omega)) ?_
      conv => whnf
      refine Split.mk (fun c => ?_) (fun c => ?_)
      · have c4 := not_t c
        conv => whnf
        exact RetQ.mk ⟨rfl, rfl⟩ ⟨rfl, rfl⟩ ⟨bv (and_f c4 hR), trivial⟩
      · have c4 := not_f c
        replace hR := and_t c4 hR
        conv => whnf
        exact NextQ.mk ⟨⟨i + 1, hk2, hR⟩, Nat.sub_lt_sub_left hk2 (Nat.lt_succ_self i), imp_of [(0, 0)] rfl rfl rfl ⟨⟨rfl, congrArg i64 (sc_ hk2 (Nat.le_trans hn.l0 (by decide)))⟩, ⟨rfl, rfl⟩, ⟨rfl, rfl⟩, ⟨rfl, rfl⟩, trivial⟩ ⟨⟨rfl, rfl⟩, trivial⟩⟩
    · have h1 : d = 0 := gt0_f c
      clear c
      rw [if_neg (by omega)] at hR
      conv => whnf
      refine Need.mk (idx hk3) ?_
      conv => whnf
      refine CallQ.mk _ (ihk _ (by show (n.f0.getD i ByteArray.empty).size ≤ _; omega)) ?_
      conv => whnf
      refine Split.mk (fun c => ?_) (fun c => ?_)
      · have c4 := not_t c
        conv => whnf
        exact RetQ.mk ⟨rfl, rfl⟩ ⟨rfl, rfl⟩ ⟨bv (and_f c4 hR), trivial⟩
      · have c4 := not_f c
        replace hR := and_t c4 hR
        conv => whnf
        exact NextQ.mk ⟨⟨i + 1, hk2, hR⟩, Nat.sub_lt_sub_left hk2 (Nat.lt_succ_self i), imp_of [(0, 0)] rfl rfl rfl ⟨⟨rfl, congrArg i64 (sc_ hk2 (Nat.le_trans hn.l0 (by decide)))⟩, ⟨rfl, rfl⟩, ⟨rfl, rfl⟩, ⟨rfl, rfl⟩, trivial⟩ ⟨⟨rfl, rfl⟩, trivial⟩⟩
  · have hk2 : i = n.f0.length := Nat.le_antisymm hi (ln_f c)
    subst hk2
    conv => whnf
    exact RetQ.mk ⟨rfl, rfl⟩ ⟨rfl, rfl⟩ ⟨bv (hR.symm.trans txSL_end), trivial⟩
theorem specTexts : ∀ (n : SN), Bd n → ∀ (d : Nat) (a : ByteArray), d ≤ 6 → a.size ≤ d * 1048577 → okS d n = true → CallOb T Tryz.prog 145 [.ag (T.cells eN n), .c (.sc (.string a)), .c (.sc (.int .i64 (d : Int)))] (.c (.sc (.bool (txS d a n)))) := fun n hn d a hd ha hok =>
  specTexts_of n d a hn hd ha hok (fun k hk hok2 h b hb => specTexts k (hn.kid k hk) (d + 1) b h hb hok2)
termination_by n => SizeOf.sizeOf n
decreasing_by exact lt_kid hk
theorem nodeP_parts {n : SN} (hn : Bd n) (h0 : n.f2.length = 0) : nodeP n = (okS 0 n && txS 0 (⟨#[]⟩ : ByteArray) n) := by
  have hB := tree_both hn [] 0 rfl (by omega) (fun _ => h0)
  have e : joinB [] = (⟨#[]⟩ : ByteArray) := rfl
  rw [e] at hB
  unfold nodeP
  rw [decide_eq_true h0, Bool.true_and, Bool.eq_iff_iff, hB, Bool.and_eq_true]
theorem specNodeOk (n : SN) (hn : Bd n) : CallOb T Tryz.prog 76 [.ag (T.cells eN n)] (.c (.sc (.bool (nodeP n)))) := by
  refine call_of_vc hT Tryz.func76 (by kernel_rfl) rfl rfl (fun A => ?_)
  conv => whnf
  refine Split.mk (fun c => ?_) (fun c => ?_)
  · have h0 : n.f2.length = 0 := e0_t c
    clear c
    rw [nodeP_parts hn h0]
    conv => whnf
    refine CallQ.mk _ (specOk n hn 0 (by decide)) ?_
    conv => whnf
    refine Split.mk (fun c => ?_) (fun c => ?_)
    · conv => whnf
      refine CallQ.mk _ (specTexts n hn 0 _ (by decide) (by show (0 : Nat) ≤ _; omega) c) ?_
      conv => whnf
      exact RetQ.mk ⟨rfl, rfl⟩ ⟨rfl, rfl⟩ ⟨bv (by rw [c]; rfl), trivial⟩
    · conv => whnf
      exact RetQ.mk ⟨rfl, rfl⟩ ⟨rfl, rfl⟩ ⟨bv (by rw [c]; rfl), trivial⟩
  · have h0 : n.f2.length ≠ 0 := e0_f c
    clear c
    conv => whnf
    refine Split.mk (fun e => ft_ e) (fun _ => ?_)
    conv => whnf
    exact RetQ.mk ⟨rfl, rfl⟩ ⟨rfl, rfl⟩ ⟨bv (by unfold nodeP; rw [decide_eq_false h0]; rfl), trivial⟩
end Go.Proofs.YtcnfgfomholheaaGreatDoor.Q
end
section
/- Is a node right? The program's side. Printed by a program of this work (gen_tree5.py). -/
namespace Go.Proofs.YtcnfgfomholheaaGreatDoor.Q
open Go.RowKit Go.Proofs.YtcnfgfomholheaaGreatDoor.Z Go.Proofs.YtcnfgfomholheaaGreatDoor.Pure
set_option linter.unusedVariables false
set_option linter.unusedSimpArgs false
set_option maxRecDepth 100000
set_option maxHeartbeats 4000000
theorem okIL_step {i : Nat} {p : List ByteArray} {ns : List ByteArray} {ks : List SN} (h : i < ns.length) (h2 : i < ks.length) : okIL p (ns.drop i) (prevOf ns i) (ks.drop i) = (riseP (prevOf ns i) (ns.getD i ByteArray.empty) && (decide ((lev (ns.getD i ByteArray.empty)).length ≤ 1) && (levelL (dl (ns.getD i ByteArray.empty)) (((ks.getD i zN).f1.length : Int) == 0) && (!(decide ((ks.getD i zN).f1.length = 0) && decide ((ks.getD i zN).f2.length = 0)) && (okI (p ++ [ns.getD i ByteArray.empty]) (ks.getD i zN) && okIL p (ns.drop (i + 1)) (prevOf ns (i + 1)) (ks.drop (i + 1))))))) := by
  have e : ns.getD i ByteArray.empty = ns[i] := by simp [h]
  have e2 : ks.getD i zN = ks[i] := by simp [h2]
  have e3 : ((ks[i].f1.length : Int) == 0) = decide (ks[i].f1.length = 0) := by rw [Bool.eq_iff_iff]; simp
  rw [List.drop_eq_getElem_cons h, List.drop_eq_getElem_cons h2, okIL, e, e2, prevOf_succ h, e, wayP, pieces_len, e3, Bool.and_assoc]
theorem okIL_end {p : List ByteArray} {ns : List ByteArray} {ks : List SN} {y : Option ByteArray} : okIL p (ns.drop ns.length) y ks = true := by
  rw [List.drop_length]; cases ks <;> rw [okIL] <;> (intro x1 x2 x3 x4 e; cases e)
theorem gtn_t {a b : Nat} (c : decide ((a : Int) > (b : Int)) = true) : b < a := by simp at c; omega
theorem gtn_f {a b : Nat} (c : decide ((a : Int) > (b : Int)) = false) : a ≤ b := by simp at c; omega
theorem flat9 : AllFlat T 9 := fun _ => rfl
theorem flatS : AllFlat T eS := fun _ => rfl
theorem app_need {a b : Nat} {bt : Nat} (h : a + b ≤ 8388608) (hb : bt ≤ 1024) : a + b ≤ maxLen ∧ (a + b) * bt ≤ 140737488355328 := by
  have : (a + b) * bt ≤ 8388608 * 1024 := Nat.mul_le_mul h hb
  unfold maxLen; omega
/-- An empty row may be told as none. -/
theorem call_nil1 {f : FuncId} {x : Arg T.Tb} {e : Nat} {r : RS T.Tb} (h : CallOb T Tryz.prog f [x, .c (.sl e [])] r) : CallOb T Tryz.prog f [x, .c (.sc (.slice none 0 0))] r := by
  refine ⟨h.1, fun w vs S hj ha => h.2 w vs S hj ?_⟩
  obtain ⟨v, q, rfl, h1, v2, q2, rfl, ⟨rfl, _⟩, rfl⟩ := ha
  exact ⟨v, _, rfl, h1, _, _, rfl, .nil e none 0, rfl⟩
theorem implOk_of (n : SN) (p : List ByteArray) (hn : Bd n) (hp : p.length ≤ 7) (hz : ∀ x ∈ p, x.size ≤ 1048576) (ih : p.length ≤ 6 → ∀ k ∈ n.f1, ∀ x : ByteArray, x.size ≤ 1048576 → CallOb T Tryz.prog 137 [.ag (T.cells eN k), .c (.sl 9 (p ++ [x]))] (.c (.sc (.bool (okI (p ++ [x]) k))))) : CallOb T Tryz.prog 137 [.ag (T.cells eN n), .c (.sl 9 (p))] (.c (.sc (.bool (okI (p) n)))) := by
  refine call_of_Vc hT Tryz.func137 (by kernel_rfl) rfl rfl (fun A => ?_)
  have hR := okI_eq p n
  generalize okI p n = R at hR ⊢
  replace hR := hR.symm
  refine Vc.seq 0 hT ?_
  conv => whnf
  refine Vc.seq 1 hT ?_
  conv => whnf
  refine Split.mk (fun c => ?_) (fun c => ?_)
  · have h1 : ¬ n.f0.length = n.f1.length := nn_t c
    clear c
    conv => whnf
    refine Split.mk (fun _ => ?_) (fun e => tf_ e)
    conv => whnf
    refine Split.mk (fun _ => ?_) (fun e => tf_ e)
    conv => whnf
    exact RetQ.mk ⟨rfl, rfl⟩ ⟨rfl, rfl⟩ ⟨bv (and_f (decide_eq_false h1) hR), trivial⟩
  have hl : n.f0.length = n.f1.length := nn_f c
  clear c
  replace hR := and_t (decide_eq_true hl) hR
  conv => whnf
  refine Split.mk (fun c => ?_) (fun c => ?_)
  · have h1 : ¬ p.length ≤ 6 := Nat.not_le.2 (gtn_t (b := 6) c)
    clear c
    conv => whnf
    refine Split.mk (fun _ => ?_) (fun e => tf_ e)
    conv => whnf
    exact RetQ.mk ⟨rfl, rfl⟩ ⟨rfl, rfl⟩ ⟨bv (and_f (decide_eq_false h1) hR), trivial⟩
  have h6 : p.length ≤ 6 := gtn_f (b := 6) c
  clear c
  replace hR := and_t (decide_eq_true h6) hR
  conv => whnf
  refine CallQ.mk _ (implSubsOk n.f2 hn.l2 (fun x hx => Nat.le_trans (hn.z2 x hx) (by decide))) ?_
  conv => whnf
  refine Split.mk (fun c => ?_) (fun c => ?_)
  · have c1 : subsL n.f2 = false := not_t c
    clear c
    conv => whnf
    exact RetQ.mk ⟨rfl, rfl⟩ ⟨rfl, rfl⟩ ⟨bv (and_f c1 hR), trivial⟩
  have c1 : subsL n.f2 = true := not_f c
  clear c
  replace hR := and_t c1 hR
  conv => whnf
  refine Vc.cut (α := Unit) 2 (fun _ => okIL p n.f0 none n.f1 = R) (fun _ => [(2, .c (.px 0 0)), (1, im 9 p)]) (fun _ => [(0, bxN n)]) hT ?_ (fun _ hR => ?_)
  · conv => whnf
    refine Split.mk (fun c => ?_) (fun c => ?_)
    · have h1 : 0 < n.f2.length := gt0_t c
      clear c
      rw [decide_eq_false (p := n.f2.length = 0) (by omega), Bool.false_or] at hR
      conv => whnf
      refine CallQ.mk _ (implJoin p (by omega) (joinB_small p hp hz)) ?_
      conv => whnf
      refine CallQ.mk _ (implFilterOk _ (joinB_small p hp hz)) ?_
      conv => whnf
      refine Split.mk (fun c => ?_) (fun c => ?_)
      · have c1 : filterL (joinB p) = false := not_t c
        clear c
        conv => whnf
        exact RetQ.mk ⟨rfl, rfl⟩ ⟨rfl, rfl⟩ ⟨bv (and_f c1 hR), trivial⟩
      · have c1 : filterL (joinB p) = true := not_f c
        clear c
        conv => whnf
        exact CutQ.mk ⟨(), and_t c1 hR, imp_of [(0, 0)] rfl rfl rfl ⟨⟨rfl, rfl⟩, ⟨rfl, rfl⟩, trivial⟩ ⟨⟨rfl, rfl⟩, trivial⟩⟩
    · have h1 : n.f2.length = 0 := gt0_f c
      clear c
      replace hR := and_t (by rw [decide_eq_true h1]; rfl) hR
      conv => whnf
      refine Split.mk (fun e => ft_ e) (fun _ => ?_)
      conv => whnf
      exact CutQ.mk ⟨(), hR, imp_of [(0, 0)] rfl rfl rfl ⟨⟨rfl, rfl⟩, ⟨rfl, rfl⟩, trivial⟩ ⟨⟨rfl, rfl⟩, trivial⟩⟩
  refine Vc.of 1 hT ?_
  conv => whnf
  refine LoopQ.mk { i : Nat // i ≤ n.f0.length ∧ okIL p (n.f0.drop i) (prevOf n.f0 i) (n.f1.drop i) = R } (fun p_ => (1, [(39, i64 p_.1), (38, i64 n.f0.length), (37, im 9 n.f0), (2, .c (.px 0 0)), (1, im 9 p)], [(0, bxN n)])) (fun p => n.f0.length - p.1) ⟨0, Nat.zero_le _, hR⟩ (imp_of [(0, 0)] rfl rfl rfl ⟨⟨rfl, rfl⟩, ⟨rfl, rfl⟩, ⟨rfl, rfl⟩, ⟨rfl, rfl⟩, ⟨rfl, rfl⟩, trivial⟩ ⟨⟨rfl, rfl⟩, trivial⟩) ?_
  rename_i hR0
  clear hR hR0
  rintro ⟨i, hi, hR⟩
  conv => whnf
  refine Split.mk (fun c => ?_) (fun c => ?_)
  · have hk2 : i < n.f0.length := ln_t c
    clear c
    have hk3 : i < n.f1.length := hl ▸ hk2
    have hx := hn.z0 _ (getD_mem (d := ByteArray.empty) hk2)
    have ihk := ih h6 _ (getD_mem (d := zN) hk3) _ hx
    rw [okIL_step hk2 hk3] at hR
    conv => whnf
    refine Need.mk (idx hk2) ?_
    conv => whnf
    refine Need.mk (idx hk3) ?_
    conv => whnf
    refine Split.mk (fun c => ?_) (fun c => ?_)
    · have h0 : 0 < i := gt0_t c
      clear c
      have hl0 := hn.l0
      rw [rise_n h0 hk2] at hR
      have hpr := pred_ h0 (by omega)
      have hpt : (wrap64 ((i : Int) - 1)).toNat = i - 1 := by rw [hpr]; rfl
      conv => whnf
      refine Need.mk (by rw [hpr]; exact idx (show i - 1 < n.f0.length by omega)) ?_
      conv => whnf
      refine Split.mk (fun c => ?_) (fun c => ?_)
      · have c2 : Op.bytesLess (n.f0.getD (i - 1) ByteArray.empty).toList (n.f0.getD i ByteArray.empty).toList = false := (congrArg (fun j => Op.bytesLess (n.f0.getD j ByteArray.empty).toList (n.f0.getD i ByteArray.empty).toList) hpt.symm).trans (not_t c)
        clear c
        conv => whnf
        refine Split.mk (fun _ => ?_) (fun e => tf_ e)
        conv => whnf
        refine Split.mk (fun _ => ?_) (fun e => tf_ e)
        conv => whnf
        exact RetQ.mk ⟨rfl, rfl⟩ ⟨rfl, rfl⟩ ⟨bv (and_f c2 hR), trivial⟩
      · have c2 : Op.bytesLess (n.f0.getD (i - 1) ByteArray.empty).toList (n.f0.getD i ByteArray.empty).toList = true := (congrArg (fun j => Op.bytesLess (n.f0.getD j ByteArray.empty).toList (n.f0.getD i ByteArray.empty).toList) hpt.symm).trans (not_f c)
        clear c
        replace hR := and_t c2 hR
        conv => whnf
        refine CallQ.mk _ (implLevels _ (Nat.le_trans hx (by decide))) ?_
        conv => whnf
        refine Split.mk (fun c => ?_) (fun c => ?_)
        · have c3 : ¬ (lev (n.f0.getD i ByteArray.empty)).length ≤ 1 := Nat.not_le.2 (gtn_t (b := 1) c)
          clear c
          conv => whnf
          refine Split.mk (fun _ => ?_) (fun e => tf_ e)
          conv => whnf
          exact RetQ.mk ⟨rfl, rfl⟩ ⟨rfl, rfl⟩ ⟨bv (and_f (decide_eq_false c3) hR), trivial⟩
        · have c3 : (lev (n.f0.getD i ByteArray.empty)).length ≤ 1 := gtn_f (b := 1) c
          clear c
          replace hR := and_t (decide_eq_true c3) hR
          conv => whnf
          refine CallQ.mk _ (implLevelOk _ _ (Nat.le_trans hx (by decide))) ?_
          conv => whnf
          refine Split.mk (fun c => ?_) (fun c => ?_)
          · have c4 := not_t c
            conv => whnf
            exact RetQ.mk ⟨rfl, rfl⟩ ⟨rfl, rfl⟩ ⟨bv (and_f c4 hR), trivial⟩
          · have c4 := not_f c
            clear c
            replace hR := and_t c4 hR
            conv => whnf
            refine Split.mk (fun c => ?_) (fun c => ?_)
            · have c5 : (n.f1.getD i zN).f1.length = 0 := e0_t c
              clear c
              conv => whnf
              refine Split.mk (fun c => ?_) (fun c => ?_)
              · have c6 : (n.f1.getD i zN).f2.length = 0 := e0_t c
                clear c
                conv => whnf
                refine DrawQ.mk ⟨by kernel_rfl, by kernel_rfl⟩ ?_
                conv => whnf
                refine Split.mk (fun _ => ?_) (fun e => tf_ e)
                conv => whnf
                exact RetQ.mk ⟨rfl, rfl⟩ ⟨rfl, rfl⟩ ⟨bv (no3 c5 c6 hR), trivial⟩
              · have c6 : (n.f1.getD i zN).f2.length ≠ 0 := e0_f c
                clear c
                replace hR := no2 c5 c6 hR
                conv => whnf
                refine Need.mk ⟨flat9, app_need (a := 0) (b := p.length) (by omega) (by decide)⟩ ?_
                conv => whnf
                refine Need.mk (app_need (a := p.length) (b := 1) (by omega) (by decide)) ?_
                conv => whnf
                refine CallQ.mk _ ihk ?_
                conv => whnf
                refine DrawQ.mk ⟨by kernel_rfl, by kernel_rfl⟩ ?_
                conv => whnf
                refine Split.mk (fun c => ?_) (fun c => ?_)
                · have c9 := not_t c
                  conv => whnf
                  exact RetQ.mk ⟨rfl, rfl⟩ ⟨rfl, rfl⟩ ⟨bv (and_f c9 hR), trivial⟩
                · have c9 := not_f c
                  replace hR := and_t c9 hR
                  conv => whnf
                  exact NextQ.mk ⟨⟨i + 1, hk2, hR⟩, Nat.sub_lt_sub_left hk2 (Nat.lt_succ_self i), imp_of [(0, 0)] rfl rfl rfl ⟨⟨rfl, congrArg i64 (sc_ hk2 (Nat.le_trans hn.l0 (by decide)))⟩, ⟨rfl, rfl⟩, ⟨rfl, rfl⟩, ⟨rfl, rfl⟩, ⟨rfl, rfl⟩, trivial⟩ ⟨⟨rfl, rfl⟩, trivial⟩⟩
            · have c5 : (n.f1.getD i zN).f1.length ≠ 0 := e0_f c
              clear c
              replace hR := no1 c5 hR
              conv => whnf
              refine Split.mk (fun e => ft_ e) (fun _ => ?_)
              conv => whnf
              refine Need.mk ⟨flat9, app_need (a := 0) (b := p.length) (by omega) (by decide)⟩ ?_
              conv => whnf
              refine Need.mk (app_need (a := p.length) (b := 1) (by omega) (by decide)) ?_
              conv => whnf
              refine CallQ.mk _ ihk ?_
              conv => whnf
              refine DrawQ.mk ⟨by kernel_rfl, by kernel_rfl⟩ ?_
              conv => whnf
              refine Split.mk (fun c => ?_) (fun c => ?_)
              · have c9 := not_t c
                conv => whnf
                exact RetQ.mk ⟨rfl, rfl⟩ ⟨rfl, rfl⟩ ⟨bv (and_f c9 hR), trivial⟩
              · have c9 := not_f c
                replace hR := and_t c9 hR
                conv => whnf
                exact NextQ.mk ⟨⟨i + 1, hk2, hR⟩, Nat.sub_lt_sub_left hk2 (Nat.lt_succ_self i), imp_of [(0, 0)] rfl rfl rfl ⟨⟨rfl, congrArg i64 (sc_ hk2 (Nat.le_trans hn.l0 (by decide)))⟩, ⟨rfl, rfl⟩, ⟨rfl, rfl⟩, ⟨rfl, rfl⟩, ⟨rfl, rfl⟩, trivial⟩ ⟨⟨rfl, rfl⟩, trivial⟩⟩
    · have h0 : i = 0 := gt0_f c
      clear c
      subst h0
      rw [rise_0, Bool.true_and] at hR
      conv => whnf
      refine Split.mk (fun e => ft_ e) (fun _ => ?_)
      conv => whnf
      refine CallQ.mk _ (implLevels _ (Nat.le_trans hx (by decide))) ?_
      conv => whnf
      refine Split.mk (fun c => ?_) (fun c => ?_)
      · have c3 : ¬ (lev (n.f0.getD 0 ByteArray.empty)).length ≤ 1 := Nat.not_le.2 (gtn_t (b := 1) c)
        clear c
        conv => whnf
        refine Split.mk (fun _ => ?_) (fun e => tf_ e)
        conv => whnf
        exact RetQ.mk ⟨rfl, rfl⟩ ⟨rfl, rfl⟩ ⟨bv (and_f (decide_eq_false c3) hR), trivial⟩
      · have c3 : (lev (n.f0.getD 0 ByteArray.empty)).length ≤ 1 := gtn_f (b := 1) c
        clear c
        replace hR := and_t (decide_eq_true c3) hR
        conv => whnf
        refine CallQ.mk _ (implLevelOk _ _ (Nat.le_trans hx (by decide))) ?_
        conv => whnf
        refine Split.mk (fun c => ?_) (fun c => ?_)
        · have c4 := not_t c
          conv => whnf
          exact RetQ.mk ⟨rfl, rfl⟩ ⟨rfl, rfl⟩ ⟨bv (and_f c4 hR), trivial⟩
        · have c4 := not_f c
          clear c
          replace hR := and_t c4 hR
          conv => whnf
          refine Split.mk (fun c => ?_) (fun c => ?_)
          · have c5 : (n.f1.getD 0 zN).f1.length = 0 := e0_t c
            clear c
            conv => whnf
            refine Split.mk (fun c => ?_) (fun c => ?_)
            · have c6 : (n.f1.getD 0 zN).f2.length = 0 := e0_t c
              clear c
              conv => whnf
              refine DrawQ.mk ⟨by kernel_rfl, by kernel_rfl⟩ ?_
              conv => whnf
              refine Split.mk (fun _ => ?_) (fun e => tf_ e)
              conv => whnf
              exact RetQ.mk ⟨rfl, rfl⟩ ⟨rfl, rfl⟩ ⟨bv (no3 c5 c6 hR), trivial⟩
            · have c6 : (n.f1.getD 0 zN).f2.length ≠ 0 := e0_f c
              clear c
              replace hR := no2 c5 c6 hR
              conv => whnf
              refine Need.mk ⟨flat9, app_need (a := 0) (b := p.length) (by omega) (by decide)⟩ ?_
              conv => whnf
              refine Need.mk (app_need (a := p.length) (b := 1) (by omega) (by decide)) ?_
              conv => whnf
              refine CallQ.mk _ ihk ?_
              conv => whnf
              refine DrawQ.mk ⟨by kernel_rfl, by kernel_rfl⟩ ?_
              conv => whnf
              refine Split.mk (fun c => ?_) (fun c => ?_)
              · have c9 := not_t c
                conv => whnf
                exact RetQ.mk ⟨rfl, rfl⟩ ⟨rfl, rfl⟩ ⟨bv (and_f c9 hR), trivial⟩
              · have c9 := not_f c
                replace hR := and_t c9 hR
                conv => whnf
                exact NextQ.mk ⟨⟨0 + 1, hk2, hR⟩, Nat.sub_lt_sub_left hk2 (Nat.lt_succ_self 0), imp_of [(0, 0)] rfl rfl rfl ⟨⟨rfl, congrArg i64 (sc_ hk2 (Nat.le_trans hn.l0 (by decide)))⟩, ⟨rfl, rfl⟩, ⟨rfl, rfl⟩, ⟨rfl, rfl⟩, ⟨rfl, rfl⟩, trivial⟩ ⟨⟨rfl, rfl⟩, trivial⟩⟩
          · have c5 : (n.f1.getD 0 zN).f1.length ≠ 0 := e0_f c
            clear c
            replace hR := no1 c5 hR
            conv => whnf
            refine Split.mk (fun e => ft_ e) (fun _ => ?_)
            conv => whnf
            refine Need.mk ⟨flat9, app_need (a := 0) (b := p.length) (by omega) (by decide)⟩ ?_
            conv => whnf
            refine Need.mk (app_need (a := p.length) (b := 1) (by omega) (by decide)) ?_
            conv => whnf
            refine CallQ.mk _ ihk ?_
            conv => whnf
            refine DrawQ.mk ⟨by kernel_rfl, by kernel_rfl⟩ ?_
            conv => whnf
            refine Split.mk (fun c => ?_) (fun c => ?_)
            · have c9 := not_t c
              conv => whnf
              exact RetQ.mk ⟨rfl, rfl⟩ ⟨rfl, rfl⟩ ⟨bv (and_f c9 hR), trivial⟩
            · have c9 := not_f c
              replace hR := and_t c9 hR
              conv => whnf
              exact NextQ.mk ⟨⟨0 + 1, hk2, hR⟩, Nat.sub_lt_sub_left hk2 (Nat.lt_succ_self 0), imp_of [(0, 0)] rfl rfl rfl ⟨⟨rfl, congrArg i64 (sc_ hk2 (Nat.le_trans hn.l0 (by decide)))⟩, ⟨rfl, rfl⟩, ⟨rfl, rfl⟩, ⟨rfl, rfl⟩, ⟨rfl, rfl⟩, trivial⟩ ⟨⟨rfl, rfl⟩, trivial⟩⟩
  · have hk2 : i = n.f0.length := Nat.le_antisymm hi (ln_f c)
    subst hk2
    conv => whnf
    exact RetQ.mk ⟨rfl, rfl⟩ ⟨rfl, rfl⟩ ⟨bv (hR.symm.trans okIL_end), trivial⟩
theorem implOk : ∀ (n : SN), Bd n → ∀ p : List ByteArray, p.length ≤ 7 → (∀ x ∈ p, x.size ≤ 1048576) → CallOb T Tryz.prog 137 [.ag (T.cells eN n), .c (.sl 9 (p))] (.c (.sc (.bool (okI (p) n)))) := fun n hn p hp hz =>
  implOk_of n p hn hp hz (fun h k hk x hx => implOk k (hn.kid k hk) (p ++ [x]) (by rw [List.length_append]; show p.length + 1 ≤ 7; omega) (fun y hy => (List.mem_append.1 hy).elim (hz y) (fun h => by rw [List.mem_singleton.1 h]; exact hx)))
termination_by n => SizeOf.sizeOf n
decreasing_by exact lt_kid hk
theorem implNodeOk (n : SN) (hn : Bd n) : CallOb T Tryz.prog 73 [.ag (T.cells eN n)] (.c (.sc (.bool (nodeP n)))) := by
  refine call_of_vc hT Tryz.func73 (by kernel_rfl) rfl rfl (fun A => ?_)
  conv => whnf
  refine Split.mk (fun c => ?_) (fun c => ?_)
  · have h0 : n.f2.length = 0 := e0_t c
    clear c
    conv => whnf
    refine CallQ.mk _ (call_nil1 (implOk n hn [] (by decide) (fun x hx => by cases hx))) ?_
    conv => whnf
    exact RetQ.mk ⟨rfl, rfl⟩ ⟨rfl, rfl⟩ ⟨bv (by unfold nodeP; rw [decide_eq_true h0]; rfl), trivial⟩
  · have h0 : n.f2.length ≠ 0 := e0_f c
    clear c
    conv => whnf
    exact RetQ.mk ⟨rfl, rfl⟩ ⟨rfl, rfl⟩ ⟨bv (by unfold nodeP; rw [decide_eq_false h0]; rfl), trivial⟩
end Go.Proofs.YtcnfgfomholheaaGreatDoor.Q
end
section
/- Trees copied: both sides. -/
namespace Go.Proofs.YtcnfgfomholheaaGreatDoor.Q
open Go.RowKit Go.Proofs.YtcnfgfomholheaaGreatDoor.Z Go.Proofs.YtcnfgfomholheaaGreatDoor.Pure
set_option linter.unusedVariables false
set_option linter.unusedSimpArgs false
set_option maxRecDepth 100000
set_option maxHeartbeats 4000000
theorem copySubs (l : List SS) (hl : l.length ≤ 8388608) : CallOb T Tryz.prog 170 [.c (.sl eS l)] (.c (.ow eS l)) := by
  refine call_of_vc hT Tryz.func170 (by kernel_rfl) rfl rfl (fun A => ?_)
  conv => whnf
  refine Need.mk ⟨flatS, app_need (a := 0) (b := l.length) (by omega) (by decide)⟩ ?_
  conv => whnf
  exact RetQ.mk ⟨rfl, rfl⟩ ⟨rfl, rfl⟩ ⟨rfl, trivial⟩
abbrev bxZ : Res T := .bx eN [.sc (.slice none 0 0), .sc (.slice none 0 0), .sc (.slice none 0 0)]
theorem getD_in {α : Type} (l : List α) (k : Nat) (d : α) (h : k < l.length) : l.getD k d = l[k] := by simp [h]
theorem take_snoc {l : List SN} {k : Nat} (h : k < l.length) : l.take k ++ [(⟨(getE T eN l k).f0, (getE T eN l k).f1, (getE T eN l k).f2⟩ : SN)] = l.take (k + 1) := by
  rw [show (⟨(getE T eN l k).f0, (getE T eN l k).f1, (getE T eN l k).f2⟩ : SN) = l[k] from (etaN _).trans (getD_in (α := SN) l k (T.df eN) h), List.take_succ_eq_append_getElem h]
theorem copyNode_of (n : SN) (hn : Bd n) (ih : ∀ k ∈ n.f1, CallOb T Tryz.prog 99 [.ag (T.cells eN k)] (.ag [.ow 9 k.f0, .ow eN k.f1, .ow eS k.f2])) : CallOb T Tryz.prog 99 [.ag (T.cells eN n)] (.ag [.ow 9 n.f0, .ow eN n.f1, .ow eS n.f2]) := by
  refine call_of_Vc hT Tryz.func99 (by kernel_rfl) rfl rfl (fun A => ?_)
  refine Vc.seq 0 hT ?_
  conv => whnf
  refine Vc.seq 2 hT ?_
  conv => whnf
  refine Need.mk ⟨flat9, app_need (a := 0) (b := n.f0.length) (by have := hn.l0; omega) (by decide)⟩ ?_
  conv => whnf
  refine CallQ.mk _ (copySubs n.f2 (Nat.le_trans hn.l2 (by decide))) ?_
  conv => whnf
  refine DrawQ.mk ⟨by kernel_rfl, by kernel_rfl⟩ ?_
  conv => whnf
  refine Vc.of 10 hT ?_
  conv => whnf
  refine LoopQ.mk { k : Nat // k ≤ n.f1.length } (fun p => (7, [(17, i64 p.1), (16, i64 n.f1.length), (15, im eN n.f1), (3, .c (.px 5 0)), (2, .c (.px 1 0))], [(5, .bx eN [.hd 3, .hd 6, .hd 4]), (3, .row 3 9 n.f0), (6, .row 6 eN (n.f1.take p.1)), (4, .row 4 eS n.f2), (1, bxZ)])) (fun p => n.f1.length - p.1) ⟨0, Nat.zero_le _⟩ ((imp_nilB 5 1 20 eN (t := eN) (cs := [.hd 3, .sc (.slice none 0 0), .hd 4]) rfl rfl rfl).trans (imp_of [(5, 5), (3, 3), (6, 20), (4, 4), (1, 1)] rfl rfl rfl ⟨⟨rfl, rfl⟩, ⟨rfl, rfl⟩, ⟨rfl, rfl⟩, ⟨rfl, rfl⟩, ⟨rfl, rfl⟩, trivial⟩ ⟨⟨rfl, rfl⟩, (show SameRow (T := T) 9 n.f0 9 n.f0 from sr_ rfl), (show SameRow (T := T) eN (n.f1.take 0) eN (n.f1.take 0) from sr_ rfl), (show SameRow (T := T) eS n.f2 eS n.f2 from sr_ rfl), ⟨rfl, rfl⟩, trivial⟩)) ?_
  rintro ⟨k, hk⟩
  conv => whnf
  refine Split.mk (fun c => ?_) (fun c => ?_)
  · have hk2 : k < n.f1.length := ln_t c
    clear c
    have hl1 := hn.l1
    conv => whnf
    refine Need.mk (idx hk2) ?_
    conv => whnf
    refine CallQ.mk _ (ih _ (getD_mem (d := zN) hk2)) ?_
    conv => whnf
    refine Need.mk (app_need (a := (n.f1.take k).length) (b := 1) (by rw [List.length_take]; omega) (by decide)) ?_
    conv => whnf
    refine DrawQ.mk ⟨by kernel_rfl, by kernel_rfl⟩ ?_
    conv => whnf
    exact NextQ.mk ⟨⟨k + 1, hk2⟩, Nat.sub_lt_sub_left hk2 (Nat.lt_succ_self k), imp_of [(5, 5), (3, 3), (6, 12), (4, 4), (1, 1)] rfl rfl rfl ⟨⟨rfl, congrArg i64 (sc_ hk2 (by omega))⟩, ⟨rfl, rfl⟩, ⟨rfl, rfl⟩, ⟨rfl, rfl⟩, ⟨rfl, rfl⟩, trivial⟩ ⟨⟨rfl, rfl⟩, (show SameRow (T := T) 9 n.f0 9 n.f0 from sr_ rfl), (show SameRow (T := T) eN (n.f1.take k ++ [(⟨(getE T eN n.f1 k).f0, (getE T eN n.f1 k).f1, (getE T eN n.f1 k).f2⟩ : SN)]) eN (n.f1.take (k + 1)) from sr_ (take_snoc hk2)), (show SameRow (T := T) eS n.f2 eS n.f2 from sr_ rfl), ⟨rfl, rfl⟩, trivial⟩⟩
  · have hk2 : k = n.f1.length := Nat.le_antisymm hk (ln_f c)
    subst hk2
    conv => whnf
    exact RetQ.mk ⟨rfl, rfl⟩ ⟨rfl, rfl⟩ ⟨rfl, sr_ (List.take_length), rfl, trivial⟩
theorem copyNode : ∀ (n : SN), Bd n → CallOb T Tryz.prog 99 [.ag (T.cells eN n)] (.ag [.ow 9 n.f0, .ow eN n.f1, .ow eS n.f2]) := fun n hn =>
  copyNode_of n hn (fun k hk => copyNode k (by cases hn with | mk _ _ _ _ _ _ h => exact h k hk))
termination_by n => SizeOf.sizeOf n
decreasing_by exact lt_kid hk
end Go.Proofs.YtcnfgfomholheaaGreatDoor.Q
end
