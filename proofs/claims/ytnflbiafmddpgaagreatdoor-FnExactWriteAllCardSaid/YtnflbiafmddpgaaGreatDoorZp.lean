/- Several texts of this claim in one (a claim holds at most 60 files). -/
import Derived.Test.YtnflbiafmddpgaaGreatDoorZT
import Derived.Test.YtnflbiafmddpgaaGreatDoorZc
section
/- Functions that the law FnExactSamePacket reaches: what each answers, by the path calculus. Printed by a program of this work (gen_same.py). -/
namespace Go.Proofs.YtnflbiafmddpgaaGreatDoor.Q
open Go.RowKit Go.Proofs.YtnflbiafmddpgaaGreatDoor.Z
set_option linter.unusedVariables false
set_option maxRecDepth 100000
set_option maxHeartbeats 4000000
abbrev i64 (n : Int) : Slot T := .c (.sc (.int .i64 n))
abbrev im (e : Nat) (l : List (T.Tb e)) : Slot T := .c (.im none e l)
theorem want_eq {a b : S56} (h0 : a.f0 = b.f0) (h1 : a.f1 = b.f1) : a = b := by cases a; cases b; cases h0; cases h1; rfl
theorem want_t {a b : S56} (h : (!(a.f0.toList == b.f0.toList && a.f1 == b.f1)) = true) : ¬ a = b := fun e => by subst e; simp at h
theorem want_f {a b : S56} (h : (!(a.f0.toList == b.f0.toList && a.f1 == b.f1)) = false) : a = b := by
  simp only [Bool.not_eq_false', Bool.and_eq_true] at h
  exact want_eq (st_t h.1) (eq_t h.2)
theorem slicesEqual_int (a b : List Int) (ha : a.length ≤ 140737488351232) : CallOb T Tryz.prog 72 [.c (.sl 3 a), .c (.sl 3 b)] (.c (.sc (.bool (same a b)))) := by
  refine call_of_vc hT Tryz.func72 (by kernel_rfl) rfl rfl (fun A => ?_)
  conv => whnf
  refine Split.mk (fun c => ?_) (fun c => ?_)
  · conv => whnf
    exact RetQ.mk ⟨rfl, rfl⟩ ⟨rfl, rfl⟩ ⟨bv (same_f (fun e => nn_t c (congrArg List.length e))), trivial⟩
  · have hl : a.length = b.length := nn_f c
    conv => whnf
    refine LoopQ.mk { k : Nat // k ≤ a.length ∧ a.take k = b.take k } (fun p => (0, [(13, i64 p.1), (12, i64 a.length), (0, im 3 a), (1, im 3 b)], [])) (fun p => a.length - p.1) ⟨0, Nat.zero_le _, rfl⟩ (imp_of [] rfl rfl rfl ⟨⟨rfl, rfl⟩, ⟨rfl, rfl⟩, ⟨rfl, rfl⟩, ⟨rfl, rfl⟩, trivial⟩ trivial) ?_
    rintro ⟨k, hk, ht⟩
    conv => whnf
    refine Split.mk (fun c => ?_) (fun c => ?_)
    · have hk2 : k < a.length := ln_t c
      conv => whnf
      refine Need.mk (idx hk2) ?_
      conv => whnf
      refine Need.mk (idx (hl ▸ hk2)) ?_
      conv => whnf
      refine DrawQ.mk ⟨by kernel_rfl, by kernel_rfl⟩ ?_
      conv => whnf
      refine Split.mk (fun c => ?_) (fun c => ?_)
      · conv => whnf
        exact RetQ.mk ⟨rfl, rfl⟩ ⟨rfl, rfl⟩ ⟨bv (same_f (fun e => ne_t c (congrArg (fun l => l.getD k (T.df 3)) e))), trivial⟩
      · conv => whnf
        exact NextQ.mk ⟨⟨k + 1, hk2, take_more (d := T.df 3) hk2 (hl ▸ hk2) ht (ne_f c)⟩, Nat.sub_lt_sub_left hk2 (Nat.lt_succ_self k), imp_of [] rfl rfl rfl ⟨⟨rfl, congrArg i64 (sc_ hk2 ha)⟩, ⟨rfl, rfl⟩, ⟨rfl, rfl⟩, ⟨rfl, rfl⟩, trivial⟩ trivial⟩
    · have hk2 : k = a.length := Nat.le_antisymm hk (ln_f c)
      conv => whnf
      subst hk2
      exact RetQ.mk ⟨rfl, rfl⟩ ⟨rfl, rfl⟩ ⟨bv (same_t (take_all hl ht)), trivial⟩
theorem slicesEqual_str (a b : List ByteArray) (ha : a.length ≤ 140737488351232) : CallOb T Tryz.prog 71 [.c (.sl 9 a), .c (.sl 9 b)] (.c (.sc (.bool (same a b)))) := by
  refine call_of_vc hT Tryz.func71 (by kernel_rfl) rfl rfl (fun A => ?_)
  conv => whnf
  refine Split.mk (fun c => ?_) (fun c => ?_)
  · conv => whnf
    exact RetQ.mk ⟨rfl, rfl⟩ ⟨rfl, rfl⟩ ⟨bv (same_f (fun e => nn_t c (congrArg List.length e))), trivial⟩
  · have hl : a.length = b.length := nn_f c
    conv => whnf
    refine LoopQ.mk { k : Nat // k ≤ a.length ∧ a.take k = b.take k } (fun p => (0, [(13, i64 p.1), (12, i64 a.length), (0, im 9 a), (1, im 9 b)], [])) (fun p => a.length - p.1) ⟨0, Nat.zero_le _, rfl⟩ (imp_of [] rfl rfl rfl ⟨⟨rfl, rfl⟩, ⟨rfl, rfl⟩, ⟨rfl, rfl⟩, ⟨rfl, rfl⟩, trivial⟩ trivial) ?_
    rintro ⟨k, hk, ht⟩
    conv => whnf
    refine Split.mk (fun c => ?_) (fun c => ?_)
    · have hk2 : k < a.length := ln_t c
      conv => whnf
      refine Need.mk (idx hk2) ?_
      conv => whnf
      refine Need.mk (idx (hl ▸ hk2)) ?_
      conv => whnf
      refine DrawQ.mk ⟨by kernel_rfl, by kernel_rfl⟩ ?_
      conv => whnf
      refine Split.mk (fun c => ?_) (fun c => ?_)
      · conv => whnf
        exact RetQ.mk ⟨rfl, rfl⟩ ⟨rfl, rfl⟩ ⟨bv (same_f (fun e => sx_t c (congrArg (fun l => l.getD k (T.df 9)) e))), trivial⟩
      · conv => whnf
        exact NextQ.mk ⟨⟨k + 1, hk2, take_more (d := T.df 9) hk2 (hl ▸ hk2) ht (sx_f c)⟩, Nat.sub_lt_sub_left hk2 (Nat.lt_succ_self k), imp_of [] rfl rfl rfl ⟨⟨rfl, congrArg i64 (sc_ hk2 ha)⟩, ⟨rfl, rfl⟩, ⟨rfl, rfl⟩, ⟨rfl, rfl⟩, trivial⟩ trivial⟩
    · have hk2 : k = a.length := Nat.le_antisymm hk (ln_f c)
      conv => whnf
      subst hk2
      exact RetQ.mk ⟨rfl, rfl⟩ ⟨rfl, rfl⟩ ⟨bv (same_t (take_all hl ht)), trivial⟩
theorem slicesEqual_want (a b : List S56) (ha : a.length ≤ 140737488351232) : CallOb T Tryz.prog 70 [.c (.sl 56 a), .c (.sl 56 b)] (.c (.sc (.bool (same a b)))) := by
  refine call_of_vc hT Tryz.func70 (by kernel_rfl) rfl rfl (fun A => ?_)
  conv => whnf
  refine Split.mk (fun c => ?_) (fun c => ?_)
  · conv => whnf
    exact RetQ.mk ⟨rfl, rfl⟩ ⟨rfl, rfl⟩ ⟨bv (same_f (fun e => nn_t c (congrArg List.length e))), trivial⟩
  · have hl : a.length = b.length := nn_f c
    conv => whnf
    refine LoopQ.mk { k : Nat // k ≤ a.length ∧ a.take k = b.take k } (fun p => (0, [(13, i64 p.1), (12, i64 a.length), (0, im 56 a), (1, im 56 b)], [])) (fun p => a.length - p.1) ⟨0, Nat.zero_le _, rfl⟩ (imp_of [] rfl rfl rfl ⟨⟨rfl, rfl⟩, ⟨rfl, rfl⟩, ⟨rfl, rfl⟩, ⟨rfl, rfl⟩, trivial⟩ trivial) ?_
    rintro ⟨k, hk, ht⟩
    conv => whnf
    refine Split.mk (fun c => ?_) (fun c => ?_)
    · have hk2 : k < a.length := ln_t c
      conv => whnf
      refine Need.mk (idx hk2) ?_
      conv => whnf
      refine Need.mk (idx (hl ▸ hk2)) ?_
      conv => whnf
      refine Need.mk (by kernel_rfl) ?_
      conv => whnf
      refine DrawQ.mk ⟨by kernel_rfl, by kernel_rfl⟩ ?_
      conv => whnf
      refine Split.mk (fun c => ?_) (fun c => ?_)
      · conv => whnf
        exact RetQ.mk ⟨rfl, rfl⟩ ⟨rfl, rfl⟩ ⟨bv (same_f (fun e => want_t c (congrArg (fun l => l.getD k (T.df 56)) e))), trivial⟩
      · conv => whnf
        exact NextQ.mk ⟨⟨k + 1, hk2, take_more (d := T.df 56) hk2 (hl ▸ hk2) ht (want_f c)⟩, Nat.sub_lt_sub_left hk2 (Nat.lt_succ_self k), imp_of [] rfl rfl rfl ⟨⟨rfl, congrArg i64 (sc_ hk2 ha)⟩, ⟨rfl, rfl⟩, ⟨rfl, rfl⟩, ⟨rfl, rfl⟩, trivial⟩ trivial⟩
    · have hk2 : k = a.length := Nat.le_antisymm hk (ln_f c)
      conv => whnf
      subst hk2
      exact RetQ.mk ⟨rfl, rfl⟩ ⟨rfl, rfl⟩ ⟨bv (same_t (take_all hl ht)), trivial⟩
theorem eqIntS (a b : List Int) (ha : a.length ≤ 140737488351232) : CallOb T Tryz.prog 43 [.c (.sl 3 a), .c (.sl 3 b)] (.c (.sc (.bool (same a b)))) := by
  refine call_of_vc hT Tryz.func43 (by kernel_rfl) rfl rfl (fun A => ?_)
  conv => whnf
  refine Split.mk (fun c => ?_) (fun c => ?_)
  · conv => whnf
    exact RetQ.mk ⟨rfl, rfl⟩ ⟨rfl, rfl⟩ ⟨bv (same_f (fun e => nn_t c (congrArg List.length e))), trivial⟩
  · have hl : a.length = b.length := nn_f c
    conv => whnf
    refine LoopQ.mk { k : Nat // k ≤ a.length ∧ a.take k = b.take k } (fun p => (0, [(5, i64 p.1), (0, im 3 a), (1, im 3 b)], [])) (fun p => a.length - p.1) ⟨0, Nat.zero_le _, rfl⟩ (imp_of [] rfl rfl rfl ⟨⟨rfl, rfl⟩, ⟨rfl, rfl⟩, ⟨rfl, rfl⟩, trivial⟩ trivial) ?_
    rintro ⟨k, hk, ht⟩
    conv => whnf
    refine Split.mk (fun c => ?_) (fun c => ?_)
    · have hk2 : k < a.length := ln_t c
      conv => whnf
      refine Need.mk (idx hk2) ?_
      conv => whnf
      refine Need.mk (idx (hl ▸ hk2)) ?_
      conv => whnf
      refine DrawQ.mk ⟨by kernel_rfl, by kernel_rfl⟩ ?_
      conv => whnf
      refine Split.mk (fun c => ?_) (fun c => ?_)
      · conv => whnf
        exact RetQ.mk ⟨rfl, rfl⟩ ⟨rfl, rfl⟩ ⟨bv (same_f (fun e => ne_t c (congrArg (fun l => l.getD k (T.df 3)) e))), trivial⟩
      · conv => whnf
        exact NextQ.mk ⟨⟨k + 1, hk2, take_more (d := T.df 3) hk2 (hl ▸ hk2) ht (ne_f c)⟩, Nat.sub_lt_sub_left hk2 (Nat.lt_succ_self k), imp_of [] rfl rfl rfl ⟨⟨rfl, congrArg i64 (sc_ hk2 ha)⟩, ⟨rfl, rfl⟩, ⟨rfl, rfl⟩, trivial⟩ trivial⟩
    · have hk2 : k = a.length := Nat.le_antisymm hk (ln_f c)
      conv => whnf
      subst hk2
      exact RetQ.mk ⟨rfl, rfl⟩ ⟨rfl, rfl⟩ ⟨bv (same_t (take_all hl ht)), trivial⟩
theorem eqStringS (a b : List ByteArray) (ha : a.length ≤ 140737488351232) : CallOb T Tryz.prog 42 [.c (.sl 9 a), .c (.sl 9 b)] (.c (.sc (.bool (same a b)))) := by
  refine call_of_vc hT Tryz.func42 (by kernel_rfl) rfl rfl (fun A => ?_)
  conv => whnf
  refine Split.mk (fun c => ?_) (fun c => ?_)
  · conv => whnf
    exact RetQ.mk ⟨rfl, rfl⟩ ⟨rfl, rfl⟩ ⟨bv (same_f (fun e => nn_t c (congrArg List.length e))), trivial⟩
  · have hl : a.length = b.length := nn_f c
    conv => whnf
    refine LoopQ.mk { k : Nat // k ≤ a.length ∧ a.take k = b.take k } (fun p => (0, [(5, i64 p.1), (0, im 9 a), (1, im 9 b)], [])) (fun p => a.length - p.1) ⟨0, Nat.zero_le _, rfl⟩ (imp_of [] rfl rfl rfl ⟨⟨rfl, rfl⟩, ⟨rfl, rfl⟩, ⟨rfl, rfl⟩, trivial⟩ trivial) ?_
    rintro ⟨k, hk, ht⟩
    conv => whnf
    refine Split.mk (fun c => ?_) (fun c => ?_)
    · have hk2 : k < a.length := ln_t c
      conv => whnf
      refine Need.mk (idx hk2) ?_
      conv => whnf
      refine Need.mk (idx (hl ▸ hk2)) ?_
      conv => whnf
      refine DrawQ.mk ⟨by kernel_rfl, by kernel_rfl⟩ ?_
      conv => whnf
      refine Split.mk (fun c => ?_) (fun c => ?_)
      · conv => whnf
        exact RetQ.mk ⟨rfl, rfl⟩ ⟨rfl, rfl⟩ ⟨bv (same_f (fun e => sx_t c (congrArg (fun l => l.getD k (T.df 9)) e))), trivial⟩
      · conv => whnf
        exact NextQ.mk ⟨⟨k + 1, hk2, take_more (d := T.df 9) hk2 (hl ▸ hk2) ht (sx_f c)⟩, Nat.sub_lt_sub_left hk2 (Nat.lt_succ_self k), imp_of [] rfl rfl rfl ⟨⟨rfl, congrArg i64 (sc_ hk2 ha)⟩, ⟨rfl, rfl⟩, ⟨rfl, rfl⟩, trivial⟩ trivial⟩
    · have hk2 : k = a.length := Nat.le_antisymm hk (ln_f c)
      conv => whnf
      subst hk2
      exact RetQ.mk ⟨rfl, rfl⟩ ⟨rfl, rfl⟩ ⟨bv (same_t (take_all hl ht)), trivial⟩
theorem eqByteS (a b : List Int) (ha : a.length ≤ 140737488351232) : CallOb T Tryz.prog 8 [.c (.sl 5 a), .c (.sl 5 b)] (.c (.sc (.bool (same a b)))) := by
  refine call_of_vc hT Tryz.func8 (by kernel_rfl) rfl rfl (fun A => ?_)
  conv => whnf
  refine Split.mk (fun c => ?_) (fun c => ?_)
  · conv => whnf
    exact RetQ.mk ⟨rfl, rfl⟩ ⟨rfl, rfl⟩ ⟨bv (same_f (fun e => nn_t c (congrArg List.length e))), trivial⟩
  · have hl : a.length = b.length := nn_f c
    conv => whnf
    refine LoopQ.mk { k : Nat // k ≤ a.length ∧ a.take k = b.take k } (fun p => (0, [(5, i64 p.1), (0, im 5 a), (1, im 5 b)], [])) (fun p => a.length - p.1) ⟨0, Nat.zero_le _, rfl⟩ (imp_of [] rfl rfl rfl ⟨⟨rfl, rfl⟩, ⟨rfl, rfl⟩, ⟨rfl, rfl⟩, trivial⟩ trivial) ?_
    rintro ⟨k, hk, ht⟩
    conv => whnf
    refine Split.mk (fun c => ?_) (fun c => ?_)
    · have hk2 : k < a.length := ln_t c
      conv => whnf
      refine Need.mk (idx hk2) ?_
      conv => whnf
      refine Need.mk (idx (hl ▸ hk2)) ?_
      conv => whnf
      refine DrawQ.mk ⟨by kernel_rfl, by kernel_rfl⟩ ?_
      conv => whnf
      refine Split.mk (fun c => ?_) (fun c => ?_)
      · conv => whnf
        exact RetQ.mk ⟨rfl, rfl⟩ ⟨rfl, rfl⟩ ⟨bv (same_f (fun e => ne_t c (congrArg (fun l => l.getD k (T.df 5)) e))), trivial⟩
      · conv => whnf
        exact NextQ.mk ⟨⟨k + 1, hk2, take_more (d := T.df 5) hk2 (hl ▸ hk2) ht (ne_f c)⟩, Nat.sub_lt_sub_left hk2 (Nat.lt_succ_self k), imp_of [] rfl rfl rfl ⟨⟨rfl, congrArg i64 (sc_ hk2 ha)⟩, ⟨rfl, rfl⟩, ⟨rfl, rfl⟩, trivial⟩ trivial⟩
    · have hk2 : k = a.length := Nat.le_antisymm hk (ln_f c)
      conv => whnf
      subst hk2
      exact RetQ.mk ⟨rfl, rfl⟩ ⟨rfl, rfl⟩ ⟨bv (same_t (take_all hl ht)), trivial⟩
theorem eqWant (a b : S56) : CallOb T Tryz.prog 64 [.ag (T.cells 56 a), .ag (T.cells 56 b)] (.c (.sc (.bool (same a b)))) := by
  refine call_of_vc hT Tryz.func64 (by kernel_rfl) rfl rfl (fun A => ?_)
  conv => whnf
  refine Split.mk (fun c => ?_) (fun c => ?_)
  · conv => whnf
    exact RetQ.mk ⟨rfl, rfl⟩ ⟨rfl, rfl⟩ ⟨bv (same_f (fun e => sx_t c (congrArg S56.f0 e))), trivial⟩
  · conv => whnf
    refine Split.mk (fun d => ?_) (fun d => ?_)
    · conv => whnf
      exact RetQ.mk ⟨rfl, rfl⟩ ⟨rfl, rfl⟩ ⟨bv (same_f (fun e => ne_t d (congrArg S56.f1 e))), trivial⟩
    · conv => whnf
      exact RetQ.mk ⟨rfl, rfl⟩ ⟨rfl, rfl⟩ ⟨bv (same_t (want_eq (sx_f c) (ne_f d))), trivial⟩
theorem eqWantS (a b : List S56) (ha : a.length ≤ 140737488351232) : CallOb T Tryz.prog 41 [.c (.sl 56 a), .c (.sl 56 b)] (.c (.sc (.bool (same a b)))) := by
  refine call_of_vc hT Tryz.func41 (by kernel_rfl) rfl rfl (fun A => ?_)
  conv => whnf
  refine Split.mk (fun c => ?_) (fun c => ?_)
  · conv => whnf
    exact RetQ.mk ⟨rfl, rfl⟩ ⟨rfl, rfl⟩ ⟨bv (same_f (fun e => nn_t c (congrArg List.length e))), trivial⟩
  · have hl : a.length = b.length := nn_f c
    conv => whnf
    refine LoopQ.mk { k : Nat // k ≤ a.length ∧ a.take k = b.take k } (fun p => (0, [(5, i64 p.1), (0, im 56 a), (1, im 56 b)], [])) (fun p => a.length - p.1) ⟨0, Nat.zero_le _, rfl⟩ (imp_of [] rfl rfl rfl ⟨⟨rfl, rfl⟩, ⟨rfl, rfl⟩, ⟨rfl, rfl⟩, trivial⟩ trivial) ?_
    rintro ⟨k, hk, ht⟩
    conv => whnf
    refine Split.mk (fun c => ?_) (fun c => ?_)
    · have hk2 : k < a.length := ln_t c
      conv => whnf
      refine Need.mk (idx hk2) ?_
      conv => whnf
      refine Need.mk (idx (hl ▸ hk2)) ?_
      conv => whnf
      refine CallQ.mk _ (eqWant _ _) ?_
      conv => whnf
      refine DrawQ.mk ⟨by kernel_rfl, by kernel_rfl⟩ ?_
      conv => whnf
      refine Split.mk (fun c => ?_) (fun c => ?_)
      · conv => whnf
        exact RetQ.mk ⟨rfl, rfl⟩ ⟨rfl, rfl⟩ ⟨bv (same_f (fun e => of_same_f (not_t c) (congrArg (fun l => l.getD k (T.df 56)) e))), trivial⟩
      · conv => whnf
        exact NextQ.mk ⟨⟨k + 1, hk2, take_more (d := T.df 56) hk2 (hl ▸ hk2) ht (of_same (not_f c))⟩, Nat.sub_lt_sub_left hk2 (Nat.lt_succ_self k), imp_of [] rfl rfl rfl ⟨⟨rfl, congrArg i64 (sc_ hk2 ha)⟩, ⟨rfl, rfl⟩, ⟨rfl, rfl⟩, trivial⟩ trivial⟩
    · have hk2 : k = a.length := Nat.le_antisymm hk (ln_f c)
      conv => whnf
      subst hk2
      exact RetQ.mk ⟨rfl, rfl⟩ ⟨rfl, rfl⟩ ⟨bv (same_t (take_all hl ht)), trivial⟩
end Go.Proofs.YtnflbiafmddpgaaGreatDoor.Q
end
section
/- Functions that the law FnExactSamePacket reaches: what each answers, by the path calculus. Printed by a program of this work (gen_same.py). -/
namespace Go.Proofs.YtnflbiafmddpgaaGreatDoor.Q
open Go.RowKit Go.Proofs.YtnflbiafmddpgaaGreatDoor.Z
set_option linter.unusedVariables false
set_option maxRecDepth 100000
set_option maxHeartbeats 4000000

theorem toByteS (a : List Int) (ha : a.length ≤ 1048576) : CallOb T Tryz.prog 32 [.c (.sl 5 a)] (.c (.ow 5 a)) := by
  refine call_of_vc hT Tryz.func32 (by kernel_rfl) rfl rfl (fun A => ?_)
  conv => whnf
  refine Need.mk (mk_ (by decide) ha) ?_
  conv => whnf
  refine LoopQ.mk { k : Nat // k ≤ a.length } (fun p => (2, [(4, i64 p.1), (3, .c (.hd 0)), (0, im 5 a)], [(0, .row 1 5 (fill (fun x => x) (0 : Int) a p.1))])) (fun p => a.length - p.1) ⟨0, Nat.zero_le _⟩ (imp_of [(0, 0)] rfl rfl rfl ⟨⟨rfl, rfl⟩, ⟨rfl, rfl⟩, ⟨rfl, rfl⟩, trivial⟩ ⟨sr_ fill_zero.symm, trivial⟩) ?_
  rintro ⟨k, hk⟩
  conv => whnf
  refine Split.mk (fun c => ?_) (fun c => ?_)
  · have hk2 : k < a.length := ln_t c
    conv => whnf
    refine Need.mk (idx hk2) ?_
    conv => whnf
    refine Need.mk (idx (Nat.lt_of_lt_of_eq hk2 (fill_len hk).symm)) ?_
    conv => whnf
    exact NextQ.mk ⟨⟨k + 1, hk2⟩, Nat.sub_lt_sub_left hk2 (Nat.lt_succ_self k), imp_of [(0, 0)] rfl rfl rfl ⟨⟨rfl, congrArg i64 (sc_ hk2 (Nat.le_trans ha (by decide)))⟩, ⟨rfl, rfl⟩, ⟨rfl, rfl⟩, trivial⟩ ⟨sr_ (fill_set hk2), trivial⟩⟩
  · have hk2 : k = a.length := Nat.le_antisymm hk (ln_f c)
    conv => whnf
    subst hk2
    exact RetQ.mk ⟨rfl, rfl⟩ ⟨rfl, rfl⟩ ⟨sr_ (fill_all.trans mp_id), trivial⟩
theorem toStringS (a : List ByteArray) (ha : a.length ≤ 1048576) : CallOb T Tryz.prog 34 [.c (.sl 9 a)] (.c (.ow 9 a)) := by
  refine call_of_vc hT Tryz.func34 (by kernel_rfl) rfl rfl (fun A => ?_)
  conv => whnf
  refine Need.mk (mk_ (by decide) ha) ?_
  conv => whnf
  refine LoopQ.mk { k : Nat // k ≤ a.length } (fun p => (2, [(4, i64 p.1), (3, .c (.hd 0)), (0, im 9 a)], [(0, .row 1 9 (fill (fun x => x) (⟨#[]⟩ : ByteArray) a p.1))])) (fun p => a.length - p.1) ⟨0, Nat.zero_le _⟩ (imp_of [(0, 0)] rfl rfl rfl ⟨⟨rfl, rfl⟩, ⟨rfl, rfl⟩, ⟨rfl, rfl⟩, trivial⟩ ⟨sr_ fill_zero.symm, trivial⟩) ?_
  rintro ⟨k, hk⟩
  conv => whnf
  refine Split.mk (fun c => ?_) (fun c => ?_)
  · have hk2 : k < a.length := ln_t c
    conv => whnf
    refine Need.mk (idx hk2) ?_
    conv => whnf
    refine Need.mk (idx (Nat.lt_of_lt_of_eq hk2 (fill_len hk).symm)) ?_
    conv => whnf
    exact NextQ.mk ⟨⟨k + 1, hk2⟩, Nat.sub_lt_sub_left hk2 (Nat.lt_succ_self k), imp_of [(0, 0)] rfl rfl rfl ⟨⟨rfl, congrArg i64 (sc_ hk2 (Nat.le_trans ha (by decide)))⟩, ⟨rfl, rfl⟩, ⟨rfl, rfl⟩, trivial⟩ ⟨sr_ (fill_set hk2), trivial⟩⟩
  · have hk2 : k = a.length := Nat.le_antisymm hk (ln_f c)
    conv => whnf
    subst hk2
    exact RetQ.mk ⟨rfl, rfl⟩ ⟨rfl, rfl⟩ ⟨sr_ (fill_all.trans mp_id), trivial⟩
theorem toIntS (a : List Int) (ha : a.length ≤ 1048576) : CallOb T Tryz.prog 35 [.c (.sl 3 a)] (.c (.ow 3 a)) := by
  refine call_of_vc hT Tryz.func35 (by kernel_rfl) rfl rfl (fun A => ?_)
  conv => whnf
  refine Need.mk (mk_ (by decide) ha) ?_
  conv => whnf
  refine LoopQ.mk { k : Nat // k ≤ a.length } (fun p => (2, [(4, i64 p.1), (3, .c (.hd 0)), (0, im 3 a)], [(0, .row 1 3 (fill (fun x => x) (0 : Int) a p.1))])) (fun p => a.length - p.1) ⟨0, Nat.zero_le _⟩ (imp_of [(0, 0)] rfl rfl rfl ⟨⟨rfl, rfl⟩, ⟨rfl, rfl⟩, ⟨rfl, rfl⟩, trivial⟩ ⟨sr_ fill_zero.symm, trivial⟩) ?_
  rintro ⟨k, hk⟩
  conv => whnf
  refine Split.mk (fun c => ?_) (fun c => ?_)
  · have hk2 : k < a.length := ln_t c
    conv => whnf
    refine Need.mk (idx hk2) ?_
    conv => whnf
    refine Need.mk (idx (Nat.lt_of_lt_of_eq hk2 (fill_len hk).symm)) ?_
    conv => whnf
    exact NextQ.mk ⟨⟨k + 1, hk2⟩, Nat.sub_lt_sub_left hk2 (Nat.lt_succ_self k), imp_of [(0, 0)] rfl rfl rfl ⟨⟨rfl, congrArg i64 (sc_ hk2 (Nat.le_trans ha (by decide)))⟩, ⟨rfl, rfl⟩, ⟨rfl, rfl⟩, trivial⟩ ⟨sr_ (fill_set hk2), trivial⟩⟩
  · have hk2 : k = a.length := Nat.le_antisymm hk (ln_f c)
    conv => whnf
    subst hk2
    exact RetQ.mk ⟨rfl, rfl⟩ ⟨rfl, rfl⟩ ⟨sr_ (fill_all.trans mp_id), trivial⟩
def toW (x : S67) : S56 := ⟨x.f0, x.f1⟩
theorem toWant (a : S67) : CallOb T Tryz.prog 51 [.ag (T.cells 67 a)] (.ag [.sc (.string a.f0), .sc (.int .i64 a.f1)]) := by
  refine call_of_vc hT Tryz.func51 (by kernel_rfl) rfl rfl (fun A => ?_)
  conv => whnf
  exact RetQ.mk ⟨rfl, rfl⟩ ⟨rfl, rfl⟩ ⟨rfl, rfl, trivial⟩
theorem toWantS (a : List S67) (ha : a.length ≤ 1048576) : CallOb T Tryz.prog 33 [.c (.sl 67 a)] (.c (.ow 56 (a.map toW))) := by
  refine call_of_vc hT Tryz.func33 (by kernel_rfl) rfl rfl (fun A => ?_)
  conv => whnf
  refine Need.mk (mk_ (by decide) ha) ?_
  conv => whnf
  refine LoopQ.mk { k : Nat // k ≤ a.length } (fun p => (2, [(4, i64 p.1), (3, .c (.hd 0)), (0, im 67 a)], [(0, .row 1 56 (fill (toW) z56 a p.1))])) (fun p => a.length - p.1) ⟨0, Nat.zero_le _⟩ (imp_of [(0, 0)] rfl rfl rfl ⟨⟨rfl, rfl⟩, ⟨rfl, rfl⟩, ⟨rfl, rfl⟩, trivial⟩ ⟨sr_ fill_zero.symm, trivial⟩) ?_
  rintro ⟨k, hk⟩
  conv => whnf
  refine Split.mk (fun c => ?_) (fun c => ?_)
  · have hk2 : k < a.length := ln_t c
    conv => whnf
    refine Need.mk (idx hk2) ?_
    conv => whnf
    refine CallQ.mk _ (toWant _) ?_
    conv => whnf
    refine Need.mk (idx (Nat.lt_of_lt_of_eq hk2 (fill_len hk).symm)) ?_
    conv => whnf
    exact NextQ.mk ⟨⟨k + 1, hk2⟩, Nat.sub_lt_sub_left hk2 (Nat.lt_succ_self k), imp_of [(0, 0)] rfl rfl rfl ⟨⟨rfl, congrArg i64 (sc_ hk2 (Nat.le_trans ha (by decide)))⟩, ⟨rfl, rfl⟩, ⟨rfl, rfl⟩, trivial⟩ ⟨sr_ (fill_set hk2), trivial⟩⟩
  · have hk2 : k = a.length := Nat.le_antisymm hk (ln_f c)
    conv => whnf
    subst hk2
    exact RetQ.mk ⟨rfl, rfl⟩ ⟨rfl, rfl⟩ ⟨sr_ (fill_all), trivial⟩
end Go.Proofs.YtnflbiafmddpgaaGreatDoor.Q
end
section
/- Functions that the law FnExactSamePacket reaches: what each answers, by the path calculus. Printed by a program of this work (gen_same.py). -/
namespace Go.Proofs.YtnflbiafmddpgaaGreatDoor.Q
open Go.RowKit Go.Proofs.YtnflbiafmddpgaaGreatDoor.Z
set_option linter.unusedVariables false
set_option maxRecDepth 100000
set_option maxHeartbeats 4000000

theorem szByteS (l : List Int) (x : Int) (h0 : 0 ≤ x) (h1 : x ≤ 1048576) (hl : l.length ≤ 140737488351232) : CallOb T Tryz.prog 22 [.c (.sl 5 l), .c (.sc (.int .i64 x))] (.c (.sc (.int .i64 (szL l.length x)))) := by
  have h2 : x ≤ 4611686018427387904 := by omega
  refine call_of_vc hT Tryz.func22 (by kernel_rfl) rfl rfl (fun A => ?_)
  conv => whnf
  refine Split.mk (fun c => ?_) (fun c => ?_)
  · conv => whnf
    exact RetQ.mk ⟨rfl, rfl⟩ ⟨rfl, rfl⟩ ⟨iv (szL_lt h0 h2 hl c), trivial⟩
  · conv => whnf
    exact RetQ.mk ⟨rfl, rfl⟩ ⟨rfl, rfl⟩ ⟨iv (szL_ge h0 h2 hl c).1, trivial⟩
theorem szIntS (l : List Int) (x : Int) (h0 : 0 ≤ x) (h1 : x ≤ 1048576) (hl : l.length ≤ 140737488351232) : CallOb T Tryz.prog 25 [.c (.sl 3 l), .c (.sc (.int .i64 x))] (.c (.sc (.int .i64 (szL l.length x)))) := by
  have h2 : x ≤ 4611686018427387904 := by omega
  refine call_of_vc hT Tryz.func25 (by kernel_rfl) rfl rfl (fun A => ?_)
  conv => whnf
  refine Split.mk (fun c => ?_) (fun c => ?_)
  · conv => whnf
    exact RetQ.mk ⟨rfl, rfl⟩ ⟨rfl, rfl⟩ ⟨iv (szL_lt h0 h2 hl c), trivial⟩
  · conv => whnf
    exact RetQ.mk ⟨rfl, rfl⟩ ⟨rfl, rfl⟩ ⟨iv (szL_ge h0 h2 hl c).1, trivial⟩
theorem szWant (a : S67) (x : Int) (h0 : 0 ≤ x) (h1 : x ≤ 1048576) (hl : a.f0.size ≤ 140737488351232) : CallOb T Tryz.prog 44 [.ag (T.cells 67 a), .c (.sc (.int .i64 x))] (.c (.sc (.int .i64 (szL a.f0.size x)))) := by
  have h2 : x ≤ 4611686018427387904 := by omega
  refine call_of_vc hT Tryz.func44 (by kernel_rfl) rfl rfl (fun A => ?_)
  conv => whnf
  refine Split.mk (fun c => ?_) (fun c => ?_)
  · conv => whnf
    exact RetQ.mk ⟨rfl, rfl⟩ ⟨rfl, rfl⟩ ⟨iv (szL_lt h0 h2 hl c), trivial⟩
  · conv => whnf
    exact RetQ.mk ⟨rfl, rfl⟩ ⟨rfl, rfl⟩ ⟨iv (szL_ge h0 h2 hl c).1, trivial⟩
theorem szStringS (l : List ByteArray) (x : Int) (h0 : 0 ≤ x) (h1 : x ≤ 1048576) (hl : l.length ≤ 140737488351232) (hs : ∀ y ∈ l, (ByteArray.size) y ≤ 140737488351232) : CallOb T Tryz.prog 24 [.c (.sl 9 l), .c (.sc (.int .i64 x))] (.c (.sc (.int .i64 (thenS (szL l.length x) (szG (ByteArray.size) l))))) := by
  have h2 : x ≤ 4611686018427387904 := by omega
  refine call_of_vc hT Tryz.func24 (by kernel_rfl) rfl rfl (fun A => ?_)
  conv => whnf
  refine Split.mk (fun c => ?_) (fun c => ?_)
  · conv => whnf
    exact RetQ.mk ⟨rfl, rfl⟩ ⟨rfl, rfl⟩ ⟨iv (tL_lt h0 h2 hl c), trivial⟩
  · obtain ⟨e1, e2, e3⟩ := tL_ge (K := szG (ByteArray.size) l) h0 h2 hl c
    rw [e1]
    generalize hR : szG (ByteArray.size) l (wrap64 (x - (l.length : Int))) = R
    conv => whnf
    refine LoopQ.mk { p : Nat × Int // p.1 ≤ l.length ∧ 0 ≤ p.2 ∧ p.2 ≤ x ∧ szG (ByteArray.size) (l.drop p.1) p.2 = R } (fun p => (0, [(5, i64 p.1.1), (1, i64 p.1.2), (0, im 9 l)], [])) (fun p => l.length - p.1.1) ⟨(0, _), Nat.zero_le _, e2, e3, hR⟩ (imp_of [] rfl rfl rfl ⟨⟨rfl, rfl⟩, ⟨rfl, rfl⟩, ⟨rfl, rfl⟩, trivial⟩ trivial) ?_
    rintro ⟨⟨k, y⟩, hk, p0, p1, hR⟩
    have p2 : y ≤ 4611686018427387904 := Int.le_trans p1 h2
    conv => whnf
    refine Split.mk (fun c => ?_) (fun c => ?_)
    · have hk2 : k < l.length := ln_t c
      conv => whnf
      refine Need.mk (idx hk2) ?_
      conv => whnf
      refine Split.mk (fun c => ?_) (fun c => ?_)
      · conv => whnf
        exact RetQ.mk ⟨rfl, rfl⟩ ⟨rfl, rfl⟩ ⟨iv ((hR.symm.trans (szG_step (f := ByteArray.size) (d := ByteArray.empty) hk2)).trans (tL_lt p0 p2 (hs _ (getD_mem hk2)) c)), trivial⟩
      · obtain ⟨g1, g2, g3⟩ := tL_ge (K := szG (ByteArray.size) (l.drop (k + 1))) p0 p2 (hs _ (getD_mem hk2)) c
        conv => whnf
        exact NextQ.mk ⟨⟨(k + 1, _), hk2, g2, Int.le_trans g3 p1, (g1.symm.trans (szG_step (f := ByteArray.size) (d := ByteArray.empty) hk2).symm).trans hR⟩, Nat.sub_lt_sub_left hk2 (Nat.lt_succ_self k), imp_of [] rfl rfl rfl ⟨⟨rfl, congrArg i64 (sc_ hk2 hl)⟩, ⟨rfl, rfl⟩, ⟨rfl, rfl⟩, trivial⟩ trivial⟩
    · have hk2 : k = l.length := Nat.le_antisymm hk (ln_f c)
      conv => whnf
      subst hk2
      exact RetQ.mk ⟨rfl, rfl⟩ ⟨rfl, rfl⟩ ⟨iv (hR.symm.trans szG_end), trivial⟩
theorem szWantS (l : List S67) (x : Int) (h0 : 0 ≤ x) (h1 : x ≤ 1048576) (hl : l.length ≤ 140737488351232) (hs : ∀ y ∈ l, (fun y : S67 => y.f0.size) y ≤ 140737488351232) : CallOb T Tryz.prog 23 [.c (.sl 67 l), .c (.sc (.int .i64 x))] (.c (.sc (.int .i64 (thenS (szL l.length x) (szG (fun y : S67 => y.f0.size) l))))) := by
  have h2 : x ≤ 4611686018427387904 := by omega
  refine call_of_vc hT Tryz.func23 (by kernel_rfl) rfl rfl (fun A => ?_)
  conv => whnf
  refine Split.mk (fun c => ?_) (fun c => ?_)
  · conv => whnf
    exact RetQ.mk ⟨rfl, rfl⟩ ⟨rfl, rfl⟩ ⟨iv (tL_lt h0 h2 hl c), trivial⟩
  · obtain ⟨e1, e2, e3⟩ := tL_ge (K := szG (fun y : S67 => y.f0.size) l) h0 h2 hl c
    rw [e1]
    generalize hR : szG (fun y : S67 => y.f0.size) l (wrap64 (x - (l.length : Int))) = R
    conv => whnf
    refine LoopQ.mk { p : Nat × Int // p.1 ≤ l.length ∧ 0 ≤ p.2 ∧ p.2 ≤ x ∧ szG (fun y : S67 => y.f0.size) (l.drop p.1) p.2 = R } (fun p => (0, [(5, i64 p.1.1), (1, i64 p.1.2), (0, im 67 l)], [])) (fun p => l.length - p.1.1) ⟨(0, _), Nat.zero_le _, e2, e3, hR⟩ (imp_of [] rfl rfl rfl ⟨⟨rfl, rfl⟩, ⟨rfl, rfl⟩, ⟨rfl, rfl⟩, trivial⟩ trivial) ?_
    rintro ⟨⟨k, y⟩, hk, p0, p1, hR⟩
    have p2 : y ≤ 4611686018427387904 := Int.le_trans p1 h2
    conv => whnf
    refine Split.mk (fun c => ?_) (fun c => ?_)
    · have hk2 : k < l.length := ln_t c
      conv => whnf
      refine Need.mk (idx hk2) ?_
      conv => whnf
      refine CallQ.mk _ (szWant (l.getD k z67) y p0 (Int.le_trans p1 h1) (hs (l.getD k z67) (getD_mem hk2))) ?_
      conv => whnf
      refine Split.mk (fun c => ?_) (fun c => ?_)
      · conv => whnf
        exact RetQ.mk ⟨rfl, rfl⟩ ⟨rfl, rfl⟩ ⟨iv ((hR.symm.trans (szG_step (f := fun y : S67 => y.f0.size) (d := z67) hk2)).trans (tS_lt c)), trivial⟩
      · obtain ⟨g1, g2⟩ := tS_ge (K := szG (fun y : S67 => y.f0.size) (l.drop (k + 1))) c
        conv => whnf
        exact NextQ.mk ⟨⟨(k + 1, szL (l.getD k z67).f0.size y), hk2, g2, Int.le_trans (szL_le p0) p1, (g1.symm.trans (szG_step (f := fun y : S67 => y.f0.size) (d := z67) hk2).symm).trans hR⟩, Nat.sub_lt_sub_left hk2 (Nat.lt_succ_self k), imp_of [] rfl rfl rfl ⟨⟨rfl, congrArg i64 (sc_ hk2 hl)⟩, ⟨rfl, rfl⟩, ⟨rfl, rfl⟩, trivial⟩ trivial⟩
    · have hk2 : k = l.length := Nat.le_antisymm hk (ln_f c)
      conv => whnf
      subst hk2
      exact RetQ.mk ⟨rfl, rfl⟩ ⟨rfl, rfl⟩ ⟨iv (hR.symm.trans szG_end), trivial⟩
end Go.Proofs.YtnflbiafmddpgaaGreatDoor.Q
end
section
/- Functions that the law FnExactSamePacket reaches: what each answers, by the path calculus. Printed by a program of this work (gen_same.py). -/
namespace Go.Proofs.YtnflbiafmddpgaaGreatDoor.Q
open Go.RowKit Go.Proofs.YtnflbiafmddpgaaGreatDoor.Z
set_option linter.unusedVariables false
set_option maxRecDepth 100000
set_option maxHeartbeats 4000000

structure Fit (p : S38) : Prop where
  s5 : p.f5.size ≤ 140737488351232
  l6 : p.f6.length ≤ 140737488351232
  y6 : ∀ x ∈ p.f6, 0 ≤ x ∧ x < 256
  s7 : p.f7.size ≤ 140737488351232
  s12 : p.f12.size ≤ 140737488351232
  l13 : p.f13.length ≤ 140737488351232
  y13 : ∀ x ∈ p.f13, 0 ≤ x ∧ x < 256
  s17 : p.f17.size ≤ 140737488351232
  l19 : p.f19.length ≤ 140737488351232
  y19 : ∀ x ∈ p.f19, 0 ≤ x ∧ x < 256
  l22 : p.f22.length ≤ 140737488351232
  w22 : ∀ x ∈ p.f22, x.f0.size ≤ 140737488351232
  l23 : p.f23.length ≤ 140737488351232
  w23 : ∀ x ∈ p.f23, x.size ≤ 140737488351232
  l24 : p.f24.length ≤ 140737488351232
structure Fit2 (p : S42) : Prop where
  s5 : p.f5.size ≤ 140737488351232
  l6 : p.f6.length ≤ 140737488351232
  y6 : ∀ x ∈ p.f6, 0 ≤ x ∧ x < 256
  s7 : p.f7.size ≤ 140737488351232
  s12 : p.f12.size ≤ 140737488351232
  l13 : p.f13.length ≤ 140737488351232
  y13 : ∀ x ∈ p.f13, 0 ≤ x ∧ x < 256
  s17 : p.f17.size ≤ 140737488351232
  l19 : p.f19.length ≤ 140737488351232
  y19 : ∀ x ∈ p.f19, 0 ≤ x ∧ x < 256
  l22 : p.f22.length ≤ 140737488351232
  w22 : ∀ x ∈ p.f22, x.f0.size ≤ 140737488351232
  l23 : p.f23.length ≤ 140737488351232
  w23 : ∀ x ∈ p.f23, x.size ≤ 140737488351232
  l24 : p.f24.length ≤ 140737488351232
def szP (p : S38) (x : Int) : Int := thenS (szL p.f5.size x) fun x => thenS (szL p.f6.length x) fun x => thenS (szL p.f7.size x) fun x => thenS (szL p.f12.size x) fun x => thenS (szL p.f13.length x) fun x => thenS (szL p.f17.size x) fun x => thenS (szL p.f19.length x) fun x => thenS (thenS (szL p.f22.length x) (szG (fun y : S67 => y.f0.size) p.f22)) fun x => thenS (thenS (szL p.f23.length x) (szG ByteArray.size p.f23)) fun x => thenS (szL p.f24.length x) fun x => x
theorem szPacket (p : S38) (x : Int) (h0 : 0 ≤ x) (h1 : x ≤ 1048576) (hp : Fit p) : CallOb T Tryz.prog 13 [.ag (T.cells 38 p), .c (.sc (.int .i64 x))] (.c (.sc (.int .i64 (szP p x)))) := by
  refine call_of_vc hT Tryz.func13 (by kernel_rfl) rfl rfl (fun A => ?_)
  have H : szP p x = szP p x := rfl
  conv at H => rhs; unfold szP
  conv => whnf
  refine Split.mk (fun c => ?_) (fun c => ?_)
  · conv => whnf
    exact RetQ.mk ⟨rfl, rfl⟩ ⟨rfl, rfl⟩ ⟨iv (uL_lt H h0 h1 hp.s5 c), trivial⟩
  replace ⟨H, h0, h1⟩ := uL_ge H h0 h1 hp.s5 c
  conv => whnf
  refine CallQ.mk _ (szByteS _ _ h0 h1 hp.l6) ?_
  conv => whnf
  refine Split.mk (fun c => ?_) (fun c => ?_)
  · conv => whnf
    exact RetQ.mk ⟨rfl, rfl⟩ ⟨rfl, rfl⟩ ⟨iv (uS_lt H c), trivial⟩
  replace ⟨H, h0, h1⟩ := uS_ge H (Int.le_trans (szL_le h0) h1) c
  conv => whnf
  refine Split.mk (fun c => ?_) (fun c => ?_)
  · conv => whnf
    exact RetQ.mk ⟨rfl, rfl⟩ ⟨rfl, rfl⟩ ⟨iv (uL_lt H h0 h1 hp.s7 c), trivial⟩
  replace ⟨H, h0, h1⟩ := uL_ge H h0 h1 hp.s7 c
  conv => whnf
  refine Split.mk (fun c => ?_) (fun c => ?_)
  · conv => whnf
    exact RetQ.mk ⟨rfl, rfl⟩ ⟨rfl, rfl⟩ ⟨iv (uL_lt H h0 h1 hp.s12 c), trivial⟩
  replace ⟨H, h0, h1⟩ := uL_ge H h0 h1 hp.s12 c
  conv => whnf
  refine CallQ.mk _ (szByteS _ _ h0 h1 hp.l13) ?_
  conv => whnf
  refine Split.mk (fun c => ?_) (fun c => ?_)
  · conv => whnf
    exact RetQ.mk ⟨rfl, rfl⟩ ⟨rfl, rfl⟩ ⟨iv (uS_lt H c), trivial⟩
  replace ⟨H, h0, h1⟩ := uS_ge H (Int.le_trans (szL_le h0) h1) c
  conv => whnf
  refine Split.mk (fun c => ?_) (fun c => ?_)
  · conv => whnf
    exact RetQ.mk ⟨rfl, rfl⟩ ⟨rfl, rfl⟩ ⟨iv (uL_lt H h0 h1 hp.s17 c), trivial⟩
  replace ⟨H, h0, h1⟩ := uL_ge H h0 h1 hp.s17 c
  conv => whnf
  refine CallQ.mk _ (szByteS _ _ h0 h1 hp.l19) ?_
  conv => whnf
  refine Split.mk (fun c => ?_) (fun c => ?_)
  · conv => whnf
    exact RetQ.mk ⟨rfl, rfl⟩ ⟨rfl, rfl⟩ ⟨iv (uS_lt H c), trivial⟩
  replace ⟨H, h0, h1⟩ := uS_ge H (Int.le_trans (szL_le h0) h1) c
  conv => whnf
  refine CallQ.mk _ (szWantS p.f22 _ h0 h1 hp.l22 hp.w22) ?_
  conv => whnf
  refine Split.mk (fun c => ?_) (fun c => ?_)
  · conv => whnf
    exact RetQ.mk ⟨rfl, rfl⟩ ⟨rfl, rfl⟩ ⟨iv (uS_lt H c), trivial⟩
  replace ⟨H, h0, h1⟩ := uS_ge H (Int.le_trans (tG_le h0) h1) c
  conv => whnf
  refine CallQ.mk _ (szStringS p.f23 _ h0 h1 hp.l23 hp.w23) ?_
  conv => whnf
  refine Split.mk (fun c => ?_) (fun c => ?_)
  · conv => whnf
    exact RetQ.mk ⟨rfl, rfl⟩ ⟨rfl, rfl⟩ ⟨iv (uS_lt H c), trivial⟩
  replace ⟨H, h0, h1⟩ := uS_ge H (Int.le_trans (tG_le h0) h1) c
  conv => whnf
  refine CallQ.mk _ (szIntS _ _ h0 h1 hp.l24) ?_
  conv => whnf
  refine Split.mk (fun c => ?_) (fun c => ?_)
  · conv => whnf
    exact RetQ.mk ⟨rfl, rfl⟩ ⟨rfl, rfl⟩ ⟨iv (uS_lt H c), trivial⟩
  replace ⟨H, h0, h1⟩ := uS_ge H (Int.le_trans (szL_le h0) h1) c
  conv => whnf
  exact RetQ.mk ⟨rfl, rfl⟩ ⟨rfl, rfl⟩ ⟨iv H, trivial⟩
def toP (p : S38) : S42 := ⟨p.f0, p.f1, p.f2, p.f3, p.f4, p.f5, p.f6, p.f7, p.f8, p.f9, p.f10, p.f11, p.f12, p.f13, p.f14, p.f15, p.f16, p.f17, p.f18, p.f19, p.f20, p.f21, p.f22.map toW, p.f23, p.f24⟩
def owC {Tb : Nat → Type} : List (C0 Tb) → List (R0 Tb)
  | [] => []
  | .sc v :: l => .sc v :: owC l
  | .sl e x :: l => .ow e x :: owC l
structure Small (p : S38) : Prop where
  l6 : p.f6.length ≤ 1048576
  l13 : p.f13.length ≤ 1048576
  l19 : p.f19.length ≤ 1048576
  l22 : p.f22.length ≤ 1048576
  l23 : p.f23.length ≤ 1048576
  l24 : p.f24.length ≤ 1048576
theorem toPacket (p : S38) (hp : Small p) : CallOb T Tryz.prog 15 [.ag (T.cells 38 p)] (.ag (owC (T.cells 42 (toP p)))) := by
  refine call_of_vc hT Tryz.func15 (by kernel_rfl) rfl rfl (fun A => ?_)
  conv => whnf
  refine CallQ.mk _ (toByteS p.f6 hp.l6) ?_
  conv => whnf
  refine CallQ.mk _ (toByteS p.f13 hp.l13) ?_
  conv => whnf
  refine CallQ.mk _ (toByteS p.f19 hp.l19) ?_
  conv => whnf
  refine CallQ.mk _ (toWantS p.f22 hp.l22) ?_
  conv => whnf
  refine CallQ.mk _ (toStringS p.f23 hp.l23) ?_
  conv => whnf
  refine CallQ.mk _ (toIntS p.f24 hp.l24) ?_
  conv => whnf
  exact RetQ.mk ⟨rfl, rfl⟩ ⟨rfl, rfl⟩ ⟨rfl, rfl, rfl, rfl, rfl, rfl, rfl, rfl, rfl, rfl, rfl, rfl, rfl, rfl, rfl, rfl, rfl, rfl, rfl, rfl, rfl, rfl, rfl, rfl, rfl, trivial⟩
theorem bytesEqual (a b : List Int) (ha : ∀ x ∈ a, 0 ≤ x ∧ x < 256) (hb : ∀ x ∈ b, 0 ≤ x ∧ x < 256) : CallOb T Tryz.prog 69 [.c (.sl 5 a), .c (.sl 5 b)] (.c (.sc (.bool (same a b)))) := by
  refine call_of_vc hT Tryz.func69 (by kernel_rfl) rfl rfl (fun A => ?_)
  conv => whnf
  refine Need.mk (fun _ => rfl) ?_
  conv => whnf
  refine Need.mk (fun _ => rfl) ?_
  conv => whnf
  refine RetQ.mk ⟨rfl, rfl⟩ ⟨rfl, rfl⟩ ⟨bv ?_, trivial⟩
  have e : ∀ l : List Int, List.map (numOf T 5) l = l := fun l => List.map_id' l
  rw [same_str ha hb]
  have h := congr (congrArg (fun x y : List Int => ((strOfNums x).toList == (strOfNums y).toList)) (e a).symm) (e b).symm
  exact h
theorem l1Same (a b : List Int) (ha : ∀ x ∈ a, 0 ≤ x ∧ x < 256) (hb : ∀ x ∈ b, 0 ≤ x ∧ x < 256) : CallOb T Tryz.prog 65 [.c (.sl 5 a), .c (.sl 5 b)] (.c (.sc (.bool (same a b)))) := by
  refine call_of_vc hT Tryz.func65 (by kernel_rfl) rfl rfl (fun A => ?_)
  conv => whnf
  refine Need.mk (fun _ => rfl) ?_
  conv => whnf
  refine Need.mk (fun _ => rfl) ?_
  conv => whnf
  refine RetQ.mk ⟨rfl, rfl⟩ ⟨rfl, rfl⟩ ⟨bv ?_, trivial⟩
  have e : ∀ l : List Int, List.map (numOf T 5) l = l := fun l => List.map_id' l
  rw [same_str ha hb]
  have h := congr (congrArg (fun x y : List Int => ((strOfNums x).toList == (strOfNums y).toList)) (e a).symm) (e b).symm
  exact h
theorem pk_eq {a b : S42} (h0 : a.f0 = b.f0) (h1 : a.f1 = b.f1) (h2 : a.f2 = b.f2) (h3 : a.f3 = b.f3) (h4 : a.f4 = b.f4) (h5 : a.f5 = b.f5) (h6 : a.f6 = b.f6) (h7 : a.f7 = b.f7) (h8 : a.f8 = b.f8) (h9 : a.f9 = b.f9) (h10 : a.f10 = b.f10) (h11 : a.f11 = b.f11) (h12 : a.f12 = b.f12) (h13 : a.f13 = b.f13) (h14 : a.f14 = b.f14) (h15 : a.f15 = b.f15) (h16 : a.f16 = b.f16) (h17 : a.f17 = b.f17) (h18 : a.f18 = b.f18) (h19 : a.f19 = b.f19) (h20 : a.f20 = b.f20) (h21 : a.f21 = b.f21) (h22 : a.f22 = b.f22) (h23 : a.f23 = b.f23) (h24 : a.f24 = b.f24) : a = b := by cases a; cases b; simp_all
theorem eqPacket (a b : S42) (ha : Fit2 a) : CallOb T Tryz.prog 17 [.ag (T.cells 42 a), .ag (T.cells 42 b)] (.c (.sc (.bool (same a b)))) := by
  refine call_of_vc hT Tryz.func17 (by kernel_rfl) rfl rfl (fun A => ?_)
  conv => whnf
  refine Split.mk (fun c => ?_) (fun c => ?_)
  · conv => whnf
    exact RetQ.mk ⟨rfl, rfl⟩ ⟨rfl, rfl⟩ ⟨bv (same_f (fun e => ne_t c (congrArg S42.f0 e))), trivial⟩
  have c0 : a.f0 = b.f0 := ne_f c
  clear c
  conv => whnf
  refine Need.mk (by kernel_rfl) ?_
  conv => whnf
  refine Split.mk (fun c => ?_) (fun c => ?_)
  · conv => whnf
    exact RetQ.mk ⟨rfl, rfl⟩ ⟨rfl, rfl⟩ ⟨bv (same_f (fun e => bx_t c (congrArg S42.f1 e))), trivial⟩
  have c1 : a.f1 = b.f1 := bx_f c
  clear c
  conv => whnf
  refine Split.mk (fun c => ?_) (fun c => ?_)
  · conv => whnf
    exact RetQ.mk ⟨rfl, rfl⟩ ⟨rfl, rfl⟩ ⟨bv (same_f (fun e => ne_t c (congrArg S42.f2 e))), trivial⟩
  have c2 : a.f2 = b.f2 := ne_f c
  clear c
  conv => whnf
  refine Need.mk (by kernel_rfl) ?_
  conv => whnf
  refine Split.mk (fun c => ?_) (fun c => ?_)
  · conv => whnf
    exact RetQ.mk ⟨rfl, rfl⟩ ⟨rfl, rfl⟩ ⟨bv (same_f (fun e => bx_t c (congrArg S42.f3 e))), trivial⟩
  have c3 : a.f3 = b.f3 := bx_f c
  clear c
  conv => whnf
  refine Split.mk (fun c => ?_) (fun c => ?_)
  · conv => whnf
    exact RetQ.mk ⟨rfl, rfl⟩ ⟨rfl, rfl⟩ ⟨bv (same_f (fun e => ne_t c (congrArg S42.f4 e))), trivial⟩
  have c4 : a.f4 = b.f4 := ne_f c
  clear c
  conv => whnf
  refine Split.mk (fun c => ?_) (fun c => ?_)
  · conv => whnf
    exact RetQ.mk ⟨rfl, rfl⟩ ⟨rfl, rfl⟩ ⟨bv (same_f (fun e => sx_t c (congrArg S42.f5 e))), trivial⟩
  have c5 : a.f5 = b.f5 := sx_f c
  clear c
  conv => whnf
  refine CallQ.mk _ (eqByteS a.f6 b.f6 ha.l6) ?_
  conv => whnf
  refine Split.mk (fun c => ?_) (fun c => ?_)
  · conv => whnf
    exact RetQ.mk ⟨rfl, rfl⟩ ⟨rfl, rfl⟩ ⟨bv (same_f (fun e => of_same_f (not_t c) (congrArg S42.f6 e))), trivial⟩
  have c6 : a.f6 = b.f6 := of_same (not_f c)
  clear c
  conv => whnf
  refine Split.mk (fun c => ?_) (fun c => ?_)
  · conv => whnf
    exact RetQ.mk ⟨rfl, rfl⟩ ⟨rfl, rfl⟩ ⟨bv (same_f (fun e => sx_t c (congrArg S42.f7 e))), trivial⟩
  have c7 : a.f7 = b.f7 := sx_f c
  clear c
  conv => whnf
  refine Split.mk (fun c => ?_) (fun c => ?_)
  · conv => whnf
    exact RetQ.mk ⟨rfl, rfl⟩ ⟨rfl, rfl⟩ ⟨bv (same_f (fun e => ne_t c (congrArg S42.f8 e))), trivial⟩
  have c8 : a.f8 = b.f8 := ne_f c
  clear c
  conv => whnf
  refine Need.mk (by kernel_rfl) ?_
  conv => whnf
  refine Split.mk (fun c => ?_) (fun c => ?_)
  · conv => whnf
    exact RetQ.mk ⟨rfl, rfl⟩ ⟨rfl, rfl⟩ ⟨bv (same_f (fun e => bx_t c (congrArg S42.f9 e))), trivial⟩
  have c9 : a.f9 = b.f9 := bx_f c
  clear c
  conv => whnf
  refine Split.mk (fun c => ?_) (fun c => ?_)
  · conv => whnf
    exact RetQ.mk ⟨rfl, rfl⟩ ⟨rfl, rfl⟩ ⟨bv (same_f (fun e => ne_t c (congrArg S42.f10 e))), trivial⟩
  have c10 : a.f10 = b.f10 := ne_f c
  clear c
  conv => whnf
  refine Need.mk (by kernel_rfl) ?_
  conv => whnf
  refine Split.mk (fun c => ?_) (fun c => ?_)
  · conv => whnf
    exact RetQ.mk ⟨rfl, rfl⟩ ⟨rfl, rfl⟩ ⟨bv (same_f (fun e => bx_t c (congrArg S42.f11 e))), trivial⟩
  have c11 : a.f11 = b.f11 := bx_f c
  clear c
  conv => whnf
  refine Split.mk (fun c => ?_) (fun c => ?_)
  · conv => whnf
    exact RetQ.mk ⟨rfl, rfl⟩ ⟨rfl, rfl⟩ ⟨bv (same_f (fun e => sx_t c (congrArg S42.f12 e))), trivial⟩
  have c12 : a.f12 = b.f12 := sx_f c
  clear c
  conv => whnf
  refine CallQ.mk _ (eqByteS a.f13 b.f13 ha.l13) ?_
  conv => whnf
  refine Split.mk (fun c => ?_) (fun c => ?_)
  · conv => whnf
    exact RetQ.mk ⟨rfl, rfl⟩ ⟨rfl, rfl⟩ ⟨bv (same_f (fun e => of_same_f (not_t c) (congrArg S42.f13 e))), trivial⟩
  have c13 : a.f13 = b.f13 := of_same (not_f c)
  clear c
  conv => whnf
  refine Split.mk (fun c => ?_) (fun c => ?_)
  · conv => whnf
    exact RetQ.mk ⟨rfl, rfl⟩ ⟨rfl, rfl⟩ ⟨bv (same_f (fun e => ne_t c (congrArg S42.f14 e))), trivial⟩
  have c14 : a.f14 = b.f14 := ne_f c
  clear c
  conv => whnf
  refine Need.mk (by kernel_rfl) ?_
  conv => whnf
  refine Split.mk (fun c => ?_) (fun c => ?_)
  · conv => whnf
    exact RetQ.mk ⟨rfl, rfl⟩ ⟨rfl, rfl⟩ ⟨bv (same_f (fun e => bx_t c (congrArg S42.f15 e))), trivial⟩
  have c15 : a.f15 = b.f15 := bx_f c
  clear c
  conv => whnf
  refine Need.mk (by kernel_rfl) ?_
  conv => whnf
  refine Split.mk (fun c => ?_) (fun c => ?_)
  · conv => whnf
    exact RetQ.mk ⟨rfl, rfl⟩ ⟨rfl, rfl⟩ ⟨bv (same_f (fun e => bx_t c (congrArg S42.f16 e))), trivial⟩
  have c16 : a.f16 = b.f16 := bx_f c
  clear c
  conv => whnf
  refine Split.mk (fun c => ?_) (fun c => ?_)
  · conv => whnf
    exact RetQ.mk ⟨rfl, rfl⟩ ⟨rfl, rfl⟩ ⟨bv (same_f (fun e => sx_t c (congrArg S42.f17 e))), trivial⟩
  have c17 : a.f17 = b.f17 := sx_f c
  clear c
  conv => whnf
  refine Need.mk (by kernel_rfl) ?_
  conv => whnf
  refine Split.mk (fun c => ?_) (fun c => ?_)
  · conv => whnf
    exact RetQ.mk ⟨rfl, rfl⟩ ⟨rfl, rfl⟩ ⟨bv (same_f (fun e => bx_t c (congrArg S42.f18 e))), trivial⟩
  have c18 : a.f18 = b.f18 := bx_f c
  clear c
  conv => whnf
  refine CallQ.mk _ (eqByteS a.f19 b.f19 ha.l19) ?_
  conv => whnf
  refine Split.mk (fun c => ?_) (fun c => ?_)
  · conv => whnf
    exact RetQ.mk ⟨rfl, rfl⟩ ⟨rfl, rfl⟩ ⟨bv (same_f (fun e => of_same_f (not_t c) (congrArg S42.f19 e))), trivial⟩
  have c19 : a.f19 = b.f19 := of_same (not_f c)
  clear c
  conv => whnf
  refine Split.mk (fun c => ?_) (fun c => ?_)
  · conv => whnf
    exact RetQ.mk ⟨rfl, rfl⟩ ⟨rfl, rfl⟩ ⟨bv (same_f (fun e => ne_t c (congrArg S42.f20 e))), trivial⟩
  have c20 : a.f20 = b.f20 := ne_f c
  clear c
  conv => whnf
  refine Need.mk (by kernel_rfl) ?_
  conv => whnf
  refine Split.mk (fun c => ?_) (fun c => ?_)
  · conv => whnf
    exact RetQ.mk ⟨rfl, rfl⟩ ⟨rfl, rfl⟩ ⟨bv (same_f (fun e => bx_t c (congrArg S42.f21 e))), trivial⟩
  have c21 : a.f21 = b.f21 := bx_f c
  clear c
  conv => whnf
  refine CallQ.mk _ (eqWantS a.f22 b.f22 ha.l22) ?_
  conv => whnf
  refine Split.mk (fun c => ?_) (fun c => ?_)
  · conv => whnf
    exact RetQ.mk ⟨rfl, rfl⟩ ⟨rfl, rfl⟩ ⟨bv (same_f (fun e => of_same_f (not_t c) (congrArg S42.f22 e))), trivial⟩
  have c22 : a.f22 = b.f22 := of_same (not_f c)
  clear c
  conv => whnf
  refine CallQ.mk _ (eqStringS a.f23 b.f23 ha.l23) ?_
  conv => whnf
  refine Split.mk (fun c => ?_) (fun c => ?_)
  · conv => whnf
    exact RetQ.mk ⟨rfl, rfl⟩ ⟨rfl, rfl⟩ ⟨bv (same_f (fun e => of_same_f (not_t c) (congrArg S42.f23 e))), trivial⟩
  have c23 : a.f23 = b.f23 := of_same (not_f c)
  clear c
  conv => whnf
  refine CallQ.mk _ (eqIntS a.f24 b.f24 ha.l24) ?_
  conv => whnf
  refine Split.mk (fun c => ?_) (fun c => ?_)
  · conv => whnf
    exact RetQ.mk ⟨rfl, rfl⟩ ⟨rfl, rfl⟩ ⟨bv (same_f (fun e => of_same_f (not_t c) (congrArg S42.f24 e))), trivial⟩
  have c24 : a.f24 = b.f24 := of_same (not_f c)
  clear c
  conv => whnf
  exact RetQ.mk ⟨rfl, rfl⟩ ⟨rfl, rfl⟩ ⟨bv (same_t (pk_eq c0 c1 c2 c3 c4 c5 c6 c7 c8 c9 c10 c11 c12 c13 c14 c15 c16 c17 c18 c19 c20 c21 c22 c23 c24)), trivial⟩
end Go.Proofs.YtnflbiafmddpgaaGreatDoor.Q
end
section
/- Functions that the law FnExactSamePacket reaches: what each answers, by the path calculus. Printed by a program of this work (gen_same.py). -/
namespace Go.Proofs.YtnflbiafmddpgaaGreatDoor.Q
open Go.RowKit Go.Proofs.YtnflbiafmddpgaaGreatDoor.Z
set_option linter.unusedVariables false
set_option maxRecDepth 100000
set_option maxHeartbeats 4000000

abbrev bx (p : S42) : Res T := .bx 42 ((T.cells 42 p).map (toCell none))
abbrev bo (b : Bool) : Slot T := .c (.sc (.bool b))
structure Pub (a b : S42) : Prop where
  h0 : a.f0 = b.f0
  h1 : a.f1 = b.f1
  h2 : a.f2 = b.f2
  h3 : a.f3 = b.f3
  h4 : a.f4 = b.f4
  h5 : a.f5 = b.f5
  h6 : a.f6 = b.f6
structure Con (a b : S42) : Prop where
  h7 : a.f7 = b.f7
  h8 : a.f8 = b.f8
  h9 : a.f9 = b.f9
  h10 : a.f10 = b.f10
  h16 : a.f16 = b.f16
  h17 : a.f17 = b.f17
  h18 : a.f18 = b.f18
  h19 : a.f19 = b.f19
structure Wil (a b : S42) : Prop where
  h11 : a.f11 = b.f11
  h12 : a.f12 = b.f12
  h13 : a.f13 = b.f13
  h14 : a.f14 = b.f14
  h15 : a.f15 = b.f15
structure Lis (a b : S42) : Prop where
  h22 : a.f22 = b.f22
  h23 : a.f23 = b.f23
  h24 : a.f24 = b.f24
theorem i_t {x y : Int} {p : Prop} (h : x = y → p) (h2 : p → x = y) : (x == y) = tr p := by
  by_cases e : x = y
  · rw [tr_t (h e)]; simpa using e
  · rw [tr_f (fun q => e (h2 q))]; simpa using e
theorem b_t {x y : Bool} {p : Prop} (h : x = y → p) (h2 : p → x = y) : (x == y) = tr p := by
  by_cases e : x = y
  · rw [tr_t (h e)]; simpa using e
  · rw [tr_f (fun q => e (h2 q))]; simpa using e
theorem s_t {x y : ByteArray} {p : Prop} (h : x = y → p) (h2 : p → x = y) : (x.toList == y.toList) = tr p := by
  by_cases e : x = y
  · rw [tr_t (h e)]; subst e; simp
  · rw [tr_f (fun q => e (h2 q))]
    cases hc : (x.toList == y.toList)
    · rfl
    · exact (e (st_t hc)).elim
theorem r_t {α : Type} {x y : α} {p : Prop} (h : x = y → p) (h2 : p → x = y) : same x y = tr p := by
  by_cases e : x = y
  · rw [tr_t (h e), same_t e]
  · rw [tr_f (fun q => e (h2 q)), same_f e]
theorem implSame (a b : S42) (ha : Fit2 a) (hb : Fit2 b) : CallOb T Tryz.prog 53 [.ag (T.cells 42 a), .ag (T.cells 42 b)] (.c (.sc (.bool (same a b)))) := by
  refine call_of_Vc hT Tryz.func53 (by kernel_rfl) rfl rfl (fun A => ?_)
  refine Vc.seq 0 hT ?_
  conv => whnf
  refine Vc.cut 2 (fun x => x = tr (Pub a b)) (fun x => [(5, bo x), (2, .c (.px 0 0)), (3, .c (.px 1 0))]) (fun _ => [(0, bx a), (1, bx b)]) hT ?_ (fun b5 h5 => ?_)
  · conv => whnf
    refine Split.mk (fun c => ?_) (fun c => ?_)
    · have c0 : a.f0 = b.f0 := eq_t c
      clear c
      conv => whnf
      refine Need.mk (by kernel_rfl) ?_
      conv => whnf
      refine Split.mk (fun c => ?_) (fun c => ?_)
      · have c1 : a.f1 = b.f1 := bb_t c
        clear c
        conv => whnf
        refine Split.mk (fun c => ?_) (fun c => ?_)
        · have c2 : a.f2 = b.f2 := eq_t c
          clear c
          conv => whnf
          refine Need.mk (by kernel_rfl) ?_
          conv => whnf
          refine Split.mk (fun c => ?_) (fun c => ?_)
          · have c3 : a.f3 = b.f3 := bb_t c
            clear c
            conv => whnf
            refine Split.mk (fun c => ?_) (fun c => ?_)
            · have c4 : a.f4 = b.f4 := eq_t c
              clear c
              conv => whnf
              refine Split.mk (fun c => ?_) (fun c => ?_)
              · have c5 : a.f5 = b.f5 := st_t c
                clear c
                conv => whnf
                refine CallQ.mk _ (bytesEqual a.f6 b.f6 ha.y6 hb.y6) ?_
                conv => whnf
                exact CutQ.mk ⟨(same a.f6 b.f6), r_t (fun q => ⟨c0, c1, c2, c3, c4, c5, q⟩) (fun q => q.h6), imp_of [(0, 0), (1, 1)] rfl rfl rfl ⟨⟨rfl, rfl⟩, ⟨rfl, rfl⟩, ⟨rfl, rfl⟩, trivial⟩ ⟨⟨rfl, rfl⟩, ⟨rfl, rfl⟩, trivial⟩⟩
              · conv => whnf
                repeat (refine Split.mk (fun c => ft_ c) (fun _ => ?_); conv => whnf)
                exact CutQ.mk ⟨false, (tr_f (fun q => st_f c q.h5)).symm, imp_of [(0, 0), (1, 1)] rfl rfl rfl ⟨⟨rfl, rfl⟩, ⟨rfl, rfl⟩, ⟨rfl, rfl⟩, trivial⟩ ⟨⟨rfl, rfl⟩, ⟨rfl, rfl⟩, trivial⟩⟩
            · conv => whnf
              repeat (refine Split.mk (fun c => ft_ c) (fun _ => ?_); conv => whnf)
              exact CutQ.mk ⟨false, (tr_f (fun q => eq_f c q.h4)).symm, imp_of [(0, 0), (1, 1)] rfl rfl rfl ⟨⟨rfl, rfl⟩, ⟨rfl, rfl⟩, ⟨rfl, rfl⟩, trivial⟩ ⟨⟨rfl, rfl⟩, ⟨rfl, rfl⟩, trivial⟩⟩
          · conv => whnf
            repeat (refine Split.mk (fun c => ft_ c) (fun _ => ?_); conv => whnf)
            exact CutQ.mk ⟨false, (tr_f (fun q => bb_f c q.h3)).symm, imp_of [(0, 0), (1, 1)] rfl rfl rfl ⟨⟨rfl, rfl⟩, ⟨rfl, rfl⟩, ⟨rfl, rfl⟩, trivial⟩ ⟨⟨rfl, rfl⟩, ⟨rfl, rfl⟩, trivial⟩⟩
        · conv => whnf
          repeat (refine Split.mk (fun c => ft_ c) (fun _ => ?_); conv => whnf)
          exact CutQ.mk ⟨false, (tr_f (fun q => eq_f c q.h2)).symm, imp_of [(0, 0), (1, 1)] rfl rfl rfl ⟨⟨rfl, rfl⟩, ⟨rfl, rfl⟩, ⟨rfl, rfl⟩, trivial⟩ ⟨⟨rfl, rfl⟩, ⟨rfl, rfl⟩, trivial⟩⟩
      · conv => whnf
        repeat (refine Split.mk (fun c => ft_ c) (fun _ => ?_); conv => whnf)
        exact CutQ.mk ⟨false, (tr_f (fun q => bb_f c q.h1)).symm, imp_of [(0, 0), (1, 1)] rfl rfl rfl ⟨⟨rfl, rfl⟩, ⟨rfl, rfl⟩, ⟨rfl, rfl⟩, trivial⟩ ⟨⟨rfl, rfl⟩, ⟨rfl, rfl⟩, trivial⟩⟩
    · conv => whnf
      repeat (refine Split.mk (fun c => ft_ c) (fun _ => ?_); conv => whnf)
      exact CutQ.mk ⟨false, (tr_f (fun q => eq_f c q.h0)).symm, imp_of [(0, 0), (1, 1)] rfl rfl rfl ⟨⟨rfl, rfl⟩, ⟨rfl, rfl⟩, ⟨rfl, rfl⟩, trivial⟩ ⟨⟨rfl, rfl⟩, ⟨rfl, rfl⟩, trivial⟩⟩
  refine Vc.cut 2 (fun x => x = tr (Con a b)) (fun x => [(6, bo x), (5, bo b5), (2, .c (.px 0 0)), (3, .c (.px 1 0))]) (fun _ => [(0, bx a), (1, bx b)]) hT ?_ (fun b6 h6 => ?_)
  · conv => whnf
    refine Split.mk (fun c => ?_) (fun c => ?_)
    · have c7 : a.f7 = b.f7 := st_t c
      clear c
      conv => whnf
      refine Split.mk (fun c => ?_) (fun c => ?_)
      · have c8 : a.f8 = b.f8 := eq_t c
        clear c
        conv => whnf
        refine Need.mk (by kernel_rfl) ?_
        conv => whnf
        refine Split.mk (fun c => ?_) (fun c => ?_)
        · have c9 : a.f9 = b.f9 := bb_t c
          clear c
          conv => whnf
          refine Split.mk (fun c => ?_) (fun c => ?_)
          · have c10 : a.f10 = b.f10 := eq_t c
            clear c
            conv => whnf
            refine Need.mk (by kernel_rfl) ?_
            conv => whnf
            refine Split.mk (fun c => ?_) (fun c => ?_)
            · have c16 : a.f16 = b.f16 := bb_t c
              clear c
              conv => whnf
              refine Split.mk (fun c => ?_) (fun c => ?_)
              · have c17 : a.f17 = b.f17 := st_t c
                clear c
                conv => whnf
                refine Need.mk (by kernel_rfl) ?_
                conv => whnf
                refine Split.mk (fun c => ?_) (fun c => ?_)
                · have c18 : a.f18 = b.f18 := bb_t c
                  clear c
                  conv => whnf
                  refine CallQ.mk _ (bytesEqual a.f19 b.f19 ha.y19 hb.y19) ?_
                  conv => whnf
                  exact CutQ.mk ⟨(same a.f19 b.f19), r_t (fun q => ⟨c7, c8, c9, c10, c16, c17, c18, q⟩) (fun q => q.h19), imp_of [(0, 0), (1, 1)] rfl rfl rfl ⟨⟨rfl, rfl⟩, ⟨rfl, rfl⟩, ⟨rfl, rfl⟩, ⟨rfl, rfl⟩, trivial⟩ ⟨⟨rfl, rfl⟩, ⟨rfl, rfl⟩, trivial⟩⟩
                · conv => whnf
                  repeat (refine Split.mk (fun c => ft_ c) (fun _ => ?_); conv => whnf)
                  exact CutQ.mk ⟨false, (tr_f (fun q => bb_f c q.h18)).symm, imp_of [(0, 0), (1, 1)] rfl rfl rfl ⟨⟨rfl, rfl⟩, ⟨rfl, rfl⟩, ⟨rfl, rfl⟩, ⟨rfl, rfl⟩, trivial⟩ ⟨⟨rfl, rfl⟩, ⟨rfl, rfl⟩, trivial⟩⟩
              · conv => whnf
                repeat (refine Split.mk (fun c => ft_ c) (fun _ => ?_); conv => whnf)
                exact CutQ.mk ⟨false, (tr_f (fun q => st_f c q.h17)).symm, imp_of [(0, 0), (1, 1)] rfl rfl rfl ⟨⟨rfl, rfl⟩, ⟨rfl, rfl⟩, ⟨rfl, rfl⟩, ⟨rfl, rfl⟩, trivial⟩ ⟨⟨rfl, rfl⟩, ⟨rfl, rfl⟩, trivial⟩⟩
            · conv => whnf
              repeat (refine Split.mk (fun c => ft_ c) (fun _ => ?_); conv => whnf)
              exact CutQ.mk ⟨false, (tr_f (fun q => bb_f c q.h16)).symm, imp_of [(0, 0), (1, 1)] rfl rfl rfl ⟨⟨rfl, rfl⟩, ⟨rfl, rfl⟩, ⟨rfl, rfl⟩, ⟨rfl, rfl⟩, trivial⟩ ⟨⟨rfl, rfl⟩, ⟨rfl, rfl⟩, trivial⟩⟩
          · conv => whnf
            repeat (refine Split.mk (fun c => ft_ c) (fun _ => ?_); conv => whnf)
            exact CutQ.mk ⟨false, (tr_f (fun q => eq_f c q.h10)).symm, imp_of [(0, 0), (1, 1)] rfl rfl rfl ⟨⟨rfl, rfl⟩, ⟨rfl, rfl⟩, ⟨rfl, rfl⟩, ⟨rfl, rfl⟩, trivial⟩ ⟨⟨rfl, rfl⟩, ⟨rfl, rfl⟩, trivial⟩⟩
        · conv => whnf
          repeat (refine Split.mk (fun c => ft_ c) (fun _ => ?_); conv => whnf)
          exact CutQ.mk ⟨false, (tr_f (fun q => bb_f c q.h9)).symm, imp_of [(0, 0), (1, 1)] rfl rfl rfl ⟨⟨rfl, rfl⟩, ⟨rfl, rfl⟩, ⟨rfl, rfl⟩, ⟨rfl, rfl⟩, trivial⟩ ⟨⟨rfl, rfl⟩, ⟨rfl, rfl⟩, trivial⟩⟩
      · conv => whnf
        repeat (refine Split.mk (fun c => ft_ c) (fun _ => ?_); conv => whnf)
        exact CutQ.mk ⟨false, (tr_f (fun q => eq_f c q.h8)).symm, imp_of [(0, 0), (1, 1)] rfl rfl rfl ⟨⟨rfl, rfl⟩, ⟨rfl, rfl⟩, ⟨rfl, rfl⟩, ⟨rfl, rfl⟩, trivial⟩ ⟨⟨rfl, rfl⟩, ⟨rfl, rfl⟩, trivial⟩⟩
    · conv => whnf
      repeat (refine Split.mk (fun c => ft_ c) (fun _ => ?_); conv => whnf)
      exact CutQ.mk ⟨false, (tr_f (fun q => st_f c q.h7)).symm, imp_of [(0, 0), (1, 1)] rfl rfl rfl ⟨⟨rfl, rfl⟩, ⟨rfl, rfl⟩, ⟨rfl, rfl⟩, ⟨rfl, rfl⟩, trivial⟩ ⟨⟨rfl, rfl⟩, ⟨rfl, rfl⟩, trivial⟩⟩
  refine Vc.cut 2 (fun x => x = tr (Wil a b)) (fun x => [(7, bo x), (5, bo b5), (6, bo b6), (2, .c (.px 0 0)), (3, .c (.px 1 0))]) (fun _ => [(0, bx a), (1, bx b)]) hT ?_ (fun b7 h7 => ?_)
  · conv => whnf
    refine Need.mk (by kernel_rfl) ?_
    conv => whnf
    refine Split.mk (fun c => ?_) (fun c => ?_)
    · have c11 : a.f11 = b.f11 := bb_t c
      clear c
      conv => whnf
      refine Split.mk (fun c => ?_) (fun c => ?_)
      · have c12 : a.f12 = b.f12 := st_t c
        clear c
        conv => whnf
        refine CallQ.mk _ (bytesEqual a.f13 b.f13 ha.y13 hb.y13) ?_
        conv => whnf
        refine Split.mk (fun c => ?_) (fun c => ?_)
        · have c13 : a.f13 = b.f13 := of_same c
          clear c
          conv => whnf
          refine Split.mk (fun c => ?_) (fun c => ?_)
          · have c14 : a.f14 = b.f14 := eq_t c
            clear c
            conv => whnf
            refine Need.mk (by kernel_rfl) ?_
            conv => whnf
            exact CutQ.mk ⟨(a.f15 == b.f15), b_t (fun q => ⟨c11, c12, c13, c14, q⟩) (fun q => q.h15), imp_of [(0, 0), (1, 1)] rfl rfl rfl ⟨⟨rfl, rfl⟩, ⟨rfl, rfl⟩, ⟨rfl, rfl⟩, ⟨rfl, rfl⟩, ⟨rfl, rfl⟩, trivial⟩ ⟨⟨rfl, rfl⟩, ⟨rfl, rfl⟩, trivial⟩⟩
          · conv => whnf
            repeat (refine Split.mk (fun c => ft_ c) (fun _ => ?_); conv => whnf)
            exact CutQ.mk ⟨false, (tr_f (fun q => eq_f c q.h14)).symm, imp_of [(0, 0), (1, 1)] rfl rfl rfl ⟨⟨rfl, rfl⟩, ⟨rfl, rfl⟩, ⟨rfl, rfl⟩, ⟨rfl, rfl⟩, ⟨rfl, rfl⟩, trivial⟩ ⟨⟨rfl, rfl⟩, ⟨rfl, rfl⟩, trivial⟩⟩
        · conv => whnf
          repeat (refine Split.mk (fun c => ft_ c) (fun _ => ?_); conv => whnf)
          exact CutQ.mk ⟨false, (tr_f (fun q => of_same_f c q.h13)).symm, imp_of [(0, 0), (1, 1)] rfl rfl rfl ⟨⟨rfl, rfl⟩, ⟨rfl, rfl⟩, ⟨rfl, rfl⟩, ⟨rfl, rfl⟩, ⟨rfl, rfl⟩, trivial⟩ ⟨⟨rfl, rfl⟩, ⟨rfl, rfl⟩, trivial⟩⟩
      · conv => whnf
        repeat (refine Split.mk (fun c => ft_ c) (fun _ => ?_); conv => whnf)
        exact CutQ.mk ⟨false, (tr_f (fun q => st_f c q.h12)).symm, imp_of [(0, 0), (1, 1)] rfl rfl rfl ⟨⟨rfl, rfl⟩, ⟨rfl, rfl⟩, ⟨rfl, rfl⟩, ⟨rfl, rfl⟩, ⟨rfl, rfl⟩, trivial⟩ ⟨⟨rfl, rfl⟩, ⟨rfl, rfl⟩, trivial⟩⟩
    · conv => whnf
      repeat (refine Split.mk (fun c => ft_ c) (fun _ => ?_); conv => whnf)
      exact CutQ.mk ⟨false, (tr_f (fun q => bb_f c q.h11)).symm, imp_of [(0, 0), (1, 1)] rfl rfl rfl ⟨⟨rfl, rfl⟩, ⟨rfl, rfl⟩, ⟨rfl, rfl⟩, ⟨rfl, rfl⟩, ⟨rfl, rfl⟩, trivial⟩ ⟨⟨rfl, rfl⟩, ⟨rfl, rfl⟩, trivial⟩⟩
  refine Vc.cut 2 (fun x => x = tr (Lis a b)) (fun x => [(8, bo x), (5, bo b5), (6, bo b6), (7, bo b7), (2, .c (.px 0 0)), (3, .c (.px 1 0))]) (fun _ => [(0, bx a), (1, bx b)]) hT ?_ (fun b8 h8 => ?_)
  · conv => whnf
    refine CallQ.mk _ (slicesEqual_want a.f22 b.f22 ha.l22) ?_
    conv => whnf
    refine Split.mk (fun c => ?_) (fun c => ?_)
    · have c22 : a.f22 = b.f22 := of_same c
      clear c
      conv => whnf
      refine CallQ.mk _ (slicesEqual_str a.f23 b.f23 ha.l23) ?_
      conv => whnf
      refine Split.mk (fun c => ?_) (fun c => ?_)
      · have c23 : a.f23 = b.f23 := of_same c
        clear c
        conv => whnf
        refine CallQ.mk _ (slicesEqual_int a.f24 b.f24 ha.l24) ?_
        conv => whnf
        exact CutQ.mk ⟨(same a.f24 b.f24), r_t (fun q => ⟨c22, c23, q⟩) (fun q => q.h24), imp_of [(0, 0), (1, 1)] rfl rfl rfl ⟨⟨rfl, rfl⟩, ⟨rfl, rfl⟩, ⟨rfl, rfl⟩, ⟨rfl, rfl⟩, ⟨rfl, rfl⟩, ⟨rfl, rfl⟩, trivial⟩ ⟨⟨rfl, rfl⟩, ⟨rfl, rfl⟩, trivial⟩⟩
      · conv => whnf
        repeat (refine Split.mk (fun c => ft_ c) (fun _ => ?_); conv => whnf)
        exact CutQ.mk ⟨false, (tr_f (fun q => of_same_f c q.h23)).symm, imp_of [(0, 0), (1, 1)] rfl rfl rfl ⟨⟨rfl, rfl⟩, ⟨rfl, rfl⟩, ⟨rfl, rfl⟩, ⟨rfl, rfl⟩, ⟨rfl, rfl⟩, ⟨rfl, rfl⟩, trivial⟩ ⟨⟨rfl, rfl⟩, ⟨rfl, rfl⟩, trivial⟩⟩
    · conv => whnf
      repeat (refine Split.mk (fun c => ft_ c) (fun _ => ?_); conv => whnf)
      exact CutQ.mk ⟨false, (tr_f (fun q => of_same_f c q.h22)).symm, imp_of [(0, 0), (1, 1)] rfl rfl rfl ⟨⟨rfl, rfl⟩, ⟨rfl, rfl⟩, ⟨rfl, rfl⟩, ⟨rfl, rfl⟩, ⟨rfl, rfl⟩, ⟨rfl, rfl⟩, trivial⟩ ⟨⟨rfl, rfl⟩, ⟨rfl, rfl⟩, trivial⟩⟩
  refine Vc.of 2 hT ?_
  conv => whnf
  refine Split.mk (fun c => ?_) (fun c => ?_)
  · have q5 := of_tr (h5 ▸ c)
    clear c
    conv => whnf
    refine Split.mk (fun c => ?_) (fun c => ?_)
    · have q6 := of_tr (h6 ▸ c)
      clear c
      conv => whnf
      refine Split.mk (fun c => ?_) (fun c => ?_)
      · have q7 := of_tr (h7 ▸ c)
        clear c
        conv => whnf
        refine Split.mk (fun c => ?_) (fun c => ?_)
        · have q8 := of_tr (h8 ▸ c)
          clear c
          conv => whnf
          refine Split.mk (fun c => ?_) (fun c => ?_)
          · have c20 : a.f20 = b.f20 := eq_t c
            clear c
            conv => whnf
            refine Need.mk (by kernel_rfl) ?_
            conv => whnf
            exact RetQ.mk ⟨rfl, rfl⟩ ⟨rfl, rfl⟩ ⟨bv (b_t (fun q => pk_eq q5.h0 q5.h1 q5.h2 q5.h3 q5.h4 q5.h5 q5.h6 q6.h7 q6.h8 q6.h9 q6.h10 q7.h11 q7.h12 q7.h13 q7.h14 q7.h15 q6.h16 q6.h17 q6.h18 q6.h19 c20 q q8.h22 q8.h23 q8.h24) (fun q => congrArg S42.f21 q)).symm, trivial⟩
          · conv => whnf
            repeat (refine Split.mk (fun c => ft_ c) (fun _ => ?_); conv => whnf)
            exact RetQ.mk ⟨rfl, rfl⟩ ⟨rfl, rfl⟩ ⟨bv (same_f (fun q => eq_f c (congrArg S42.f20 q))), trivial⟩
        · conv => whnf
          repeat (refine Split.mk (fun c => ft_ c) (fun _ => ?_); conv => whnf)
          exact RetQ.mk ⟨rfl, rfl⟩ ⟨rfl, rfl⟩ ⟨bv (same_f (fun q => of_tr_f (h8 ▸ c) ⟨congrArg S42.f22 q, congrArg S42.f23 q, congrArg S42.f24 q⟩)), trivial⟩
      · conv => whnf
        repeat (refine Split.mk (fun c => ft_ c) (fun _ => ?_); conv => whnf)
        exact RetQ.mk ⟨rfl, rfl⟩ ⟨rfl, rfl⟩ ⟨bv (same_f (fun q => of_tr_f (h7 ▸ c) ⟨congrArg S42.f11 q, congrArg S42.f12 q, congrArg S42.f13 q, congrArg S42.f14 q, congrArg S42.f15 q⟩)), trivial⟩
    · conv => whnf
      repeat (refine Split.mk (fun c => ft_ c) (fun _ => ?_); conv => whnf)
      exact RetQ.mk ⟨rfl, rfl⟩ ⟨rfl, rfl⟩ ⟨bv (same_f (fun q => of_tr_f (h6 ▸ c) ⟨congrArg S42.f7 q, congrArg S42.f8 q, congrArg S42.f9 q, congrArg S42.f10 q, congrArg S42.f16 q, congrArg S42.f17 q, congrArg S42.f18 q, congrArg S42.f19 q⟩)), trivial⟩
  · conv => whnf
    repeat (refine Split.mk (fun c => ft_ c) (fun _ => ?_); conv => whnf)
    exact RetQ.mk ⟨rfl, rfl⟩ ⟨rfl, rfl⟩ ⟨bv (same_f (fun q => of_tr_f (h5 ▸ c) ⟨congrArg S42.f0 q, congrArg S42.f1 q, congrArg S42.f2 q, congrArg S42.f3 q, congrArg S42.f4 q, congrArg S42.f5 q, congrArg S42.f6 q⟩)), trivial⟩
end Go.Proofs.YtnflbiafmddpgaaGreatDoor.Q
end
section
/- Functions that the law FnExactSamePacket reaches: what each answers, by the path calculus. Printed by a program of this work (gen_same.py). -/
namespace Go.Proofs.YtnflbiafmddpgaaGreatDoor.Q
open Go.RowKit Go.Proofs.YtnflbiafmddpgaaGreatDoor.Z
set_option linter.unusedVariables false
set_option maxRecDepth 100000
set_option maxHeartbeats 4000000

theorem specSame (a b : S42) (ha : Fit2 a) (hb : Fit2 b) : CallOb T Tryz.prog 46 [.ag (T.cells 42 a), .ag (T.cells 42 b)] (.c (.sc (.bool (same a b)))) := by
  refine call_of_vc hT Tryz.func46 (by kernel_rfl) rfl rfl (fun A => ?_)
  conv => whnf
  refine Split.mk (fun c => ?_) (fun c => ?_)
  · conv => whnf
    repeat (refine Split.mk (fun _ => ?_) (fun c => tf_ c); conv => whnf)
    exact RetQ.mk ⟨rfl, rfl⟩ ⟨rfl, rfl⟩ ⟨bv (same_f (fun q => nn_t c (congrArg (fun p : S42 => p.f22.length) q))), trivial⟩
  have l22 : a.f22.length = b.f22.length := nn_f c
  clear c
  conv => whnf
  refine Split.mk (fun c => ?_) (fun c => ?_)
  · conv => whnf
    repeat (refine Split.mk (fun _ => ?_) (fun c => tf_ c); conv => whnf)
    exact RetQ.mk ⟨rfl, rfl⟩ ⟨rfl, rfl⟩ ⟨bv (same_f (fun q => nn_t c (congrArg (fun p : S42 => p.f23.length) q))), trivial⟩
  have l23 : a.f23.length = b.f23.length := nn_f c
  clear c
  conv => whnf
  refine Split.mk (fun c => ?_) (fun c => ?_)
  · conv => whnf
    repeat (refine Split.mk (fun _ => ?_) (fun c => tf_ c); conv => whnf)
    exact RetQ.mk ⟨rfl, rfl⟩ ⟨rfl, rfl⟩ ⟨bv (same_f (fun q => nn_t c (congrArg (fun p : S42 => p.f24.length) q))), trivial⟩
  have l24 : a.f24.length = b.f24.length := nn_f c
  clear c
  conv => whnf
  refine LoopQ.mk { k : Nat // k ≤ a.f22.length ∧ a.f22.take k = b.f22.take k } (fun p => (2, [(5, i64 p.1), (2, .c (.px 0 0)), (3, .c (.px 1 0))], [(0, bx a), (1, bx b)])) (fun p => a.f22.length - p.1) ⟨0, Nat.zero_le _, rfl⟩ (imp_of [(0, 0), (1, 1)] rfl rfl rfl ⟨⟨rfl, rfl⟩, ⟨rfl, rfl⟩, ⟨rfl, rfl⟩, trivial⟩ ⟨⟨rfl, rfl⟩, ⟨rfl, rfl⟩, trivial⟩) ?_
  rintro ⟨k, hk, ht⟩
  conv => whnf
  refine Split.mk (fun c => ?_) (fun c => ?_)
  · have hk2 : k < a.f22.length := ln_t c
    conv => whnf
    refine Need.mk (idx hk2) ?_
    conv => whnf
    refine Need.mk (idx (l22 ▸ hk2)) ?_
    conv => whnf
    refine Need.mk (by kernel_rfl) ?_
    conv => whnf
    refine DrawQ.mk ⟨by kernel_rfl, by kernel_rfl⟩ ?_
    conv => whnf
    refine Split.mk (fun c => ?_) (fun c => ?_)
    · conv => whnf
      exact RetQ.mk ⟨rfl, rfl⟩ ⟨rfl, rfl⟩ ⟨bv (same_f (fun e => want_t c (congrArg (fun p : S42 => p.f22.getD k z56) e))), trivial⟩
    · conv => whnf
      exact NextQ.mk ⟨⟨k + 1, hk2, take_more (d := z56) hk2 (l22 ▸ hk2) ht (want_f c)⟩, Nat.sub_lt_sub_left hk2 (Nat.lt_succ_self k), imp_of [(0, 0), (1, 1)] rfl rfl rfl ⟨⟨rfl, congrArg i64 (sc_ hk2 ha.l22)⟩, ⟨rfl, rfl⟩, ⟨rfl, rfl⟩, trivial⟩ ⟨⟨rfl, rfl⟩, ⟨rfl, rfl⟩, trivial⟩⟩
  have hk2 : k = a.f22.length := Nat.le_antisymm hk (ln_f c)
  have c22 : a.f22 = b.f22 := take_all l22 (hk2 ▸ ht)
  clear c
  conv => whnf
  refine LoopQ.mk { k : Nat // k ≤ a.f23.length ∧ a.f23.take k = b.f23.take k } (fun p => (2, [(6, i64 p.1), (2, .c (.px 0 0)), (3, .c (.px 1 0))], [(0, bx a), (1, bx b)])) (fun p => a.f23.length - p.1) ⟨0, Nat.zero_le _, rfl⟩ (imp_of [(0, 0), (1, 1)] rfl rfl rfl ⟨⟨rfl, rfl⟩, ⟨rfl, rfl⟩, ⟨rfl, rfl⟩, trivial⟩ ⟨⟨rfl, rfl⟩, ⟨rfl, rfl⟩, trivial⟩) ?_
  rintro ⟨k, hk, ht⟩
  conv => whnf
  refine Split.mk (fun c => ?_) (fun c => ?_)
  · have hk2 : k < a.f23.length := ln_t c
    conv => whnf
    refine Need.mk (idx hk2) ?_
    conv => whnf
    refine Need.mk (idx (l23 ▸ hk2)) ?_
    conv => whnf
    refine DrawQ.mk ⟨by kernel_rfl, by kernel_rfl⟩ ?_
    conv => whnf
    refine Split.mk (fun c => ?_) (fun c => ?_)
    · conv => whnf
      exact RetQ.mk ⟨rfl, rfl⟩ ⟨rfl, rfl⟩ ⟨bv (same_f (fun e => sx_t c (congrArg (fun p : S42 => p.f23.getD k ByteArray.empty) e))), trivial⟩
    · conv => whnf
      exact NextQ.mk ⟨⟨k + 1, hk2, take_more (d := ByteArray.empty) hk2 (l23 ▸ hk2) ht (sx_f c)⟩, Nat.sub_lt_sub_left hk2 (Nat.lt_succ_self k), imp_of [(0, 0), (1, 1)] rfl rfl rfl ⟨⟨rfl, congrArg i64 (sc_ hk2 ha.l23)⟩, ⟨rfl, rfl⟩, ⟨rfl, rfl⟩, trivial⟩ ⟨⟨rfl, rfl⟩, ⟨rfl, rfl⟩, trivial⟩⟩
  have hk2 : k = a.f23.length := Nat.le_antisymm hk (ln_f c)
  have c23 : a.f23 = b.f23 := take_all l23 (hk2 ▸ ht)
  clear c
  conv => whnf
  refine LoopQ.mk { k : Nat // k ≤ a.f24.length ∧ a.f24.take k = b.f24.take k } (fun p => (2, [(7, i64 p.1), (2, .c (.px 0 0)), (3, .c (.px 1 0))], [(0, bx a), (1, bx b)])) (fun p => a.f24.length - p.1) ⟨0, Nat.zero_le _, rfl⟩ (imp_of [(0, 0), (1, 1)] rfl rfl rfl ⟨⟨rfl, rfl⟩, ⟨rfl, rfl⟩, ⟨rfl, rfl⟩, trivial⟩ ⟨⟨rfl, rfl⟩, ⟨rfl, rfl⟩, trivial⟩) ?_
  rintro ⟨k, hk, ht⟩
  conv => whnf
  refine Split.mk (fun c => ?_) (fun c => ?_)
  · have hk2 : k < a.f24.length := ln_t c
    conv => whnf
    refine Need.mk (idx hk2) ?_
    conv => whnf
    refine Need.mk (idx (l24 ▸ hk2)) ?_
    conv => whnf
    refine DrawQ.mk ⟨by kernel_rfl, by kernel_rfl⟩ ?_
    conv => whnf
    refine Split.mk (fun c => ?_) (fun c => ?_)
    · conv => whnf
      exact RetQ.mk ⟨rfl, rfl⟩ ⟨rfl, rfl⟩ ⟨bv (same_f (fun e => ne_t c (congrArg (fun p : S42 => p.f24.getD k (0 : Int)) e))), trivial⟩
    · conv => whnf
      exact NextQ.mk ⟨⟨k + 1, hk2, take_more (d := (0 : Int)) hk2 (l24 ▸ hk2) ht (ne_f c)⟩, Nat.sub_lt_sub_left hk2 (Nat.lt_succ_self k), imp_of [(0, 0), (1, 1)] rfl rfl rfl ⟨⟨rfl, congrArg i64 (sc_ hk2 ha.l24)⟩, ⟨rfl, rfl⟩, ⟨rfl, rfl⟩, trivial⟩ ⟨⟨rfl, rfl⟩, ⟨rfl, rfl⟩, trivial⟩⟩
  have hk2 : k = a.f24.length := Nat.le_antisymm hk (ln_f c)
  have c24 : a.f24 = b.f24 := take_all l24 (hk2 ▸ ht)
  clear c
  conv => whnf
  refine Split.mk (fun c => ?_) (fun c => ?_)
  · have c0 : a.f0 = b.f0 := eq_t c
    clear c
    conv => whnf
    refine Need.mk (by kernel_rfl) ?_
    conv => whnf
    refine Split.mk (fun c => ?_) (fun c => ?_)
    · have c1 : a.f1 = b.f1 := bb_t c
      clear c
      conv => whnf
      refine Split.mk (fun c => ?_) (fun c => ?_)
      · have c2 : a.f2 = b.f2 := eq_t c
        clear c
        conv => whnf
        refine Need.mk (by kernel_rfl) ?_
        conv => whnf
        refine Split.mk (fun c => ?_) (fun c => ?_)
        · have c3 : a.f3 = b.f3 := bb_t c
          clear c
          conv => whnf
          refine Split.mk (fun c => ?_) (fun c => ?_)
          · have c4 : a.f4 = b.f4 := eq_t c
            clear c
            conv => whnf
            refine Split.mk (fun c => ?_) (fun c => ?_)
            · have c5 : a.f5 = b.f5 := st_t c
              clear c
              conv => whnf
              refine CallQ.mk _ (l1Same a.f6 b.f6 ha.y6 hb.y6) ?_
              conv => whnf
              refine Split.mk (fun c => ?_) (fun c => ?_)
              · have c6 : a.f6 = b.f6 := of_same c
                clear c
                conv => whnf
                refine Split.mk (fun c => ?_) (fun c => ?_)
                · have c7 : a.f7 = b.f7 := st_t c
                  clear c
                  conv => whnf
                  refine Split.mk (fun c => ?_) (fun c => ?_)
                  · have c8 : a.f8 = b.f8 := eq_t c
                    clear c
                    conv => whnf
                    refine Need.mk (by kernel_rfl) ?_
                    conv => whnf
                    refine Split.mk (fun c => ?_) (fun c => ?_)
                    · have c9 : a.f9 = b.f9 := bb_t c
                      clear c
                      conv => whnf
                      refine Split.mk (fun c => ?_) (fun c => ?_)
                      · have c10 : a.f10 = b.f10 := eq_t c
                        clear c
                        conv => whnf
                        refine Need.mk (by kernel_rfl) ?_
                        conv => whnf
                        refine Split.mk (fun c => ?_) (fun c => ?_)
                        · have c11 : a.f11 = b.f11 := bb_t c
                          clear c
                          conv => whnf
                          refine Split.mk (fun c => ?_) (fun c => ?_)
                          · have c12 : a.f12 = b.f12 := st_t c
                            clear c
                            conv => whnf
                            refine CallQ.mk _ (l1Same a.f13 b.f13 ha.y13 hb.y13) ?_
                            conv => whnf
                            refine Split.mk (fun c => ?_) (fun c => ?_)
                            · have c13 : a.f13 = b.f13 := of_same c
                              clear c
                              conv => whnf
                              refine Split.mk (fun c => ?_) (fun c => ?_)
                              · have c14 : a.f14 = b.f14 := eq_t c
                                clear c
                                conv => whnf
                                refine Need.mk (by kernel_rfl) ?_
                                conv => whnf
                                refine Split.mk (fun c => ?_) (fun c => ?_)
                                · have c15 : a.f15 = b.f15 := bb_t c
                                  clear c
                                  conv => whnf
                                  refine Need.mk (by kernel_rfl) ?_
                                  conv => whnf
                                  refine Split.mk (fun c => ?_) (fun c => ?_)
                                  · have c16 : a.f16 = b.f16 := bb_t c
                                    clear c
                                    conv => whnf
                                    refine Split.mk (fun c => ?_) (fun c => ?_)
                                    · have c17 : a.f17 = b.f17 := st_t c
                                      clear c
                                      conv => whnf
                                      refine Need.mk (by kernel_rfl) ?_
                                      conv => whnf
                                      refine Split.mk (fun c => ?_) (fun c => ?_)
                                      · have c18 : a.f18 = b.f18 := bb_t c
                                        clear c
                                        conv => whnf
                                        refine CallQ.mk _ (l1Same a.f19 b.f19 ha.y19 hb.y19) ?_
                                        conv => whnf
                                        refine Split.mk (fun c => ?_) (fun c => ?_)
                                        · have c19 : a.f19 = b.f19 := of_same c
                                          clear c
                                          conv => whnf
                                          refine Split.mk (fun c => ?_) (fun c => ?_)
                                          · have c20 : a.f20 = b.f20 := eq_t c
                                            clear c
                                            conv => whnf
                                            refine Need.mk (by kernel_rfl) ?_
                                            conv => whnf
                                            exact RetQ.mk ⟨rfl, rfl⟩ ⟨rfl, rfl⟩ ⟨bv (b_t (fun q => pk_eq c0 c1 c2 c3 c4 c5 c6 c7 c8 c9 c10 c11 c12 c13 c14 c15 c16 c17 c18 c19 c20 q c22 c23 c24) (fun q => congrArg S42.f21 q)).symm, trivial⟩
                                          · conv => whnf
                                            repeat (refine Split.mk (fun c => ft_ c) (fun _ => ?_); conv => whnf)
                                            exact RetQ.mk ⟨rfl, rfl⟩ ⟨rfl, rfl⟩ ⟨bv (same_f (fun q => eq_f c (congrArg S42.f20 q))), trivial⟩
                                        · conv => whnf
                                          repeat (refine Split.mk (fun c => ft_ c) (fun _ => ?_); conv => whnf)
                                          exact RetQ.mk ⟨rfl, rfl⟩ ⟨rfl, rfl⟩ ⟨bv (same_f (fun q => of_same_f c (congrArg S42.f19 q))), trivial⟩
                                      · conv => whnf
                                        repeat (refine Split.mk (fun c => ft_ c) (fun _ => ?_); conv => whnf)
                                        exact RetQ.mk ⟨rfl, rfl⟩ ⟨rfl, rfl⟩ ⟨bv (same_f (fun q => bb_f c (congrArg S42.f18 q))), trivial⟩
                                    · conv => whnf
                                      repeat (refine Split.mk (fun c => ft_ c) (fun _ => ?_); conv => whnf)
                                      exact RetQ.mk ⟨rfl, rfl⟩ ⟨rfl, rfl⟩ ⟨bv (same_f (fun q => st_f c (congrArg S42.f17 q))), trivial⟩
                                  · conv => whnf
                                    repeat (refine Split.mk (fun c => ft_ c) (fun _ => ?_); conv => whnf)
                                    exact RetQ.mk ⟨rfl, rfl⟩ ⟨rfl, rfl⟩ ⟨bv (same_f (fun q => bb_f c (congrArg S42.f16 q))), trivial⟩
                                · conv => whnf
                                  repeat (refine Split.mk (fun c => ft_ c) (fun _ => ?_); conv => whnf)
                                  exact RetQ.mk ⟨rfl, rfl⟩ ⟨rfl, rfl⟩ ⟨bv (same_f (fun q => bb_f c (congrArg S42.f15 q))), trivial⟩
                              · conv => whnf
                                repeat (refine Split.mk (fun c => ft_ c) (fun _ => ?_); conv => whnf)
                                exact RetQ.mk ⟨rfl, rfl⟩ ⟨rfl, rfl⟩ ⟨bv (same_f (fun q => eq_f c (congrArg S42.f14 q))), trivial⟩
                            · conv => whnf
                              repeat (refine Split.mk (fun c => ft_ c) (fun _ => ?_); conv => whnf)
                              exact RetQ.mk ⟨rfl, rfl⟩ ⟨rfl, rfl⟩ ⟨bv (same_f (fun q => of_same_f c (congrArg S42.f13 q))), trivial⟩
                          · conv => whnf
                            repeat (refine Split.mk (fun c => ft_ c) (fun _ => ?_); conv => whnf)
                            exact RetQ.mk ⟨rfl, rfl⟩ ⟨rfl, rfl⟩ ⟨bv (same_f (fun q => st_f c (congrArg S42.f12 q))), trivial⟩
                        · conv => whnf
                          repeat (refine Split.mk (fun c => ft_ c) (fun _ => ?_); conv => whnf)
                          exact RetQ.mk ⟨rfl, rfl⟩ ⟨rfl, rfl⟩ ⟨bv (same_f (fun q => bb_f c (congrArg S42.f11 q))), trivial⟩
                      · conv => whnf
                        repeat (refine Split.mk (fun c => ft_ c) (fun _ => ?_); conv => whnf)
                        exact RetQ.mk ⟨rfl, rfl⟩ ⟨rfl, rfl⟩ ⟨bv (same_f (fun q => eq_f c (congrArg S42.f10 q))), trivial⟩
                    · conv => whnf
                      repeat (refine Split.mk (fun c => ft_ c) (fun _ => ?_); conv => whnf)
                      exact RetQ.mk ⟨rfl, rfl⟩ ⟨rfl, rfl⟩ ⟨bv (same_f (fun q => bb_f c (congrArg S42.f9 q))), trivial⟩
                  · conv => whnf
                    repeat (refine Split.mk (fun c => ft_ c) (fun _ => ?_); conv => whnf)
                    exact RetQ.mk ⟨rfl, rfl⟩ ⟨rfl, rfl⟩ ⟨bv (same_f (fun q => eq_f c (congrArg S42.f8 q))), trivial⟩
                · conv => whnf
                  repeat (refine Split.mk (fun c => ft_ c) (fun _ => ?_); conv => whnf)
                  exact RetQ.mk ⟨rfl, rfl⟩ ⟨rfl, rfl⟩ ⟨bv (same_f (fun q => st_f c (congrArg S42.f7 q))), trivial⟩
              · conv => whnf
                repeat (refine Split.mk (fun c => ft_ c) (fun _ => ?_); conv => whnf)
                exact RetQ.mk ⟨rfl, rfl⟩ ⟨rfl, rfl⟩ ⟨bv (same_f (fun q => of_same_f c (congrArg S42.f6 q))), trivial⟩
            · conv => whnf
              repeat (refine Split.mk (fun c => ft_ c) (fun _ => ?_); conv => whnf)
              exact RetQ.mk ⟨rfl, rfl⟩ ⟨rfl, rfl⟩ ⟨bv (same_f (fun q => st_f c (congrArg S42.f5 q))), trivial⟩
          · conv => whnf
            repeat (refine Split.mk (fun c => ft_ c) (fun _ => ?_); conv => whnf)
            exact RetQ.mk ⟨rfl, rfl⟩ ⟨rfl, rfl⟩ ⟨bv (same_f (fun q => eq_f c (congrArg S42.f4 q))), trivial⟩
        · conv => whnf
          repeat (refine Split.mk (fun c => ft_ c) (fun _ => ?_); conv => whnf)
          exact RetQ.mk ⟨rfl, rfl⟩ ⟨rfl, rfl⟩ ⟨bv (same_f (fun q => bb_f c (congrArg S42.f3 q))), trivial⟩
      · conv => whnf
        repeat (refine Split.mk (fun c => ft_ c) (fun _ => ?_); conv => whnf)
        exact RetQ.mk ⟨rfl, rfl⟩ ⟨rfl, rfl⟩ ⟨bv (same_f (fun q => eq_f c (congrArg S42.f2 q))), trivial⟩
    · conv => whnf
      repeat (refine Split.mk (fun c => ft_ c) (fun _ => ?_); conv => whnf)
      exact RetQ.mk ⟨rfl, rfl⟩ ⟨rfl, rfl⟩ ⟨bv (same_f (fun q => bb_f c (congrArg S42.f1 q))), trivial⟩
  · conv => whnf
    repeat (refine Split.mk (fun c => ft_ c) (fun _ => ?_); conv => whnf)
    exact RetQ.mk ⟨rfl, rfl⟩ ⟨rfl, rfl⟩ ⟨bv (same_f (fun q => eq_f c (congrArg S42.f0 q))), trivial⟩
end Go.Proofs.YtnflbiafmddpgaaGreatDoor.Q
end
section
/- Functions that the law FnExactSamePacket reaches: what each answers, by the path calculus. Printed by a program of this work (gen_same.py). -/
namespace Go.Proofs.YtnflbiafmddpgaaGreatDoor.Q
open Go.RowKit Go.Proofs.YtnflbiafmddpgaaGreatDoor.Z
set_option linter.unusedVariables false
set_option maxRecDepth 100000
set_option maxHeartbeats 4000000

theorem szP_small (p : S38) (x : Int) (h0 : 0 ≤ x) (hx : x ≤ 1048576) (h : 0 ≤ szP p x) : Small p ∧ szP p x ≤ 1048576 := by
  have H : szP p x = szP p x := rfl
  conv at H => rhs; unfold szP
  unfold szP at h
  obtain ⟨g, h⟩ := tS_inv h
  replace H := H.trans (tS_nn g)
  have m5 := szL_le' g
  replace hx := Int.le_trans m5.2 hx
  replace h0 := g
  clear m5 g
  obtain ⟨g, h⟩ := tS_inv h
  replace H := H.trans (tS_nn g)
  have m6 := szL_le' g
  have n6 := Int.le_trans m6.1 hx
  replace hx := Int.le_trans m6.2 hx
  replace h0 := g
  clear m6 g
  obtain ⟨g, h⟩ := tS_inv h
  replace H := H.trans (tS_nn g)
  have m7 := szL_le' g
  replace hx := Int.le_trans m7.2 hx
  replace h0 := g
  clear m7 g
  obtain ⟨g, h⟩ := tS_inv h
  replace H := H.trans (tS_nn g)
  have m12 := szL_le' g
  replace hx := Int.le_trans m12.2 hx
  replace h0 := g
  clear m12 g
  obtain ⟨g, h⟩ := tS_inv h
  replace H := H.trans (tS_nn g)
  have m13 := szL_le' g
  have n13 := Int.le_trans m13.1 hx
  replace hx := Int.le_trans m13.2 hx
  replace h0 := g
  clear m13 g
  obtain ⟨g, h⟩ := tS_inv h
  replace H := H.trans (tS_nn g)
  have m17 := szL_le' g
  replace hx := Int.le_trans m17.2 hx
  replace h0 := g
  clear m17 g
  obtain ⟨g, h⟩ := tS_inv h
  replace H := H.trans (tS_nn g)
  have m19 := szL_le' g
  have n19 := Int.le_trans m19.1 hx
  replace hx := Int.le_trans m19.2 hx
  replace h0 := g
  clear m19 g
  obtain ⟨g, h⟩ := tS_inv h
  replace H := H.trans (tS_nn g)
  have m22 := tG_le' h0 g
  have n22 := Int.le_trans m22.1 hx
  replace hx := Int.le_trans m22.2 hx
  replace h0 := g
  clear m22 g
  obtain ⟨g, h⟩ := tS_inv h
  replace H := H.trans (tS_nn g)
  have m23 := tG_le' h0 g
  have n23 := Int.le_trans m23.1 hx
  replace hx := Int.le_trans m23.2 hx
  replace h0 := g
  clear m23 g
  obtain ⟨g, h⟩ := tS_inv h
  replace H := H.trans (tS_nn g)
  have m24 := szL_le' g
  have n24 := Int.le_trans m24.1 hx
  replace hx := Int.le_trans m24.2 hx
  replace h0 := g
  clear m24 g
  refine ⟨⟨Int.ofNat_le.1 n6, Int.ofNat_le.1 n13, Int.ofNat_le.1 n19, Int.ofNat_le.1 n22, Int.ofNat_le.1 n23, Int.ofNat_le.1 n24⟩, ?_⟩
  rw [H]; exact hx
theorem fit2 {p : S38} (h : Fit p) : Fit2 (toP p) := ⟨h.s5, h.l6, h.y6, h.s7, h.s12, h.l13, h.y13, h.s17, h.l19, h.y19, (by simpa [toP] using h.l22), (by intro x hx; obtain ⟨y, hy, rfl⟩ := List.mem_map.1 hx; exact h.w22 y hy), h.l23, h.w23, h.l24⟩
end Go.Proofs.YtnflbiafmddpgaaGreatDoor.Q
end
section
/- Functions that the law FnExactSamePacket reaches: what each answers, by the path calculus. Printed by a program of this work (gen_same.py). -/
namespace Go.Proofs.YtnflbiafmddpgaaGreatDoor.Q
open Go.RowKit Go.Proofs.YtnflbiafmddpgaaGreatDoor.Z
set_option linter.unusedVariables false
set_option maxRecDepth 100000
set_option maxHeartbeats 4000000

/-- A struct whose rows are owned: its cells, its rows. -/
def hdC : Nat → List (C0 T.Tb) → List (Cell T)
  | _, [] => []
  | r, .sc v :: l => .sc v :: hdC r l
  | r, .sl _ _ :: l => .hd r :: hdC (r + 1) l
abbrev rw_ (r e : Nat) (l : List (T.Tb e)) : Nat × Res T := (r, .row r e l)
abbrev rowsP (r : Nat) (p : S42) : List (Nat × Res T) := [rw_ r 5 p.f6, rw_ (r + 1) 5 p.f13, rw_ (r + 2) 5 p.f19, rw_ (r + 3) 56 p.f22, rw_ (r + 4) 9 p.f23, rw_ (r + 5) 3 p.f24]
abbrev hbx (r : Nat) (p : S42) : Res T := .bx 42 (hdC r (T.cells 42 p))
abbrev bxl (p : S38) : Res T := .bx 38 ((T.cells 38 p).map (toCell none))
end Go.Proofs.YtnflbiafmddpgaaGreatDoor.Q
end
