/- Functions that the law FnExactSamePacket reaches: what each answers, by the path calculus. Printed by a program of this work (gen_same.py). -/
import Derived.Test.YtnflbiafmddpgaaZT
import Derived.Test.YtnflbiafmddpgaaZ19
namespace Go.Proofs.Ytnflbiafmddpgaa.P
open Go.RowKit Go.Proofs.Ytnflbiafmddpgaa.Z
set_option linter.unusedVariables false
set_option maxRecDepth 100000
set_option maxHeartbeats 4000000
abbrev i64 (n : Int) : Slot T := .c (.sc (.int .i64 n))
abbrev im (e : Nat) (l : List (T.Tb e)) : Slot T := .c (.im none e l)
theorem want_eq {a b : S40} (h0 : a.f0 = b.f0) (h1 : a.f1 = b.f1) : a = b := by cases a; cases b; cases h0; cases h1; rfl
theorem want_t {a b : S40} (h : (!(a.f0.toList == b.f0.toList && a.f1 == b.f1)) = true) : ¬ a = b := fun e => by subst e; simp at h
theorem want_f {a b : S40} (h : (!(a.f0.toList == b.f0.toList && a.f1 == b.f1)) = false) : a = b := by
  simp only [Bool.not_eq_false', Bool.and_eq_true] at h
  exact want_eq (st_t h.1) (eq_t h.2)
theorem slicesEqual_int (a b : List Int) (ha : a.length ≤ 140737488351232) : CallOb T Try.prog 21 [.c (.sl 3 a), .c (.sl 3 b)] (.c (.sc (.bool (same a b)))) := by
  refine call_of_vc hT Try.func21 (by kernel_rfl) rfl rfl (fun A => ?_)
  conv => whnf
  refine Split.mk (fun c => ?_) (fun c => ?_)
  · conv => whnf
    exact RetQ.mk ⟨rfl, rfl⟩ ⟨rfl, rfl⟩ ⟨bv (same_f (fun e => nn_t c (congrArg List.length e))), trivial⟩
  · have hl : a.length = b.length := nn_f c
    conv => whnf
    refine LoopQ.mk { k : Nat // k ≤ a.length ∧ a.take k = b.take k } (fun p => (0, [(13, i64 p.1), (12, i64 a.length), (0, im 3 a), (1, im 3 b)], [])) (fun p => a.length - p.1) ⟨0, Nat.zero_le _, rfl⟩ (imp_of [] rfl rfl rfl ⟨⟨rfl, rfl⟩, ⟨rfl, rfl⟩, ⟨rfl, rfl⟩, ⟨rfl, rfl⟩, trivial⟩ trivial) ?_
    rintro ⟨k, hk, ht⟩
    conv => whnf
    refine Split.mk (fun c => ?_) (fun c => ?_)
    · have hk2 : k < a.length := ln_t c
      conv => whnf
      refine Need.mk (idx hk2) ?_
      conv => whnf
      refine Need.mk (idx (hl ▸ hk2)) ?_
      conv => whnf
      refine DrawQ.mk ⟨by kernel_rfl, by kernel_rfl⟩ ?_
      conv => whnf
      refine Split.mk (fun c => ?_) (fun c => ?_)
      · conv => whnf
        exact RetQ.mk ⟨rfl, rfl⟩ ⟨rfl, rfl⟩ ⟨bv (same_f (fun e => ne_t c (congrArg (fun l => l.getD k (T.df 3)) e))), trivial⟩
      · conv => whnf
        exact NextQ.mk ⟨⟨k + 1, hk2, take_more (d := T.df 3) hk2 (hl ▸ hk2) ht (ne_f c)⟩, Nat.sub_lt_sub_left hk2 (Nat.lt_succ_self k), imp_of [] rfl rfl rfl ⟨⟨rfl, congrArg i64 (sc_ hk2 ha)⟩, ⟨rfl, rfl⟩, ⟨rfl, rfl⟩, ⟨rfl, rfl⟩, trivial⟩ trivial⟩
    · have hk2 : k = a.length := Nat.le_antisymm hk (ln_f c)
      conv => whnf
      subst hk2
      exact RetQ.mk ⟨rfl, rfl⟩ ⟨rfl, rfl⟩ ⟨bv (same_t (take_all hl ht)), trivial⟩
theorem slicesEqual_str (a b : List ByteArray) (ha : a.length ≤ 140737488351232) : CallOb T Try.prog 20 [.c (.sl 9 a), .c (.sl 9 b)] (.c (.sc (.bool (same a b)))) := by
  refine call_of_vc hT Try.func20 (by kernel_rfl) rfl rfl (fun A => ?_)
  conv => whnf
  refine Split.mk (fun c => ?_) (fun c => ?_)
  · conv => whnf
    exact RetQ.mk ⟨rfl, rfl⟩ ⟨rfl, rfl⟩ ⟨bv (same_f (fun e => nn_t c (congrArg List.length e))), trivial⟩
  · have hl : a.length = b.length := nn_f c
    conv => whnf
    refine LoopQ.mk { k : Nat // k ≤ a.length ∧ a.take k = b.take k } (fun p => (0, [(13, i64 p.1), (12, i64 a.length), (0, im 9 a), (1, im 9 b)], [])) (fun p => a.length - p.1) ⟨0, Nat.zero_le _, rfl⟩ (imp_of [] rfl rfl rfl ⟨⟨rfl, rfl⟩, ⟨rfl, rfl⟩, ⟨rfl, rfl⟩, ⟨rfl, rfl⟩, trivial⟩ trivial) ?_
    rintro ⟨k, hk, ht⟩
    conv => whnf
    refine Split.mk (fun c => ?_) (fun c => ?_)
    · have hk2 : k < a.length := ln_t c
      conv => whnf
      refine Need.mk (idx hk2) ?_
      conv => whnf
      refine Need.mk (idx (hl ▸ hk2)) ?_
      conv => whnf
      refine DrawQ.mk ⟨by kernel_rfl, by kernel_rfl⟩ ?_
      conv => whnf
      refine Split.mk (fun c => ?_) (fun c => ?_)
      · conv => whnf
        exact RetQ.mk ⟨rfl, rfl⟩ ⟨rfl, rfl⟩ ⟨bv (same_f (fun e => sx_t c (congrArg (fun l => l.getD k (T.df 9)) e))), trivial⟩
      · conv => whnf
        exact NextQ.mk ⟨⟨k + 1, hk2, take_more (d := T.df 9) hk2 (hl ▸ hk2) ht (sx_f c)⟩, Nat.sub_lt_sub_left hk2 (Nat.lt_succ_self k), imp_of [] rfl rfl rfl ⟨⟨rfl, congrArg i64 (sc_ hk2 ha)⟩, ⟨rfl, rfl⟩, ⟨rfl, rfl⟩, ⟨rfl, rfl⟩, trivial⟩ trivial⟩
    · have hk2 : k = a.length := Nat.le_antisymm hk (ln_f c)
      conv => whnf
      subst hk2
      exact RetQ.mk ⟨rfl, rfl⟩ ⟨rfl, rfl⟩ ⟨bv (same_t (take_all hl ht)), trivial⟩
theorem slicesEqual_want (a b : List S40) (ha : a.length ≤ 140737488351232) : CallOb T Try.prog 19 [.c (.sl 40 a), .c (.sl 40 b)] (.c (.sc (.bool (same a b)))) := by
  refine call_of_vc hT Try.func19 (by kernel_rfl) rfl rfl (fun A => ?_)
  conv => whnf
  refine Split.mk (fun c => ?_) (fun c => ?_)
  · conv => whnf
    exact RetQ.mk ⟨rfl, rfl⟩ ⟨rfl, rfl⟩ ⟨bv (same_f (fun e => nn_t c (congrArg List.length e))), trivial⟩
  · have hl : a.length = b.length := nn_f c
    conv => whnf
    refine LoopQ.mk { k : Nat // k ≤ a.length ∧ a.take k = b.take k } (fun p => (0, [(13, i64 p.1), (12, i64 a.length), (0, im 40 a), (1, im 40 b)], [])) (fun p => a.length - p.1) ⟨0, Nat.zero_le _, rfl⟩ (imp_of [] rfl rfl rfl ⟨⟨rfl, rfl⟩, ⟨rfl, rfl⟩, ⟨rfl, rfl⟩, ⟨rfl, rfl⟩, trivial⟩ trivial) ?_
    rintro ⟨k, hk, ht⟩
    conv => whnf
    refine Split.mk (fun c => ?_) (fun c => ?_)
    · have hk2 : k < a.length := ln_t c
      conv => whnf
      refine Need.mk (idx hk2) ?_
      conv => whnf
      refine Need.mk (idx (hl ▸ hk2)) ?_
      conv => whnf
      refine Need.mk (by kernel_rfl) ?_
      conv => whnf
      refine DrawQ.mk ⟨by kernel_rfl, by kernel_rfl⟩ ?_
      conv => whnf
      refine Split.mk (fun c => ?_) (fun c => ?_)
      · conv => whnf
        exact RetQ.mk ⟨rfl, rfl⟩ ⟨rfl, rfl⟩ ⟨bv (same_f (fun e => want_t c (congrArg (fun l => l.getD k (T.df 40)) e))), trivial⟩
      · conv => whnf
        exact NextQ.mk ⟨⟨k + 1, hk2, take_more (d := T.df 40) hk2 (hl ▸ hk2) ht (want_f c)⟩, Nat.sub_lt_sub_left hk2 (Nat.lt_succ_self k), imp_of [] rfl rfl rfl ⟨⟨rfl, congrArg i64 (sc_ hk2 ha)⟩, ⟨rfl, rfl⟩, ⟨rfl, rfl⟩, ⟨rfl, rfl⟩, trivial⟩ trivial⟩
    · have hk2 : k = a.length := Nat.le_antisymm hk (ln_f c)
      conv => whnf
      subst hk2
      exact RetQ.mk ⟨rfl, rfl⟩ ⟨rfl, rfl⟩ ⟨bv (same_t (take_all hl ht)), trivial⟩
theorem eqIntS (a b : List Int) (ha : a.length ≤ 140737488351232) : CallOb T Try.prog 25 [.c (.sl 3 a), .c (.sl 3 b)] (.c (.sc (.bool (same a b)))) := by
  refine call_of_vc hT Try.func25 (by kernel_rfl) rfl rfl (fun A => ?_)
  conv => whnf
  refine Split.mk (fun c => ?_) (fun c => ?_)
  · conv => whnf
    exact RetQ.mk ⟨rfl, rfl⟩ ⟨rfl, rfl⟩ ⟨bv (same_f (fun e => nn_t c (congrArg List.length e))), trivial⟩
  · have hl : a.length = b.length := nn_f c
    conv => whnf
    refine LoopQ.mk { k : Nat // k ≤ a.length ∧ a.take k = b.take k } (fun p => (0, [(5, i64 p.1), (0, im 3 a), (1, im 3 b)], [])) (fun p => a.length - p.1) ⟨0, Nat.zero_le _, rfl⟩ (imp_of [] rfl rfl rfl ⟨⟨rfl, rfl⟩, ⟨rfl, rfl⟩, ⟨rfl, rfl⟩, trivial⟩ trivial) ?_
    rintro ⟨k, hk, ht⟩
    conv => whnf
    refine Split.mk (fun c => ?_) (fun c => ?_)
    · have hk2 : k < a.length := ln_t c
      conv => whnf
      refine Need.mk (idx hk2) ?_
      conv => whnf
      refine Need.mk (idx (hl ▸ hk2)) ?_
      conv => whnf
      refine DrawQ.mk ⟨by kernel_rfl, by kernel_rfl⟩ ?_
      conv => whnf
      refine Split.mk (fun c => ?_) (fun c => ?_)
      · conv => whnf
        exact RetQ.mk ⟨rfl, rfl⟩ ⟨rfl, rfl⟩ ⟨bv (same_f (fun e => ne_t c (congrArg (fun l => l.getD k (T.df 3)) e))), trivial⟩
      · conv => whnf
        exact NextQ.mk ⟨⟨k + 1, hk2, take_more (d := T.df 3) hk2 (hl ▸ hk2) ht (ne_f c)⟩, Nat.sub_lt_sub_left hk2 (Nat.lt_succ_self k), imp_of [] rfl rfl rfl ⟨⟨rfl, congrArg i64 (sc_ hk2 ha)⟩, ⟨rfl, rfl⟩, ⟨rfl, rfl⟩, trivial⟩ trivial⟩
    · have hk2 : k = a.length := Nat.le_antisymm hk (ln_f c)
      conv => whnf
      subst hk2
      exact RetQ.mk ⟨rfl, rfl⟩ ⟨rfl, rfl⟩ ⟨bv (same_t (take_all hl ht)), trivial⟩
theorem eqStringS (a b : List ByteArray) (ha : a.length ≤ 140737488351232) : CallOb T Try.prog 24 [.c (.sl 9 a), .c (.sl 9 b)] (.c (.sc (.bool (same a b)))) := by
  refine call_of_vc hT Try.func24 (by kernel_rfl) rfl rfl (fun A => ?_)
  conv => whnf
  refine Split.mk (fun c => ?_) (fun c => ?_)
  · conv => whnf
    exact RetQ.mk ⟨rfl, rfl⟩ ⟨rfl, rfl⟩ ⟨bv (same_f (fun e => nn_t c (congrArg List.length e))), trivial⟩
  · have hl : a.length = b.length := nn_f c
    conv => whnf
    refine LoopQ.mk { k : Nat // k ≤ a.length ∧ a.take k = b.take k } (fun p => (0, [(5, i64 p.1), (0, im 9 a), (1, im 9 b)], [])) (fun p => a.length - p.1) ⟨0, Nat.zero_le _, rfl⟩ (imp_of [] rfl rfl rfl ⟨⟨rfl, rfl⟩, ⟨rfl, rfl⟩, ⟨rfl, rfl⟩, trivial⟩ trivial) ?_
    rintro ⟨k, hk, ht⟩
    conv => whnf
    refine Split.mk (fun c => ?_) (fun c => ?_)
    · have hk2 : k < a.length := ln_t c
      conv => whnf
      refine Need.mk (idx hk2) ?_
      conv => whnf
      refine Need.mk (idx (hl ▸ hk2)) ?_
      conv => whnf
      refine DrawQ.mk ⟨by kernel_rfl, by kernel_rfl⟩ ?_
      conv => whnf
      refine Split.mk (fun c => ?_) (fun c => ?_)
      · conv => whnf
        exact RetQ.mk ⟨rfl, rfl⟩ ⟨rfl, rfl⟩ ⟨bv (same_f (fun e => sx_t c (congrArg (fun l => l.getD k (T.df 9)) e))), trivial⟩
      · conv => whnf
        exact NextQ.mk ⟨⟨k + 1, hk2, take_more (d := T.df 9) hk2 (hl ▸ hk2) ht (sx_f c)⟩, Nat.sub_lt_sub_left hk2 (Nat.lt_succ_self k), imp_of [] rfl rfl rfl ⟨⟨rfl, congrArg i64 (sc_ hk2 ha)⟩, ⟨rfl, rfl⟩, ⟨rfl, rfl⟩, trivial⟩ trivial⟩
    · have hk2 : k = a.length := Nat.le_antisymm hk (ln_f c)
      conv => whnf
      subst hk2
      exact RetQ.mk ⟨rfl, rfl⟩ ⟨rfl, rfl⟩ ⟨bv (same_t (take_all hl ht)), trivial⟩
theorem eqByteS (a b : List Int) (ha : a.length ≤ 140737488351232) : CallOb T Try.prog 22 [.c (.sl 5 a), .c (.sl 5 b)] (.c (.sc (.bool (same a b)))) := by
  refine call_of_vc hT Try.func22 (by kernel_rfl) rfl rfl (fun A => ?_)
  conv => whnf
  refine Split.mk (fun c => ?_) (fun c => ?_)
  · conv => whnf
    exact RetQ.mk ⟨rfl, rfl⟩ ⟨rfl, rfl⟩ ⟨bv (same_f (fun e => nn_t c (congrArg List.length e))), trivial⟩
  · have hl : a.length = b.length := nn_f c
    conv => whnf
    refine LoopQ.mk { k : Nat // k ≤ a.length ∧ a.take k = b.take k } (fun p => (0, [(5, i64 p.1), (0, im 5 a), (1, im 5 b)], [])) (fun p => a.length - p.1) ⟨0, Nat.zero_le _, rfl⟩ (imp_of [] rfl rfl rfl ⟨⟨rfl, rfl⟩, ⟨rfl, rfl⟩, ⟨rfl, rfl⟩, trivial⟩ trivial) ?_
    rintro ⟨k, hk, ht⟩
    conv => whnf
    refine Split.mk (fun c => ?_) (fun c => ?_)
    · have hk2 : k < a.length := ln_t c
      conv => whnf
      refine Need.mk (idx hk2) ?_
      conv => whnf
      refine Need.mk (idx (hl ▸ hk2)) ?_
      conv => whnf
      refine DrawQ.mk ⟨by kernel_rfl, by kernel_rfl⟩ ?_
      conv => whnf
      refine Split.mk (fun c => ?_) (fun c => ?_)
      · conv => whnf
        exact RetQ.mk ⟨rfl, rfl⟩ ⟨rfl, rfl⟩ ⟨bv (same_f (fun e => ne_t c (congrArg (fun l => l.getD k (T.df 5)) e))), trivial⟩
      · conv => whnf
        exact NextQ.mk ⟨⟨k + 1, hk2, take_more (d := T.df 5) hk2 (hl ▸ hk2) ht (ne_f c)⟩, Nat.sub_lt_sub_left hk2 (Nat.lt_succ_self k), imp_of [] rfl rfl rfl ⟨⟨rfl, congrArg i64 (sc_ hk2 ha)⟩, ⟨rfl, rfl⟩, ⟨rfl, rfl⟩, trivial⟩ trivial⟩
    · have hk2 : k = a.length := Nat.le_antisymm hk (ln_f c)
      conv => whnf
      subst hk2
      exact RetQ.mk ⟨rfl, rfl⟩ ⟨rfl, rfl⟩ ⟨bv (same_t (take_all hl ht)), trivial⟩
theorem eqWant (a b : S40) : CallOb T Try.prog 28 [.ag (T.cells 40 a), .ag (T.cells 40 b)] (.c (.sc (.bool (same a b)))) := by
  refine call_of_vc hT Try.func28 (by kernel_rfl) rfl rfl (fun A => ?_)
  conv => whnf
  refine Split.mk (fun c => ?_) (fun c => ?_)
  · conv => whnf
    exact RetQ.mk ⟨rfl, rfl⟩ ⟨rfl, rfl⟩ ⟨bv (same_f (fun e => sx_t c (congrArg S40.f0 e))), trivial⟩
  · conv => whnf
    refine Split.mk (fun d => ?_) (fun d => ?_)
    · conv => whnf
      exact RetQ.mk ⟨rfl, rfl⟩ ⟨rfl, rfl⟩ ⟨bv (same_f (fun e => ne_t d (congrArg S40.f1 e))), trivial⟩
    · conv => whnf
      exact RetQ.mk ⟨rfl, rfl⟩ ⟨rfl, rfl⟩ ⟨bv (same_t (want_eq (sx_f c) (ne_f d))), trivial⟩
theorem eqWantS (a b : List S40) (ha : a.length ≤ 140737488351232) : CallOb T Try.prog 23 [.c (.sl 40 a), .c (.sl 40 b)] (.c (.sc (.bool (same a b)))) := by
  refine call_of_vc hT Try.func23 (by kernel_rfl) rfl rfl (fun A => ?_)
  conv => whnf
  refine Split.mk (fun c => ?_) (fun c => ?_)
  · conv => whnf
    exact RetQ.mk ⟨rfl, rfl⟩ ⟨rfl, rfl⟩ ⟨bv (same_f (fun e => nn_t c (congrArg List.length e))), trivial⟩
  · have hl : a.length = b.length := nn_f c
    conv => whnf
    refine LoopQ.mk { k : Nat // k ≤ a.length ∧ a.take k = b.take k } (fun p => (0, [(5, i64 p.1), (0, im 40 a), (1, im 40 b)], [])) (fun p => a.length - p.1) ⟨0, Nat.zero_le _, rfl⟩ (imp_of [] rfl rfl rfl ⟨⟨rfl, rfl⟩, ⟨rfl, rfl⟩, ⟨rfl, rfl⟩, trivial⟩ trivial) ?_
    rintro ⟨k, hk, ht⟩
    conv => whnf
    refine Split.mk (fun c => ?_) (fun c => ?_)
    · have hk2 : k < a.length := ln_t c
      conv => whnf
      refine Need.mk (idx hk2) ?_
      conv => whnf
      refine Need.mk (idx (hl ▸ hk2)) ?_
      conv => whnf
      refine CallQ.mk _ (eqWant _ _) ?_
      conv => whnf
      refine DrawQ.mk ⟨by kernel_rfl, by kernel_rfl⟩ ?_
      conv => whnf
      refine Split.mk (fun c => ?_) (fun c => ?_)
      · conv => whnf
        exact RetQ.mk ⟨rfl, rfl⟩ ⟨rfl, rfl⟩ ⟨bv (same_f (fun e => of_same_f (not_t c) (congrArg (fun l => l.getD k (T.df 40)) e))), trivial⟩
      · conv => whnf
        exact NextQ.mk ⟨⟨k + 1, hk2, take_more (d := T.df 40) hk2 (hl ▸ hk2) ht (of_same (not_f c))⟩, Nat.sub_lt_sub_left hk2 (Nat.lt_succ_self k), imp_of [] rfl rfl rfl ⟨⟨rfl, congrArg i64 (sc_ hk2 ha)⟩, ⟨rfl, rfl⟩, ⟨rfl, rfl⟩, trivial⟩ trivial⟩
    · have hk2 : k = a.length := Nat.le_antisymm hk (ln_f c)
      conv => whnf
      subst hk2
      exact RetQ.mk ⟨rfl, rfl⟩ ⟨rfl, rfl⟩ ⟨bv (same_t (take_all hl ht)), trivial⟩
end Go.Proofs.Ytnflbiafmddpgaa.P
