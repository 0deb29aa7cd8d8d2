/- Functions that the law FnExactSamePacket reaches: what each answers, by the path calculus. Printed by a program of this work (gen_same.py). -/
import Derived.Test.YtnflbiafmddpgaaZP1
namespace Go.Proofs.Ytnflbiafmddpgaa.P
open Go.RowKit Go.Proofs.Ytnflbiafmddpgaa.Z
set_option linter.unusedVariables false
set_option maxRecDepth 100000
set_option maxHeartbeats 4000000

theorem toByteS (a : List Int) (ha : a.length ≤ 1048576) : CallOb T Try.prog 14 [.c (.sl 5 a)] (.c (.ow 5 a)) := by
  refine call_of_vc hT Try.func14 (by kernel_rfl) rfl rfl (fun A => ?_)
  conv => whnf
  refine Need.mk (mk_ (by decide) ha) ?_
  conv => whnf
  refine LoopQ.mk { k : Nat // k ≤ a.length } (fun p => (2, [(4, i64 p.1), (3, .c (.hd 0)), (0, im 5 a)], [(0, .row 1 5 (fill (fun x => x) (0 : Int) a p.1))])) (fun p => a.length - p.1) ⟨0, Nat.zero_le _⟩ (imp_of [(0, 0)] rfl rfl rfl ⟨⟨rfl, rfl⟩, ⟨rfl, rfl⟩, ⟨rfl, rfl⟩, trivial⟩ ⟨sr_ fill_zero.symm, trivial⟩) ?_
  rintro ⟨k, hk⟩
  conv => whnf
  refine Split.mk (fun c => ?_) (fun c => ?_)
  · have hk2 : k < a.length := ln_t c
    conv => whnf
    refine Need.mk (idx hk2) ?_
    conv => whnf
    refine Need.mk (idx (Nat.lt_of_lt_of_eq hk2 (fill_len hk).symm)) ?_
    conv => whnf
    exact NextQ.mk ⟨⟨k + 1, hk2⟩, Nat.sub_lt_sub_left hk2 (Nat.lt_succ_self k), imp_of [(0, 0)] rfl rfl rfl ⟨⟨rfl, congrArg i64 (sc_ hk2 (Nat.le_trans ha (by decide)))⟩, ⟨rfl, rfl⟩, ⟨rfl, rfl⟩, trivial⟩ ⟨sr_ (fill_set hk2), trivial⟩⟩
  · have hk2 : k = a.length := Nat.le_antisymm hk (ln_f c)
    conv => whnf
    subst hk2
    exact RetQ.mk ⟨rfl, rfl⟩ ⟨rfl, rfl⟩ ⟨sr_ (fill_all.trans mp_id), trivial⟩
theorem toStringS (a : List ByteArray) (ha : a.length ≤ 1048576) : CallOb T Try.prog 16 [.c (.sl 9 a)] (.c (.ow 9 a)) := by
  refine call_of_vc hT Try.func16 (by kernel_rfl) rfl rfl (fun A => ?_)
  conv => whnf
  refine Need.mk (mk_ (by decide) ha) ?_
  conv => whnf
  refine LoopQ.mk { k : Nat // k ≤ a.length } (fun p => (2, [(4, i64 p.1), (3, .c (.hd 0)), (0, im 9 a)], [(0, .row 1 9 (fill (fun x => x) (⟨#[]⟩ : ByteArray) a p.1))])) (fun p => a.length - p.1) ⟨0, Nat.zero_le _⟩ (imp_of [(0, 0)] rfl rfl rfl ⟨⟨rfl, rfl⟩, ⟨rfl, rfl⟩, ⟨rfl, rfl⟩, trivial⟩ ⟨sr_ fill_zero.symm, trivial⟩) ?_
  rintro ⟨k, hk⟩
  conv => whnf
  refine Split.mk (fun c => ?_) (fun c => ?_)
  · have hk2 : k < a.length := ln_t c
    conv => whnf
    refine Need.mk (idx hk2) ?_
    conv => whnf
    refine Need.mk (idx (Nat.lt_of_lt_of_eq hk2 (fill_len hk).symm)) ?_
    conv => whnf
    exact NextQ.mk ⟨⟨k + 1, hk2⟩, Nat.sub_lt_sub_left hk2 (Nat.lt_succ_self k), imp_of [(0, 0)] rfl rfl rfl ⟨⟨rfl, congrArg i64 (sc_ hk2 (Nat.le_trans ha (by decide)))⟩, ⟨rfl, rfl⟩, ⟨rfl, rfl⟩, trivial⟩ ⟨sr_ (fill_set hk2), trivial⟩⟩
  · have hk2 : k = a.length := Nat.le_antisymm hk (ln_f c)
    conv => whnf
    subst hk2
    exact RetQ.mk ⟨rfl, rfl⟩ ⟨rfl, rfl⟩ ⟨sr_ (fill_all.trans mp_id), trivial⟩
theorem toIntS (a : List Int) (ha : a.length ≤ 1048576) : CallOb T Try.prog 17 [.c (.sl 3 a)] (.c (.ow 3 a)) := by
  refine call_of_vc hT Try.func17 (by kernel_rfl) rfl rfl (fun A => ?_)
  conv => whnf
  refine Need.mk (mk_ (by decide) ha) ?_
  conv => whnf
  refine LoopQ.mk { k : Nat // k ≤ a.length } (fun p => (2, [(4, i64 p.1), (3, .c (.hd 0)), (0, im 3 a)], [(0, .row 1 3 (fill (fun x => x) (0 : Int) a p.1))])) (fun p => a.length - p.1) ⟨0, Nat.zero_le _⟩ (imp_of [(0, 0)] rfl rfl rfl ⟨⟨rfl, rfl⟩, ⟨rfl, rfl⟩, ⟨rfl, rfl⟩, trivial⟩ ⟨sr_ fill_zero.symm, trivial⟩) ?_
  rintro ⟨k, hk⟩
  conv => whnf
  refine Split.mk (fun c => ?_) (fun c => ?_)
  · have hk2 : k < a.length := ln_t c
    conv => whnf
    refine Need.mk (idx hk2) ?_
    conv => whnf
    refine Need.mk (idx (Nat.lt_of_lt_of_eq hk2 (fill_len hk).symm)) ?_
    conv => whnf
    exact NextQ.mk ⟨⟨k + 1, hk2⟩, Nat.sub_lt_sub_left hk2 (Nat.lt_succ_self k), imp_of [(0, 0)] rfl rfl rfl ⟨⟨rfl, congrArg i64 (sc_ hk2 (Nat.le_trans ha (by decide)))⟩, ⟨rfl, rfl⟩, ⟨rfl, rfl⟩, trivial⟩ ⟨sr_ (fill_set hk2), trivial⟩⟩
  · have hk2 : k = a.length := Nat.le_antisymm hk (ln_f c)
    conv => whnf
    subst hk2
    exact RetQ.mk ⟨rfl, rfl⟩ ⟨rfl, rfl⟩ ⟨sr_ (fill_all.trans mp_id), trivial⟩
def toW (x : S50) : S40 := ⟨x.f0, x.f1⟩
theorem toWant (a : S50) : CallOb T Try.prog 27 [.ag (T.cells 50 a)] (.ag [.sc (.string a.f0), .sc (.int .i64 a.f1)]) := by
  refine call_of_vc hT Try.func27 (by kernel_rfl) rfl rfl (fun A => ?_)
  conv => whnf
  exact RetQ.mk ⟨rfl, rfl⟩ ⟨rfl, rfl⟩ ⟨rfl, rfl, trivial⟩
theorem toWantS (a : List S50) (ha : a.length ≤ 1048576) : CallOb T Try.prog 15 [.c (.sl 50 a)] (.c (.ow 40 (a.map toW))) := by
  refine call_of_vc hT Try.func15 (by kernel_rfl) rfl rfl (fun A => ?_)
  conv => whnf
  refine Need.mk (mk_ (by decide) ha) ?_
  conv => whnf
  refine LoopQ.mk { k : Nat // k ≤ a.length } (fun p => (2, [(4, i64 p.1), (3, .c (.hd 0)), (0, im 50 a)], [(0, .row 1 40 (fill (toW) z40 a p.1))])) (fun p => a.length - p.1) ⟨0, Nat.zero_le _⟩ (imp_of [(0, 0)] rfl rfl rfl ⟨⟨rfl, rfl⟩, ⟨rfl, rfl⟩, ⟨rfl, rfl⟩, trivial⟩ ⟨sr_ fill_zero.symm, trivial⟩) ?_
  rintro ⟨k, hk⟩
  conv => whnf
  refine Split.mk (fun c => ?_) (fun c => ?_)
  · have hk2 : k < a.length := ln_t c
    conv => whnf
    refine Need.mk (idx hk2) ?_
    conv => whnf
    refine CallQ.mk _ (toWant _) ?_
    conv => whnf
    refine Need.mk (idx (Nat.lt_of_lt_of_eq hk2 (fill_len hk).symm)) ?_
    conv => whnf
    exact NextQ.mk ⟨⟨k + 1, hk2⟩, Nat.sub_lt_sub_left hk2 (Nat.lt_succ_self k), imp_of [(0, 0)] rfl rfl rfl ⟨⟨rfl, congrArg i64 (sc_ hk2 (Nat.le_trans ha (by decide)))⟩, ⟨rfl, rfl⟩, ⟨rfl, rfl⟩, trivial⟩ ⟨sr_ (fill_set hk2), trivial⟩⟩
  · have hk2 : k = a.length := Nat.le_antisymm hk (ln_f c)
    conv => whnf
    subst hk2
    exact RetQ.mk ⟨rfl, rfl⟩ ⟨rfl, rfl⟩ ⟨sr_ (fill_all), trivial⟩
end Go.Proofs.Ytnflbiafmddpgaa.P
