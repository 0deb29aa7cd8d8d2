/- Functions that the law FnExactSamePacket reaches: what each answers, by the path calculus. Printed by a program of this work (gen_same.py). -/
import Derived.Test.YtnflbiafmddpgaaZP5
namespace Go.Proofs.Ytnflbiafmddpgaa.P
open Go.RowKit Go.Proofs.Ytnflbiafmddpgaa.Z
set_option linter.unusedVariables false
set_option maxRecDepth 100000
set_option maxHeartbeats 4000000

theorem specSame (a b : S32) (ha : Fit2 a) (hb : Fit2 b) : CallOb T Try.prog 5 [.ag (T.cells 32 a), .ag (T.cells 32 b)] (.c (.sc (.bool (same a b)))) := by
  refine call_of_vc hT Try.func5 (by kernel_rfl) rfl rfl (fun A => ?_)
  conv => whnf
  refine Split.mk (fun c => ?_) (fun c => ?_)
  · conv => whnf
    repeat (refine Split.mk (fun _ => ?_) (fun c => tf_ c); conv => whnf)
    exact RetQ.mk ⟨rfl, rfl⟩ ⟨rfl, rfl⟩ ⟨bv (same_f (fun q => nn_t c (congrArg (fun p : S32 => p.f22.length) q))), trivial⟩
  have l22 : a.f22.length = b.f22.length := nn_f c
  clear c
  conv => whnf
  refine Split.mk (fun c => ?_) (fun c => ?_)
  · conv => whnf
    repeat (refine Split.mk (fun _ => ?_) (fun c => tf_ c); conv => whnf)
    exact RetQ.mk ⟨rfl, rfl⟩ ⟨rfl, rfl⟩ ⟨bv (same_f (fun q => nn_t c (congrArg (fun p : S32 => p.f23.length) q))), trivial⟩
  have l23 : a.f23.length = b.f23.length := nn_f c
  clear c
  conv => whnf
  refine Split.mk (fun c => ?_) (fun c => ?_)
  · conv => whnf
    repeat (refine Split.mk (fun _ => ?_) (fun c => tf_ c); conv => whnf)
    exact RetQ.mk ⟨rfl, rfl⟩ ⟨rfl, rfl⟩ ⟨bv (same_f (fun q => nn_t c (congrArg (fun p : S32 => p.f24.length) q))), trivial⟩
  have l24 : a.f24.length = b.f24.length := nn_f c
  clear c
  conv => whnf
  refine LoopQ.mk { k : Nat // k ≤ a.f22.length ∧ a.f22.take k = b.f22.take k } (fun p => (2, [(5, i64 p.1), (2, .c (.px 0 0)), (3, .c (.px 1 0))], [(0, bx a), (1, bx b)])) (fun p => a.f22.length - p.1) ⟨0, Nat.zero_le _, rfl⟩ (imp_of [(0, 0), (1, 1)] rfl rfl rfl ⟨⟨rfl, rfl⟩, ⟨rfl, rfl⟩, ⟨rfl, rfl⟩, trivial⟩ ⟨⟨rfl, rfl⟩, ⟨rfl, rfl⟩, trivial⟩) ?_
  rintro ⟨k, hk, ht⟩
  conv => whnf
  refine Split.mk (fun c => ?_) (fun c => ?_)
  · have hk2 : k < a.f22.length := ln_t c
    conv => whnf
    refine Need.mk (idx hk2) ?_
    conv => whnf
    refine Need.mk (idx (l22 ▸ hk2)) ?_
    conv => whnf
    refine Need.mk (by kernel_rfl) ?_
    conv => whnf
    refine DrawQ.mk ⟨by kernel_rfl, by kernel_rfl⟩ ?_
    conv => whnf
    refine Split.mk (fun c => ?_) (fun c => ?_)
    · conv => whnf
      exact RetQ.mk ⟨rfl, rfl⟩ ⟨rfl, rfl⟩ ⟨bv (same_f (fun e => want_t c (congrArg (fun p : S32 => p.f22.getD k z40) e))), trivial⟩
    · conv => whnf
      exact NextQ.mk ⟨⟨k + 1, hk2, take_more (d := z40) hk2 (l22 ▸ hk2) ht (want_f c)⟩, Nat.sub_lt_sub_left hk2 (Nat.lt_succ_self k), imp_of [(0, 0), (1, 1)] rfl rfl rfl ⟨⟨rfl, congrArg i64 (sc_ hk2 ha.l22)⟩, ⟨rfl, rfl⟩, ⟨rfl, rfl⟩, trivial⟩ ⟨⟨rfl, rfl⟩, ⟨rfl, rfl⟩, trivial⟩⟩
  have hk2 : k = a.f22.length := Nat.le_antisymm hk (ln_f c)
  have c22 : a.f22 = b.f22 := take_all l22 (hk2 ▸ ht)
  clear c
  conv => whnf
  refine LoopQ.mk { k : Nat // k ≤ a.f23.length ∧ a.f23.take k = b.f23.take k } (fun p => (2, [(6, i64 p.1), (2, .c (.px 0 0)), (3, .c (.px 1 0))], [(0, bx a), (1, bx b)])) (fun p => a.f23.length - p.1) ⟨0, Nat.zero_le _, rfl⟩ (imp_of [(0, 0), (1, 1)] rfl rfl rfl ⟨⟨rfl, rfl⟩, ⟨rfl, rfl⟩, ⟨rfl, rfl⟩, trivial⟩ ⟨⟨rfl, rfl⟩, ⟨rfl, rfl⟩, trivial⟩) ?_
  rintro ⟨k, hk, ht⟩
  conv => whnf
  refine Split.mk (fun c => ?_) (fun c => ?_)
  · have hk2 : k < a.f23.length := ln_t c
    conv => whnf
    refine Need.mk (idx hk2) ?_
    conv => whnf
    refine Need.mk (idx (l23 ▸ hk2)) ?_
    conv => whnf
    refine DrawQ.mk ⟨by kernel_rfl, by kernel_rfl⟩ ?_
    conv => whnf
    refine Split.mk (fun c => ?_) (fun c => ?_)
    · conv => whnf
      exact RetQ.mk ⟨rfl, rfl⟩ ⟨rfl, rfl⟩ ⟨bv (same_f (fun e => sx_t c (congrArg (fun p : S32 => p.f23.getD k ByteArray.empty) e))), trivial⟩
    · conv => whnf
      exact NextQ.mk ⟨⟨k + 1, hk2, take_more (d := ByteArray.empty) hk2 (l23 ▸ hk2) ht (sx_f c)⟩, Nat.sub_lt_sub_left hk2 (Nat.lt_succ_self k), imp_of [(0, 0), (1, 1)] rfl rfl rfl ⟨⟨rfl, congrArg i64 (sc_ hk2 ha.l23)⟩, ⟨rfl, rfl⟩, ⟨rfl, rfl⟩, trivial⟩ ⟨⟨rfl, rfl⟩, ⟨rfl, rfl⟩, trivial⟩⟩
  have hk2 : k = a.f23.length := Nat.le_antisymm hk (ln_f c)
  have c23 : a.f23 = b.f23 := take_all l23 (hk2 ▸ ht)
  clear c
  conv => whnf
  refine LoopQ.mk { k : Nat // k ≤ a.f24.length ∧ a.f24.take k = b.f24.take k } (fun p => (2, [(7, i64 p.1), (2, .c (.px 0 0)), (3, .c (.px 1 0))], [(0, bx a), (1, bx b)])) (fun p => a.f24.length - p.1) ⟨0, Nat.zero_le _, rfl⟩ (imp_of [(0, 0), (1, 1)] rfl rfl rfl ⟨⟨rfl, rfl⟩, ⟨rfl, rfl⟩, ⟨rfl, rfl⟩, trivial⟩ ⟨⟨rfl, rfl⟩, ⟨rfl, rfl⟩, trivial⟩) ?_
  rintro ⟨k, hk, ht⟩
  conv => whnf
  refine Split.mk (fun c => ?_) (fun c => ?_)
  · have hk2 : k < a.f24.length := ln_t c
    conv => whnf
    refine Need.mk (idx hk2) ?_
    conv => whnf
    refine Need.mk (idx (l24 ▸ hk2)) ?_
    conv => whnf
    refine DrawQ.mk ⟨by kernel_rfl, by kernel_rfl⟩ ?_
    conv => whnf
    refine Split.mk (fun c => ?_) (fun c => ?_)
    · conv => whnf
      exact RetQ.mk ⟨rfl, rfl⟩ ⟨rfl, rfl⟩ ⟨bv (same_f (fun e => ne_t c (congrArg (fun p : S32 => p.f24.getD k (0 : Int)) e))), trivial⟩
    · conv => whnf
      exact NextQ.mk ⟨⟨k + 1, hk2, take_more (d := (0 : Int)) hk2 (l24 ▸ hk2) ht (ne_f c)⟩, Nat.sub_lt_sub_left hk2 (Nat.lt_succ_self k), imp_of [(0, 0), (1, 1)] rfl rfl rfl ⟨⟨rfl, congrArg i64 (sc_ hk2 ha.l24)⟩, ⟨rfl, rfl⟩, ⟨rfl, rfl⟩, trivial⟩ ⟨⟨rfl, rfl⟩, ⟨rfl, rfl⟩, trivial⟩⟩
  have hk2 : k = a.f24.length := Nat.le_antisymm hk (ln_f c)
  have c24 : a.f24 = b.f24 := take_all l24 (hk2 ▸ ht)
  clear c
  conv => whnf
  refine Split.mk (fun c => ?_) (fun c => ?_)
  · have c0 : a.f0 = b.f0 := eq_t c
    clear c
    conv => whnf
    refine Need.mk (by kernel_rfl) ?_
    conv => whnf
    refine Split.mk (fun c => ?_) (fun c => ?_)
    · have c1 : a.f1 = b.f1 := bb_t c
      clear c
      conv => whnf
      refine Split.mk (fun c => ?_) (fun c => ?_)
      · have c2 : a.f2 = b.f2 := eq_t c
        clear c
        conv => whnf
        refine Need.mk (by kernel_rfl) ?_
        conv => whnf
        refine Split.mk (fun c => ?_) (fun c => ?_)
        · have c3 : a.f3 = b.f3 := bb_t c
          clear c
          conv => whnf
          refine Split.mk (fun c => ?_) (fun c => ?_)
          · have c4 : a.f4 = b.f4 := eq_t c
            clear c
            conv => whnf
            refine Split.mk (fun c => ?_) (fun c => ?_)
            · have c5 : a.f5 = b.f5 := st_t c
              clear c
              conv => whnf
              refine CallQ.mk _ (l1Same a.f6 b.f6 ha.y6 hb.y6) ?_
              conv => whnf
              refine Split.mk (fun c => ?_) (fun c => ?_)
              · have c6 : a.f6 = b.f6 := of_same c
                clear c
                conv => whnf
                refine Split.mk (fun c => ?_) (fun c => ?_)
                · have c7 : a.f7 = b.f7 := st_t c
                  clear c
                  conv => whnf
                  refine Split.mk (fun c => ?_) (fun c => ?_)
                  · have c8 : a.f8 = b.f8 := eq_t c
                    clear c
                    conv => whnf
                    refine Need.mk (by kernel_rfl) ?_
                    conv => whnf
                    refine Split.mk (fun c => ?_) (fun c => ?_)
                    · have c9 : a.f9 = b.f9 := bb_t c
                      clear c
                      conv => whnf
                      refine Split.mk (fun c => ?_) (fun c => ?_)
                      · have c10 : a.f10 = b.f10 := eq_t c
                        clear c
                        conv => whnf
                        refine Need.mk (by kernel_rfl) ?_
                        conv => whnf
                        refine Split.mk (fun c => ?_) (fun c => ?_)
                        · have c11 : a.f11 = b.f11 := bb_t c
                          clear c
                          conv => whnf
                          refine Split.mk (fun c => ?_) (fun c => ?_)
                          · have c12 : a.f12 = b.f12 := st_t c
                            clear c
                            conv => whnf
                            refine CallQ.mk _ (l1Same a.f13 b.f13 ha.y13 hb.y13) ?_
                            conv => whnf
                            refine Split.mk (fun c => ?_) (fun c => ?_)
                            · have c13 : a.f13 = b.f13 := of_same c
                              clear c
                              conv => whnf
                              refine Split.mk (fun c => ?_) (fun c => ?_)
                              · have c14 : a.f14 = b.f14 := eq_t c
                                clear c
                                conv => whnf
                                refine Need.mk (by kernel_rfl) ?_
                                conv => whnf
                                refine Split.mk (fun c => ?_) (fun c => ?_)
                                · have c15 : a.f15 = b.f15 := bb_t c
                                  clear c
                                  conv => whnf
                                  refine Need.mk (by kernel_rfl) ?_
                                  conv => whnf
                                  refine Split.mk (fun c => ?_) (fun c => ?_)
                                  · have c16 : a.f16 = b.f16 := bb_t c
                                    clear c
                                    conv => whnf
                                    refine Split.mk (fun c => ?_) (fun c => ?_)
                                    · have c17 : a.f17 = b.f17 := st_t c
                                      clear c
                                      conv => whnf
                                      refine Need.mk (by kernel_rfl) ?_
                                      conv => whnf
                                      refine Split.mk (fun c => ?_) (fun c => ?_)
                                      · have c18 : a.f18 = b.f18 := bb_t c
                                        clear c
                                        conv => whnf
                                        refine CallQ.mk _ (l1Same a.f19 b.f19 ha.y19 hb.y19) ?_
                                        conv => whnf
                                        refine Split.mk (fun c => ?_) (fun c => ?_)
                                        · have c19 : a.f19 = b.f19 := of_same c
                                          clear c
                                          conv => whnf
                                          refine Split.mk (fun c => ?_) (fun c => ?_)
                                          · have c20 : a.f20 = b.f20 := eq_t c
                                            clear c
                                            conv => whnf
                                            refine Need.mk (by kernel_rfl) ?_
                                            conv => whnf
                                            exact RetQ.mk ⟨rfl, rfl⟩ ⟨rfl, rfl⟩ ⟨bv (b_t (fun q => pk_eq c0 c1 c2 c3 c4 c5 c6 c7 c8 c9 c10 c11 c12 c13 c14 c15 c16 c17 c18 c19 c20 q c22 c23 c24) (fun q => congrArg S32.f21 q)).symm, trivial⟩
                                          · conv => whnf
                                            repeat (refine Split.mk (fun c => ft_ c) (fun _ => ?_); conv => whnf)
                                            exact RetQ.mk ⟨rfl, rfl⟩ ⟨rfl, rfl⟩ ⟨bv (same_f (fun q => eq_f c (congrArg S32.f20 q))), trivial⟩
                                        · conv => whnf
                                          repeat (refine Split.mk (fun c => ft_ c) (fun _ => ?_); conv => whnf)
                                          exact RetQ.mk ⟨rfl, rfl⟩ ⟨rfl, rfl⟩ ⟨bv (same_f (fun q => of_same_f c (congrArg S32.f19 q))), trivial⟩
                                      · conv => whnf
                                        repeat (refine Split.mk (fun c => ft_ c) (fun _ => ?_); conv => whnf)
                                        exact RetQ.mk ⟨rfl, rfl⟩ ⟨rfl, rfl⟩ ⟨bv (same_f (fun q => bb_f c (congrArg S32.f18 q))), trivial⟩
                                    · conv => whnf
                                      repeat (refine Split.mk (fun c => ft_ c) (fun _ => ?_); conv => whnf)
                                      exact RetQ.mk ⟨rfl, rfl⟩ ⟨rfl, rfl⟩ ⟨bv (same_f (fun q => st_f c (congrArg S32.f17 q))), trivial⟩
                                  · conv => whnf
                                    repeat (refine Split.mk (fun c => ft_ c) (fun _ => ?_); conv => whnf)
                                    exact RetQ.mk ⟨rfl, rfl⟩ ⟨rfl, rfl⟩ ⟨bv (same_f (fun q => bb_f c (congrArg S32.f16 q))), trivial⟩
                                · conv => whnf
                                  repeat (refine Split.mk (fun c => ft_ c) (fun _ => ?_); conv => whnf)
                                  exact RetQ.mk ⟨rfl, rfl⟩ ⟨rfl, rfl⟩ ⟨bv (same_f (fun q => bb_f c (congrArg S32.f15 q))), trivial⟩
                              · conv => whnf
                                repeat (refine Split.mk (fun c => ft_ c) (fun _ => ?_); conv => whnf)
                                exact RetQ.mk ⟨rfl, rfl⟩ ⟨rfl, rfl⟩ ⟨bv (same_f (fun q => eq_f c (congrArg S32.f14 q))), trivial⟩
                            · conv => whnf
                              repeat (refine Split.mk (fun c => ft_ c) (fun _ => ?_); conv => whnf)
                              exact RetQ.mk ⟨rfl, rfl⟩ ⟨rfl, rfl⟩ ⟨bv (same_f (fun q => of_same_f c (congrArg S32.f13 q))), trivial⟩
                          · conv => whnf
                            repeat (refine Split.mk (fun c => ft_ c) (fun _ => ?_); conv => whnf)
                            exact RetQ.mk ⟨rfl, rfl⟩ ⟨rfl, rfl⟩ ⟨bv (same_f (fun q => st_f c (congrArg S32.f12 q))), trivial⟩
                        · conv => whnf
                          repeat (refine Split.mk (fun c => ft_ c) (fun _ => ?_); conv => whnf)
                          exact RetQ.mk ⟨rfl, rfl⟩ ⟨rfl, rfl⟩ ⟨bv (same_f (fun q => bb_f c (congrArg S32.f11 q))), trivial⟩
                      · conv => whnf
                        repeat (refine Split.mk (fun c => ft_ c) (fun _ => ?_); conv => whnf)
                        exact RetQ.mk ⟨rfl, rfl⟩ ⟨rfl, rfl⟩ ⟨bv (same_f (fun q => eq_f c (congrArg S32.f10 q))), trivial⟩
                    · conv => whnf
                      repeat (refine Split.mk (fun c => ft_ c) (fun _ => ?_); conv => whnf)
                      exact RetQ.mk ⟨rfl, rfl⟩ ⟨rfl, rfl⟩ ⟨bv (same_f (fun q => bb_f c (congrArg S32.f9 q))), trivial⟩
                  · conv => whnf
                    repeat (refine Split.mk (fun c => ft_ c) (fun _ => ?_); conv => whnf)
                    exact RetQ.mk ⟨rfl, rfl⟩ ⟨rfl, rfl⟩ ⟨bv (same_f (fun q => eq_f c (congrArg S32.f8 q))), trivial⟩
                · conv => whnf
                  repeat (refine Split.mk (fun c => ft_ c) (fun _ => ?_); conv => whnf)
                  exact RetQ.mk ⟨rfl, rfl⟩ ⟨rfl, rfl⟩ ⟨bv (same_f (fun q => st_f c (congrArg S32.f7 q))), trivial⟩
              · conv => whnf
                repeat (refine Split.mk (fun c => ft_ c) (fun _ => ?_); conv => whnf)
                exact RetQ.mk ⟨rfl, rfl⟩ ⟨rfl, rfl⟩ ⟨bv (same_f (fun q => of_same_f c (congrArg S32.f6 q))), trivial⟩
            · conv => whnf
              repeat (refine Split.mk (fun c => ft_ c) (fun _ => ?_); conv => whnf)
              exact RetQ.mk ⟨rfl, rfl⟩ ⟨rfl, rfl⟩ ⟨bv (same_f (fun q => st_f c (congrArg S32.f5 q))), trivial⟩
          · conv => whnf
            repeat (refine Split.mk (fun c => ft_ c) (fun _ => ?_); conv => whnf)
            exact RetQ.mk ⟨rfl, rfl⟩ ⟨rfl, rfl⟩ ⟨bv (same_f (fun q => eq_f c (congrArg S32.f4 q))), trivial⟩
        · conv => whnf
          repeat (refine Split.mk (fun c => ft_ c) (fun _ => ?_); conv => whnf)
          exact RetQ.mk ⟨rfl, rfl⟩ ⟨rfl, rfl⟩ ⟨bv (same_f (fun q => bb_f c (congrArg S32.f3 q))), trivial⟩
      · conv => whnf
        repeat (refine Split.mk (fun c => ft_ c) (fun _ => ?_); conv => whnf)
        exact RetQ.mk ⟨rfl, rfl⟩ ⟨rfl, rfl⟩ ⟨bv (same_f (fun q => eq_f c (congrArg S32.f2 q))), trivial⟩
    · conv => whnf
      repeat (refine Split.mk (fun c => ft_ c) (fun _ => ?_); conv => whnf)
      exact RetQ.mk ⟨rfl, rfl⟩ ⟨rfl, rfl⟩ ⟨bv (same_f (fun q => bb_f c (congrArg S32.f1 q))), trivial⟩
  · conv => whnf
    repeat (refine Split.mk (fun c => ft_ c) (fun _ => ?_); conv => whnf)
    exact RetQ.mk ⟨rfl, rfl⟩ ⟨rfl, rfl⟩ ⟨bv (same_f (fun q => eq_f c (congrArg S32.f0 q))), trivial⟩
end Go.Proofs.Ytnflbiafmddpgaa.P
