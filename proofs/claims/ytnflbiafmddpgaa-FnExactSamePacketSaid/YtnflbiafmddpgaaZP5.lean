/- Functions that the law FnExactSamePacket reaches: what each answers, by the path calculus. Printed by a program of this work (gen_same.py). -/
import Derived.Test.YtnflbiafmddpgaaZP4
namespace Go.Proofs.Ytnflbiafmddpgaa.P
open Go.RowKit Go.Proofs.Ytnflbiafmddpgaa.Z
set_option linter.unusedVariables false
set_option maxRecDepth 100000
set_option maxHeartbeats 4000000

abbrev bx (p : S32) : Res T := .bx 32 ((T.cells 32 p).map (toCell none))
abbrev bo (b : Bool) : Slot T := .c (.sc (.bool b))
structure Pub (a b : S32) : Prop where
  h0 : a.f0 = b.f0
  h1 : a.f1 = b.f1
  h2 : a.f2 = b.f2
  h3 : a.f3 = b.f3
  h4 : a.f4 = b.f4
  h5 : a.f5 = b.f5
  h6 : a.f6 = b.f6
structure Con (a b : S32) : Prop where
  h7 : a.f7 = b.f7
  h8 : a.f8 = b.f8
  h9 : a.f9 = b.f9
  h10 : a.f10 = b.f10
  h16 : a.f16 = b.f16
  h17 : a.f17 = b.f17
  h18 : a.f18 = b.f18
  h19 : a.f19 = b.f19
structure Wil (a b : S32) : Prop where
  h11 : a.f11 = b.f11
  h12 : a.f12 = b.f12
  h13 : a.f13 = b.f13
  h14 : a.f14 = b.f14
  h15 : a.f15 = b.f15
structure Lis (a b : S32) : Prop where
  h22 : a.f22 = b.f22
  h23 : a.f23 = b.f23
  h24 : a.f24 = b.f24
theorem i_t {x y : Int} {p : Prop} (h : x = y → p) (h2 : p → x = y) : (x == y) = tr p := by
  by_cases e : x = y
  · rw [tr_t (h e)]; simpa using e
  · rw [tr_f (fun q => e (h2 q))]; simpa using e
theorem b_t {x y : Bool} {p : Prop} (h : x = y → p) (h2 : p → x = y) : (x == y) = tr p := by
  by_cases e : x = y
  · rw [tr_t (h e)]; simpa using e
  · rw [tr_f (fun q => e (h2 q))]; simpa using e
theorem s_t {x y : ByteArray} {p : Prop} (h : x = y → p) (h2 : p → x = y) : (x.toList == y.toList) = tr p := by
  by_cases e : x = y
  · rw [tr_t (h e)]; subst e; simp
  · rw [tr_f (fun q => e (h2 q))]
    cases hc : (x.toList == y.toList)
    · rfl
    · exact (e (st_t hc)).elim
theorem r_t {α : Type} {x y : α} {p : Prop} (h : x = y → p) (h2 : p → x = y) : same x y = tr p := by
  by_cases e : x = y
  · rw [tr_t (h e), same_t e]
  · rw [tr_f (fun q => e (h2 q)), same_f e]
theorem implSame (a b : S32) (ha : Fit2 a) (hb : Fit2 b) : CallOb T Try.prog 7 [.ag (T.cells 32 a), .ag (T.cells 32 b)] (.c (.sc (.bool (same a b)))) := by
  refine call_of_Vc hT Try.func7 (by kernel_rfl) rfl rfl (fun A => ?_)
  refine Vc.seq 0 hT ?_
  conv => whnf
  refine Vc.cut 2 (fun x => x = tr (Pub a b)) (fun x => [(5, bo x), (2, .c (.px 0 0)), (3, .c (.px 1 0))]) (fun _ => [(0, bx a), (1, bx b)]) hT ?_ (fun b5 h5 => ?_)
  · conv => whnf
    refine Split.mk (fun c => ?_) (fun c => ?_)
    · have c0 : a.f0 = b.f0 := eq_t c
      clear c
      conv => whnf
      refine Need.mk (by kernel_rfl) ?_
      conv => whnf
      refine Split.mk (fun c => ?_) (fun c => ?_)
      · have c1 : a.f1 = b.f1 := bb_t c
        clear c
        conv => whnf
        refine Split.mk (fun c => ?_) (fun c => ?_)
        · have c2 : a.f2 = b.f2 := eq_t c
          clear c
          conv => whnf
          refine Need.mk (by kernel_rfl) ?_
          conv => whnf
          refine Split.mk (fun c => ?_) (fun c => ?_)
          · have c3 : a.f3 = b.f3 := bb_t c
            clear c
            conv => whnf
            refine Split.mk (fun c => ?_) (fun c => ?_)
            · have c4 : a.f4 = b.f4 := eq_t c
              clear c
              conv => whnf
              refine Split.mk (fun c => ?_) (fun c => ?_)
              · have c5 : a.f5 = b.f5 := st_t c
                clear c
                conv => whnf
                refine CallQ.mk _ (bytesEqual a.f6 b.f6 ha.y6 hb.y6) ?_
                conv => whnf
                exact CutQ.mk ⟨(same a.f6 b.f6), r_t (fun q => ⟨c0, c1, c2, c3, c4, c5, q⟩) (fun q => q.h6), imp_of [(0, 0), (1, 1)] rfl rfl rfl ⟨⟨rfl, rfl⟩, ⟨rfl, rfl⟩, ⟨rfl, rfl⟩, trivial⟩ ⟨⟨rfl, rfl⟩, ⟨rfl, rfl⟩, trivial⟩⟩
              · conv => whnf
                repeat (refine Split.mk (fun c => ft_ c) (fun _ => ?_); conv => whnf)
                exact CutQ.mk ⟨false, (tr_f (fun q => st_f c q.h5)).symm, imp_of [(0, 0), (1, 1)] rfl rfl rfl ⟨⟨rfl, rfl⟩, ⟨rfl, rfl⟩, ⟨rfl, rfl⟩, trivial⟩ ⟨⟨rfl, rfl⟩, ⟨rfl, rfl⟩, trivial⟩⟩
            · conv => whnf
              repeat (refine Split.mk (fun c => ft_ c) (fun _ => ?_); conv => whnf)
              exact CutQ.mk ⟨false, (tr_f (fun q => eq_f c q.h4)).symm, imp_of [(0, 0), (1, 1)] rfl rfl rfl ⟨⟨rfl, rfl⟩, ⟨rfl, rfl⟩, ⟨rfl, rfl⟩, trivial⟩ ⟨⟨rfl, rfl⟩, ⟨rfl, rfl⟩, trivial⟩⟩
          · conv => whnf
            repeat (refine Split.mk (fun c => ft_ c) (fun _ => ?_); conv => whnf)
            exact CutQ.mk ⟨false, (tr_f (fun q => bb_f c q.h3)).symm, imp_of [(0, 0), (1, 1)] rfl rfl rfl ⟨⟨rfl, rfl⟩, ⟨rfl, rfl⟩, ⟨rfl, rfl⟩, trivial⟩ ⟨⟨rfl, rfl⟩, ⟨rfl, rfl⟩, trivial⟩⟩
        · conv => whnf
          repeat (refine Split.mk (fun c => ft_ c) (fun _ => ?_); conv => whnf)
          exact CutQ.mk ⟨false, (tr_f (fun q => eq_f c q.h2)).symm, imp_of [(0, 0), (1, 1)] rfl rfl rfl ⟨⟨rfl, rfl⟩, ⟨rfl, rfl⟩, ⟨rfl, rfl⟩, trivial⟩ ⟨⟨rfl, rfl⟩, ⟨rfl, rfl⟩, trivial⟩⟩
      · conv => whnf
        repeat (refine Split.mk (fun c => ft_ c) (fun _ => ?_); conv => whnf)
        exact CutQ.mk ⟨false, (tr_f (fun q => bb_f c q.h1)).symm, imp_of [(0, 0), (1, 1)] rfl rfl rfl ⟨⟨rfl, rfl⟩, ⟨rfl, rfl⟩, ⟨rfl, rfl⟩, trivial⟩ ⟨⟨rfl, rfl⟩, ⟨rfl, rfl⟩, trivial⟩⟩
    · conv => whnf
      repeat (refine Split.mk (fun c => ft_ c) (fun _ => ?_); conv => whnf)
      exact CutQ.mk ⟨false, (tr_f (fun q => eq_f c q.h0)).symm, imp_of [(0, 0), (1, 1)] rfl rfl rfl ⟨⟨rfl, rfl⟩, ⟨rfl, rfl⟩, ⟨rfl, rfl⟩, trivial⟩ ⟨⟨rfl, rfl⟩, ⟨rfl, rfl⟩, trivial⟩⟩
  refine Vc.cut 2 (fun x => x = tr (Con a b)) (fun x => [(6, bo x), (5, bo b5), (2, .c (.px 0 0)), (3, .c (.px 1 0))]) (fun _ => [(0, bx a), (1, bx b)]) hT ?_ (fun b6 h6 => ?_)
  · conv => whnf
    refine Split.mk (fun c => ?_) (fun c => ?_)
    · have c7 : a.f7 = b.f7 := st_t c
      clear c
      conv => whnf
      refine Split.mk (fun c => ?_) (fun c => ?_)
      · have c8 : a.f8 = b.f8 := eq_t c
        clear c
        conv => whnf
        refine Need.mk (by kernel_rfl) ?_
        conv => whnf
        refine Split.mk (fun c => ?_) (fun c => ?_)
        · have c9 : a.f9 = b.f9 := bb_t c
          clear c
          conv => whnf
          refine Split.mk (fun c => ?_) (fun c => ?_)
          · have c10 : a.f10 = b.f10 := eq_t c
            clear c
            conv => whnf
            refine Need.mk (by kernel_rfl) ?_
            conv => whnf
            refine Split.mk (fun c => ?_) (fun c => ?_)
            · have c16 : a.f16 = b.f16 := bb_t c
              clear c
              conv => whnf
              refine Split.mk (fun c => ?_) (fun c => ?_)
              · have c17 : a.f17 = b.f17 := st_t c
                clear c
                conv => whnf
                refine Need.mk (by kernel_rfl) ?_
                conv => whnf
                refine Split.mk (fun c => ?_) (fun c => ?_)
                · have c18 : a.f18 = b.f18 := bb_t c
                  clear c
                  conv => whnf
                  refine CallQ.mk _ (bytesEqual a.f19 b.f19 ha.y19 hb.y19) ?_
                  conv => whnf
                  exact CutQ.mk ⟨(same a.f19 b.f19), r_t (fun q => ⟨c7, c8, c9, c10, c16, c17, c18, q⟩) (fun q => q.h19), imp_of [(0, 0), (1, 1)] rfl rfl rfl ⟨⟨rfl, rfl⟩, ⟨rfl, rfl⟩, ⟨rfl, rfl⟩, ⟨rfl, rfl⟩, trivial⟩ ⟨⟨rfl, rfl⟩, ⟨rfl, rfl⟩, trivial⟩⟩
                · conv => whnf
                  repeat (refine Split.mk (fun c => ft_ c) (fun _ => ?_); conv => whnf)
                  exact CutQ.mk ⟨false, (tr_f (fun q => bb_f c q.h18)).symm, imp_of [(0, 0), (1, 1)] rfl rfl rfl ⟨⟨rfl, rfl⟩, ⟨rfl, rfl⟩, ⟨rfl, rfl⟩, ⟨rfl, rfl⟩, trivial⟩ ⟨⟨rfl, rfl⟩, ⟨rfl, rfl⟩, trivial⟩⟩
              · conv => whnf
                repeat (refine Split.mk (fun c => ft_ c) (fun _ => ?_); conv => whnf)
                exact CutQ.mk ⟨false, (tr_f (fun q => st_f c q.h17)).symm, imp_of [(0, 0), (1, 1)] rfl rfl rfl ⟨⟨rfl, rfl⟩, ⟨rfl, rfl⟩, ⟨rfl, rfl⟩, ⟨rfl, rfl⟩, trivial⟩ ⟨⟨rfl, rfl⟩, ⟨rfl, rfl⟩, trivial⟩⟩
            · conv => whnf
              repeat (refine Split.mk (fun c => ft_ c) (fun _ => ?_); conv => whnf)
              exact CutQ.mk ⟨false, (tr_f (fun q => bb_f c q.h16)).symm, imp_of [(0, 0), (1, 1)] rfl rfl rfl ⟨⟨rfl, rfl⟩, ⟨rfl, rfl⟩, ⟨rfl, rfl⟩, ⟨rfl, rfl⟩, trivial⟩ ⟨⟨rfl, rfl⟩, ⟨rfl, rfl⟩, trivial⟩⟩
          · conv => whnf
            repeat (refine Split.mk (fun c => ft_ c) (fun _ => ?_); conv => whnf)
            exact CutQ.mk ⟨false, (tr_f (fun q => eq_f c q.h10)).symm, imp_of [(0, 0), (1, 1)] rfl rfl rfl ⟨⟨rfl, rfl⟩, ⟨rfl, rfl⟩, ⟨rfl, rfl⟩, ⟨rfl, rfl⟩, trivial⟩ ⟨⟨rfl, rfl⟩, ⟨rfl, rfl⟩, trivial⟩⟩
        · conv => whnf
          repeat (refine Split.mk (fun c => ft_ c) (fun _ => ?_); conv => whnf)
          exact CutQ.mk ⟨false, (tr_f (fun q => bb_f c q.h9)).symm, imp_of [(0, 0), (1, 1)] rfl rfl rfl ⟨⟨rfl, rfl⟩, ⟨rfl, rfl⟩, ⟨rfl, rfl⟩, ⟨rfl, rfl⟩, trivial⟩ ⟨⟨rfl, rfl⟩, ⟨rfl, rfl⟩, trivial⟩⟩
      · conv => whnf
        repeat (refine Split.mk (fun c => ft_ c) (fun _ => ?_); conv => whnf)
        exact CutQ.mk ⟨false, (tr_f (fun q => eq_f c q.h8)).symm, imp_of [(0, 0), (1, 1)] rfl rfl rfl ⟨⟨rfl, rfl⟩, ⟨rfl, rfl⟩, ⟨rfl, rfl⟩, ⟨rfl, rfl⟩, trivial⟩ ⟨⟨rfl, rfl⟩, ⟨rfl, rfl⟩, trivial⟩⟩
    · conv => whnf
      repeat (refine Split.mk (fun c => ft_ c) (fun _ => ?_); conv => whnf)
      exact CutQ.mk ⟨false, (tr_f (fun q => st_f c q.h7)).symm, imp_of [(0, 0), (1, 1)] rfl rfl rfl ⟨⟨rfl, rfl⟩, ⟨rfl, rfl⟩, ⟨rfl, rfl⟩, ⟨rfl, rfl⟩, trivial⟩ ⟨⟨rfl, rfl⟩, ⟨rfl, rfl⟩, trivial⟩⟩
  refine Vc.cut 2 (fun x => x = tr (Wil a b)) (fun x => [(7, bo x), (5, bo b5), (6, bo b6), (2, .c (.px 0 0)), (3, .c (.px 1 0))]) (fun _ => [(0, bx a), (1, bx b)]) hT ?_ (fun b7 h7 => ?_)
  · conv => whnf
    refine Need.mk (by kernel_rfl) ?_
    conv => whnf
    refine Split.mk (fun c => ?_) (fun c => ?_)
    · have c11 : a.f11 = b.f11 := bb_t c
      clear c
      conv => whnf
      refine Split.mk (fun c => ?_) (fun c => ?_)
      · have c12 : a.f12 = b.f12 := st_t c
        clear c
        conv => whnf
        refine CallQ.mk _ (bytesEqual a.f13 b.f13 ha.y13 hb.y13) ?_
        conv => whnf
        refine Split.mk (fun c => ?_) (fun c => ?_)
        · have c13 : a.f13 = b.f13 := of_same c
          clear c
          conv => whnf
          refine Split.mk (fun c => ?_) (fun c => ?_)
          · have c14 : a.f14 = b.f14 := eq_t c
            clear c
            conv => whnf
            refine Need.mk (by kernel_rfl) ?_
            conv => whnf
            exact CutQ.mk ⟨(a.f15 == b.f15), b_t (fun q => ⟨c11, c12, c13, c14, q⟩) (fun q => q.h15), imp_of [(0, 0), (1, 1)] rfl rfl rfl ⟨⟨rfl, rfl⟩, ⟨rfl, rfl⟩, ⟨rfl, rfl⟩, ⟨rfl, rfl⟩, ⟨rfl, rfl⟩, trivial⟩ ⟨⟨rfl, rfl⟩, ⟨rfl, rfl⟩, trivial⟩⟩
          · conv => whnf
            repeat (refine Split.mk (fun c => ft_ c) (fun _ => ?_); conv => whnf)
            exact CutQ.mk ⟨false, (tr_f (fun q => eq_f c q.h14)).symm, imp_of [(0, 0), (1, 1)] rfl rfl rfl ⟨⟨rfl, rfl⟩, ⟨rfl, rfl⟩, ⟨rfl, rfl⟩, ⟨rfl, rfl⟩, ⟨rfl, rfl⟩, trivial⟩ ⟨⟨rfl, rfl⟩, ⟨rfl, rfl⟩, trivial⟩⟩
        · conv => whnf
          repeat (refine Split.mk (fun c => ft_ c) (fun _ => ?_); conv => whnf)
          exact CutQ.mk ⟨false, (tr_f (fun q => of_same_f c q.h13)).symm, imp_of [(0, 0), (1, 1)] rfl rfl rfl ⟨⟨rfl, rfl⟩, ⟨rfl, rfl⟩, ⟨rfl, rfl⟩, ⟨rfl, rfl⟩, ⟨rfl, rfl⟩, trivial⟩ ⟨⟨rfl, rfl⟩, ⟨rfl, rfl⟩, trivial⟩⟩
      · conv => whnf
        repeat (refine Split.mk (fun c => ft_ c) (fun _ => ?_); conv => whnf)
        exact CutQ.mk ⟨false, (tr_f (fun q => st_f c q.h12)).symm, imp_of [(0, 0), (1, 1)] rfl rfl rfl ⟨⟨rfl, rfl⟩, ⟨rfl, rfl⟩, ⟨rfl, rfl⟩, ⟨rfl, rfl⟩, ⟨rfl, rfl⟩, trivial⟩ ⟨⟨rfl, rfl⟩, ⟨rfl, rfl⟩, trivial⟩⟩
    · conv => whnf
      repeat (refine Split.mk (fun c => ft_ c) (fun _ => ?_); conv => whnf)
      exact CutQ.mk ⟨false, (tr_f (fun q => bb_f c q.h11)).symm, imp_of [(0, 0), (1, 1)] rfl rfl rfl ⟨⟨rfl, rfl⟩, ⟨rfl, rfl⟩, ⟨rfl, rfl⟩, ⟨rfl, rfl⟩, ⟨rfl, rfl⟩, trivial⟩ ⟨⟨rfl, rfl⟩, ⟨rfl, rfl⟩, trivial⟩⟩
  refine Vc.cut 2 (fun x => x = tr (Lis a b)) (fun x => [(8, bo x), (5, bo b5), (6, bo b6), (7, bo b7), (2, .c (.px 0 0)), (3, .c (.px 1 0))]) (fun _ => [(0, bx a), (1, bx b)]) hT ?_ (fun b8 h8 => ?_)
  · conv => whnf
    refine CallQ.mk _ (slicesEqual_want a.f22 b.f22 ha.l22) ?_
    conv => whnf
    refine Split.mk (fun c => ?_) (fun c => ?_)
    · have c22 : a.f22 = b.f22 := of_same c
      clear c
      conv => whnf
      refine CallQ.mk _ (slicesEqual_str a.f23 b.f23 ha.l23) ?_
      conv => whnf
      refine Split.mk (fun c => ?_) (fun c => ?_)
      · have c23 : a.f23 = b.f23 := of_same c
        clear c
        conv => whnf
        refine CallQ.mk _ (slicesEqual_int a.f24 b.f24 ha.l24) ?_
        conv => whnf
        exact CutQ.mk ⟨(same a.f24 b.f24), r_t (fun q => ⟨c22, c23, q⟩) (fun q => q.h24), imp_of [(0, 0), (1, 1)] rfl rfl rfl ⟨⟨rfl, rfl⟩, ⟨rfl, rfl⟩, ⟨rfl, rfl⟩, ⟨rfl, rfl⟩, ⟨rfl, rfl⟩, ⟨rfl, rfl⟩, trivial⟩ ⟨⟨rfl, rfl⟩, ⟨rfl, rfl⟩, trivial⟩⟩
      · conv => whnf
        repeat (refine Split.mk (fun c => ft_ c) (fun _ => ?_); conv => whnf)
        exact CutQ.mk ⟨false, (tr_f (fun q => of_same_f c q.h23)).symm, imp_of [(0, 0), (1, 1)] rfl rfl rfl ⟨⟨rfl, rfl⟩, ⟨rfl, rfl⟩, ⟨rfl, rfl⟩, ⟨rfl, rfl⟩, ⟨rfl, rfl⟩, ⟨rfl, rfl⟩, trivial⟩ ⟨⟨rfl, rfl⟩, ⟨rfl, rfl⟩, trivial⟩⟩
    · conv => whnf
      repeat (refine Split.mk (fun c => ft_ c) (fun _ => ?_); conv => whnf)
      exact CutQ.mk ⟨false, (tr_f (fun q => of_same_f c q.h22)).symm, imp_of [(0, 0), (1, 1)] rfl rfl rfl ⟨⟨rfl, rfl⟩, ⟨rfl, rfl⟩, ⟨rfl, rfl⟩, ⟨rfl, rfl⟩, ⟨rfl, rfl⟩, ⟨rfl, rfl⟩, trivial⟩ ⟨⟨rfl, rfl⟩, ⟨rfl, rfl⟩, trivial⟩⟩
  refine Vc.of 2 hT ?_
  conv => whnf
  refine Split.mk (fun c => ?_) (fun c => ?_)
  · have q5 := of_tr (h5 ▸ c)
    clear c
    conv => whnf
    refine Split.mk (fun c => ?_) (fun c => ?_)
    · have q6 := of_tr (h6 ▸ c)
      clear c
      conv => whnf
      refine Split.mk (fun c => ?_) (fun c => ?_)
      · have q7 := of_tr (h7 ▸ c)
        clear c
        conv => whnf
        refine Split.mk (fun c => ?_) (fun c => ?_)
        · have q8 := of_tr (h8 ▸ c)
          clear c
          conv => whnf
          refine Split.mk (fun c => ?_) (fun c => ?_)
          · have c20 : a.f20 = b.f20 := eq_t c
            clear c
            conv => whnf
            refine Need.mk (by kernel_rfl) ?_
            conv => whnf
            exact RetQ.mk ⟨rfl, rfl⟩ ⟨rfl, rfl⟩ ⟨bv (b_t (fun q => pk_eq q5.h0 q5.h1 q5.h2 q5.h3 q5.h4 q5.h5 q5.h6 q6.h7 q6.h8 q6.h9 q6.h10 q7.h11 q7.h12 q7.h13 q7.h14 q7.h15 q6.h16 q6.h17 q6.h18 q6.h19 c20 q q8.h22 q8.h23 q8.h24) (fun q => congrArg S32.f21 q)).symm, trivial⟩
          · conv => whnf
            repeat (refine Split.mk (fun c => ft_ c) (fun _ => ?_); conv => whnf)
            exact RetQ.mk ⟨rfl, rfl⟩ ⟨rfl, rfl⟩ ⟨bv (same_f (fun q => eq_f c (congrArg S32.f20 q))), trivial⟩
        · conv => whnf
          repeat (refine Split.mk (fun c => ft_ c) (fun _ => ?_); conv => whnf)
          exact RetQ.mk ⟨rfl, rfl⟩ ⟨rfl, rfl⟩ ⟨bv (same_f (fun q => of_tr_f (h8 ▸ c) ⟨congrArg S32.f22 q, congrArg S32.f23 q, congrArg S32.f24 q⟩)), trivial⟩
      · conv => whnf
        repeat (refine Split.mk (fun c => ft_ c) (fun _ => ?_); conv => whnf)
        exact RetQ.mk ⟨rfl, rfl⟩ ⟨rfl, rfl⟩ ⟨bv (same_f (fun q => of_tr_f (h7 ▸ c) ⟨congrArg S32.f11 q, congrArg S32.f12 q, congrArg S32.f13 q, congrArg S32.f14 q, congrArg S32.f15 q⟩)), trivial⟩
    · conv => whnf
      repeat (refine Split.mk (fun c => ft_ c) (fun _ => ?_); conv => whnf)
      exact RetQ.mk ⟨rfl, rfl⟩ ⟨rfl, rfl⟩ ⟨bv (same_f (fun q => of_tr_f (h6 ▸ c) ⟨congrArg S32.f7 q, congrArg S32.f8 q, congrArg S32.f9 q, congrArg S32.f10 q, congrArg S32.f16 q, congrArg S32.f17 q, congrArg S32.f18 q, congrArg S32.f19 q⟩)), trivial⟩
  · conv => whnf
    repeat (refine Split.mk (fun c => ft_ c) (fun _ => ?_); conv => whnf)
    exact RetQ.mk ⟨rfl, rfl⟩ ⟨rfl, rfl⟩ ⟨bv (same_f (fun q => of_tr_f (h5 ▸ c) ⟨congrArg S32.f0 q, congrArg S32.f1 q, congrArg S32.f2 q, congrArg S32.f3 q, congrArg S32.f4 q, congrArg S32.f5 q, congrArg S32.f6 q⟩)), trivial⟩
end Go.Proofs.Ytnflbiafmddpgaa.P
