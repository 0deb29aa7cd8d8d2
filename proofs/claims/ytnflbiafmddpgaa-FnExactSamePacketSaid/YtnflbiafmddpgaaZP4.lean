/- Functions that the law FnExactSamePacket reaches: what each answers, by the path calculus. Printed by a program of this work (gen_same.py). -/
import Derived.Test.YtnflbiafmddpgaaZP3
namespace Go.Proofs.Ytnflbiafmddpgaa.P
open Go.RowKit Go.Proofs.Ytnflbiafmddpgaa.Z
set_option linter.unusedVariables false
set_option maxRecDepth 100000
set_option maxHeartbeats 4000000

structure Fit (p : S27) : Prop where
  s5 : p.f5.size ≤ 140737488351232
  l6 : p.f6.length ≤ 140737488351232
  y6 : ∀ x ∈ p.f6, 0 ≤ x ∧ x < 256
  s7 : p.f7.size ≤ 140737488351232
  s12 : p.f12.size ≤ 140737488351232
  l13 : p.f13.length ≤ 140737488351232
  y13 : ∀ x ∈ p.f13, 0 ≤ x ∧ x < 256
  s17 : p.f17.size ≤ 140737488351232
  l19 : p.f19.length ≤ 140737488351232
  y19 : ∀ x ∈ p.f19, 0 ≤ x ∧ x < 256
  l22 : p.f22.length ≤ 140737488351232
  w22 : ∀ x ∈ p.f22, x.f0.size ≤ 140737488351232
  l23 : p.f23.length ≤ 140737488351232
  w23 : ∀ x ∈ p.f23, x.size ≤ 140737488351232
  l24 : p.f24.length ≤ 140737488351232
structure Fit2 (p : S32) : Prop where
  s5 : p.f5.size ≤ 140737488351232
  l6 : p.f6.length ≤ 140737488351232
  y6 : ∀ x ∈ p.f6, 0 ≤ x ∧ x < 256
  s7 : p.f7.size ≤ 140737488351232
  s12 : p.f12.size ≤ 140737488351232
  l13 : p.f13.length ≤ 140737488351232
  y13 : ∀ x ∈ p.f13, 0 ≤ x ∧ x < 256
  s17 : p.f17.size ≤ 140737488351232
  l19 : p.f19.length ≤ 140737488351232
  y19 : ∀ x ∈ p.f19, 0 ≤ x ∧ x < 256
  l22 : p.f22.length ≤ 140737488351232
  w22 : ∀ x ∈ p.f22, x.f0.size ≤ 140737488351232
  l23 : p.f23.length ≤ 140737488351232
  w23 : ∀ x ∈ p.f23, x.size ≤ 140737488351232
  l24 : p.f24.length ≤ 140737488351232
def szP (p : S27) (x : Int) : Int := thenS (szL p.f5.size x) fun x => thenS (szL p.f6.length x) fun x => thenS (szL p.f7.size x) fun x => thenS (szL p.f12.size x) fun x => thenS (szL p.f13.length x) fun x => thenS (szL p.f17.size x) fun x => thenS (szL p.f19.length x) fun x => thenS (thenS (szL p.f22.length x) (szG (fun y : S50 => y.f0.size) p.f22)) fun x => thenS (thenS (szL p.f23.length x) (szG ByteArray.size p.f23)) fun x => thenS (szL p.f24.length x) fun x => x
theorem szPacket (p : S27) (x : Int) (h0 : 0 ≤ x) (h1 : x ≤ 1048576) (hp : Fit p) : CallOb T Try.prog 4 [.ag (T.cells 27 p), .c (.sc (.int .i64 x))] (.c (.sc (.int .i64 (szP p x)))) := by
  refine call_of_vc hT Try.func4 (by kernel_rfl) rfl rfl (fun A => ?_)
  have H : szP p x = szP p x := rfl
  conv at H => rhs; unfold szP
  conv => whnf
  refine Split.mk (fun c => ?_) (fun c => ?_)
  · conv => whnf
    exact RetQ.mk ⟨rfl, rfl⟩ ⟨rfl, rfl⟩ ⟨iv (uL_lt H h0 h1 hp.s5 c), trivial⟩
  replace ⟨H, h0, h1⟩ := uL_ge H h0 h1 hp.s5 c
  conv => whnf
  refine CallQ.mk _ (szByteS _ _ h0 h1 hp.l6) ?_
  conv => whnf
  refine Split.mk (fun c => ?_) (fun c => ?_)
  · conv => whnf
    exact RetQ.mk ⟨rfl, rfl⟩ ⟨rfl, rfl⟩ ⟨iv (uS_lt H c), trivial⟩
  replace ⟨H, h0, h1⟩ := uS_ge H (Int.le_trans (szL_le h0) h1) c
  conv => whnf
  refine Split.mk (fun c => ?_) (fun c => ?_)
  · conv => whnf
    exact RetQ.mk ⟨rfl, rfl⟩ ⟨rfl, rfl⟩ ⟨iv (uL_lt H h0 h1 hp.s7 c), trivial⟩
  replace ⟨H, h0, h1⟩ := uL_ge H h0 h1 hp.s7 c
  conv => whnf
  refine Split.mk (fun c => ?_) (fun c => ?_)
  · conv => whnf
    exact RetQ.mk ⟨rfl, rfl⟩ ⟨rfl, rfl⟩ ⟨iv (uL_lt H h0 h1 hp.s12 c), trivial⟩
  replace ⟨H, h0, h1⟩ := uL_ge H h0 h1 hp.s12 c
  conv => whnf
  refine CallQ.mk _ (szByteS _ _ h0 h1 hp.l13) ?_
  conv => whnf
  refine Split.mk (fun c => ?_) (fun c => ?_)
  · conv => whnf
    exact RetQ.mk ⟨rfl, rfl⟩ ⟨rfl, rfl⟩ ⟨iv (uS_lt H c), trivial⟩
  replace ⟨H, h0, h1⟩ := uS_ge H (Int.le_trans (szL_le h0) h1) c
  conv => whnf
  refine Split.mk (fun c => ?_) (fun c => ?_)
  · conv => whnf
    exact RetQ.mk ⟨rfl, rfl⟩ ⟨rfl, rfl⟩ ⟨iv (uL_lt H h0 h1 hp.s17 c), trivial⟩
  replace ⟨H, h0, h1⟩ := uL_ge H h0 h1 hp.s17 c
  conv => whnf
  refine CallQ.mk _ (szByteS _ _ h0 h1 hp.l19) ?_
  conv => whnf
  refine Split.mk (fun c => ?_) (fun c => ?_)
  · conv => whnf
    exact RetQ.mk ⟨rfl, rfl⟩ ⟨rfl, rfl⟩ ⟨iv (uS_lt H c), trivial⟩
  replace ⟨H, h0, h1⟩ := uS_ge H (Int.le_trans (szL_le h0) h1) c
  conv => whnf
  refine CallQ.mk _ (szWantS p.f22 _ h0 h1 hp.l22 hp.w22) ?_
  conv => whnf
  refine Split.mk (fun c => ?_) (fun c => ?_)
  · conv => whnf
    exact RetQ.mk ⟨rfl, rfl⟩ ⟨rfl, rfl⟩ ⟨iv (uS_lt H c), trivial⟩
  replace ⟨H, h0, h1⟩ := uS_ge H (Int.le_trans (tG_le h0) h1) c
  conv => whnf
  refine CallQ.mk _ (szStringS p.f23 _ h0 h1 hp.l23 hp.w23) ?_
  conv => whnf
  refine Split.mk (fun c => ?_) (fun c => ?_)
  · conv => whnf
    exact RetQ.mk ⟨rfl, rfl⟩ ⟨rfl, rfl⟩ ⟨iv (uS_lt H c), trivial⟩
  replace ⟨H, h0, h1⟩ := uS_ge H (Int.le_trans (tG_le h0) h1) c
  conv => whnf
  refine CallQ.mk _ (szIntS _ _ h0 h1 hp.l24) ?_
  conv => whnf
  refine Split.mk (fun c => ?_) (fun c => ?_)
  · conv => whnf
    exact RetQ.mk ⟨rfl, rfl⟩ ⟨rfl, rfl⟩ ⟨iv (uS_lt H c), trivial⟩
  replace ⟨H, h0, h1⟩ := uS_ge H (Int.le_trans (szL_le h0) h1) c
  conv => whnf
  exact RetQ.mk ⟨rfl, rfl⟩ ⟨rfl, rfl⟩ ⟨iv H, trivial⟩
def toP (p : S27) : S32 := ⟨p.f0, p.f1, p.f2, p.f3, p.f4, p.f5, p.f6, p.f7, p.f8, p.f9, p.f10, p.f11, p.f12, p.f13, p.f14, p.f15, p.f16, p.f17, p.f18, p.f19, p.f20, p.f21, p.f22.map toW, p.f23, p.f24⟩
def owC {Tb : Nat → Type} : List (C0 Tb) → List (R0 Tb)
  | [] => []
  | .sc v :: l => .sc v :: owC l
  | .sl e x :: l => .ow e x :: owC l
structure Small (p : S27) : Prop where
  l6 : p.f6.length ≤ 1048576
  l13 : p.f13.length ≤ 1048576
  l19 : p.f19.length ≤ 1048576
  l22 : p.f22.length ≤ 1048576
  l23 : p.f23.length ≤ 1048576
  l24 : p.f24.length ≤ 1048576
theorem toPacket (p : S27) (hp : Small p) : CallOb T Try.prog 6 [.ag (T.cells 27 p)] (.ag (owC (T.cells 32 (toP p)))) := by
  refine call_of_vc hT Try.func6 (by kernel_rfl) rfl rfl (fun A => ?_)
  conv => whnf
  refine CallQ.mk _ (toByteS p.f6 hp.l6) ?_
  conv => whnf
  refine CallQ.mk _ (toByteS p.f13 hp.l13) ?_
  conv => whnf
  refine CallQ.mk _ (toByteS p.f19 hp.l19) ?_
  conv => whnf
  refine CallQ.mk _ (toWantS p.f22 hp.l22) ?_
  conv => whnf
  refine CallQ.mk _ (toStringS p.f23 hp.l23) ?_
  conv => whnf
  refine CallQ.mk _ (toIntS p.f24 hp.l24) ?_
  conv => whnf
  exact RetQ.mk ⟨rfl, rfl⟩ ⟨rfl, rfl⟩ ⟨rfl, rfl, rfl, rfl, rfl, rfl, rfl, rfl, rfl, rfl, rfl, rfl, rfl, rfl, rfl, rfl, rfl, rfl, rfl, rfl, rfl, rfl, rfl, rfl, rfl, trivial⟩
theorem bytesEqual (a b : List Int) (ha : ∀ x ∈ a, 0 ≤ x ∧ x < 256) (hb : ∀ x ∈ b, 0 ≤ x ∧ x < 256) : CallOb T Try.prog 18 [.c (.sl 5 a), .c (.sl 5 b)] (.c (.sc (.bool (same a b)))) := by
  refine call_of_vc hT Try.func18 (by kernel_rfl) rfl rfl (fun A => ?_)
  conv => whnf
  refine Need.mk (fun _ => rfl) ?_
  conv => whnf
  refine Need.mk (fun _ => rfl) ?_
  conv => whnf
  refine RetQ.mk ⟨rfl, rfl⟩ ⟨rfl, rfl⟩ ⟨bv ?_, trivial⟩
  have e : ∀ l : List Int, List.map (numOf T 5) l = l := fun l => List.map_id' l
  rw [same_str ha hb]
  have h := congr (congrArg (fun x y : List Int => ((strOfNums x).toList == (strOfNums y).toList)) (e a).symm) (e b).symm
  exact h
theorem l1Same (a b : List Int) (ha : ∀ x ∈ a, 0 ≤ x ∧ x < 256) (hb : ∀ x ∈ b, 0 ≤ x ∧ x < 256) : CallOb T Try.prog 13 [.c (.sl 5 a), .c (.sl 5 b)] (.c (.sc (.bool (same a b)))) := by
  refine call_of_vc hT Try.func13 (by kernel_rfl) rfl rfl (fun A => ?_)
  conv => whnf
  refine Need.mk (fun _ => rfl) ?_
  conv => whnf
  refine Need.mk (fun _ => rfl) ?_
  conv => whnf
  refine RetQ.mk ⟨rfl, rfl⟩ ⟨rfl, rfl⟩ ⟨bv ?_, trivial⟩
  have e : ∀ l : List Int, List.map (numOf T 5) l = l := fun l => List.map_id' l
  rw [same_str ha hb]
  have h := congr (congrArg (fun x y : List Int => ((strOfNums x).toList == (strOfNums y).toList)) (e a).symm) (e b).symm
  exact h
theorem pk_eq {a b : S32} (h0 : a.f0 = b.f0) (h1 : a.f1 = b.f1) (h2 : a.f2 = b.f2) (h3 : a.f3 = b.f3) (h4 : a.f4 = b.f4) (h5 : a.f5 = b.f5) (h6 : a.f6 = b.f6) (h7 : a.f7 = b.f7) (h8 : a.f8 = b.f8) (h9 : a.f9 = b.f9) (h10 : a.f10 = b.f10) (h11 : a.f11 = b.f11) (h12 : a.f12 = b.f12) (h13 : a.f13 = b.f13) (h14 : a.f14 = b.f14) (h15 : a.f15 = b.f15) (h16 : a.f16 = b.f16) (h17 : a.f17 = b.f17) (h18 : a.f18 = b.f18) (h19 : a.f19 = b.f19) (h20 : a.f20 = b.f20) (h21 : a.f21 = b.f21) (h22 : a.f22 = b.f22) (h23 : a.f23 = b.f23) (h24 : a.f24 = b.f24) : a = b := by cases a; cases b; simp_all
theorem eqPacket (a b : S32) (ha : Fit2 a) : CallOb T Try.prog 8 [.ag (T.cells 32 a), .ag (T.cells 32 b)] (.c (.sc (.bool (same a b)))) := by
  refine call_of_vc hT Try.func8 (by kernel_rfl) rfl rfl (fun A => ?_)
  conv => whnf
  refine Split.mk (fun c => ?_) (fun c => ?_)
  · conv => whnf
    exact RetQ.mk ⟨rfl, rfl⟩ ⟨rfl, rfl⟩ ⟨bv (same_f (fun e => ne_t c (congrArg S32.f0 e))), trivial⟩
  have c0 : a.f0 = b.f0 := ne_f c
  clear c
  conv => whnf
  refine Need.mk (by kernel_rfl) ?_
  conv => whnf
  refine Split.mk (fun c => ?_) (fun c => ?_)
  · conv => whnf
    exact RetQ.mk ⟨rfl, rfl⟩ ⟨rfl, rfl⟩ ⟨bv (same_f (fun e => bx_t c (congrArg S32.f1 e))), trivial⟩
  have c1 : a.f1 = b.f1 := bx_f c
  clear c
  conv => whnf
  refine Split.mk (fun c => ?_) (fun c => ?_)
  · conv => whnf
    exact RetQ.mk ⟨rfl, rfl⟩ ⟨rfl, rfl⟩ ⟨bv (same_f (fun e => ne_t c (congrArg S32.f2 e))), trivial⟩
  have c2 : a.f2 = b.f2 := ne_f c
  clear c
  conv => whnf
  refine Need.mk (by kernel_rfl) ?_
  conv => whnf
  refine Split.mk (fun c => ?_) (fun c => ?_)
  · conv => whnf
    exact RetQ.mk ⟨rfl, rfl⟩ ⟨rfl, rfl⟩ ⟨bv (same_f (fun e => bx_t c (congrArg S32.f3 e))), trivial⟩
  have c3 : a.f3 = b.f3 := bx_f c
  clear c
  conv => whnf
  refine Split.mk (fun c => ?_) (fun c => ?_)
  · conv => whnf
    exact RetQ.mk ⟨rfl, rfl⟩ ⟨rfl, rfl⟩ ⟨bv (same_f (fun e => ne_t c (congrArg S32.f4 e))), trivial⟩
  have c4 : a.f4 = b.f4 := ne_f c
  clear c
  conv => whnf
  refine Split.mk (fun c => ?_) (fun c => ?_)
  · conv => whnf
    exact RetQ.mk ⟨rfl, rfl⟩ ⟨rfl, rfl⟩ ⟨bv (same_f (fun e => sx_t c (congrArg S32.f5 e))), trivial⟩
  have c5 : a.f5 = b.f5 := sx_f c
  clear c
  conv => whnf
  refine CallQ.mk _ (eqByteS a.f6 b.f6 ha.l6) ?_
  conv => whnf
  refine Split.mk (fun c => ?_) (fun c => ?_)
  · conv => whnf
    exact RetQ.mk ⟨rfl, rfl⟩ ⟨rfl, rfl⟩ ⟨bv (same_f (fun e => of_same_f (not_t c) (congrArg S32.f6 e))), trivial⟩
  have c6 : a.f6 = b.f6 := of_same (not_f c)
  clear c
  conv => whnf
  refine Split.mk (fun c => ?_) (fun c => ?_)
  · conv => whnf
    exact RetQ.mk ⟨rfl, rfl⟩ ⟨rfl, rfl⟩ ⟨bv (same_f (fun e => sx_t c (congrArg S32.f7 e))), trivial⟩
  have c7 : a.f7 = b.f7 := sx_f c
  clear c
  conv => whnf
  refine Split.mk (fun c => ?_) (fun c => ?_)
  · conv => whnf
    exact RetQ.mk ⟨rfl, rfl⟩ ⟨rfl, rfl⟩ ⟨bv (same_f (fun e => ne_t c (congrArg S32.f8 e))), trivial⟩
  have c8 : a.f8 = b.f8 := ne_f c
  clear c
  conv => whnf
  refine Need.mk (by kernel_rfl) ?_
  conv => whnf
  refine Split.mk (fun c => ?_) (fun c => ?_)
  · conv => whnf
    exact RetQ.mk ⟨rfl, rfl⟩ ⟨rfl, rfl⟩ ⟨bv (same_f (fun e => bx_t c (congrArg S32.f9 e))), trivial⟩
  have c9 : a.f9 = b.f9 := bx_f c
  clear c
  conv => whnf
  refine Split.mk (fun c => ?_) (fun c => ?_)
  · conv => whnf
    exact RetQ.mk ⟨rfl, rfl⟩ ⟨rfl, rfl⟩ ⟨bv (same_f (fun e => ne_t c (congrArg S32.f10 e))), trivial⟩
  have c10 : a.f10 = b.f10 := ne_f c
  clear c
  conv => whnf
  refine Need.mk (by kernel_rfl) ?_
  conv => whnf
  refine Split.mk (fun c => ?_) (fun c => ?_)
  · conv => whnf
    exact RetQ.mk ⟨rfl, rfl⟩ ⟨rfl, rfl⟩ ⟨bv (same_f (fun e => bx_t c (congrArg S32.f11 e))), trivial⟩
  have c11 : a.f11 = b.f11 := bx_f c
  clear c
  conv => whnf
  refine Split.mk (fun c => ?_) (fun c => ?_)
  · conv => whnf
    exact RetQ.mk ⟨rfl, rfl⟩ ⟨rfl, rfl⟩ ⟨bv (same_f (fun e => sx_t c (congrArg S32.f12 e))), trivial⟩
  have c12 : a.f12 = b.f12 := sx_f c
  clear c
  conv => whnf
  refine CallQ.mk _ (eqByteS a.f13 b.f13 ha.l13) ?_
  conv => whnf
  refine Split.mk (fun c => ?_) (fun c => ?_)
  · conv => whnf
    exact RetQ.mk ⟨rfl, rfl⟩ ⟨rfl, rfl⟩ ⟨bv (same_f (fun e => of_same_f (not_t c) (congrArg S32.f13 e))), trivial⟩
  have c13 : a.f13 = b.f13 := of_same (not_f c)
  clear c
  conv => whnf
  refine Split.mk (fun c => ?_) (fun c => ?_)
  · conv => whnf
    exact RetQ.mk ⟨rfl, rfl⟩ ⟨rfl, rfl⟩ ⟨bv (same_f (fun e => ne_t c (congrArg S32.f14 e))), trivial⟩
  have c14 : a.f14 = b.f14 := ne_f c
  clear c
  conv => whnf
  refine Need.mk (by kernel_rfl) ?_
  conv => whnf
  refine Split.mk (fun c => ?_) (fun c => ?_)
  · conv => whnf
    exact RetQ.mk ⟨rfl, rfl⟩ ⟨rfl, rfl⟩ ⟨bv (same_f (fun e => bx_t c (congrArg S32.f15 e))), trivial⟩
  have c15 : a.f15 = b.f15 := bx_f c
  clear c
  conv => whnf
  refine Need.mk (by kernel_rfl) ?_
  conv => whnf
  refine Split.mk (fun c => ?_) (fun c => ?_)
  · conv => whnf
    exact RetQ.mk ⟨rfl, rfl⟩ ⟨rfl, rfl⟩ ⟨bv (same_f (fun e => bx_t c (congrArg S32.f16 e))), trivial⟩
  have c16 : a.f16 = b.f16 := bx_f c
  clear c
  conv => whnf
  refine Split.mk (fun c => ?_) (fun c => ?_)
  · conv => whnf
    exact RetQ.mk ⟨rfl, rfl⟩ ⟨rfl, rfl⟩ ⟨bv (same_f (fun e => sx_t c (congrArg S32.f17 e))), trivial⟩
  have c17 : a.f17 = b.f17 := sx_f c
  clear c
  conv => whnf
  refine Need.mk (by kernel_rfl) ?_
  conv => whnf
  refine Split.mk (fun c => ?_) (fun c => ?_)
  · conv => whnf
    exact RetQ.mk ⟨rfl, rfl⟩ ⟨rfl, rfl⟩ ⟨bv (same_f (fun e => bx_t c (congrArg S32.f18 e))), trivial⟩
  have c18 : a.f18 = b.f18 := bx_f c
  clear c
  conv => whnf
  refine CallQ.mk _ (eqByteS a.f19 b.f19 ha.l19) ?_
  conv => whnf
  refine Split.mk (fun c => ?_) (fun c => ?_)
  · conv => whnf
    exact RetQ.mk ⟨rfl, rfl⟩ ⟨rfl, rfl⟩ ⟨bv (same_f (fun e => of_same_f (not_t c) (congrArg S32.f19 e))), trivial⟩
  have c19 : a.f19 = b.f19 := of_same (not_f c)
  clear c
  conv => whnf
  refine Split.mk (fun c => ?_) (fun c => ?_)
  · conv => whnf
    exact RetQ.mk ⟨rfl, rfl⟩ ⟨rfl, rfl⟩ ⟨bv (same_f (fun e => ne_t c (congrArg S32.f20 e))), trivial⟩
  have c20 : a.f20 = b.f20 := ne_f c
  clear c
  conv => whnf
  refine Need.mk (by kernel_rfl) ?_
  conv => whnf
  refine Split.mk (fun c => ?_) (fun c => ?_)
  · conv => whnf
    exact RetQ.mk ⟨rfl, rfl⟩ ⟨rfl, rfl⟩ ⟨bv (same_f (fun e => bx_t c (congrArg S32.f21 e))), trivial⟩
  have c21 : a.f21 = b.f21 := bx_f c
  clear c
  conv => whnf
  refine CallQ.mk _ (eqWantS a.f22 b.f22 ha.l22) ?_
  conv => whnf
  refine Split.mk (fun c => ?_) (fun c => ?_)
  · conv => whnf
    exact RetQ.mk ⟨rfl, rfl⟩ ⟨rfl, rfl⟩ ⟨bv (same_f (fun e => of_same_f (not_t c) (congrArg S32.f22 e))), trivial⟩
  have c22 : a.f22 = b.f22 := of_same (not_f c)
  clear c
  conv => whnf
  refine CallQ.mk _ (eqStringS a.f23 b.f23 ha.l23) ?_
  conv => whnf
  refine Split.mk (fun c => ?_) (fun c => ?_)
  · conv => whnf
    exact RetQ.mk ⟨rfl, rfl⟩ ⟨rfl, rfl⟩ ⟨bv (same_f (fun e => of_same_f (not_t c) (congrArg S32.f23 e))), trivial⟩
  have c23 : a.f23 = b.f23 := of_same (not_f c)
  clear c
  conv => whnf
  refine CallQ.mk _ (eqIntS a.f24 b.f24 ha.l24) ?_
  conv => whnf
  refine Split.mk (fun c => ?_) (fun c => ?_)
  · conv => whnf
    exact RetQ.mk ⟨rfl, rfl⟩ ⟨rfl, rfl⟩ ⟨bv (same_f (fun e => of_same_f (not_t c) (congrArg S32.f24 e))), trivial⟩
  have c24 : a.f24 = b.f24 := of_same (not_f c)
  clear c
  conv => whnf
  exact RetQ.mk ⟨rfl, rfl⟩ ⟨rfl, rfl⟩ ⟨bv (same_t (pk_eq c0 c1 c2 c3 c4 c5 c6 c7 c8 c9 c10 c11 c12 c13 c14 c15 c16 c17 c18 c19 c20 c21 c22 c23 c24)), trivial⟩
end Go.Proofs.Ytnflbiafmddpgaa.P
