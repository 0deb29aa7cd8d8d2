/- Functions that the law FnExactSamePacket reaches: what each answers, by the path calculus. Printed by a program of this work (gen_same.py). -/
import Derived.Test.YtnflbiafmddpgaaZP2
namespace Go.Proofs.Ytnflbiafmddpgaa.P
open Go.RowKit Go.Proofs.Ytnflbiafmddpgaa.Z
set_option linter.unusedVariables false
set_option maxRecDepth 100000
set_option maxHeartbeats 4000000

theorem szByteS (l : List Int) (x : Int) (h0 : 0 ≤ x) (h1 : x ≤ 1048576) (hl : l.length ≤ 140737488351232) : CallOb T Try.prog 9 [.c (.sl 5 l), .c (.sc (.int .i64 x))] (.c (.sc (.int .i64 (szL l.length x)))) := by
  have h2 : x ≤ 4611686018427387904 := by omega
  refine call_of_vc hT Try.func9 (by kernel_rfl) rfl rfl (fun A => ?_)
  conv => whnf
  refine Split.mk (fun c => ?_) (fun c => ?_)
  · conv => whnf
    exact RetQ.mk ⟨rfl, rfl⟩ ⟨rfl, rfl⟩ ⟨iv (szL_lt h0 h2 hl c), trivial⟩
  · conv => whnf
    exact RetQ.mk ⟨rfl, rfl⟩ ⟨rfl, rfl⟩ ⟨iv (szL_ge h0 h2 hl c).1, trivial⟩
theorem szIntS (l : List Int) (x : Int) (h0 : 0 ≤ x) (h1 : x ≤ 1048576) (hl : l.length ≤ 140737488351232) : CallOb T Try.prog 12 [.c (.sl 3 l), .c (.sc (.int .i64 x))] (.c (.sc (.int .i64 (szL l.length x)))) := by
  have h2 : x ≤ 4611686018427387904 := by omega
  refine call_of_vc hT Try.func12 (by kernel_rfl) rfl rfl (fun A => ?_)
  conv => whnf
  refine Split.mk (fun c => ?_) (fun c => ?_)
  · conv => whnf
    exact RetQ.mk ⟨rfl, rfl⟩ ⟨rfl, rfl⟩ ⟨iv (szL_lt h0 h2 hl c), trivial⟩
  · conv => whnf
    exact RetQ.mk ⟨rfl, rfl⟩ ⟨rfl, rfl⟩ ⟨iv (szL_ge h0 h2 hl c).1, trivial⟩
theorem szWant (a : S50) (x : Int) (h0 : 0 ≤ x) (h1 : x ≤ 1048576) (hl : a.f0.size ≤ 140737488351232) : CallOb T Try.prog 26 [.ag (T.cells 50 a), .c (.sc (.int .i64 x))] (.c (.sc (.int .i64 (szL a.f0.size x)))) := by
  have h2 : x ≤ 4611686018427387904 := by omega
  refine call_of_vc hT Try.func26 (by kernel_rfl) rfl rfl (fun A => ?_)
  conv => whnf
  refine Split.mk (fun c => ?_) (fun c => ?_)
  · conv => whnf
    exact RetQ.mk ⟨rfl, rfl⟩ ⟨rfl, rfl⟩ ⟨iv (szL_lt h0 h2 hl c), trivial⟩
  · conv => whnf
    exact RetQ.mk ⟨rfl, rfl⟩ ⟨rfl, rfl⟩ ⟨iv (szL_ge h0 h2 hl c).1, trivial⟩
theorem szStringS (l : List ByteArray) (x : Int) (h0 : 0 ≤ x) (h1 : x ≤ 1048576) (hl : l.length ≤ 140737488351232) (hs : ∀ y ∈ l, (ByteArray.size) y ≤ 140737488351232) : CallOb T Try.prog 11 [.c (.sl 9 l), .c (.sc (.int .i64 x))] (.c (.sc (.int .i64 (thenS (szL l.length x) (szG (ByteArray.size) l))))) := by
  have h2 : x ≤ 4611686018427387904 := by omega
  refine call_of_vc hT Try.func11 (by kernel_rfl) rfl rfl (fun A => ?_)
  conv => whnf
  refine Split.mk (fun c => ?_) (fun c => ?_)
  · conv => whnf
    exact RetQ.mk ⟨rfl, rfl⟩ ⟨rfl, rfl⟩ ⟨iv (tL_lt h0 h2 hl c), trivial⟩
  · obtain ⟨e1, e2, e3⟩ := tL_ge (K := szG (ByteArray.size) l) h0 h2 hl c
    rw [e1]
    generalize hR : szG (ByteArray.size) l (wrap64 (x - (l.length : Int))) = R
    conv => whnf
    refine LoopQ.mk { p : Nat × Int // p.1 ≤ l.length ∧ 0 ≤ p.2 ∧ p.2 ≤ x ∧ szG (ByteArray.size) (l.drop p.1) p.2 = R } (fun p => (0, [(5, i64 p.1.1), (1, i64 p.1.2), (0, im 9 l)], [])) (fun p => l.length - p.1.1) ⟨(0, _), Nat.zero_le _, e2, e3, hR⟩ (imp_of [] rfl rfl rfl ⟨⟨rfl, rfl⟩, ⟨rfl, rfl⟩, ⟨rfl, rfl⟩, trivial⟩ trivial) ?_
    rintro ⟨⟨k, y⟩, hk, p0, p1, hR⟩
    have p2 : y ≤ 4611686018427387904 := Int.le_trans p1 h2
    conv => whnf
    refine Split.mk (fun c => ?_) (fun c => ?_)
    · have hk2 : k < l.length := ln_t c
      conv => whnf
      refine Need.mk (idx hk2) ?_
      conv => whnf
      refine Split.mk (fun c => ?_) (fun c => ?_)
      · conv => whnf
        exact RetQ.mk ⟨rfl, rfl⟩ ⟨rfl, rfl⟩ ⟨iv ((hR.symm.trans (szG_step (f := ByteArray.size) (d := ByteArray.empty) hk2)).trans (tL_lt p0 p2 (hs _ (getD_mem hk2)) c)), trivial⟩
      · obtain ⟨g1, g2, g3⟩ := tL_ge (K := szG (ByteArray.size) (l.drop (k + 1))) p0 p2 (hs _ (getD_mem hk2)) c
        conv => whnf
        exact NextQ.mk ⟨⟨(k + 1, _), hk2, g2, Int.le_trans g3 p1, (g1.symm.trans (szG_step (f := ByteArray.size) (d := ByteArray.empty) hk2).symm).trans hR⟩, Nat.sub_lt_sub_left hk2 (Nat.lt_succ_self k), imp_of [] rfl rfl rfl ⟨⟨rfl, congrArg i64 (sc_ hk2 hl)⟩, ⟨rfl, rfl⟩, ⟨rfl, rfl⟩, trivial⟩ trivial⟩
    · have hk2 : k = l.length := Nat.le_antisymm hk (ln_f c)
      conv => whnf
      subst hk2
      exact RetQ.mk ⟨rfl, rfl⟩ ⟨rfl, rfl⟩ ⟨iv (hR.symm.trans szG_end), trivial⟩
theorem szWantS (l : List S50) (x : Int) (h0 : 0 ≤ x) (h1 : x ≤ 1048576) (hl : l.length ≤ 140737488351232) (hs : ∀ y ∈ l, (fun y : S50 => y.f0.size) y ≤ 140737488351232) : CallOb T Try.prog 10 [.c (.sl 50 l), .c (.sc (.int .i64 x))] (.c (.sc (.int .i64 (thenS (szL l.length x) (szG (fun y : S50 => y.f0.size) l))))) := by
  have h2 : x ≤ 4611686018427387904 := by omega
  refine call_of_vc hT Try.func10 (by kernel_rfl) rfl rfl (fun A => ?_)
  conv => whnf
  refine Split.mk (fun c => ?_) (fun c => ?_)
  · conv => whnf
    exact RetQ.mk ⟨rfl, rfl⟩ ⟨rfl, rfl⟩ ⟨iv (tL_lt h0 h2 hl c), trivial⟩
  · obtain ⟨e1, e2, e3⟩ := tL_ge (K := szG (fun y : S50 => y.f0.size) l) h0 h2 hl c
    rw [e1]
    generalize hR : szG (fun y : S50 => y.f0.size) l (wrap64 (x - (l.length : Int))) = R
    conv => whnf
    refine LoopQ.mk { p : Nat × Int // p.1 ≤ l.length ∧ 0 ≤ p.2 ∧ p.2 ≤ x ∧ szG (fun y : S50 => y.f0.size) (l.drop p.1) p.2 = R } (fun p => (0, [(5, i64 p.1.1), (1, i64 p.1.2), (0, im 50 l)], [])) (fun p => l.length - p.1.1) ⟨(0, _), Nat.zero_le _, e2, e3, hR⟩ (imp_of [] rfl rfl rfl ⟨⟨rfl, rfl⟩, ⟨rfl, rfl⟩, ⟨rfl, rfl⟩, trivial⟩ trivial) ?_
    rintro ⟨⟨k, y⟩, hk, p0, p1, hR⟩
    have p2 : y ≤ 4611686018427387904 := Int.le_trans p1 h2
    conv => whnf
    refine Split.mk (fun c => ?_) (fun c => ?_)
    · have hk2 : k < l.length := ln_t c
      conv => whnf
      refine Need.mk (idx hk2) ?_
      conv => whnf
      refine CallQ.mk _ (szWant (l.getD k z50) y p0 (Int.le_trans p1 h1) (hs (l.getD k z50) (getD_mem hk2))) ?_
      conv => whnf
      refine Split.mk (fun c => ?_) (fun c => ?_)
      · conv => whnf
        exact RetQ.mk ⟨rfl, rfl⟩ ⟨rfl, rfl⟩ ⟨iv ((hR.symm.trans (szG_step (f := fun y : S50 => y.f0.size) (d := z50) hk2)).trans (tS_lt c)), trivial⟩
      · obtain ⟨g1, g2⟩ := tS_ge (K := szG (fun y : S50 => y.f0.size) (l.drop (k + 1))) c
        conv => whnf
        exact NextQ.mk ⟨⟨(k + 1, szL (l.getD k z50).f0.size y), hk2, g2, Int.le_trans (szL_le p0) p1, (g1.symm.trans (szG_step (f := fun y : S50 => y.f0.size) (d := z50) hk2).symm).trans hR⟩, Nat.sub_lt_sub_left hk2 (Nat.lt_succ_self k), imp_of [] rfl rfl rfl ⟨⟨rfl, congrArg i64 (sc_ hk2 hl)⟩, ⟨rfl, rfl⟩, ⟨rfl, rfl⟩, trivial⟩ trivial⟩
    · have hk2 : k = l.length := Nat.le_antisymm hk (ln_f c)
      conv => whnf
      subst hk2
      exact RetQ.mk ⟨rfl, rfl⟩ ⟨rfl, rfl⟩ ⟨iv (hR.symm.trans szG_end), trivial⟩
end Go.Proofs.Ytnflbiafmddpgaa.P
