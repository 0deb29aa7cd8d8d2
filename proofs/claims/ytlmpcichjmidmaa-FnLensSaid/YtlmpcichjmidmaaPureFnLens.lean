/- The law FnLens answers true of all bytes. -/
import Derived.Test.YtlmpcichjmidmaaK
import Derived.Test.YtlmpcichjmidmaaA9
import Derived.Test.YtlmpcichjmidmaaD1
import Derived.Test.YtlmpcichjmidmaaD2
import Derived.Test.YtlmpcichjmidmaaD3
import Derived.Test.YtlmpcichjmidmaaK
import Derived.Test.YtlmpcichjmidmaaPx0
import Derived.Test.YtlmpcichjmidmaaPx2
import Derived.Test.YtlmpcichjmidmaaPx4
namespace Go.Proofs.Ytlmpcichjmidmaa.Pure
open Go.RowKit Go.Proofs.Ytlmpcichjmidmaa.P Go.Proofs.YtlmpcichjmidmaaW.PrintWords Go.Proofs.YtlmpcichjmidmaaW.PrintLast Go.Proofs.Ytlmpcichjmidmaa.K
theorem drawPutLen_ev (l : List Int) (hl : l.length ≤ 1048576) : ∃ b n, Ev (fun k => spec_DrawPutLen.f k l) (b, n) ∧ Bytes b ∧ b.length ≤ 2 ∧ -1 ≤ n ∧ n ≤ 268435456 := by
  unfold spec_DrawPutLen.f
  obtain ⟨c0, h0⟩ := l1New_ev l hl
  obtain ⟨n, a1, c1, h1, hn0, hn1, hp1⟩ := l1Below_eq l 0 c0 3 ⟨by omega, by omega, hl⟩
  have hn2 := hn1 (by omega)
  obtain ⟨b, a2, c2, h2, hbl, hbb, hp2⟩ := l1Bytes_ev l a1 c1 n hp1 hn0 (by omega)
  obtain ⟨n4, a4, c4, h4, hn40, hn41, hp4⟩ := l2Num_eq l a2 c2 hp2
  exact ⟨b, n4, Ev.bind h0 (ev_b h1 (Ev.bind h2 (ev_b h4 (Ev.now _)))), hbb, by omega, hn40, hn41⟩
theorem FnLens : laws_FnLens.Pure := by
  intro l _ _ hb
  refine Ev.rounds ?_
  unfold laws_FnLens.f
  refine big_ev l _ (fun hl => ?_) (ev_pos rfl (Ev.now _))
  refine ev_neg (by simp) ?_
  obtain ⟨b, n, hx, hbb, hbl, hn0, hn1⟩ := drawPutLen_ev l hl
  refine Ev.bind hx (Ev.bind (putLen_ev b n (by omega)) (Ev.bind (lenSize_ev n) ?_))
  by_cases hr : 0 ≤ n ∧ n ≤ 268435455
  · have e1 : putLenP b n = b ++ lenBytes n := if_pos hr
    have e2 : putLenP [] n = lenBytes n := by
      unfold putLenP
      rw [if_pos hr, List.nil_append]
    have hL := lenBytes_length n
    have hLb := lenBytes_bytes n hr.1 hr.2
    have hG := gl_lenBytes (b.length : Int) n hr.1 hr.2
    rw [e1, e2]
    revert hL hLb hG
    generalize lenBytes n = y
    intro hL hLb hG
    refine ev_neg (by show ¬ n < 0; omega) ?_
    refine Ev.step (fun k => by rw [laws_FnLens.j0]) ?_
    have hz : Bytes (b ++ y) := fun x hx => (List.mem_append.1 hx).elim (hbb x) (hLb x)
    have hly : (b ++ y).length = b.length + y.length := List.length_append
    have g1 := getLen_ev (b ++ y) (b.length : Int) (by omega) (by omega) hz (by omega)
    rw [Int.toNat_natCast, List.drop_left, hG.1] at g1
    have hw : wrap64 (((b ++ y).length : Int) - 1) = ((b.length + (y.length - 1) : Nat) : Int) := by
      rw [w64 (by omega) (by omega)]
      omega
    have hcut : (b ++ y).take (b.length + (y.length - 1)) = b ++ y.dropLast := by
      rw [List.take_length_add_append, List.dropLast_eq_take]
    have hd : y.dropLast.length = y.length - 1 := List.length_dropLast
    have hz2 : Bytes (b ++ y.dropLast) := fun x hx => (List.mem_append.1 hx).elim (hbb x) (fun q => hLb x (List.dropLast_subset y q))
    have g2 := getLen_ev (b ++ y.dropLast) (b.length : Int) (by omega) (by rw [List.length_append]; omega) hz2 (by rw [List.length_append]; omega)
    rw [Int.toNat_natCast, List.drop_left] at g2
    refine ev_neg (by show ¬ decide (n > 268435455) = true; simp; omega) ?_
    refine Ev.bind g1 ?_
    rw [hw, Int.toNat_natCast, hcut]
    refine ev_pos (by omega) (ev_pos (by omega) (Ev.bind g2 ?_))
    have hs : laws_starts.f (b ++ y) b = some true := by
      unfold laws_starts.f
      rw [if_pos (by omega), if_pos (by omega), if_pos (by omega), Int.toNat_natCast, List.take_left, beq_self_eq_true]
    refine ev_b hs (ev_pos rfl (ev_pos ?_ (ev_pos (by omega) (ev_pos (by omega) (ev_pos rfl (ev_pos ?_ (ev_pos rfl (ev_some ?_))))))))
    · show ((b ++ y).length : Int) = wrap64 ((b.length : Int) + (y.length : Int))
      rw [w64 (by omega) (by omega)]
      omega
    · show (b.length : Int) + (y.length : Int) = ((b ++ y).length : Int)
      omega
    · rw [hG.2]
      rfl
  · have e1 : putLenP b n = b := if_neg hr
    have e2 : putLenP [] n = [] := if_neg hr
    rw [e1, e2]
    have hj : Ev (fun k => laws_FnLens.j0 k b n b ((([] : List Int).length : Nat) : Int) true) true := by
      refine Ev.step (fun k => by rw [laws_FnLens.j0]) ?_
      exact ev_pos rfl (ev_b (same_eq b b rfl) (ev_pos rfl (ev_some rfl)))
    by_cases q : n < 0
    · exact ev_pos q hj
    · refine ev_neg q ?_
      have e3 : decide (n > 268435455) = true := decide_eq_true (by omega)
      show Ev (fun k => laws_FnLens.j0 k b n b _ (decide (n > 268435455))) true
      rw [e3]
      exact hj
end Go.Proofs.Ytlmpcichjmidmaa.Pure
