/- Rows of what is kept, written into: an element's text, its row, its number; laws.markKeptS told by hand. -/
import Derived.Test.YtklppdalaoafjaaDoorL2
import Derived.Test.YtklppdalaoafjaaDoorPx0
import Derived.Test.YtklppdalaoafjaaDoorPx1
import Derived.Test.YtklppdalaoafjaaDoorPx12
import Derived.Test.YtklppdalaoafjaaDoorPx13
import Derived.Test.YtklppdalaoafjaaDoorPx15
import Derived.Test.YtklppdalaoafjaaDoorPx5
import Derived.Test.YtklppdalaoafjaaDoorPx6
import Derived.Test.YtklppdalaoafjaaDoorX1
import Derived.Test.YtklppdalaoafjaaDoorL2
import Derived.Test.YtklppdalaoafjaaDoorX1
namespace Go.Proofs.YtklppdalaoafjaaDoor.P
open Go.RowKit Go.Proofs.YtklppdalaoafjaaDoor.X Go.Proofs.YtklppdalaoafjaaDoorW.PrintWords Go.Proofs.YtklppdalaoafjaaDoorW.PrintLast Go.Proofs.YtklppdalaoafjaaDoorW.PrintMore
set_option linter.unusedVariables false
set_option linter.unusedSimpArgs false
/-- laws.FnExactKeptFor, as far as it answers true. -/
def laws_FnExactKeptFor.f (k : Nat) (l0 : List S33) (a1 : ByteArray) : Option Bool := if (a1.size : Int) > 1048576 then some true else ((laws_szKeptS.f k l0 1048576).bind fun t => if t < 0 then some true else ((laws_toKeptS.f k l0).bind fun p => (spec_KeptFor.f k p a1).bind fun q0 => (laws_toKeptS.f k l0).bind fun x0 => (impl_KeptFor.f k x0 a1).bind fun g0 => (laws_eqKeptS.f k g0 q0).bind fun b1 => if b1 = true then ((laws_toKeptS.f k l0).bind fun y0 => (laws_eqKeptS.f k x0 y0).bind fun b2 => if b2 = true then ((laws_markKeptS.f k x0 1).bind fun m1 => if m1.1 < 0 then none else ((laws_eqKeptS.f k g0 q0).bind fun b3 => if b3 = true then ((laws_markKeptS.f k g0 1).bind fun m2 => (laws_heldKeptS.f k m2.2 1).bind fun q1 => if q1 < 0 then none else (if q1 = m2.1 then ((laws_toKeptS.f k l0).bind fun p2 => (impl_KeptFor.f k p2 a1).bind fun h0 => (laws_eqKeptS.f k h0 q0).bind fun b4 => if b4 = true then ((laws_heldKeptS.f k m2.2 1).bind fun q2 => if q2 < 0 then none else (if q2 = m2.1 then some true else none)) else none) else none)) else none)) else none) else none))
theorem if_then {α : Type} {c : Prop} [Decidable c] {x : Option α} {r : α} (h : (if c then x else none) = some r) : c ∧ x = some r := by
  by_cases q : c
  · rw [if_pos q] at h; exact ⟨q, h⟩
  · rw [if_neg q] at h; cases h
theorem if_else {α : Type} {c : Prop} [Decidable c] {x : Option α} {r : α} (h : (if c then none else x) = some r) : ¬ c ∧ x = some r := by
  by_cases q : c
  · rw [if_pos q] at h; cases h
  · rw [if_neg q] at h; exact ⟨q, h⟩
theorem S_new {w W W1 : World} {v : Value} {xs : List S35} (h : Kd.S k35 35 W1 W.heap.size (fun _ => True) v xs) (hb : w.heap.size ≤ W.heap.size) : Kd.S k35 35 W1 w.heap.size (fun k_ => W.heap.size ≤ k_ ∧ k_ < W1.heap.size) v xs := Kd.S_lower (Kd.S_mono (Kd.S_bound h) (fun k_ hk => ⟨hk.2.1, hk.2.2.1⟩)) hb
set_option maxHeartbeats 8000000 in
set_option maxRecDepth 100000 in
theorem laws_FnExactKeptFor.calls (k : Nat) (A0 : Option Addr) (c0 : Nat) (l0 : List S33) (a1 : ByteArray) (r : Bool) (w : World) (hr0 : Kd.C k33 w A0 l0.length l0) (hc0 : l0.length ≤ c0) (hT : Tabs w) (h : laws_FnExactKeptFor.f k l0 a1 = some r) :
    Calls Tryd.prog 3 #[.slice A0 l0.length c0, .string a1] w fun e w' => e = .returned (.bool r) ∧ Below w.heap.size w w' := by
  have HT := Aside0.mk hT
  have HR := Aside0.mk hr0
  have HC := Aside0.mk hc0
  have HB := Aside0.mk (Below.refl w.heap.size w)
  clear hT hr0 hc0
  unfold laws_FnExactKeptFor.f at h
  by_cases c1 : (a1.size : Int) > 1048576
  · rw [if_pos c1] at h
    have c1b : decide (1048576 < (a1.size : Int)) = true := decide_eq_true c1
    have c1c : decide (1048576 < a1.size) = true := decide_eq_true (by omega)
    obtain rfl := Option.some.inj h
    clear c1 h
    go_enter Tryd.func3, Tryd.ntmps3
    go_wp2
    go_ret
    exact ⟨by first | rfl | (simp; done), HB.out⟩
  rw [if_neg c1] at h
  have c1b : decide (1048576 < (a1.size : Int)) = false := decide_eq_false c1
  have c1c : decide (1048576 < a1.size) = false := decide_eq_false (by omega)
  clear c1
  obtain ⟨t, A1_, h_⟩ := Option.bind_eq_some_iff.mp h
  clear h
  have h := h_
  clear h_
  have A1 := Aside0.mk A1_
  clear A1_
  (try dsimp only at h)
  by_cases c2 : t < 0
  · rw [if_pos c2] at h
    have c2b : decide (t < 0) = true := decide_eq_true c2
    obtain rfl := Option.some.inj h
    clear c2 h
    go_enter Tryd.func3, Tryd.ntmps3
    go_wp2_with (first | (go_at_call 4; (with_reducible refine (laws_szKeptS.calls k _ _ l0 1048576 t _ ?side1 ?side2 A1.out).mono ?_); (case side1 => exact Kd.C_below HR.out HB.out); (case side2 => exact HC.out); rintro e w1 ⟨rfl, hb⟩; replace HB := Aside0.mk (below_step HB.out hb); clear hb))
    go_ret
    exact ⟨by first | rfl | (simp; done), HB.out⟩
  rw [if_neg c2] at h
  have c2b : decide (t < 0) = false := decide_eq_false c2
  clear c2
  obtain ⟨p, A2_, h_⟩ := Option.bind_eq_some_iff.mp h
  clear h
  have h := h_
  clear h_
  have A2 := Aside0.mk A2_
  clear A2_
  (try dsimp only at h)
  obtain ⟨q0, A3_, h_⟩ := Option.bind_eq_some_iff.mp h
  clear h
  have h := h_
  clear h_
  have A3 := Aside0.mk A3_
  clear A3_
  (try dsimp only at h)
  obtain ⟨x0, A4_, h_⟩ := Option.bind_eq_some_iff.mp h
  clear h
  have h := h_
  clear h_
  have A4 := Aside0.mk A4_
  clear A4_
  (try dsimp only at h)
  obtain ⟨g0, A5_, h_⟩ := Option.bind_eq_some_iff.mp h
  clear h
  have h := h_
  clear h_
  have A5 := Aside0.mk A5_
  clear A5_
  (try dsimp only at h)
  obtain ⟨b1, A6_, h_⟩ := Option.bind_eq_some_iff.mp h
  clear h
  have h := h_
  clear h_
  have A6 := Aside0.mk A6_
  clear A6_
  (try dsimp only at h)
  obtain ⟨e1, h_⟩ := if_then h
  clear h
  have h := h_
  clear h_
  subst e1
  obtain ⟨y0, A7_, h_⟩ := Option.bind_eq_some_iff.mp h
  clear h
  have h := h_
  clear h_
  have A7 := Aside0.mk A7_
  clear A7_
  (try dsimp only at h)
  obtain ⟨b2, A8_, h_⟩ := Option.bind_eq_some_iff.mp h
  clear h
  have h := h_
  clear h_
  have A8 := Aside0.mk A8_
  clear A8_
  (try dsimp only at h)
  obtain ⟨e2, h_⟩ := if_then h
  clear h
  have h := h_
  clear h_
  subst e2
  obtain ⟨⟨m1, x1⟩, A9_, h_⟩ := Option.bind_eq_some_iff.mp h
  clear h
  have h := h_
  clear h_
  have A9 := Aside0.mk A9_
  clear A9_
  (try dsimp only at h A9)
  obtain ⟨n1, h_⟩ := if_else h
  clear h
  have h := h_
  clear h_
  have n1b : decide (m1 < 0) = false := decide_eq_false n1
  clear n1
  obtain ⟨b3, A10_, h_⟩ := Option.bind_eq_some_iff.mp h
  clear h
  have h := h_
  clear h_
  have A10 := Aside0.mk A10_
  clear A10_
  (try dsimp only at h)
  obtain ⟨e3, h_⟩ := if_then h
  clear h
  have h := h_
  clear h_
  subst e3
  obtain ⟨⟨m2, g1⟩, A11_, h_⟩ := Option.bind_eq_some_iff.mp h
  clear h
  have h := h_
  clear h_
  have A11 := Aside0.mk A11_
  clear A11_
  (try dsimp only at h A11)
  obtain ⟨q1, A12_, h_⟩ := Option.bind_eq_some_iff.mp h
  clear h
  have h := h_
  clear h_
  have A12 := Aside0.mk A12_
  clear A12_
  (try dsimp only at h)
  obtain ⟨n2, h_⟩ := if_else h
  clear h
  have h := h_
  clear h_
  obtain ⟨e4, h_⟩ := if_then h
  clear h
  have h := h_
  clear h_
  (try dsimp only at e4)
  subst e4
  have n2b : decide (q1 < 0) = false := decide_eq_false n2
  clear n2
  obtain ⟨p2, A13_, h_⟩ := Option.bind_eq_some_iff.mp h
  clear h
  have h := h_
  clear h_
  have A13 := Aside0.mk A13_
  clear A13_
  (try dsimp only at h)
  obtain ⟨h0, A14_, h_⟩ := Option.bind_eq_some_iff.mp h
  clear h
  have h := h_
  clear h_
  have A14 := Aside0.mk A14_
  clear A14_
  (try dsimp only at h)
  obtain ⟨b4, A15_, h_⟩ := Option.bind_eq_some_iff.mp h
  clear h
  have h := h_
  clear h_
  have A15 := Aside0.mk A15_
  clear A15_
  (try dsimp only at h)
  obtain ⟨e5, h_⟩ := if_then h
  clear h
  have h := h_
  clear h_
  subst e5
  obtain ⟨q2, A16_, h_⟩ := Option.bind_eq_some_iff.mp h
  clear h
  have h := h_
  clear h_
  have A16 := Aside0.mk A16_
  clear A16_
  (try dsimp only at h)
  obtain ⟨n3, h_⟩ := if_else h
  clear h
  have h := h_
  clear h_
  obtain ⟨e6, h_⟩ := if_then h
  clear h
  have h := h_
  clear h_
  (try dsimp only at e6)
  subst e6
  have n3b : decide (q2 < 0) = false := decide_eq_false n3
  clear n3
  obtain rfl := Option.some.inj h
  clear h
  go_enter Tryd.func3, Tryd.ntmps3
  go_wp2_with (first | (go_at_call 4; (with_reducible refine (laws_szKeptS.calls k _ _ l0 1048576 t _ ?side1 ?side2 A1.out).mono ?_); (case side1 => exact Kd.C_below HR.out HB.out); (case side2 => exact HC.out); rintro e w1 ⟨rfl, hb⟩; replace HB := Aside0.mk (below_step HB.out hb); clear hb; go_wp2_with (first | (go_at_call 6; (with_reducible refine (laws_toKeptS.calls k _ _ l0 p _ ?side1 ?side2 A2.out).mono ?_); (case side1 => exact Kd.C_below HR.out HB.out); (case side2 => exact HC.out); rintro e w2 ⟨v, rfl, hs, hb⟩; obtain ⟨Ap, cp, rfl⟩ := Kd.S_slice hs; have HP := Aside0.mk hs; replace HB := Aside0.mk (below_step HB.out hb); clear hb hs; go_wp2_with (first | (go_at_call 5; (with_reducible refine (spec_KeptFor.calls k (fun _ => True) _ _ p a1 q0 _ ?side1 A3.out).mono ?_); (case side1 => exact Kd.N_V (Kd.S_N HP.out)); rintro e w3 ⟨v, rfl, hs, hb⟩; obtain ⟨Aw, cw, rfl⟩ := Kd.S_slice hs; have HW := Aside0.mk (S_new hs HB.out.size); replace HB := Aside0.mk (below_step HB.out hb); clear hb hs HP; go_wp2_with (first | (go_at_call 6; (with_reducible refine (laws_toKeptS.calls k _ _ l0 x0 _ ?side1 ?side2 A4.out).mono ?_); (case side1 => exact Kd.C_below HR.out HB.out); (case side2 => exact HC.out); rintro e w4 ⟨v, rfl, hs, hb⟩; have O34 := Aside0.mk hb.size; obtain ⟨Ax, cx, rfl⟩ := Kd.S_slice hs; have HXr := Aside0.mk hs; have HX := Aside0.mk (S_new hs HB.out.size); replace HW := Aside0.mk (Kd.S_below HW.out hb); replace HB := Aside0.mk (below_step HB.out hb); clear hb hs; go_wp2_with (first | (go_at_call 7; (with_reducible refine (impl_KeptFor.calls k (fun _ => True) _ _ x0 a1 g0 _ ?side1 ?side2 A5.out).mono ?_); (case side1 => exact Kd.N_V (Kd.S_N HXr.out)); (case side2 => exact Tabs.below HT.out HB.out); rintro e w5 ⟨v, rfl, hs, hb⟩; obtain ⟨Ag, cg, rfl⟩ := Kd.S_slice hs; have HG := Aside0.mk (S_new hs HB.out.size); replace HW := Aside0.mk (Kd.S_below HW.out hb); replace HX := Aside0.mk (Kd.S_below HX.out hb); replace HB := Aside0.mk (below_step HB.out hb); clear hb hs HXr; go_wp2_with (first | (go_at_call 8; (with_reducible refine (laws_eqKeptS.calls k _ _ g0 _ _ q0 true _ ?side1 ?side2 ?side3 ?side4 A6.out).mono ?_); (case side1 => exact (Kd.S_reads' HG.out).2.2); (case side2 => exact (Kd.S_reads' HG.out).2.1); (case side3 => exact (Kd.S_reads' HW.out).2.2); (case side4 => exact (Kd.S_reads' HW.out).2.1); rintro e w6 ⟨rfl, hb⟩; replace HW := Aside0.mk (Kd.S_below HW.out hb); replace HX := Aside0.mk (Kd.S_below HX.out hb); replace HG := Aside0.mk (Kd.S_below HG.out hb); replace HB := Aside0.mk (below_step HB.out hb); clear hb; go_wp2_with (first | (go_at_call 6; (with_reducible refine (laws_toKeptS.calls k _ _ l0 y0 _ ?side1 ?side2 A7.out).mono ?_); (case side1 => exact Kd.C_below HR.out HB.out); (case side2 => exact HC.out); rintro e w7 ⟨v, rfl, hs, hb⟩; obtain ⟨Ay, cy, rfl⟩ := Kd.S_slice hs; have HY := Aside0.mk hs; replace HW := Aside0.mk (Kd.S_below HW.out hb); replace HX := Aside0.mk (Kd.S_below HX.out hb); replace HG := Aside0.mk (Kd.S_below HG.out hb); replace HB := Aside0.mk (below_step HB.out hb); clear hb hs; go_wp2_with (first | (go_at_call 8; (with_reducible refine (laws_eqKeptS.calls k _ _ x0 _ _ y0 true _ ?side1 ?side2 ?side3 ?side4 A8.out).mono ?_); (case side1 => exact (Kd.S_reads' HX.out).2.2); (case side2 => exact (Kd.S_reads' HX.out).2.1); (case side3 => exact (Kd.S_reads' HY.out).2.2); (case side4 => exact (Kd.S_reads' HY.out).2.1); rintro e w8 ⟨rfl, hb⟩; replace HW := Aside0.mk (Kd.S_below HW.out hb); replace HX := Aside0.mk (Kd.S_below HX.out hb); replace HG := Aside0.mk (Kd.S_below HG.out hb); replace HB := Aside0.mk (below_step HB.out hb); clear hb HY; go_wp2_with (first | (go_at_call 9; (with_reducible refine (laws_markKeptS.calls k _ _ x0 1 m1 x1 w _ HB.out HX.out A9.out).mono ?_); rintro e w9 ⟨rfl, hs, hb, hk⟩; replace HW := Aside0.mk (Kd.S_step HW.out (fun k_ h_ l_ => hk.2 k_ l_ (fun g_ => by have := O34.out; omega))); replace HG := Aside0.mk (Kd.S_step HG.out (fun k_ h_ l_ => hk.2 k_ l_ (fun g_ => by have := O34.out; omega))); replace HB := Aside0.mk hb; clear hs hb hk HX; go_wp2_with (first | (go_at_call 8; (with_reducible refine (laws_eqKeptS.calls k _ _ g0 _ _ q0 true _ ?side1 ?side2 ?side3 ?side4 A10.out).mono ?_); (case side1 => exact (Kd.S_reads' HG.out).2.2); (case side2 => exact (Kd.S_reads' HG.out).2.1); (case side3 => exact (Kd.S_reads' HW.out).2.2); (case side4 => exact (Kd.S_reads' HW.out).2.1); rintro e w10 ⟨rfl, hb⟩; replace HW := Aside0.mk (Kd.S_below HW.out hb); replace HG := Aside0.mk (Kd.S_below HG.out hb); replace HB := Aside0.mk (below_step HB.out hb); clear hb; go_wp2_with (first | (go_at_call 9; (with_reducible refine (laws_markKeptS.calls k _ _ g0 1 _ g1 w _ HB.out HG.out A11.out).mono ?_); rintro e w11 ⟨rfl, hs, hb, hk⟩; replace HW := Aside0.mk (Kd.S_step HW.out (fun k_ h_ l_ => hk.2 k_ l_ (fun g_ => by have := O34.out; omega))); replace HG := Aside0.mk hs; replace HB := Aside0.mk hb; clear hs hb hk; have L_ := (Kd.S_reads' HG.out).1; rw [L_] at HG; rw [L_]; clear L_; go_wp2_with (first | (go_at_call 10; (with_reducible refine (laws_heldKeptS.calls k _ _ g1 1 _ _ ?side1 ?side2 A12.out).mono ?_); (case side1 => exact (Kd.S_reads' HG.out).2.2); (case side2 => exact (Kd.S_reads' HG.out).2.1); rintro e w12 ⟨rfl, hb⟩; replace HW := Aside0.mk (Kd.S_below HW.out hb); replace HG := Aside0.mk (Kd.S_below HG.out hb); replace HB := Aside0.mk (below_step HB.out hb); clear hb; go_wp2_with (first | (go_at_call 6; (with_reducible refine (laws_toKeptS.calls k _ _ l0 p2 _ ?side1 ?side2 A13.out).mono ?_); (case side1 => exact Kd.C_below HR.out HB.out); (case side2 => exact HC.out); rintro e w13 ⟨v, rfl, hs, hb⟩; obtain ⟨Ap2, cp2, rfl⟩ := Kd.S_slice hs; have HP := Aside0.mk hs; replace HW := Aside0.mk (Kd.S_below HW.out hb); replace HG := Aside0.mk (Kd.S_below HG.out hb); replace HB := Aside0.mk (below_step HB.out hb); clear hb hs; go_wp2_with (first | (go_at_call 7; (with_reducible refine (impl_KeptFor.calls k (fun _ => True) _ _ p2 a1 h0 _ ?side1 ?side2 A14.out).mono ?_); (case side1 => exact Kd.N_V (Kd.S_N HP.out)); (case side2 => exact Tabs.below HT.out HB.out); rintro e w14 ⟨v, rfl, hs, hb⟩; obtain ⟨Ah, ch, rfl⟩ := Kd.S_slice hs; have HH := Aside0.mk hs; replace HW := Aside0.mk (Kd.S_below HW.out hb); replace HG := Aside0.mk (Kd.S_below HG.out hb); replace HB := Aside0.mk (below_step HB.out hb); clear hb hs HP; go_wp2_with (first | (go_at_call 8; (with_reducible refine (laws_eqKeptS.calls k _ _ h0 _ _ q0 true _ ?side1 ?side2 ?side3 ?side4 A15.out).mono ?_); (case side1 => exact (Kd.S_reads' HH.out).2.2); (case side2 => exact (Kd.S_reads' HH.out).2.1); (case side3 => exact (Kd.S_reads' HW.out).2.2); (case side4 => exact (Kd.S_reads' HW.out).2.1); rintro e w15 ⟨rfl, hb⟩; replace HW := Aside0.mk (Kd.S_below HW.out hb); replace HG := Aside0.mk (Kd.S_below HG.out hb); replace HB := Aside0.mk (below_step HB.out hb); clear hb HH; go_wp2_with (first | (go_at_call 10; (with_reducible refine (laws_heldKeptS.calls k _ _ g1 1 _ _ ?side1 ?side2 A16.out).mono ?_); (case side1 => exact (Kd.S_reads' HG.out).2.2); (case side2 => exact (Kd.S_reads' HG.out).2.1); rintro e w16 ⟨rfl, hb⟩; replace HW := Aside0.mk (Kd.S_below HW.out hb); replace HG := Aside0.mk (Kd.S_below HG.out hb); replace HB := Aside0.mk (below_step HB.out hb); clear hb; (try go_wp2); go_ret; exact ⟨by first | rfl | (simp; done), HB.out⟩))))))))))))))))))))))))))))))))
end Go.Proofs.YtklppdalaoafjaaDoor.P
