/- Trees that are written: a kind for Node whose rows lie apart at all depths; laws.markNodeS, laws.markNode told by hand. -/
import Derived.Test.YtggokdobijhdhaaDoorL10
import Derived.Test.YtggokdobijhdhaaDoorL11
import Derived.Test.YtggokdobijhdhaaDoorL12
import Derived.Test.YtggokdobijhdhaaDoorL13
import Derived.Test.YtggokdobijhdhaaDoorL14
import Derived.Test.YtggokdobijhdhaaDoorL5
import Derived.Test.YtggokdobijhdhaaDoorM1
import Derived.Test.YtggokdobijhdhaaDoorM2
import Derived.Test.YtggokdobijhdhaaDoorM3
import Derived.Test.YtggokdobijhdhaaDoorPx0
import Derived.Test.YtggokdobijhdhaaDoorPx10
import Derived.Test.YtggokdobijhdhaaDoorPx22
import Derived.Test.YtggokdobijhdhaaDoorPx31
import Derived.Test.YtggokdobijhdhaaDoorPx33
import Derived.Test.YtggokdobijhdhaaDoorPx34
import Derived.Test.YtggokdobijhdhaaDoorS
import Derived.Test.YtggokdobijhdhaaDoorX1
import Derived.Test.YtggokdobijhdhaaDoorL10
import Derived.Test.YtggokdobijhdhaaDoorL11
import Derived.Test.YtggokdobijhdhaaDoorL12
import Derived.Test.YtggokdobijhdhaaDoorL13
import Derived.Test.YtggokdobijhdhaaDoorL14
import Derived.Test.YtggokdobijhdhaaDoorL5
import Derived.Test.YtggokdobijhdhaaDoorM1
import Derived.Test.YtggokdobijhdhaaDoorM2
import Derived.Test.YtggokdobijhdhaaDoorM3
import Derived.Test.YtggokdobijhdhaaDoorS
import Derived.Test.YtggokdobijhdhaaDoorX1
namespace Go.Proofs.YtggokdobijhdhaaDoor.P
open Go.RowKit Go.Proofs.YtggokdobijhdhaaDoor.X Go.Proofs.YtggokdobijhdhaaDoorW.PrintWords Go.Proofs.YtggokdobijhdhaaDoorW.PrintLast Go.Proofs.YtggokdobijhdhaaDoorW.PrintMore
set_option linter.unusedVariables false
set_option linter.unusedSimpArgs false
theorem b3_ {w : World} {g ty : Nat} {x0 x1 x2 : Value} (E : Aside0 (w.heap[g]? = some (.cells #[x0, x1, x2] ty (0, 0)))) : w.cell? ⟨g, 0, none⟩ = some x0 ∧ w.cell? ⟨g, 1, none⟩ = some x1 ∧ w.cell? ⟨g, 2, none⟩ = some x2 := ⟨bc_ E 0, bc_ E 1, bc_ E 2⟩
theorem if_thenE {α : Type} {c : Prop} [Decidable c] {x : Option α} {r : α} (h : (if c then x else none) = some r) : c ∧ x = some r := by
  by_cases q : c
  · rw [if_pos q] at h; exact ⟨q, h⟩
  · rw [if_neg q] at h; cases h
def laws_FnExactEntries.f (k : Nat) (ns0 : List ByteArray) (ks0 : List S26) (ss0 : List S83) : Option Bool := (laws_szNode.f k ns0 ks0 ss0 1048576).bind fun t => if t < 0 then some true else ((laws_toNode.f k ns0 ks0 ss0).bind fun x => (spec_Entries.f k x.1 x.2.1 x.2.2).bind fun u => (impl_Entries.f k x.1 x.2.1 x.2.2).bind fun g => (laws_eqEntryS.f k g u).bind fun b1 => if b1 = true then ((laws_eqNode.f k x.1 x.2.1 x.2.2 x.1 x.2.1 x.2.2).bind fun b2 => if b2 = true then ((laws_markNode.f k x.1 x.2.1 x.2.2 1).bind fun m => if 0 ≤ m.1 then ((laws_markEntryS.f k g 1).bind fun e => (laws_heldEntryS.f k e.2 1).bind fun q => if 0 ≤ q then (if q = e.1 then some true else none) else none) else none) else none) else none)
set_option maxHeartbeats 8000000 in
set_option maxRecDepth 100000 in
theorem laws_FnExactEntries.calls (k : Nat) (A01 : Option Addr) (c01 : Nat) (ns0 : List ByteArray) (A02 : Option Addr) (c02 : Nat) (ks0 : List S26) (A03 : Option Addr) (c03 : Nat) (ss0 : List S83) (r : Bool) (w : World) (hr01 : Kd.C Kd.string w A01 ns0.length ns0) (hc01 : ns0.length ≤ c01) (hr02 : Kd.C k26 w A02 ks0.length ks0) (hc02 : ks0.length ≤ c02) (hr03 : Kd.C k83 w A03 ss0.length ss0) (hc03 : ss0.length ≤ c03) (hT : Tabs w) (h : laws_FnExactEntries.f k ns0 ks0 ss0 = some r) :
    Calls Tryd.prog 3 #[.agg #[.slice A01 ns0.length c01, .slice A02 ks0.length c02, .slice A03 ss0.length c03]] w fun e w' => e = .returned (.bool r) ∧ Below w.heap.size w w' := by
  have hu1 := Tryd.underlying26
  have hu2 := Tryd.underlying33
  have HR01 := Aside0.mk hr01
  have HC01 := Aside0.mk hc01
  have HR02 := Aside0.mk hr02
  have HC02 := Aside0.mk hc02
  have HR03 := Aside0.mk hr03
  have HC03 := Aside0.mk hc03
  have HT := Aside0.mk hT
  have HB := Aside0.mk (Below.refl w.heap.size w)
  clear hr01 hc01 hr02 hc02 hr03 hc03 hT
  unfold laws_FnExactEntries.f at h
  obtain ⟨t, F1_, h_⟩ := Option.bind_eq_some_iff.mp h
  clear h
  have h := h_
  clear h_
  (try dsimp only at h F1_)
  have F1 := Aside0.mk F1_
  clear F1_
  by_cases c2 : t < 0
  · rw [if_pos c2] at h
    have c2b : decide (t < 0) = true := decide_eq_true c2
    obtain rfl := Option.some.inj h
    clear c2 h
    go_enter Tryd.func3, Tryd.ntmps3
    go_wp2_with (first | ((with_reducible refine gate_dst (N := 1) rfl ?_); refine box_event ?hg (N := 1) ?hd (cs := #[.slice A01 ns0.length c01, .slice A02 ks0.length c02, .slice A03 ss0.length c03]) (t := 26) ?hr ?_; (case hd => rfl); (case hg => rfl); (case hr => first | (go_simp; done) | (go_simp; rfl)); intro g_a hg w1 hx hb; replace HB := bw_ hb; have B_a := Aside0.mk hx; have h_a := b3_ B_a; clear hx hb hg) | (go_at_call 6; refine (laws_szNode.calls k _ _ ns0 _ _ ks0 _ _ ss0 1048576 t _ (Kd.C_below HR01.out HB.out) HC01.out (Kd.C_below HR02.out HB.out) HC02.out (Kd.C_below HR03.out HB.out) HC03.out F1.out).mono ?_; rintro e w2 ⟨rfl, hb⟩; replace HB := bw_ hb; replace B_a := kb_ B_a hb; replace h_a := b3_ B_a; clear hb))
    go_ret
    exact ⟨by first | rfl | (simp; done), HB.out⟩
  rw [if_neg c2] at h
  have c2b : decide (t < 0) = false := decide_eq_false c2
  clear c2
  obtain ⟨⟨x1, x2, x3⟩, F2_, h_⟩ := Option.bind_eq_some_iff.mp h
  clear h
  have h := h_
  clear h_
  (try dsimp only at h F2_)
  have F2 := Aside0.mk F2_
  clear F2_
  obtain ⟨u, F3_, h_⟩ := Option.bind_eq_some_iff.mp h
  clear h
  have h := h_
  clear h_
  (try dsimp only at h F3_)
  have F3 := Aside0.mk F3_
  clear F3_
  obtain ⟨g, F4_, h_⟩ := Option.bind_eq_some_iff.mp h
  clear h
  have h := h_
  clear h_
  (try dsimp only at h F4_)
  have F4 := Aside0.mk F4_
  clear F4_
  obtain ⟨b1, F5_, h_⟩ := Option.bind_eq_some_iff.mp h
  clear h
  have h := h_
  clear h_
  (try dsimp only at h F5_)
  have F5 := Aside0.mk F5_
  clear F5_
  obtain ⟨e1, h_⟩ := if_thenE h
  clear h
  have h := h_
  clear h_
  (try dsimp only at h e1)
  subst e1
  obtain ⟨b2, F6_, h_⟩ := Option.bind_eq_some_iff.mp h
  clear h
  have h := h_
  clear h_
  (try dsimp only at h F6_)
  have F6 := Aside0.mk F6_
  clear F6_
  obtain ⟨e2, h_⟩ := if_thenE h
  clear h
  have h := h_
  clear h_
  (try dsimp only at h e2)
  subst e2
  obtain ⟨⟨m1, m2⟩, F7_, h_⟩ := Option.bind_eq_some_iff.mp h
  clear h
  have h := h_
  clear h_
  (try dsimp only at h F7_)
  have F7 := Aside0.mk F7_
  clear F7_
  obtain ⟨e3, h_⟩ := if_thenE h
  clear h
  have h := h_
  clear h_
  (try dsimp only at h e3)
  have c3b : decide (m1 < 0) = false := decide_eq_false (by omega)
  clear e3
  obtain ⟨⟨e1, e2⟩, F8_, h_⟩ := Option.bind_eq_some_iff.mp h
  clear h
  have h := h_
  clear h_
  (try dsimp only at h F8_)
  have F8 := Aside0.mk F8_
  clear F8_
  obtain ⟨q, F9_, h_⟩ := Option.bind_eq_some_iff.mp h
  clear h
  have h := h_
  clear h_
  (try dsimp only at h F9_)
  have F9 := Aside0.mk F9_
  clear F9_
  obtain ⟨e4, h_⟩ := if_thenE h
  clear h
  have h := h_
  clear h_
  (try dsimp only at h e4)
  have c4b : decide (q < 0) = false := decide_eq_false (by omega)
  clear e4
  obtain ⟨e5, h_⟩ := if_thenE h
  clear h
  have h := h_
  clear h_
  (try dsimp only at h e5)
  subst e5
  obtain rfl := Option.some.inj h
  clear h
  obtain ⟨y1, y2, y3⟩ := m2
  have F7' := Aside0.mk (show laws_markNode.f k (⟨x1, x2, x3⟩ : S33).f0 (⟨x1, x2, x3⟩ : S33).f1 (⟨x1, x2, x3⟩ : S33).f2 1 = some (m1, y1, y2, y3) from F7.out)
  go_enter Tryd.func3, Tryd.ntmps3
  go_upto_region 6 with (first | ((with_reducible refine gate_dst (N := 1) rfl ?_); refine box_event ?hg (N := 1) ?hd (cs := #[.slice A01 ns0.length c01, .slice A02 ks0.length c02, .slice A03 ss0.length c03]) (t := 26) ?hr ?_; (case hd => rfl); (case hg => rfl); (case hr => first | (go_simp; done) | (go_simp; rfl)); intro g_a hg w1 hx hb; replace HB := bw_ hb; have B_a := Aside0.mk hx; have h_a := b3_ B_a; clear hx hb hg) | (go_at_call 6; refine (laws_szNode.calls k _ _ ns0 _ _ ks0 _ _ ss0 1048576 t _ (Kd.C_below HR01.out HB.out) HC01.out (Kd.C_below HR02.out HB.out) HC02.out (Kd.C_below HR03.out HB.out) HC03.out F1.out).mono ?_; rintro e w2 ⟨rfl, hb⟩; replace HB := bw_ hb; replace B_a := kb_ B_a hb; replace h_a := b3_ B_a; clear hb) | (go_at_call 8; refine (laws_toNode.apart k _ _ ns0 _ _ ks0 _ _ ss0 x1 x2 x3 _ (Kd.C_below HR01.out HB.out) HC01.out (Kd.C_below HR02.out HB.out) HC02.out (Kd.C_below HR03.out HB.out) HC03.out F2.out).mono ?_; rintro e w3 ⟨u1_, u2_, u3_, rfl, s1, s2, s3, hb⟩; replace HB := bw_ hb; replace B_a := kb_ B_a hb; replace h_a := b3_ B_a; obtain ⟨Ap1, cp1, rfl⟩ := Kd.R_slice s1; obtain ⟨Ap2, cp2, rfl⟩ := Kd.S_slice s2; obtain ⟨Ap3, cp3, rfl⟩ := Kd.R_slice s3; have Hp := Aside0.mk (And.intro (Kd.R_reads' s1) (And.intro (Kd.S_reads' s2) (Kd.R_reads' s3))); have Bp := Aside0.mk (Below.refl w3.heap.size w3); clear hb s1 s2 s3) | (go_at_call 7; refine (spec_Entries.calls k _ _ x1 _ _ x2 _ _ x3 u _ (Kd.C_below Hp.out.1.2.2 Bp.out) Hp.out.1.2.1 (Kd.C_below (kT_C Hp.out.2.1.2.2) Bp.out) Hp.out.2.1.2.1 (Kd.C_below Hp.out.2.2.2.2 Bp.out) Hp.out.2.2.2.1 F3.out).mono ?_; rintro e w4 ⟨u1_, rfl, s1, hb⟩; have s2 := Kd.R_bound s1; replace HB := bw_ hb; replace B_a := kb_ B_a hb; replace h_a := b3_ B_a; obtain ⟨Au, cu, rfl⟩ := Kd.R_slice s1; have HU := Aside0.mk (Kd.R_reads' s1); have HB4 := HB; have B_a4 := B_a; have B4 := Aside0.mk (Below.refl w4.heap.size w4); clear HB hb s1 s2))
  clear Hp Bp
  go_upto_region 10 with (first | (go_at_call 8; refine (laws_toNode.apart k _ _ ns0 _ _ ks0 _ _ ss0 x1 x2 x3 _ (Kd.C_below HR01.out (below_step HB4.out B4.out)) HC01.out (Kd.C_below HR02.out (below_step HB4.out B4.out)) HC02.out (Kd.C_below HR03.out (below_step HB4.out B4.out)) HC03.out F2.out).mono ?_; rintro e w5 ⟨u1_, u2_, u3_, rfl, s1, s2, s3, hb⟩; replace B4 := Aside0.mk (below_step B4.out hb); replace B_a := Aside0.mk (blk_below B_a4.out B4.out); replace h_a := b3_ B_a; obtain ⟨Ax1, cx1, rfl⟩ := Kd.R_slice s1; obtain ⟨Ax2, cx2, rfl⟩ := Kd.S_slice s2; obtain ⟨Ax3, cx3, rfl⟩ := Kd.R_slice s3; have Hx := Aside0.mk (And.intro (Kd.R_reads' s1) (And.intro (Kd.S_reads' s2) (Kd.R_reads' s3))); have Bx := Aside0.mk (Below.refl w5.heap.size w5); have HX := Aside0.mk (kT.M_mono (ok' := fun k => w4.heap.size ≤ k ∧ k < w5.heap.size) (fun k hk => ⟨hk.2.1, hk.2.2.1⟩) (kT.M_bound (kT_three ⟨x1, x2, x3⟩ s1 s2 s3))); clear hb s1 s2 s3) | ((with_reducible refine gate_dst (N := 5) rfl ?_); refine box_event ?hg (N := 5) ?hd (cs := #[.slice none 0 0, .slice none 0 0, .slice none 0 0]) (t := 33) ?hr ?_; (case hd => rfl); (case hg => rfl); (case hr => first | (go_simp; done) | (go_simp; rfl)); intro g_x hg w6 hx hb; have D_4 := Aside0.mk (Nat.le_trans B4.out.size (Nat.le_of_eq hg.symm)); have D_x := Aside0.mk (Nat.le_trans Bx.out.size (Nat.le_of_eq hg.symm)); replace B4 := Aside0.mk (below_step B4.out hb); replace B_a := Aside0.mk (blk_below B_a4.out B4.out); replace h_a := b3_ B_a; replace Bx := Aside0.mk (below_step Bx.out hb); have B_x := Aside0.mk hx; clear hx hb hg) | ((with_reducible refine gate_store (t := 33) (p := 5) rfl ?_); refine box_store rfl rfl _ _ _ rfl [.slice Ax1 x1.length cx1, .slice Ax2 x2.length cx2, .slice Ax3 x3.length cx3] ?ha ?hx (by kernel_rfl) ?h1 (by simp [Value.cells]) B_x.out rfl ?_; (case ha => rfl); (case hx => rfl); (case h1 => (intro q hq; simp only [List.mem_cons, List.not_mem_nil, or_false] at hq; rcases hq with rfl | rfl | rfl <;> rfl)); intro w7 hs hg; replace B4 := Aside0.mk (below_far B4.out hg D_4.out); replace Bx := Aside0.mk (below_far Bx.out hg D_x.out); replace B_a := Aside0.mk (blk_below B_a4.out B4.out); replace h_a := b3_ B_a; replace B_x := Aside0.mk hs; have h_x := b3_ B_x; clear hs hg) | (go_at_call 9; refine (impl_Entries.calls k _ _ x1 _ _ x2 _ _ x3 g _ (Kd.C_below Hx.out.1.2.2 Bx.out) Hx.out.1.2.1 (Kd.C_below (kT_C Hx.out.2.1.2.2) Bx.out) Hx.out.2.1.2.1 (Kd.C_below Hx.out.2.2.2.2 Bx.out) Hx.out.2.2.2.1 (Tabs.below HT.out (below_step HB4.out B4.out)) F4.out).mono ?_; rintro e w8 ⟨u1_, rfl, s1, hb⟩; have S57 := Aside0.mk Bx.out.size; have S47 := Aside0.mk B4.out.size; replace B4 := Aside0.mk (below_step B4.out hb); replace B_a := Aside0.mk (blk_below B_a4.out B4.out); replace h_a := b3_ B_a; replace Bx := Aside0.mk (below_step Bx.out hb); replace B_x := kb_ B_x hb; replace h_x := b3_ B_x; obtain ⟨Ag, cg, rfl⟩ := Kd.R_slice s1; have HG := Aside0.mk (Kd.R_mono (ok' := fun k => w7.heap.size ≤ k) (Kd.R_bound s1) (fun k hk => hk.2.1)); have Bg := Aside0.mk (Below.refl w8.heap.size w8); clear hb s1) | (go_at_call 10; refine (laws_eqEntryS.calls k _ _ g _ _ u true _ (Kd.C_below (Kd.R_reads' HG.out).2.2 Bg.out) (Kd.R_reads' HG.out).2.1 (Kd.C_below HU.out.2.2 B4.out) HU.out.2.1 F5.out).mono ?_; rintro e w9 ⟨rfl, hb⟩; replace B4 := Aside0.mk (below_step B4.out hb); replace B_a := Aside0.mk (blk_below B_a4.out B4.out); replace h_a := b3_ B_a; replace Bx := Aside0.mk (below_step Bx.out hb); replace Bg := Aside0.mk (below_step Bg.out hb); replace B_x := kb_ B_x hb; replace h_x := b3_ B_x; clear hb))
  replace B4 := Aside0.mk (below_drew1 B4.out)
  replace Bx := Aside0.mk (below_drew1 Bx.out)
  replace Bg := Aside0.mk (below_drew1 Bg.out)
  replace B_a := Aside0.mk (blk_drew B_a.out)
  replace B_x := Aside0.mk (blk_drew B_x.out)
  clear h_a h_x
  refine qs_ (S := fun w' => w'.cell? ⟨g_x, 0, none⟩ = some (.slice Ax1 x1.length cx1) ∧ w'.cell? ⟨g_x, 1, none⟩ = some (.slice Ax2 x2.length cx2) ∧ w'.cell? ⟨g_x, 2, none⟩ = some (.slice Ax3 x3.length cx3) ∧ w'.cell? ⟨g_a, 0, none⟩ = some (.slice A01 ns0.length c01) ∧ w'.cell? ⟨g_a, 1, none⟩ = some (.slice A02 ks0.length c02) ∧ w'.cell? ⟨g_a, 2, none⟩ = some (.slice A03 ss0.length c03)) ⟨bc_ B_x 0, bc_ B_x 1, bc_ B_x 2, bc_ B_a 0, bc_ B_a 1, bc_ B_a 2⟩ (fun hHeld => ?_)
  generalize World.drew _ = wd at B4 Bx Bg B_a B_x hHeld ⊢
  refine qt_ hHeld 0 ?_
  refine qt_ hHeld 1 ?_
  refine qo_ 2 (fun K hK => ?_)
  refine goes_ Tryd.func8 (by kernel_rfl) rfl #[.agg #[.slice A01 ns0.length c01, .slice A02 ks0.length c02, .slice A03 ss0.length c03]] (by rfl) rfl rfl ar_ ?_
  refine (laws_toNode.apart k _ _ ns0 _ _ ks0 _ _ ss0 x1 x2 x3 _ (Kd.C_below HR01.out (below_step HB4.out B4.out)) HC01.out (Kd.C_below HR02.out (below_step HB4.out B4.out)) HC02.out (Kd.C_below HR03.out (below_step HB4.out B4.out)) HC03.out F2.out).mono ?_
  rintro e w10 ⟨u1_, u2_, u3_, rfl, s1, s2, s3, hb⟩
  refine ⟨_, rfl, ?_⟩
  replace B4 := Aside0.mk (below_step B4.out hb)
  replace B_a := Aside0.mk (blk_below B_a4.out B4.out)
  replace Bx := Aside0.mk (below_step Bx.out hb)
  replace Bg := Aside0.mk (below_step Bg.out hb)
  replace B_x := kb_ B_x hb
  obtain ⟨Ay1, cy1, rfl⟩ := Kd.R_slice s1
  obtain ⟨Ay2, cy2, rfl⟩ := Kd.S_slice s2
  obtain ⟨Ay3, cy3, rfl⟩ := Kd.R_slice s3
  have Hy := Aside0.mk (And.intro (Kd.R_reads' s1) (And.intro (Kd.S_reads' s2) (Kd.R_reads' s3)))
  have By := Aside0.mk (Below.refl w10.heap.size w10)
  clear hb s1 s2 s3
  refine hK.out _ _ ⟨bc_ B_x 0, bc_ B_x 1, bc_ B_x 2, bc_ B_a 0, bc_ B_a 1, bc_ B_a 2⟩ (fun hHeld => ?_)
  clear hK K
  refine nm_ 29 ?_
  refine qo_ 3 (fun K hK => ?_)
  refine goes_ Tryd.func11 (by kernel_rfl) rfl #[.agg #[.slice Ax1 x1.length cx1, .slice Ax2 x2.length cx2, .slice Ax3 x3.length cx3], .agg #[.slice Ay1 x1.length cy1, .slice Ay2 x2.length cy2, .slice Ay3 x3.length cy3]] (by rfl) rfl rfl ar_ ?_
  refine (laws_eqNode.calls k _ _ x1 _ _ x2 _ _ x3 _ _ x1 _ _ x2 _ _ x3 true _ (Kd.C_below Hx.out.1.2.2 Bx.out) Hx.out.1.2.1 (Kd.C_below (kT_C Hx.out.2.1.2.2) Bx.out) Hx.out.2.1.2.1 (Kd.C_below Hx.out.2.2.2.2 Bx.out) Hx.out.2.2.2.1 (Kd.C_below Hy.out.1.2.2 By.out) Hy.out.1.2.1 (Kd.C_below (kT_C Hy.out.2.1.2.2) By.out) Hy.out.2.1.2.1 (Kd.C_below Hy.out.2.2.2.2 By.out) Hy.out.2.2.2.1 F6.out).mono ?_
  rintro e w11 ⟨rfl, hb⟩
  refine ⟨_, rfl, ?_⟩
  replace B4 := Aside0.mk (below_step B4.out hb)
  replace B_a := Aside0.mk (blk_below B_a4.out B4.out)
  replace Bx := Aside0.mk (below_step Bx.out hb)
  replace Bg := Aside0.mk (below_step Bg.out hb)
  replace B_x := kb_ B_x hb
  clear hb Hy By
  refine hK.out _ _ ⟨bc_ B_x 0, bc_ B_x 1, bc_ B_x 2, bc_ B_a 0, bc_ B_a 1, bc_ B_a 2⟩ (fun hHeld => ?_)
  clear hK K
  refine nm_ 30 ?_
  refine qp_ 4 ?_
  refine done_ (by kernel_rfl) ?_
  have h_a := b3_ B_a
  have h_x := b3_ B_x
  go_upto_region 20 with (first | (go_at_call 12; refine (laws_markNode.calls k (fun k => w4.heap.size ≤ k ∧ k < w5.heap.size) ⟨x1, x2, x3⟩ _ _ _ 1 m1 y1 y2 y3 w4 _ B4.out (kT.M_move (fun k hk => Bx.out.block k hk.2) HX.out) F7'.out).mono ?_; rintro e w12 ⟨rfl, s1, hb, hk⟩; have HG' := Aside0.mk (Kd.R_step (Kd.R_below HG.out Bg.out) (fun k h_ l_ => hk.2 k l_ (fun z_ => by have := S57.out; have := z_.2; omega))); have B4' := Aside0.mk hb; clear HX Hx Bx B_x h_x B4 B_a h_a HG Bg s1 hb hk; have HG := HG'; have B4 := B4'; clear HG' B4'; have B_a := Aside0.mk (blk_below B_a4.out B4.out); have h_a := b3_ B_a; have Bg := Aside0.mk (Below.refl w12.heap.size w12)) | (go_at_call 10; refine (laws_eqEntryS.calls k _ _ g _ _ u true _ (Kd.C_below (Kd.R_reads' HG.out).2.2 Bg.out) (Kd.R_reads' HG.out).2.1 (Kd.C_below HU.out.2.2 B4.out) HU.out.2.1 F5.out).mono ?_; rintro e w13 ⟨rfl, hb⟩; replace B4 := Aside0.mk (below_step B4.out hb); replace B_a := Aside0.mk (blk_below B_a4.out B4.out); replace h_a := b3_ B_a; replace Bg := Aside0.mk (below_step Bg.out hb); clear hb) | (go_at_call 13; refine (laws_markEntryS.calls k (fun k => w7.heap.size ≤ k) _ g 1 q e2 w4 _ B4.out (Kd.R_lower (Kd.R_below HG.out Bg.out) S47.out) F8.out).mono ?_; rintro e w14 ⟨rfl, s1, hb, hk⟩; have B4' := Aside0.mk hb; clear B4 B_a h_a HG Bg hb hk; have B4 := B4'; clear B4'; have B_a := Aside0.mk (blk_below B_a4.out B4.out); have h_a := b3_ B_a; have EL := Kd.R_reads' s1; have HM := Aside0.mk EL; have Bm := Aside0.mk (Below.refl w14.heap.size w14); clear s1 EL) | (go_at_call 14; rw [HM.out.1]; refine (laws_heldEntryS.calls k _ _ e2 1 q _ (Kd.C_below HM.out.2.2 Bm.out) (by rw [← HM.out.1]; exact HM.out.2.1) F9.out).mono ?_; rintro e w15 ⟨rfl, hb⟩; replace B4 := Aside0.mk (below_step B4.out hb); replace B_a := Aside0.mk (blk_below B_a4.out B4.out); replace h_a := b3_ B_a; replace Bm := Aside0.mk (below_step Bm.out hb); clear hb))
  go_wp2_with (first | (go_at_call 8; refine (laws_toNode.apart k _ _ ns0 _ _ ks0 _ _ ss0 x1 x2 x3 _ (Kd.C_below HR01.out (below_step HB4.out B4.out)) HC01.out (Kd.C_below HR02.out (below_step HB4.out B4.out)) HC02.out (Kd.C_below HR03.out (below_step HB4.out B4.out)) HC03.out F2.out).mono ?_; rintro e w16 ⟨u1_, u2_, u3_, rfl, s1, s2, s3, hb⟩; replace B4 := Aside0.mk (below_step B4.out hb); replace B_a := Aside0.mk (blk_below B_a4.out B4.out); replace h_a := b3_ B_a; replace Bm := Aside0.mk (below_step Bm.out hb); obtain ⟨Az1, cz1, rfl⟩ := Kd.R_slice s1; obtain ⟨Az2, cz2, rfl⟩ := Kd.S_slice s2; obtain ⟨Az3, cz3, rfl⟩ := Kd.R_slice s3; have Hz := Aside0.mk (And.intro (Kd.R_reads' s1) (And.intro (Kd.S_reads' s2) (Kd.R_reads' s3))); have Bz := Aside0.mk (Below.refl w16.heap.size w16); clear hb s1 s2 s3) | (go_at_call 9; refine (impl_Entries.calls k _ _ x1 _ _ x2 _ _ x3 g _ (Kd.C_below Hz.out.1.2.2 Bz.out) Hz.out.1.2.1 (Kd.C_below (kT_C Hz.out.2.1.2.2) Bz.out) Hz.out.2.1.2.1 (Kd.C_below Hz.out.2.2.2.2 Bz.out) Hz.out.2.2.2.1 (Tabs.below HT.out (below_step HB4.out B4.out)) F4.out).mono ?_; rintro e w17 ⟨u1_, rfl, s1, hb⟩; replace B4 := Aside0.mk (below_step B4.out hb); replace B_a := Aside0.mk (blk_below B_a4.out B4.out); replace h_a := b3_ B_a; replace Bm := Aside0.mk (below_step Bm.out hb); obtain ⟨Ah, ch, rfl⟩ := Kd.R_slice s1; have HH := Aside0.mk (Kd.R_reads' s1); have Bh := Aside0.mk (Below.refl w17.heap.size w17); clear hb s1) | (go_at_call 10; refine (laws_eqEntryS.calls k _ _ g _ _ u true _ (Kd.C_below HH.out.2.2 Bh.out) HH.out.2.1 (Kd.C_below HU.out.2.2 B4.out) HU.out.2.1 F5.out).mono ?_; rintro e w18 ⟨rfl, hb⟩; replace B4 := Aside0.mk (below_step B4.out hb); replace B_a := Aside0.mk (blk_below B_a4.out B4.out); replace h_a := b3_ B_a; replace Bm := Aside0.mk (below_step Bm.out hb); clear hb) | (go_at_call 14; rw [HM.out.1]; refine (laws_heldEntryS.calls k _ _ e2 1 q _ (Kd.C_below HM.out.2.2 Bm.out) (by rw [← HM.out.1]; exact HM.out.2.1) F9.out).mono ?_; rintro e w19 ⟨rfl, hb⟩; replace B4 := Aside0.mk (below_step B4.out hb); replace B_a := Aside0.mk (blk_below B_a4.out B4.out); replace h_a := b3_ B_a; replace Bm := Aside0.mk (below_step Bm.out hb); clear hb))
  go_ret
  exact ⟨by first | rfl | (simp; done), (below_step HB4.out B4.out)⟩
end Go.Proofs.YtggokdobijhdhaaDoor.P
