/- Boxes that are written whole; slices.EqualFunc over what is kept; impl.SameRoot; the law FnExactSameRoot's walk: what each Go function answers is what the plain function answers. -/
import Derived.Laws.Cover1
import Derived.Test.YtggokdobijhdhaaDoorL5
import Derived.Test.YtggokdobijhdhaaDoorL7
import Derived.Test.YtggokdobijhdhaaDoorL8
import Derived.Test.YtggokdobijhdhaaDoorPx0
import Derived.Test.YtggokdobijhdhaaDoorPx13
import Derived.Test.YtggokdobijhdhaaDoorPx27
import Derived.Test.YtggokdobijhdhaaDoorPx29
import Derived.Test.YtggokdobijhdhaaDoorPx3
import Derived.Test.YtggokdobijhdhaaDoorS
import Derived.Test.YtggokdobijhdhaaDoorX1
import Derived.Test.YtggokdobijhdhaaDoorL5
import Derived.Test.YtggokdobijhdhaaDoorL7
import Derived.Test.YtggokdobijhdhaaDoorL8
import Derived.Test.YtggokdobijhdhaaDoorS
import Derived.Test.YtggokdobijhdhaaDoorX1
namespace Go.Proofs.YtggokdobijhdhaaDoor.P
open Go.RowKit Go.Proofs.YtggokdobijhdhaaDoor.X Go.Proofs.YtggokdobijhdhaaDoorW.PrintWords Go.Proofs.YtggokdobijhdhaaDoorW.PrintLast Go.Proofs.YtggokdobijhdhaaDoorW.PrintMore
set_option linter.unusedVariables false
set_option linter.unusedSimpArgs false
def laws_FnExactSameRoot.f (k : Nat) (v0 : Int) (ns0 : List ByteArray) (ks0 : List S26) (ss0 : List S83) (kp0 : List S92) (v1 : Int) (ns1 : List ByteArray) (ks1 : List S26) (ss1 : List S83) (kp1 : List S92) : Option Bool := (laws_szRoot.f k v0 ns0 ks0 ss0 kp0 1048576).bind fun t => if t < 0 then some true else ((laws_szRoot.f k v1 ns1 ks1 ss1 kp1 t).bind fun s => if s < 0 then some true else ((laws_toRoot.f k v0 ns0 ks0 ss0 kp0).bind fun p => (laws_toRoot.f k v1 ns1 ks1 ss1 kp1).bind fun r => (spec_SameRoot.f k p.1 p.2.1 p.2.2.1 p.2.2.2.1 p.2.2.2.2 r.1 r.2.1 r.2.2.1 r.2.2.2.1 r.2.2.2.2).bind fun q => (laws_toRoot.f k v0 ns0 ks0 ss0 kp0).bind fun x => (laws_toRoot.f k v1 ns1 ks1 ss1 kp1).bind fun z => (impl_SameRoot.f k x.1 x.2.1 x.2.2.1 x.2.2.2.1 x.2.2.2.2 z.1 z.2.1 z.2.2.1 z.2.2.2.1 z.2.2.2.2).bind fun g => if g = q then ((laws_toRoot.f k v0 ns0 ks0 ss0 kp0).bind fun y => (laws_eqRoot.f k x.1 x.2.1 x.2.2.1 x.2.2.2.1 x.2.2.2.2 y.1 y.2.1 y.2.2.1 y.2.2.2.1 y.2.2.2.2).bind fun b1 => if b1 = true then ((laws_toRoot.f k v1 ns1 ks1 ss1 kp1).bind fun u => (laws_eqRoot.f k z.1 z.2.1 z.2.2.1 z.2.2.2.1 z.2.2.2.2 u.1 u.2.1 u.2.2.1 u.2.2.2.1 u.2.2.2.2).bind fun b2 => if b2 = true then some true else none) else none) else none))
set_option maxHeartbeats 8000000 in
set_option maxRecDepth 100000 in
theorem laws_FnExactSameRoot.calls (k : Nat) (v0 : Int) (A01 : Option Addr) (c01 : Nat) (ns0 : List ByteArray) (A02 : Option Addr) (c02 : Nat) (ks0 : List S26) (A03 : Option Addr) (c03 : Nat) (ss0 : List S83) (A04 : Option Addr) (c04 : Nat) (kp0 : List S92) (v1 : Int) (A11 : Option Addr) (c11 : Nat) (ns1 : List ByteArray) (A12 : Option Addr) (c12 : Nat) (ks1 : List S26) (A13 : Option Addr) (c13 : Nat) (ss1 : List S83) (A14 : Option Addr) (c14 : Nat) (kp1 : List S92) (r : Bool) (w : World) (hr01 : Kd.C Kd.string w A01 ns0.length ns0) (hc01 : ns0.length ≤ c01) (hr02 : Kd.C k26 w A02 ks0.length ks0) (hc02 : ks0.length ≤ c02) (hr03 : Kd.C k83 w A03 ss0.length ss0) (hc03 : ss0.length ≤ c03) (hr04 : Kd.C k92 w A04 kp0.length kp0) (hc04 : kp0.length ≤ c04) (hr11 : Kd.C Kd.string w A11 ns1.length ns1) (hc11 : ns1.length ≤ c11) (hr12 : Kd.C k26 w A12 ks1.length ks1) (hc12 : ks1.length ≤ c12) (hr13 : Kd.C k83 w A13 ss1.length ss1) (hc13 : ss1.length ≤ c13) (hr14 : Kd.C k92 w A14 kp1.length kp1) (hc14 : kp1.length ≤ c14) (hT : Tabs w) (h : laws_FnExactSameRoot.f k v0 ns0 ks0 ss0 kp0 v1 ns1 ks1 ss1 kp1 = some r) :
    Calls Tryd.prog 5 #[.agg #[.int .i64 v0, .slice A01 ns0.length c01, .slice A02 ks0.length c02, .slice A03 ss0.length c03, .slice A04 kp0.length c04], .agg #[.int .i64 v1, .slice A11 ns1.length c11, .slice A12 ks1.length c12, .slice A13 ss1.length c13, .slice A14 kp1.length c14]] w fun e w' => e = .returned (.bool r) ∧ Below w.heap.size w w' := by
  have hu1 := Tryd.underlying42
  have hu2 := Tryd.underlying47
  have hu3 := Tryd.underlying26
  have hu4 := Tryd.underlying33
  have HR01 := Aside0.mk hr01
  have HC01 := Aside0.mk hc01
  have HR02 := Aside0.mk hr02
  have HC02 := Aside0.mk hc02
  have HR03 := Aside0.mk hr03
  have HC03 := Aside0.mk hc03
  have HR04 := Aside0.mk hr04
  have HC04 := Aside0.mk hc04
  have HR11 := Aside0.mk hr11
  have HC11 := Aside0.mk hc11
  have HR12 := Aside0.mk hr12
  have HC12 := Aside0.mk hc12
  have HR13 := Aside0.mk hr13
  have HC13 := Aside0.mk hc13
  have HR14 := Aside0.mk hr14
  have HC14 := Aside0.mk hc14
  have HT := Aside0.mk hT
  have HB := Aside0.mk (Below.refl w.heap.size w)
  clear hr01 hc01 hr02 hc02 hr03 hc03 hr04 hc04 hr11 hc11 hr12 hc12 hr13 hc13 hr14 hc14 hT
  unfold laws_FnExactSameRoot.f at h
  obtain ⟨t, A1_, h_⟩ := Option.bind_eq_some_iff.mp h
  clear h
  have h := h_
  clear h_
  have A1 := Aside0.mk A1_
  clear A1_
  (try dsimp only at h)
  by_cases c2 : t < 0
  · rw [if_pos c2] at h
    have c2b : decide (t < 0) = true := decide_eq_true c2
    obtain rfl := Option.some.inj h
    clear c2 h
    go_enter Tryd.func5, Tryd.ntmps5
    go_wp2_with (first | ((with_reducible refine gate_dst (N := 2) rfl ?_); refine box_event ?hg (N := 2) ?hd (cs := #[.int .i64 v0, .slice A01 ns0.length c01, .slice A02 ks0.length c02, .slice A03 ss0.length c03, .slice A04 kp0.length c04]) (t := 42) ?hr ?_; (case hd => rfl); (case hg => rfl); (case hr => first | (go_simp; done) | (go_simp; rfl)); intro g_a hg w1 hx hb; replace HB := bw_ hb; have B_a := Aside0.mk hx; have h_a := b5_ B_a; clear hx hb hg) | ((with_reducible refine gate_dst (N := 3) rfl ?_); refine box_event ?hg (N := 3) ?hd (cs := #[.int .i64 v1, .slice A11 ns1.length c11, .slice A12 ks1.length c12, .slice A13 ss1.length c13, .slice A14 kp1.length c14]) (t := 42) ?hr ?_; (case hd => rfl); (case hg => rfl); (case hr => first | (go_simp; done) | (go_simp; rfl)); intro g_b hg w2 hx hb; replace HB := bw_ hb; replace B_a := kb_ B_a hb; replace h_a := b5_ B_a; have B_b := Aside0.mk hx; have h_b := b5_ B_b; clear hx hb hg) | (go_at_call 15; refine (laws_szRoot.calls k v0 _ _ ns0 _ _ ks0 _ _ ss0 _ _ kp0 1048576 t _ (Kd.C_below HR01.out HB.out) HC01.out (Kd.C_below HR02.out HB.out) HC02.out (Kd.C_below HR03.out HB.out) HC03.out (Kd.C_below HR04.out HB.out) HC04.out A1.out).mono ?_; rintro e w3 ⟨rfl, hb⟩; replace HB := bw_ hb; replace B_a := kb_ B_a hb; replace B_b := kb_ B_b hb; replace h_a := b5_ B_a; replace h_b := b5_ B_b; clear hb))
    go_ret
    exact ⟨by first | rfl | (simp; done), HB.out⟩
  rw [if_neg c2] at h
  have c2b : decide (t < 0) = false := decide_eq_false c2
  clear c2
  obtain ⟨s, A8_, h_⟩ := Option.bind_eq_some_iff.mp h
  clear h
  have h := h_
  clear h_
  have A8 := Aside0.mk A8_
  clear A8_
  (try dsimp only at h)
  by_cases c3 : s < 0
  · rw [if_pos c3] at h
    have c3b : decide (s < 0) = true := decide_eq_true c3
    obtain rfl := Option.some.inj h
    clear c3 h
    go_enter Tryd.func5, Tryd.ntmps5
    go_upto_region 5 with (first | ((with_reducible refine gate_dst (N := 2) rfl ?_); refine box_event ?hg (N := 2) ?hd (cs := #[.int .i64 v0, .slice A01 ns0.length c01, .slice A02 ks0.length c02, .slice A03 ss0.length c03, .slice A04 kp0.length c04]) (t := 42) ?hr ?_; (case hd => rfl); (case hg => rfl); (case hr => first | (go_simp; done) | (go_simp; rfl)); intro g_a hg w1 hx hb; replace HB := bw_ hb; have B_a := Aside0.mk hx; have h_a := b5_ B_a; clear hx hb hg) | ((with_reducible refine gate_dst (N := 3) rfl ?_); refine box_event ?hg (N := 3) ?hd (cs := #[.int .i64 v1, .slice A11 ns1.length c11, .slice A12 ks1.length c12, .slice A13 ss1.length c13, .slice A14 kp1.length c14]) (t := 42) ?hr ?_; (case hd => rfl); (case hg => rfl); (case hr => first | (go_simp; done) | (go_simp; rfl)); intro g_b hg w2 hx hb; replace HB := bw_ hb; replace B_a := kb_ B_a hb; replace h_a := b5_ B_a; have B_b := Aside0.mk hx; have h_b := b5_ B_b; clear hx hb hg) | (go_at_call 15; refine (laws_szRoot.calls k v0 _ _ ns0 _ _ ks0 _ _ ss0 _ _ kp0 1048576 t _ (Kd.C_below HR01.out HB.out) HC01.out (Kd.C_below HR02.out HB.out) HC02.out (Kd.C_below HR03.out HB.out) HC03.out (Kd.C_below HR04.out HB.out) HC04.out A1.out).mono ?_; rintro e w3 ⟨rfl, hb⟩; replace HB := bw_ hb; replace B_a := kb_ B_a hb; replace B_b := kb_ B_b hb; replace h_a := b5_ B_a; replace h_b := b5_ B_b; clear hb))
    go_wp2_with (first | (go_at_call 15; refine (laws_szRoot.calls k v1 _ _ ns1 _ _ ks1 _ _ ss1 _ _ kp1 t s _ (Kd.C_below HR11.out HB.out) HC11.out (Kd.C_below HR12.out HB.out) HC12.out (Kd.C_below HR13.out HB.out) HC13.out (Kd.C_below HR14.out HB.out) HC14.out A8.out).mono ?_; rintro e w4 ⟨rfl, hb⟩; replace HB := bw_ hb; replace B_a := kb_ B_a hb; replace B_b := kb_ B_b hb; replace h_a := b5_ B_a; replace h_b := b5_ B_b; clear hb))
    go_ret
    exact ⟨by first | rfl | (simp; done), HB.out⟩
  rw [if_neg c3] at h
  have c3b : decide (s < 0) = false := decide_eq_false c3
  clear c3
  obtain ⟨⟨p0, p1, p2, p3, p4⟩, A2_, h_⟩ := Option.bind_eq_some_iff.mp h
  clear h
  have h := h_
  clear h_
  have A2 := Aside0.mk A2_
  clear A2_
  (try dsimp only at h A2)
  obtain ⟨⟨r0, r1, r2, r3, r4⟩, A9_, h_⟩ := Option.bind_eq_some_iff.mp h
  clear h
  have h := h_
  clear h_
  have A9 := Aside0.mk A9_
  clear A9_
  (try dsimp only at h A9)
  obtain ⟨q, A3_, h_⟩ := Option.bind_eq_some_iff.mp h
  clear h
  have h := h_
  clear h_
  have A3 := Aside0.mk A3_
  clear A3_
  (try dsimp only at h)
  obtain ⟨⟨x0, x1, x2, x3, x4⟩, A4_, h_⟩ := Option.bind_eq_some_iff.mp h
  clear h
  have h := h_
  clear h_
  have A4 := Aside0.mk A4_
  clear A4_
  (try dsimp only at h A4)
  obtain ⟨⟨z0, z1, z2, z3, z4⟩, A30_, h_⟩ := Option.bind_eq_some_iff.mp h
  clear h
  have h := h_
  clear h_
  have A30 := Aside0.mk A30_
  clear A30_
  (try dsimp only at h A30)
  obtain ⟨g, A5_, h_⟩ := Option.bind_eq_some_iff.mp h
  clear h
  have h := h_
  clear h_
  have A5 := Aside0.mk A5_
  clear A5_
  (try dsimp only at h)
  obtain ⟨e1, h_⟩ := if_then h
  clear h
  have h := h_
  clear h_
  (try dsimp only at e1)
  subst e1
  obtain ⟨⟨y0, y1, y2, y3, y4⟩, A6_, h_⟩ := Option.bind_eq_some_iff.mp h
  clear h
  have h := h_
  clear h_
  have A6 := Aside0.mk A6_
  clear A6_
  (try dsimp only at h A6)
  obtain ⟨b1, A7_, h_⟩ := Option.bind_eq_some_iff.mp h
  clear h
  have h := h_
  clear h_
  have A7 := Aside0.mk A7_
  clear A7_
  (try dsimp only at h)
  obtain ⟨e2, h_⟩ := if_then h
  clear h
  have h := h_
  clear h_
  (try dsimp only at e2)
  subst e2
  obtain ⟨⟨u0, u1, u2, u3, u4⟩, A31_, h_⟩ := Option.bind_eq_some_iff.mp h
  clear h
  have h := h_
  clear h_
  have A31 := Aside0.mk A31_
  clear A31_
  (try dsimp only at h A31)
  obtain ⟨b2, A32_, h_⟩ := Option.bind_eq_some_iff.mp h
  clear h
  have h := h_
  clear h_
  have A32 := Aside0.mk A32_
  clear A32_
  (try dsimp only at h)
  obtain ⟨e3, h_⟩ := if_then h
  clear h
  have h := h_
  clear h_
  (try dsimp only at e3)
  subst e3
  obtain rfl := Option.some.inj h
  clear h
  go_enter Tryd.func5, Tryd.ntmps5
  go_upto_region 5 with (first | ((with_reducible refine gate_dst (N := 2) rfl ?_); refine box_event ?hg (N := 2) ?hd (cs := #[.int .i64 v0, .slice A01 ns0.length c01, .slice A02 ks0.length c02, .slice A03 ss0.length c03, .slice A04 kp0.length c04]) (t := 42) ?hr ?_; (case hd => rfl); (case hg => rfl); (case hr => first | (go_simp; done) | (go_simp; rfl)); intro g_a hg w1 hx hb; replace HB := bw_ hb; have B_a := Aside0.mk hx; have h_a := b5_ B_a; clear hx hb hg) | ((with_reducible refine gate_dst (N := 3) rfl ?_); refine box_event ?hg (N := 3) ?hd (cs := #[.int .i64 v1, .slice A11 ns1.length c11, .slice A12 ks1.length c12, .slice A13 ss1.length c13, .slice A14 kp1.length c14]) (t := 42) ?hr ?_; (case hd => rfl); (case hg => rfl); (case hr => first | (go_simp; done) | (go_simp; rfl)); intro g_b hg w2 hx hb; replace HB := bw_ hb; replace B_a := kb_ B_a hb; replace h_a := b5_ B_a; have B_b := Aside0.mk hx; have h_b := b5_ B_b; clear hx hb hg) | (go_at_call 15; refine (laws_szRoot.calls k v0 _ _ ns0 _ _ ks0 _ _ ss0 _ _ kp0 1048576 t _ (Kd.C_below HR01.out HB.out) HC01.out (Kd.C_below HR02.out HB.out) HC02.out (Kd.C_below HR03.out HB.out) HC03.out (Kd.C_below HR04.out HB.out) HC04.out A1.out).mono ?_; rintro e w3 ⟨rfl, hb⟩; replace HB := bw_ hb; replace B_a := kb_ B_a hb; replace B_b := kb_ B_b hb; replace h_a := b5_ B_a; replace h_b := b5_ B_b; clear hb))
  go_upto_region 8 with (first | (go_at_call 15; refine (laws_szRoot.calls k v1 _ _ ns1 _ _ ks1 _ _ ss1 _ _ kp1 t s _ (Kd.C_below HR11.out HB.out) HC11.out (Kd.C_below HR12.out HB.out) HC12.out (Kd.C_below HR13.out HB.out) HC13.out (Kd.C_below HR14.out HB.out) HC14.out A8.out).mono ?_; rintro e w4 ⟨rfl, hb⟩; replace HB := bw_ hb; replace B_a := kb_ B_a hb; replace B_b := kb_ B_b hb; replace h_a := b5_ B_a; replace h_b := b5_ B_b; clear hb))
  replace HB := Aside0.mk (below_drew1 HB.out)
  replace B_a := Aside0.mk (blk_drew B_a.out)
  replace B_b := Aside0.mk (blk_drew B_b.out)
  clear h_a h_b
  refine qs_ (S := fun w' => w'.cell? ⟨g_a, 0, none⟩ = some (.int .i64 v0) ∧ w'.cell? ⟨g_a, 1, none⟩ = some (.slice A01 ns0.length c01) ∧ w'.cell? ⟨g_a, 2, none⟩ = some (.slice A02 ks0.length c02) ∧ w'.cell? ⟨g_a, 3, none⟩ = some (.slice A03 ss0.length c03) ∧ w'.cell? ⟨g_a, 4, none⟩ = some (.slice A04 kp0.length c04) ∧ w'.cell? ⟨g_b, 0, none⟩ = some (.int .i64 v1) ∧ w'.cell? ⟨g_b, 1, none⟩ = some (.slice A11 ns1.length c11) ∧ w'.cell? ⟨g_b, 2, none⟩ = some (.slice A12 ks1.length c12) ∧ w'.cell? ⟨g_b, 3, none⟩ = some (.slice A13 ss1.length c13) ∧ w'.cell? ⟨g_b, 4, none⟩ = some (.slice A14 kp1.length c14)) ⟨bc_ B_a 0, bc_ B_a 1, bc_ B_a 2, bc_ B_a 3, bc_ B_a 4, bc_ B_b 0, bc_ B_b 1, bc_ B_b 2, bc_ B_b 3, bc_ B_b 4⟩ (fun hHeld => ?_)
  generalize World.drew _ = wd at HB B_a B_b hHeld ⊢
  refine qt_ hHeld 0 ?_
  refine qt_ hHeld 2 ?_
  refine qo_ 1 (fun K hK => ?_)
  refine goes_ Tryd.func17 (by kernel_rfl) rfl #[.agg #[.int .i64 v0, .slice A01 ns0.length c01, .slice A02 ks0.length c02, .slice A03 ss0.length c03, .slice A04 kp0.length c04]] (by rfl) rfl rfl ar_ ?_
  refine (laws_toRoot.calls k v0 _ _ ns0 _ _ ks0 _ _ ss0 _ _ kp0 p0 p1 p2 p3 p4 _ (Kd.C_below HR01.out HB.out) HC01.out (Kd.C_below HR02.out HB.out) HC02.out (Kd.C_below HR03.out HB.out) HC03.out (Kd.C_below HR04.out HB.out) HC04.out A2.out).mono ?_
  rintro e w5 ⟨u1_, u2_, u3_, u4_, rfl, s1, s2, s3, s4, hb⟩
  refine ⟨_, rfl, ?_⟩
  replace HB := bw_ hb
  replace B_a := kb_ B_a hb
  replace B_b := kb_ B_b hb
  obtain ⟨Ap1, cp1, rfl⟩ := Kd.R_slice s1
  obtain ⟨Ap2, cp2, rfl⟩ := Kd.R_slice s2
  obtain ⟨Ap3, cp3, rfl⟩ := Kd.R_slice s3
  obtain ⟨Ap4, cp4, rfl⟩ := Kd.S_slice s4
  have Hp := Aside0.mk (And.intro (Kd.R_reads' s1) (And.intro (Kd.R_reads' s2) (And.intro (Kd.R_reads' s3) (Kd.S_reads' s4))))
  have Bp := Aside0.mk (Below.refl w5.heap.size w5)
  clear hb s1 s2 s3 s4
  refine hK.out _ _ ⟨bc_ B_a 0, bc_ B_a 1, bc_ B_a 2, bc_ B_a 3, bc_ B_a 4, bc_ B_b 0, bc_ B_b 1, bc_ B_b 2, bc_ B_b 3, bc_ B_b 4⟩ (fun hHeld => ?_)
  clear hK K
  refine nm_ 21 ?_
  refine qo_ 3 (fun K hK => ?_)
  refine goes_ Tryd.func17 (by kernel_rfl) rfl #[.agg #[.int .i64 v1, .slice A11 ns1.length c11, .slice A12 ks1.length c12, .slice A13 ss1.length c13, .slice A14 kp1.length c14]] (by rfl) rfl rfl ar_ ?_
  refine (laws_toRoot.calls k v1 _ _ ns1 _ _ ks1 _ _ ss1 _ _ kp1 r0 r1 r2 r3 r4 _ (Kd.C_below HR11.out HB.out) HC11.out (Kd.C_below HR12.out HB.out) HC12.out (Kd.C_below HR13.out HB.out) HC13.out (Kd.C_below HR14.out HB.out) HC14.out A9.out).mono ?_
  rintro e w6 ⟨u1_, u2_, u3_, u4_, rfl, s1, s2, s3, s4, hb⟩
  refine ⟨_, rfl, ?_⟩
  replace HB := bw_ hb
  replace B_a := kb_ B_a hb
  replace B_b := kb_ B_b hb
  replace Bp := Aside0.mk (below_step Bp.out hb)
  obtain ⟨Ar1, cr1, rfl⟩ := Kd.R_slice s1
  obtain ⟨Ar2, cr2, rfl⟩ := Kd.R_slice s2
  obtain ⟨Ar3, cr3, rfl⟩ := Kd.R_slice s3
  obtain ⟨Ar4, cr4, rfl⟩ := Kd.S_slice s4
  have Hr := Aside0.mk (And.intro (Kd.R_reads' s1) (And.intro (Kd.R_reads' s2) (And.intro (Kd.R_reads' s3) (Kd.S_reads' s4))))
  have Br := Aside0.mk (Below.refl w6.heap.size w6)
  clear hb s1 s2 s3 s4
  refine hK.out _ _ ⟨bc_ B_a 0, bc_ B_a 1, bc_ B_a 2, bc_ B_a 3, bc_ B_a 4, bc_ B_b 0, bc_ B_b 1, bc_ B_b 2, bc_ B_b 3, bc_ B_b 4⟩ (fun hHeld => ?_)
  clear hK K
  refine nm_ 23 ?_
  refine qo_ 4 (fun K hK => ?_)
  refine goes_ Tryd.func20 (by kernel_rfl) rfl #[.agg #[.int .i64 p0, .slice Ap1 p1.length cp1, .slice Ap2 p2.length cp2, .slice Ap3 p3.length cp3, .slice Ap4 p4.length cp4], .agg #[.int .i64 r0, .slice Ar1 r1.length cr1, .slice Ar2 r2.length cr2, .slice Ar3 r3.length cr3, .slice Ar4 r4.length cr4]] (by rfl) rfl rfl ar_ ?_
  refine (spec_SameRoot.calls k p0 _ _ p1 _ _ p2 _ _ p3 _ _ p4 r0 _ _ r1 _ _ r2 _ _ r3 _ _ r4 g _ (Kd.C_below Hp.out.1.2.2 Bp.out) Hp.out.1.2.1 (Kd.C_below Hp.out.2.1.2.2 Bp.out) Hp.out.2.1.2.1 (Kd.C_below Hp.out.2.2.1.2.2 Bp.out) Hp.out.2.2.1.2.1 (Kd.C_below Hp.out.2.2.2.2.2 Bp.out) Hp.out.2.2.2.2.1 (Kd.C_below Hr.out.1.2.2 Br.out) Hr.out.1.2.1 (Kd.C_below Hr.out.2.1.2.2 Br.out) Hr.out.2.1.2.1 (Kd.C_below Hr.out.2.2.1.2.2 Br.out) Hr.out.2.2.1.2.1 (Kd.C_below Hr.out.2.2.2.2.2 Br.out) Hr.out.2.2.2.2.1 A3.out).mono ?_
  rintro e w7 ⟨rfl, hb⟩
  refine ⟨_, rfl, ?_⟩
  replace HB := bw_ hb
  replace B_a := kb_ B_a hb
  replace B_b := kb_ B_b hb
  replace Bp := Aside0.mk (below_step Bp.out hb)
  replace Br := Aside0.mk (below_step Br.out hb)
  clear hb
  refine hK.out _ _ ⟨bc_ B_a 0, bc_ B_a 1, bc_ B_a 2, bc_ B_a 3, bc_ B_a 4, bc_ B_b 0, bc_ B_b 1, bc_ B_b 2, bc_ B_b 3, bc_ B_b 4⟩ (fun hHeld => ?_)
  clear hK K
  refine nm_ 24 ?_
  refine qp_ 5 ?_
  refine done_ (by kernel_rfl) ?_
  have h_a := b5_ B_a
  have h_b := b5_ B_b
  clear Hp Bp Hr Br
  go_upto_region 10 with (first | (go_at_call 17; refine (laws_toRoot.calls k v0 _ _ ns0 _ _ ks0 _ _ ss0 _ _ kp0 x0 x1 x2 x3 x4 _ (Kd.C_below HR01.out HB.out) HC01.out (Kd.C_below HR02.out HB.out) HC02.out (Kd.C_below HR03.out HB.out) HC03.out (Kd.C_below HR04.out HB.out) HC04.out A4.out).mono ?_; rintro e w8 ⟨u1_, u2_, u3_, u4_, rfl, s1, s2, s3, s4, hb⟩; replace HB := bw_ hb; replace B_a := kb_ B_a hb; replace B_b := kb_ B_b hb; replace h_a := b5_ B_a; replace h_b := b5_ B_b; obtain ⟨Ax1, cx1, rfl⟩ := Kd.R_slice s1; obtain ⟨Ax2, cx2, rfl⟩ := Kd.R_slice s2; obtain ⟨Ax3, cx3, rfl⟩ := Kd.R_slice s3; obtain ⟨Ax4, cx4, rfl⟩ := Kd.S_slice s4; have Hx := Aside0.mk (And.intro (Kd.R_reads' s1) (And.intro (Kd.R_reads' s2) (And.intro (Kd.R_reads' s3) (Kd.S_reads' s4)))); have Bx := Aside0.mk (Below.refl w8.heap.size w8); clear hb s1 s2 s3 s4) | ((with_reducible refine gate_dst (N := 7) rfl ?_); refine box_event ?hg (N := 7) ?hd (cs := #[.int .i64 0, .slice none 0 0, .slice none 0 0, .slice none 0 0, .slice none 0 0]) (t := 47) ?hr ?_; (case hd => rfl); (case hg => rfl); (case hr => first | (go_simp; done) | (go_simp; rfl)); intro g_x hg w9 hx hb; have D_xa := Aside0.mk (Nat.ne_of_lt (Nat.lt_of_lt_of_eq (blk_lt B_a.out) hg.symm)); have D_xb := Aside0.mk (Nat.ne_of_lt (Nat.lt_of_lt_of_eq (blk_lt B_b.out) hg.symm)); have E_xx := Aside0.mk (Nat.le_trans Bx.out.size (Nat.le_of_eq hg.symm)); have L_x := Aside0.mk (Nat.le_trans HB.out.size (Nat.le_of_eq hg.symm)); replace HB := bw_ hb; replace B_a := kb_ B_a hb; replace B_b := kb_ B_b hb; replace h_a := b5_ B_a; replace h_b := b5_ B_b; replace Bx := Aside0.mk (below_step Bx.out hb); have B_x := Aside0.mk hx; clear hx hb hg) | ((with_reducible refine gate_store (t := 47) (p := 7) rfl ?_); refine box_store rfl rfl _ _ _ rfl [.int .i64 x0, .slice Ax1 x1.length cx1, .slice Ax2 x2.length cx2, .slice Ax3 x3.length cx3, .slice Ax4 x4.length cx4] ?ha ?hx (by kernel_rfl) ?h1 (by simp [Value.cells]) B_x.out rfl ?_; (case ha => rfl); (case hx => rfl); (case h1 => (intro q hq; simp only [List.mem_cons, List.not_mem_nil, or_false] at hq; rcases hq with rfl | rfl | rfl | rfl | rfl <;> rfl)); intro w10 hs hg; replace B_a := Aside0.mk (blk_grown B_a.out hg (fun e => D_xa.out (by injection e))); replace B_b := Aside0.mk (blk_grown B_b.out hg (fun e => D_xb.out (by injection e))); replace h_a := b5_ B_a; replace h_b := b5_ B_b; replace Bx := Aside0.mk (below_far Bx.out hg E_xx.out); replace B_x := Aside0.mk hs; have h_x := b5_ B_x; replace HB := Aside0.mk (below_far HB.out hg L_x.out); clear hs hg))
  go_upto_region 14 with (first | (go_at_call 17; refine (laws_toRoot.calls k v1 _ _ ns1 _ _ ks1 _ _ ss1 _ _ kp1 z0 z1 z2 z3 z4 _ (Kd.C_below HR11.out HB.out) HC11.out (Kd.C_below HR12.out HB.out) HC12.out (Kd.C_below HR13.out HB.out) HC13.out (Kd.C_below HR14.out HB.out) HC14.out A30.out).mono ?_; rintro e w11 ⟨u1_, u2_, u3_, u4_, rfl, s1, s2, s3, s4, hb⟩; replace HB := bw_ hb; replace B_a := kb_ B_a hb; replace B_b := kb_ B_b hb; replace B_x := kb_ B_x hb; replace h_a := b5_ B_a; replace h_b := b5_ B_b; replace h_x := b5_ B_x; replace Bx := Aside0.mk (below_step Bx.out hb); obtain ⟨Az1, cz1, rfl⟩ := Kd.R_slice s1; obtain ⟨Az2, cz2, rfl⟩ := Kd.R_slice s2; obtain ⟨Az3, cz3, rfl⟩ := Kd.R_slice s3; obtain ⟨Az4, cz4, rfl⟩ := Kd.S_slice s4; have Hz := Aside0.mk (And.intro (Kd.R_reads' s1) (And.intro (Kd.R_reads' s2) (And.intro (Kd.R_reads' s3) (Kd.S_reads' s4)))); have Bz := Aside0.mk (Below.refl w11.heap.size w11); clear hb s1 s2 s3 s4) | ((with_reducible refine gate_dst (N := 8) rfl ?_); refine box_event ?hg (N := 8) ?hd (cs := #[.int .i64 0, .slice none 0 0, .slice none 0 0, .slice none 0 0, .slice none 0 0]) (t := 47) ?hr ?_; (case hd => rfl); (case hg => rfl); (case hr => first | (go_simp; done) | (go_simp; rfl)); intro g_z hg w12 hx hb; have D_za := Aside0.mk (Nat.ne_of_lt (Nat.lt_of_lt_of_eq (blk_lt B_a.out) hg.symm)); have D_zb := Aside0.mk (Nat.ne_of_lt (Nat.lt_of_lt_of_eq (blk_lt B_b.out) hg.symm)); have D_zx := Aside0.mk (Nat.ne_of_lt (Nat.lt_of_lt_of_eq (blk_lt B_x.out) hg.symm)); have E_zx := Aside0.mk (Nat.le_trans Bx.out.size (Nat.le_of_eq hg.symm)); have E_zz := Aside0.mk (Nat.le_trans Bz.out.size (Nat.le_of_eq hg.symm)); have L_z := Aside0.mk (Nat.le_trans HB.out.size (Nat.le_of_eq hg.symm)); replace HB := bw_ hb; replace B_a := kb_ B_a hb; replace B_b := kb_ B_b hb; replace B_x := kb_ B_x hb; replace h_a := b5_ B_a; replace h_b := b5_ B_b; replace h_x := b5_ B_x; replace Bx := Aside0.mk (below_step Bx.out hb); replace Bz := Aside0.mk (below_step Bz.out hb); have B_z := Aside0.mk hx; clear hx hb hg) | ((with_reducible refine gate_store (t := 47) (p := 8) rfl ?_); refine box_store rfl rfl _ _ _ rfl [.int .i64 z0, .slice Az1 z1.length cz1, .slice Az2 z2.length cz2, .slice Az3 z3.length cz3, .slice Az4 z4.length cz4] ?ha ?hx (by kernel_rfl) ?h1 (by simp [Value.cells]) B_z.out rfl ?_; (case ha => rfl); (case hx => rfl); (case h1 => (intro q hq; simp only [List.mem_cons, List.not_mem_nil, or_false] at hq; rcases hq with rfl | rfl | rfl | rfl | rfl <;> rfl)); intro w13 hs hg; replace B_a := Aside0.mk (blk_grown B_a.out hg (fun e => D_za.out (by injection e))); replace B_b := Aside0.mk (blk_grown B_b.out hg (fun e => D_zb.out (by injection e))); replace B_x := Aside0.mk (blk_grown B_x.out hg (fun e => D_zx.out (by injection e))); replace h_a := b5_ B_a; replace h_b := b5_ B_b; replace h_x := b5_ B_x; replace Bx := Aside0.mk (below_far Bx.out hg E_zx.out); replace Bz := Aside0.mk (below_far Bz.out hg E_zz.out); replace B_z := Aside0.mk hs; have h_z := b5_ B_z; replace HB := Aside0.mk (below_far HB.out hg L_z.out); clear hs hg) | (go_at_call 21; refine (impl_SameRoot.calls k x0 _ _ x1 _ _ x2 _ _ x3 _ _ x4 z0 _ _ z1 _ _ z2 _ _ z3 _ _ z4 g _ (Kd.C_below Hx.out.1.2.2 Bx.out) Hx.out.1.2.1 (Kd.C_below Hx.out.2.1.2.2 Bx.out) Hx.out.2.1.2.1 (Kd.C_below Hx.out.2.2.1.2.2 Bx.out) Hx.out.2.2.1.2.1 (Kd.C_below Hx.out.2.2.2.2.2 Bx.out) Hx.out.2.2.2.2.1 (Kd.C_below Hz.out.1.2.2 Bz.out) Hz.out.1.2.1 (Kd.C_below Hz.out.2.1.2.2 Bz.out) Hz.out.2.1.2.1 (Kd.C_below Hz.out.2.2.1.2.2 Bz.out) Hz.out.2.2.1.2.1 (Kd.C_below Hz.out.2.2.2.2.2 Bz.out) Hz.out.2.2.2.2.1 (Tabs.below HT.out HB.out) A5.out).mono ?_; rintro e w14 ⟨rfl, hb⟩; replace HB := bw_ hb; replace B_a := kb_ B_a hb; replace B_b := kb_ B_b hb; replace B_x := kb_ B_x hb; replace B_z := kb_ B_z hb; replace h_a := b5_ B_a; replace h_b := b5_ B_b; replace h_x := b5_ B_x; replace h_z := b5_ B_z; replace Bx := Aside0.mk (below_step Bx.out hb); replace Bz := Aside0.mk (below_step Bz.out hb); clear hb))
  replace HB := Aside0.mk (below_drew1 HB.out)
  replace B_a := Aside0.mk (blk_drew B_a.out)
  replace B_b := Aside0.mk (blk_drew B_b.out)
  replace B_x := Aside0.mk (blk_drew B_x.out)
  replace B_z := Aside0.mk (blk_drew B_z.out)
  replace Bx := Aside0.mk (below_drew1 Bx.out)
  replace Bz := Aside0.mk (below_drew1 Bz.out)
  clear h_a h_b h_x h_z
  refine qs_ (S := fun w' => w'.cell? ⟨g_x, 0, none⟩ = some (.int .i64 x0) ∧ w'.cell? ⟨g_x, 1, none⟩ = some (.slice Ax1 x1.length cx1) ∧ w'.cell? ⟨g_x, 2, none⟩ = some (.slice Ax2 x2.length cx2) ∧ w'.cell? ⟨g_x, 3, none⟩ = some (.slice Ax3 x3.length cx3) ∧ w'.cell? ⟨g_x, 4, none⟩ = some (.slice Ax4 x4.length cx4) ∧ w'.cell? ⟨g_a, 0, none⟩ = some (.int .i64 v0) ∧ w'.cell? ⟨g_a, 1, none⟩ = some (.slice A01 ns0.length c01) ∧ w'.cell? ⟨g_a, 2, none⟩ = some (.slice A02 ks0.length c02) ∧ w'.cell? ⟨g_a, 3, none⟩ = some (.slice A03 ss0.length c03) ∧ w'.cell? ⟨g_a, 4, none⟩ = some (.slice A04 kp0.length c04)) ⟨bc_ B_x 0, bc_ B_x 1, bc_ B_x 2, bc_ B_x 3, bc_ B_x 4, bc_ B_a 0, bc_ B_a 1, bc_ B_a 2, bc_ B_a 3, bc_ B_a 4⟩ (fun hHeld => ?_)
  generalize World.drew _ = wd at HB B_a B_b B_x B_z Bx Bz hHeld ⊢
  refine qt_ hHeld 0 ?_
  refine qt_ hHeld 1 ?_
  refine qo_ 2 (fun K hK => ?_)
  refine goes_ Tryd.func17 (by kernel_rfl) rfl #[.agg #[.int .i64 v0, .slice A01 ns0.length c01, .slice A02 ks0.length c02, .slice A03 ss0.length c03, .slice A04 kp0.length c04]] (by rfl) rfl rfl ar_ ?_
  refine (laws_toRoot.calls k v0 _ _ ns0 _ _ ks0 _ _ ss0 _ _ kp0 y0 y1 y2 y3 y4 _ (Kd.C_below HR01.out HB.out) HC01.out (Kd.C_below HR02.out HB.out) HC02.out (Kd.C_below HR03.out HB.out) HC03.out (Kd.C_below HR04.out HB.out) HC04.out A6.out).mono ?_
  rintro e w15 ⟨u1_, u2_, u3_, u4_, rfl, s1, s2, s3, s4, hb⟩
  refine ⟨_, rfl, ?_⟩
  replace HB := bw_ hb
  replace B_a := kb_ B_a hb
  replace B_b := kb_ B_b hb
  replace B_x := kb_ B_x hb
  replace B_z := kb_ B_z hb
  replace Bx := Aside0.mk (below_step Bx.out hb)
  replace Bz := Aside0.mk (below_step Bz.out hb)
  obtain ⟨Ay1, cy1, rfl⟩ := Kd.R_slice s1
  obtain ⟨Ay2, cy2, rfl⟩ := Kd.R_slice s2
  obtain ⟨Ay3, cy3, rfl⟩ := Kd.R_slice s3
  obtain ⟨Ay4, cy4, rfl⟩ := Kd.S_slice s4
  have Hy := Aside0.mk (And.intro (Kd.R_reads' s1) (And.intro (Kd.R_reads' s2) (And.intro (Kd.R_reads' s3) (Kd.S_reads' s4))))
  have By := Aside0.mk (Below.refl w15.heap.size w15)
  clear hb s1 s2 s3 s4
  refine hK.out _ _ ⟨bc_ B_x 0, bc_ B_x 1, bc_ B_x 2, bc_ B_x 3, bc_ B_x 4, bc_ B_a 0, bc_ B_a 1, bc_ B_a 2, bc_ B_a 3, bc_ B_a 4⟩ (fun hHeld => ?_)
  clear hK K
  refine nm_ 37 ?_
  refine qo_ 3 (fun K hK => ?_)
  refine goes_ Tryd.func19 (by kernel_rfl) rfl #[.agg #[.int .i64 x0, .slice Ax1 x1.length cx1, .slice Ax2 x2.length cx2, .slice Ax3 x3.length cx3, .slice Ax4 x4.length cx4], .agg #[.int .i64 y0, .slice Ay1 y1.length cy1, .slice Ay2 y2.length cy2, .slice Ay3 y3.length cy3, .slice Ay4 y4.length cy4]] (by rfl) rfl rfl ar_ ?_
  refine (laws_eqRoot.calls k x0 _ _ x1 _ _ x2 _ _ x3 _ _ x4 y0 _ _ y1 _ _ y2 _ _ y3 _ _ y4 true _ (Kd.C_below Hx.out.1.2.2 Bx.out) Hx.out.1.2.1 (Kd.C_below Hx.out.2.1.2.2 Bx.out) Hx.out.2.1.2.1 (Kd.C_below Hx.out.2.2.1.2.2 Bx.out) Hx.out.2.2.1.2.1 (Kd.C_below Hx.out.2.2.2.2.2 Bx.out) Hx.out.2.2.2.2.1 (Kd.C_below Hy.out.1.2.2 By.out) Hy.out.1.2.1 (Kd.C_below Hy.out.2.1.2.2 By.out) Hy.out.2.1.2.1 (Kd.C_below Hy.out.2.2.1.2.2 By.out) Hy.out.2.2.1.2.1 (Kd.C_below Hy.out.2.2.2.2.2 By.out) Hy.out.2.2.2.2.1 A7.out).mono ?_
  rintro e w16 ⟨rfl, hb⟩
  refine ⟨_, rfl, ?_⟩
  replace HB := bw_ hb
  replace B_a := kb_ B_a hb
  replace B_b := kb_ B_b hb
  replace B_x := kb_ B_x hb
  replace B_z := kb_ B_z hb
  replace Bx := Aside0.mk (below_step Bx.out hb)
  replace Bz := Aside0.mk (below_step Bz.out hb)
  replace By := Aside0.mk (below_step By.out hb)
  clear hb
  refine hK.out _ _ ⟨bc_ B_x 0, bc_ B_x 1, bc_ B_x 2, bc_ B_x 3, bc_ B_x 4, bc_ B_a 0, bc_ B_a 1, bc_ B_a 2, bc_ B_a 3, bc_ B_a 4⟩ (fun hHeld => ?_)
  clear hK K
  refine nm_ 38 ?_
  refine qp_ 4 ?_
  refine done_ (by kernel_rfl) ?_
  have h_a := b5_ B_a
  have h_b := b5_ B_b
  have h_x := b5_ B_x
  have h_z := b5_ B_z
  clear Hy By
  go_upto_region 16 with (fail)
  replace HB := Aside0.mk (below_drew1 HB.out)
  replace B_a := Aside0.mk (blk_drew B_a.out)
  replace B_b := Aside0.mk (blk_drew B_b.out)
  replace B_x := Aside0.mk (blk_drew B_x.out)
  replace B_z := Aside0.mk (blk_drew B_z.out)
  replace Bx := Aside0.mk (below_drew1 Bx.out)
  replace Bz := Aside0.mk (below_drew1 Bz.out)
  clear h_a h_b h_x h_z
  refine qs_ (S := fun w' => w'.cell? ⟨g_z, 0, none⟩ = some (.int .i64 z0) ∧ w'.cell? ⟨g_z, 1, none⟩ = some (.slice Az1 z1.length cz1) ∧ w'.cell? ⟨g_z, 2, none⟩ = some (.slice Az2 z2.length cz2) ∧ w'.cell? ⟨g_z, 3, none⟩ = some (.slice Az3 z3.length cz3) ∧ w'.cell? ⟨g_z, 4, none⟩ = some (.slice Az4 z4.length cz4) ∧ w'.cell? ⟨g_b, 0, none⟩ = some (.int .i64 v1) ∧ w'.cell? ⟨g_b, 1, none⟩ = some (.slice A11 ns1.length c11) ∧ w'.cell? ⟨g_b, 2, none⟩ = some (.slice A12 ks1.length c12) ∧ w'.cell? ⟨g_b, 3, none⟩ = some (.slice A13 ss1.length c13) ∧ w'.cell? ⟨g_b, 4, none⟩ = some (.slice A14 kp1.length c14)) ⟨bc_ B_z 0, bc_ B_z 1, bc_ B_z 2, bc_ B_z 3, bc_ B_z 4, bc_ B_b 0, bc_ B_b 1, bc_ B_b 2, bc_ B_b 3, bc_ B_b 4⟩ (fun hHeld => ?_)
  generalize World.drew _ = wd at HB B_a B_b B_x B_z Bx Bz hHeld ⊢
  refine qt_ hHeld 0 ?_
  refine qt_ hHeld 1 ?_
  refine qo_ 2 (fun K hK => ?_)
  refine goes_ Tryd.func17 (by kernel_rfl) rfl #[.agg #[.int .i64 v1, .slice A11 ns1.length c11, .slice A12 ks1.length c12, .slice A13 ss1.length c13, .slice A14 kp1.length c14]] (by rfl) rfl rfl ar_ ?_
  refine (laws_toRoot.calls k v1 _ _ ns1 _ _ ks1 _ _ ss1 _ _ kp1 u0 u1 u2 u3 u4 _ (Kd.C_below HR11.out HB.out) HC11.out (Kd.C_below HR12.out HB.out) HC12.out (Kd.C_below HR13.out HB.out) HC13.out (Kd.C_below HR14.out HB.out) HC14.out A31.out).mono ?_
  rintro e w17 ⟨u1_, u2_, u3_, u4_, rfl, s1, s2, s3, s4, hb⟩
  refine ⟨_, rfl, ?_⟩
  replace HB := bw_ hb
  replace B_a := kb_ B_a hb
  replace B_b := kb_ B_b hb
  replace B_x := kb_ B_x hb
  replace B_z := kb_ B_z hb
  replace Bx := Aside0.mk (below_step Bx.out hb)
  replace Bz := Aside0.mk (below_step Bz.out hb)
  obtain ⟨Au1, cu1, rfl⟩ := Kd.R_slice s1
  obtain ⟨Au2, cu2, rfl⟩ := Kd.R_slice s2
  obtain ⟨Au3, cu3, rfl⟩ := Kd.R_slice s3
  obtain ⟨Au4, cu4, rfl⟩ := Kd.S_slice s4
  have Hu := Aside0.mk (And.intro (Kd.R_reads' s1) (And.intro (Kd.R_reads' s2) (And.intro (Kd.R_reads' s3) (Kd.S_reads' s4))))
  have Bu := Aside0.mk (Below.refl w17.heap.size w17)
  clear hb s1 s2 s3 s4
  refine hK.out _ _ ⟨bc_ B_z 0, bc_ B_z 1, bc_ B_z 2, bc_ B_z 3, bc_ B_z 4, bc_ B_b 0, bc_ B_b 1, bc_ B_b 2, bc_ B_b 3, bc_ B_b 4⟩ (fun hHeld => ?_)
  clear hK K
  refine nm_ 42 ?_
  refine qo_ 3 (fun K hK => ?_)
  refine goes_ Tryd.func19 (by kernel_rfl) rfl #[.agg #[.int .i64 z0, .slice Az1 z1.length cz1, .slice Az2 z2.length cz2, .slice Az3 z3.length cz3, .slice Az4 z4.length cz4], .agg #[.int .i64 u0, .slice Au1 u1.length cu1, .slice Au2 u2.length cu2, .slice Au3 u3.length cu3, .slice Au4 u4.length cu4]] (by rfl) rfl rfl ar_ ?_
  refine (laws_eqRoot.calls k z0 _ _ z1 _ _ z2 _ _ z3 _ _ z4 u0 _ _ u1 _ _ u2 _ _ u3 _ _ u4 true _ (Kd.C_below Hz.out.1.2.2 Bz.out) Hz.out.1.2.1 (Kd.C_below Hz.out.2.1.2.2 Bz.out) Hz.out.2.1.2.1 (Kd.C_below Hz.out.2.2.1.2.2 Bz.out) Hz.out.2.2.1.2.1 (Kd.C_below Hz.out.2.2.2.2.2 Bz.out) Hz.out.2.2.2.2.1 (Kd.C_below Hu.out.1.2.2 Bu.out) Hu.out.1.2.1 (Kd.C_below Hu.out.2.1.2.2 Bu.out) Hu.out.2.1.2.1 (Kd.C_below Hu.out.2.2.1.2.2 Bu.out) Hu.out.2.2.1.2.1 (Kd.C_below Hu.out.2.2.2.2.2 Bu.out) Hu.out.2.2.2.2.1 A32.out).mono ?_
  rintro e w18 ⟨rfl, hb⟩
  refine ⟨_, rfl, ?_⟩
  replace HB := bw_ hb
  replace B_a := kb_ B_a hb
  replace B_b := kb_ B_b hb
  replace B_x := kb_ B_x hb
  replace B_z := kb_ B_z hb
  replace Bx := Aside0.mk (below_step Bx.out hb)
  replace Bz := Aside0.mk (below_step Bz.out hb)
  replace Bu := Aside0.mk (below_step Bu.out hb)
  clear hb
  refine hK.out _ _ ⟨bc_ B_z 0, bc_ B_z 1, bc_ B_z 2, bc_ B_z 3, bc_ B_z 4, bc_ B_b 0, bc_ B_b 1, bc_ B_b 2, bc_ B_b 3, bc_ B_b 4⟩ (fun hHeld => ?_)
  clear hK K
  refine nm_ 43 ?_
  refine qp_ 4 ?_
  refine done_ (by kernel_rfl) ?_
  have h_a := b5_ B_a
  have h_b := b5_ B_b
  have h_x := b5_ B_x
  have h_z := b5_ B_z
  go_wp2
  go_ret
  exact ⟨by first | rfl | (simp; done), HB.out⟩
end Go.Proofs.YtggokdobijhdhaaDoor.P
