/- Boxes that are written whole; slices.EqualFunc over what is kept; impl.SameRoot; the law FnExactSameRoot's walk: what each Go function answers is what the plain function answers. -/
import Derived.Laws.Cover1
import Derived.Test.YtggokdobijhdhaaDoorL5
import Derived.Test.YtggokdobijhdhaaDoorPx0
import Derived.Test.YtggokdobijhdhaaDoorPx12
import Derived.Test.YtggokdobijhdhaaDoorPx13
import Derived.Test.YtggokdobijhdhaaDoorPx24
import Derived.Test.YtggokdobijhdhaaDoorPx27
import Derived.Test.YtggokdobijhdhaaDoorPx3
import Derived.Test.YtggokdobijhdhaaDoorS
import Derived.Test.YtggokdobijhdhaaDoorX1
import Derived.Test.YtggokdobijhdhaaDoorL5
import Derived.Test.YtggokdobijhdhaaDoorS
import Derived.Test.YtggokdobijhdhaaDoorX1
namespace Go.Proofs.YtggokdobijhdhaaDoor.P
open Go.RowKit Go.Proofs.YtggokdobijhdhaaDoor.X Go.Proofs.YtggokdobijhdhaaDoorW.PrintWords Go.Proofs.YtggokdobijhdhaaDoorW.PrintLast Go.Proofs.YtggokdobijhdhaaDoorW.PrintMore
set_option linter.unusedVariables false
set_option linter.unusedSimpArgs false
theorem b5_ {w : World} {g ty : Nat} {x0 x1 x2 x3 x4 : Value} (E : Aside0 (w.heap[g]? = some (.cells #[x0, x1, x2, x3, x4] ty (0, 0)))) : w.cell? ⟨g, 0, none⟩ = some x0 ∧ w.cell? ⟨g, 1, none⟩ = some x1 ∧ w.cell? ⟨g, 2, none⟩ = some x2 ∧ w.cell? ⟨g, 3, none⟩ = some x3 ∧ w.cell? ⟨g, 4, none⟩ = some x4 := ⟨bc_ E 0, bc_ E 1, bc_ E 2, bc_ E 3, bc_ E 4⟩
theorem below_new {W0 w W w1 : World} {g : Nat} (hB : Below w.heap.size w W) (hg : W.grownBy w1 (some g)) (hle : w.heap.size ≤ g) : Below w.heap.size w w1 :=
  ⟨hg.os.trans hB.os, hg.tape.trans hB.tape, hg.output.trans hB.output, Nat.le_trans hB.size hg.size, fun k hk => (hg.block k (Nat.lt_of_lt_of_le hk hB.size) (fun e => by injection e with e; omega)).trans (hB.block k hk)⟩
theorem if_then {α : Type} {c : Prop} [Decidable c] {x : Option α} {r : α} (h : (if c then x else none) = some r) : c ∧ x = some r := by
  by_cases q : c
  · rw [if_pos q] at h; exact ⟨q, h⟩
  · rw [if_neg q] at h; cases h
def laws_FnExactRootOk.f (k : Nat) (v0 : Int) (ns0 : List ByteArray) (ks0 : List S26) (ss0 : List S83) (kp0 : List S92) : Option Bool := (laws_szRoot.f k v0 ns0 ks0 ss0 kp0 1048576).bind fun t => if t < 0 then some true else ((laws_toRoot.f k v0 ns0 ks0 ss0 kp0).bind fun p => (spec_RootOk.f k p.1 p.2.1 p.2.2.1 p.2.2.2.1 p.2.2.2.2).bind fun q => (laws_toRoot.f k v0 ns0 ks0 ss0 kp0).bind fun x => (impl_RootOk.f k x.1 x.2.1 x.2.2.1 x.2.2.2.1 x.2.2.2.2).bind fun g => if g = q then ((laws_toRoot.f k v0 ns0 ks0 ss0 kp0).bind fun y => (laws_eqRoot.f k x.1 x.2.1 x.2.2.1 x.2.2.2.1 x.2.2.2.2 y.1 y.2.1 y.2.2.1 y.2.2.2.1 y.2.2.2.2).bind fun b => if b = true then some true else none) else none)
set_option maxHeartbeats 8000000 in
set_option maxRecDepth 100000 in
theorem laws_FnExactRootOk.calls (k : Nat) (v0 : Int) (A01 : Option Addr) (c01 : Nat) (ns0 : List ByteArray) (A02 : Option Addr) (c02 : Nat) (ks0 : List S26) (A03 : Option Addr) (c03 : Nat) (ss0 : List S83) (A04 : Option Addr) (c04 : Nat) (kp0 : List S92) (r : Bool) (w : World) (hr01 : Kd.C Kd.string w A01 ns0.length ns0) (hc01 : ns0.length ≤ c01) (hr02 : Kd.C k26 w A02 ks0.length ks0) (hc02 : ks0.length ≤ c02) (hr03 : Kd.C k83 w A03 ss0.length ss0) (hc03 : ss0.length ≤ c03) (hr04 : Kd.C k92 w A04 kp0.length kp0) (hc04 : kp0.length ≤ c04) (hT : Tabs w) (h : laws_FnExactRootOk.f k v0 ns0 ks0 ss0 kp0 = some r) :
    Calls Tryd.prog 4 #[.agg #[.int .i64 v0, .slice A01 ns0.length c01, .slice A02 ks0.length c02, .slice A03 ss0.length c03, .slice A04 kp0.length c04]] w fun e w' => e = .returned (.bool r) ∧ Below w.heap.size w w' := by
  have hu1 := Tryd.underlying42
  have hu2 := Tryd.underlying47
  have hu3 := Tryd.underlying26
  have hu4 := Tryd.underlying33
  have HR01 := Aside0.mk hr01
  have HC01 := Aside0.mk hc01
  have HR02 := Aside0.mk hr02
  have HC02 := Aside0.mk hc02
  have HR03 := Aside0.mk hr03
  have HC03 := Aside0.mk hc03
  have HR04 := Aside0.mk hr04
  have HC04 := Aside0.mk hc04
  have HT := Aside0.mk hT
  have HB := Aside0.mk (Below.refl w.heap.size w)
  clear hr01 hc01 hr02 hc02 hr03 hc03 hr04 hc04 hT
  unfold laws_FnExactRootOk.f at h
  obtain ⟨t, A1_, h_⟩ := Option.bind_eq_some_iff.mp h
  clear h
  have h := h_
  clear h_
  have A1 := Aside0.mk A1_
  clear A1_
  (try dsimp only at h)
  by_cases c2 : t < 0
  · rw [if_pos c2] at h
    have c2b : decide (t < 0) = true := decide_eq_true c2
    obtain rfl := Option.some.inj h
    clear c2 h
    go_enter Tryd.func4, Tryd.ntmps4
    go_wp2_with (first | ((with_reducible refine gate_dst (N := 1) rfl ?_); refine box_event ?hg (N := 1) ?hd (cs := #[.int .i64 v0, .slice A01 ns0.length c01, .slice A02 ks0.length c02, .slice A03 ss0.length c03, .slice A04 kp0.length c04]) (t := 42) ?hr ?_; (case hd => rfl); (case hg => rfl); (case hr => first | (go_simp; done) | (go_simp; rfl)); intro g_a hg w1 hx hb; replace HB := bw_ hb; have B_a := Aside0.mk hx; have h_a := b5_ B_a; clear hx hb hg) | (go_at_call 15; refine (laws_szRoot.calls k v0 _ _ ns0 _ _ ks0 _ _ ss0 _ _ kp0 1048576 t _ (Kd.C_below HR01.out HB.out) HC01.out (Kd.C_below HR02.out HB.out) HC02.out (Kd.C_below HR03.out HB.out) HC03.out (Kd.C_below HR04.out HB.out) HC04.out A1.out).mono ?_; rintro e w2 ⟨rfl, hb⟩; replace HB := bw_ hb; replace B_a := kb_ B_a hb; replace h_a := b5_ B_a; clear hb))
    go_ret
    exact ⟨by first | rfl | (simp; done), HB.out⟩
  rw [if_neg c2] at h
  have c2b : decide (t < 0) = false := decide_eq_false c2
  clear c2
  obtain ⟨⟨p0, p1, p2, p3, p4⟩, A2_, h_⟩ := Option.bind_eq_some_iff.mp h
  clear h
  have h := h_
  clear h_
  have A2 := Aside0.mk A2_
  clear A2_
  (try dsimp only at h A2)
  obtain ⟨q, A3_, h_⟩ := Option.bind_eq_some_iff.mp h
  clear h
  have h := h_
  clear h_
  have A3 := Aside0.mk A3_
  clear A3_
  (try dsimp only at h)
  obtain ⟨⟨x0, x1, x2, x3, x4⟩, A4_, h_⟩ := Option.bind_eq_some_iff.mp h
  clear h
  have h := h_
  clear h_
  have A4 := Aside0.mk A4_
  clear A4_
  (try dsimp only at h A4)
  obtain ⟨g, A5_, h_⟩ := Option.bind_eq_some_iff.mp h
  clear h
  have h := h_
  clear h_
  have A5 := Aside0.mk A5_
  clear A5_
  (try dsimp only at h)
  obtain ⟨e1, h_⟩ := if_then h
  clear h
  have h := h_
  clear h_
  (try dsimp only at e1)
  subst e1
  obtain ⟨⟨y0, y1, y2, y3, y4⟩, A6_, h_⟩ := Option.bind_eq_some_iff.mp h
  clear h
  have h := h_
  clear h_
  have A6 := Aside0.mk A6_
  clear A6_
  (try dsimp only at h A6)
  obtain ⟨b, A7_, h_⟩ := Option.bind_eq_some_iff.mp h
  clear h
  have h := h_
  clear h_
  have A7 := Aside0.mk A7_
  clear A7_
  (try dsimp only at h)
  obtain ⟨e2, h_⟩ := if_then h
  clear h
  have h := h_
  clear h_
  (try dsimp only at e2)
  subst e2
  obtain rfl := Option.some.inj h
  clear h
  go_enter Tryd.func4, Tryd.ntmps4
  go_upto_region 6 with (first | ((with_reducible refine gate_dst (N := 1) rfl ?_); refine box_event ?hg (N := 1) ?hd (cs := #[.int .i64 v0, .slice A01 ns0.length c01, .slice A02 ks0.length c02, .slice A03 ss0.length c03, .slice A04 kp0.length c04]) (t := 42) ?hr ?_; (case hd => rfl); (case hg => rfl); (case hr => first | (go_simp; done) | (go_simp; rfl)); intro g_a hg w1 hx hb; replace HB := bw_ hb; have B_a := Aside0.mk hx; have h_a := b5_ B_a; clear hx hb hg) | (go_at_call 15; refine (laws_szRoot.calls k v0 _ _ ns0 _ _ ks0 _ _ ss0 _ _ kp0 1048576 t _ (Kd.C_below HR01.out HB.out) HC01.out (Kd.C_below HR02.out HB.out) HC02.out (Kd.C_below HR03.out HB.out) HC03.out (Kd.C_below HR04.out HB.out) HC04.out A1.out).mono ?_; rintro e w2 ⟨rfl, hb⟩; replace HB := bw_ hb; replace B_a := kb_ B_a hb; replace h_a := b5_ B_a; clear hb) | (go_at_call 17; refine (laws_toRoot.calls k v0 _ _ ns0 _ _ ks0 _ _ ss0 _ _ kp0 p0 p1 p2 p3 p4 _ (Kd.C_below HR01.out HB.out) HC01.out (Kd.C_below HR02.out HB.out) HC02.out (Kd.C_below HR03.out HB.out) HC03.out (Kd.C_below HR04.out HB.out) HC04.out A2.out).mono ?_; rintro e w3 ⟨u1_, u2_, u3_, u4_, rfl, s1, s2, s3, s4, hb⟩; replace HB := bw_ hb; replace B_a := kb_ B_a hb; replace h_a := b5_ B_a; obtain ⟨Ap1, cp1, rfl⟩ := Kd.R_slice s1; obtain ⟨Ap2, cp2, rfl⟩ := Kd.R_slice s2; obtain ⟨Ap3, cp3, rfl⟩ := Kd.R_slice s3; obtain ⟨Ap4, cp4, rfl⟩ := Kd.S_slice s4; have Hp := Aside0.mk (And.intro (Kd.R_reads' s1) (And.intro (Kd.R_reads' s2) (And.intro (Kd.R_reads' s3) (Kd.S_reads' s4)))); have Bp := Aside0.mk (Below.refl w3.heap.size w3); clear hb s1 s2 s3 s4) | (go_at_call 16; refine (spec_RootOk.calls k p0 _ _ p1 _ _ p2 _ _ p3 _ _ p4 g _ (Kd.C_below Hp.out.1.2.2 Bp.out) Hp.out.1.2.1 (Kd.C_below Hp.out.2.1.2.2 Bp.out) Hp.out.2.1.2.1 (Kd.C_below Hp.out.2.2.1.2.2 Bp.out) Hp.out.2.2.1.2.1 (Kd.C_below Hp.out.2.2.2.2.2 Bp.out) Hp.out.2.2.2.2.1 A3.out).mono ?_; rintro e w4 ⟨rfl, hb⟩; replace HB := bw_ hb; replace B_a := kb_ B_a hb; replace h_a := b5_ B_a; clear hb))
  clear Hp Bp
  go_upto_region 10 with (first | (go_at_call 17; refine (laws_toRoot.calls k v0 _ _ ns0 _ _ ks0 _ _ ss0 _ _ kp0 x0 x1 x2 x3 x4 _ (Kd.C_below HR01.out HB.out) HC01.out (Kd.C_below HR02.out HB.out) HC02.out (Kd.C_below HR03.out HB.out) HC03.out (Kd.C_below HR04.out HB.out) HC04.out A4.out).mono ?_; rintro e w5 ⟨u1_, u2_, u3_, u4_, rfl, s1, s2, s3, s4, hb⟩; replace HB := bw_ hb; replace B_a := kb_ B_a hb; replace h_a := b5_ B_a; obtain ⟨Ax1, cx1, rfl⟩ := Kd.R_slice s1; obtain ⟨Ax2, cx2, rfl⟩ := Kd.R_slice s2; obtain ⟨Ax3, cx3, rfl⟩ := Kd.R_slice s3; obtain ⟨Ax4, cx4, rfl⟩ := Kd.S_slice s4; have Hx := Aside0.mk (And.intro (Kd.R_reads' s1) (And.intro (Kd.R_reads' s2) (And.intro (Kd.R_reads' s3) (Kd.S_reads' s4)))); have Bx := Aside0.mk (Below.refl w5.heap.size w5); clear hb s1 s2 s3 s4) | ((with_reducible refine gate_dst (N := 5) rfl ?_); refine box_event ?hg (N := 5) ?hd (cs := #[.int .i64 0, .slice none 0 0, .slice none 0 0, .slice none 0 0, .slice none 0 0]) (t := 47) ?hr ?_; (case hd => rfl); (case hg => rfl); (case hr => first | (go_simp; done) | (go_simp; rfl)); intro g_x hg w6 hx hb; have D_xa := Aside0.mk (Nat.ne_of_lt (Nat.lt_of_lt_of_eq (blk_lt B_a.out) hg.symm)); have E_xx := Aside0.mk (Nat.le_trans Bx.out.size (Nat.le_of_eq hg.symm)); have L_x := Aside0.mk (Nat.le_trans HB.out.size (Nat.le_of_eq hg.symm)); replace HB := bw_ hb; replace B_a := kb_ B_a hb; replace h_a := b5_ B_a; replace Bx := Aside0.mk (below_step Bx.out hb); have B_x := Aside0.mk hx; clear hx hb hg) | ((with_reducible refine gate_store (t := 47) (p := 5) rfl ?_); refine box_store rfl rfl _ _ _ rfl [.int .i64 x0, .slice Ax1 x1.length cx1, .slice Ax2 x2.length cx2, .slice Ax3 x3.length cx3, .slice Ax4 x4.length cx4] ?ha ?hx (by kernel_rfl) ?h1 (by simp [Value.cells]) B_x.out rfl ?_; (case ha => rfl); (case hx => rfl); (case h1 => (intro q hq; simp only [List.mem_cons, List.not_mem_nil, or_false] at hq; rcases hq with rfl | rfl | rfl | rfl | rfl <;> rfl)); intro w7 hs hg; replace B_a := Aside0.mk (blk_grown B_a.out hg (fun e => D_xa.out (by injection e))); replace h_a := b5_ B_a; replace Bx := Aside0.mk (below_far Bx.out hg E_xx.out); replace B_x := Aside0.mk hs; have h_x := b5_ B_x; replace HB := Aside0.mk (below_far HB.out hg L_x.out); clear hs hg) | (go_at_call 18; refine (impl_RootOk.calls k x0 _ _ x1 _ _ x2 _ _ x3 _ _ x4 g _ (Kd.C_below Hx.out.1.2.2 Bx.out) Hx.out.1.2.1 (Kd.C_below Hx.out.2.1.2.2 Bx.out) Hx.out.2.1.2.1 (Kd.C_below Hx.out.2.2.1.2.2 Bx.out) Hx.out.2.2.1.2.1 (Kd.C_below Hx.out.2.2.2.2.2 Bx.out) Hx.out.2.2.2.2.1 (Tabs.below HT.out HB.out) A5.out).mono ?_; rintro e w8 ⟨rfl, hb⟩; replace HB := bw_ hb; replace B_a := kb_ B_a hb; replace B_x := kb_ B_x hb; replace h_a := b5_ B_a; replace h_x := b5_ B_x; replace Bx := Aside0.mk (below_step Bx.out hb); clear hb))
  replace HB := Aside0.mk (below_drew1 HB.out)
  replace B_a := Aside0.mk (blk_drew B_a.out)
  replace B_x := Aside0.mk (blk_drew B_x.out)
  replace Bx := Aside0.mk (below_drew1 Bx.out)
  clear h_a h_x
  refine qs_ (S := fun w' => w'.cell? ⟨g_x, 0, none⟩ = some (.int .i64 x0) ∧ w'.cell? ⟨g_x, 1, none⟩ = some (.slice Ax1 x1.length cx1) ∧ w'.cell? ⟨g_x, 2, none⟩ = some (.slice Ax2 x2.length cx2) ∧ w'.cell? ⟨g_x, 3, none⟩ = some (.slice Ax3 x3.length cx3) ∧ w'.cell? ⟨g_x, 4, none⟩ = some (.slice Ax4 x4.length cx4) ∧ w'.cell? ⟨g_a, 0, none⟩ = some (.int .i64 v0) ∧ w'.cell? ⟨g_a, 1, none⟩ = some (.slice A01 ns0.length c01) ∧ w'.cell? ⟨g_a, 2, none⟩ = some (.slice A02 ks0.length c02) ∧ w'.cell? ⟨g_a, 3, none⟩ = some (.slice A03 ss0.length c03) ∧ w'.cell? ⟨g_a, 4, none⟩ = some (.slice A04 kp0.length c04)) ⟨bc_ B_x 0, bc_ B_x 1, bc_ B_x 2, bc_ B_x 3, bc_ B_x 4, bc_ B_a 0, bc_ B_a 1, bc_ B_a 2, bc_ B_a 3, bc_ B_a 4⟩ (fun hHeld => ?_)
  generalize World.drew _ = wd at HB B_a B_x Bx hHeld ⊢
  refine qt_ hHeld 0 ?_
  refine qt_ hHeld 1 ?_
  refine qo_ 2 (fun K hK => ?_)
  refine goes_ Tryd.func17 (by kernel_rfl) rfl #[.agg #[.int .i64 v0, .slice A01 ns0.length c01, .slice A02 ks0.length c02, .slice A03 ss0.length c03, .slice A04 kp0.length c04]] (by rfl) rfl rfl ar_ ?_
  refine (laws_toRoot.calls k v0 _ _ ns0 _ _ ks0 _ _ ss0 _ _ kp0 y0 y1 y2 y3 y4 _ (Kd.C_below HR01.out HB.out) HC01.out (Kd.C_below HR02.out HB.out) HC02.out (Kd.C_below HR03.out HB.out) HC03.out (Kd.C_below HR04.out HB.out) HC04.out A6.out).mono ?_
  rintro e w9 ⟨u1_, u2_, u3_, u4_, rfl, s1, s2, s3, s4, hb⟩
  refine ⟨_, rfl, ?_⟩
  replace HB := bw_ hb
  replace B_a := kb_ B_a hb
  replace B_x := kb_ B_x hb
  replace Bx := Aside0.mk (below_step Bx.out hb)
  obtain ⟨Ay1, cy1, rfl⟩ := Kd.R_slice s1
  obtain ⟨Ay2, cy2, rfl⟩ := Kd.R_slice s2
  obtain ⟨Ay3, cy3, rfl⟩ := Kd.R_slice s3
  obtain ⟨Ay4, cy4, rfl⟩ := Kd.S_slice s4
  have Hy := Aside0.mk (And.intro (Kd.R_reads' s1) (And.intro (Kd.R_reads' s2) (And.intro (Kd.R_reads' s3) (Kd.S_reads' s4))))
  have By := Aside0.mk (Below.refl w9.heap.size w9)
  clear hb s1 s2 s3 s4
  refine hK.out _ _ ⟨bc_ B_x 0, bc_ B_x 1, bc_ B_x 2, bc_ B_x 3, bc_ B_x 4, bc_ B_a 0, bc_ B_a 1, bc_ B_a 2, bc_ B_a 3, bc_ B_a 4⟩ (fun hHeld => ?_)
  clear hK K
  refine nm_ 24 ?_
  refine qo_ 3 (fun K hK => ?_)
  refine goes_ Tryd.func19 (by kernel_rfl) rfl #[.agg #[.int .i64 x0, .slice Ax1 x1.length cx1, .slice Ax2 x2.length cx2, .slice Ax3 x3.length cx3, .slice Ax4 x4.length cx4], .agg #[.int .i64 y0, .slice Ay1 y1.length cy1, .slice Ay2 y2.length cy2, .slice Ay3 y3.length cy3, .slice Ay4 y4.length cy4]] (by rfl) rfl rfl ar_ ?_
  refine (laws_eqRoot.calls k x0 _ _ x1 _ _ x2 _ _ x3 _ _ x4 y0 _ _ y1 _ _ y2 _ _ y3 _ _ y4 true _ (Kd.C_below Hx.out.1.2.2 Bx.out) Hx.out.1.2.1 (Kd.C_below Hx.out.2.1.2.2 Bx.out) Hx.out.2.1.2.1 (Kd.C_below Hx.out.2.2.1.2.2 Bx.out) Hx.out.2.2.1.2.1 (Kd.C_below Hx.out.2.2.2.2.2 Bx.out) Hx.out.2.2.2.2.1 (Kd.C_below Hy.out.1.2.2 By.out) Hy.out.1.2.1 (Kd.C_below Hy.out.2.1.2.2 By.out) Hy.out.2.1.2.1 (Kd.C_below Hy.out.2.2.1.2.2 By.out) Hy.out.2.2.1.2.1 (Kd.C_below Hy.out.2.2.2.2.2 By.out) Hy.out.2.2.2.2.1 A7.out).mono ?_
  rintro e w10 ⟨rfl, hb⟩
  refine ⟨_, rfl, ?_⟩
  replace HB := bw_ hb
  replace B_a := kb_ B_a hb
  replace B_x := kb_ B_x hb
  replace Bx := Aside0.mk (below_step Bx.out hb)
  replace By := Aside0.mk (below_step By.out hb)
  clear hb
  refine hK.out _ _ ⟨bc_ B_x 0, bc_ B_x 1, bc_ B_x 2, bc_ B_x 3, bc_ B_x 4, bc_ B_a 0, bc_ B_a 1, bc_ B_a 2, bc_ B_a 3, bc_ B_a 4⟩ (fun hHeld => ?_)
  clear hK K
  refine nm_ 25 ?_
  refine qp_ 4 ?_
  refine done_ (by kernel_rfl) ?_
  have h_a := b5_ B_a
  have h_x := b5_ B_x
  go_wp2
  go_ret
  exact ⟨by first | rfl | (simp; done), HB.out⟩
end Go.Proofs.YtggokdobijhdhaaDoor.P
