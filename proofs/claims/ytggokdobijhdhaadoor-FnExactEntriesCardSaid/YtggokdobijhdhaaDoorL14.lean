/- Trees that are written: a kind for Node whose rows lie apart at all depths; laws.markNodeS, laws.markNode told by hand. -/
import Derived.Test.YtggokdobijhdhaaDoorL10
import Derived.Test.YtggokdobijhdhaaDoorL11
import Derived.Test.YtggokdobijhdhaaDoorPx0
import Derived.Test.YtggokdobijhdhaaDoorPx32
import Derived.Test.YtggokdobijhdhaaDoorS
import Derived.Test.YtggokdobijhdhaaDoorL10
import Derived.Test.YtggokdobijhdhaaDoorL11
import Derived.Test.YtggokdobijhdhaaDoorS
namespace Go.Proofs.YtggokdobijhdhaaDoor.P
open Go.RowKit Go.Proofs.YtggokdobijhdhaaDoor.X Go.Proofs.YtggokdobijhdhaaDoorW.PrintWords Go.Proofs.YtggokdobijhdhaaDoorW.PrintLast Go.Proofs.YtggokdobijhdhaaDoorW.PrintMore
set_option linter.unusedVariables false
set_option linter.unusedSimpArgs false
theorem blk_kept {w W : World} {S : Nat → Prop} {g : Nat} {o : Obj} (hb : w.heap[g]? = some o) (h : Kept w W S) (hn : ¬ S g) : W.heap[g]? = some o := by
  rw [h.2 g (blk_lt hb) hn]; exact hb
set_option maxHeartbeats 8000000 in
set_option maxRecDepth 100000 in
theorem laws_markNode.calls (k : Nat) (ok : Nat → Prop) (x : S33) (v0 v1 v2 : Value) (a1 r1 : Int) (y0 : List ByteArray) (y1 : List S33) (y2 : List S86) (w0 w : World) (hB : Below w0.heap.size w0 w) (hM : kT.M w w0.heap.size ok x [v0, v1, v2]) (h : laws_markNode.f k x.f0 x.f1 x.f2 a1 = some (r1, y0, y1, y2)) :
    Calls Tryd.prog 12 #[.agg #[v0, v1, v2], .int .i64 a1] w fun e w' => e = .returned (.int .i64 r1) ∧ kT.M w' w0.heap.size ok ⟨y0, y1, y2⟩ [v0, v1, v2] ∧ Below w0.heap.size w0 w' ∧ Kept w w' ok := by
  have hu1 := Tryd.underlying33
  obtain ⟨⟨t1, n1⟩, A10, h2⟩ := Option.bind_eq_some_iff.mp h
  obtain ⟨⟨t2, n2⟩, A20, h3⟩ := Option.bind_eq_some_iff.mp h2
  obtain ⟨⟨t3, n3⟩, A30, h4⟩ := Option.bind_eq_some_iff.mp h3
  simp only [Option.some.injEq, Prod.mk.injEq] at h4
  obtain ⟨rfl, rfl, rfl, rfl⟩ := h4
  dsimp only at A10 A20 A30
  clear h h2 h3
  obtain ⟨p, q, u0, u1, u2, e_, g0, g1, g2⟩ := kT_openM (kT.M_mono (fun k hk => (⟨hk.1, hk.2.2.1⟩ : ok k ∧ k < w.heap.size)) (kT.M_bound hM))
  injection e_ with e0 e_
  injection e_ with e1 e_
  injection e_ with e2 _
  subst e0 e1 e2
  obtain ⟨A0, c0, rfl⟩ := Kd.R_slice g0
  obtain ⟨A1_, c1, rfl⟩ := Kd.S_slice g1
  obtain ⟨A2_, c2, rfl⟩ := Kd.R_slice g2
  have A1 := Aside0.mk A10
  have A2 := Aside0.mk A20
  have A3 := Aside0.mk A30
  have G0 := Aside0.mk g0
  have G1 := Aside0.mk g1
  have G2 := Aside0.mk g2
  have HB := Aside0.mk hB
  have Kw := Aside0.mk (Kept.refl w ok)
  clear A10 A20 A30 hM g0 g1 g2 hB
  go_enter Tryd.func12, Tryd.ntmps12
  go_wp2_with (first
    | ((with_reducible refine gate_dst (N := 2) rfl ?_); refine box_event ?hg (N := 2) ?hd (cs := #[.slice A0 x.f0.length c0, .slice A1_ x.f1.length c1, .slice A2_ x.f2.length c2]) (t := 33) ?hr ?_; (case hd => rfl); (case hg => rfl); (case hr => first | (go_simp; done) | (go_simp; rfl)); intro g_b hg w4 hx hb; have N_b := Aside0.mk (Nat.le_of_eq hg.symm); have B_b := Aside0.mk hx; have hx0 := bc_ B_b 0; have hx1 := bc_ B_b 1; have hx2 := bc_ B_b 2; have G0' := Aside0.mk (Kd.R_below G0.out hb); have G1' := Aside0.mk (Kd.S_below G1.out hb); have G2' := Aside0.mk (Kd.R_below G2.out hb); have Kw' := Aside0.mk (Kept.below Kw.out hb); have B' := Aside0.mk (below_step HB.out hb); clear G0 G1 G2 Kw HB hx hb hg; have G0 := G0'; have G1 := G1'; have G2 := G2'; have Kw := Kw'; have HB := B'; clear G0' G1' G2' Kw' B')
    | ((with_reducible refine gate_callee (f := 36) rfl ?_); refine goesL_ (some 8) rfl rfl Tryd.func36 (by kernel_rfl) rfl #[.slice A0 x.f0.length c0, .int .i64 a1] rfl ar_ ?_; (refine (laws_markStringS.calls k (fun k => (ok k ∧ k < w.heap.size) ∧ p k) _ x.f0 a1 t1 n1 w0 _ HB.out G0.out A1.out).mono ?_); rintro e w8 ⟨rfl, hr', hb', hk'⟩; refine ⟨_, rfl, ?_⟩; have b_ := Aside0.mk (blk_kept B_b.out hk' (fun h_ => absurd (h_.1.2 : g_b < _) (Nat.not_lt_of_le N_b.out))); have G0' := Aside0.mk (Kd.R_mono (Kd.R_tight rfl hr') (fun k_ e_ => G0.out.1 k_ e_.symm)); have G1' := Aside0.mk (Kd.S_step G1.out (fun k_ h_ l_ => hk'.2 k_ l_ (fun z_ => h_.1.2 z_.2))); have G2' := Aside0.mk (Kd.R_step G2.out (fun k_ h_ l_ => hk'.2 k_ l_ (fun z_ => h_.1.2 z_.2))); have Kw' := Aside0.mk (Kw.out.then_ hk' (fun k_ h_ => .inl h_.1.1)); have B' := Aside0.mk hb'; clear G0 G1 G2 Kw HB B_b hx0 hx1 hx2 hr' hb' hk'; have B_b := b_; have G0 := G0'; have G1 := G1'; have G2 := G2'; have Kw := Kw'; have HB := B'; clear b_ G0' G1' G2' Kw' B'; have hx0 := bc_ B_b 0; have hx1 := bc_ B_b 1; have hx2 := bc_ B_b 2)
    | ((with_reducible refine gate_callee (f := 37) rfl ?_); refine goesL_ (some 12) rfl rfl Tryd.func37 (by kernel_rfl) rfl #[.slice A1_ x.f1.length c1, .int .i64 t1] rfl ar_ ?_; (refine (laws_markNodeS.calls k (fun k => ((ok k ∧ k < w.heap.size) ∧ ¬ p k) ∧ q k) _ x.f1 t1 t2 n2 w0 _ HB.out G1.out A2.out).mono ?_); rintro e w10 ⟨rfl, hr', hb', hk'⟩; refine ⟨_, rfl, ?_⟩; have b_ := Aside0.mk (blk_kept B_b.out hk' (fun h_ => absurd (h_.1.1.2 : g_b < _) (Nat.not_lt_of_le N_b.out))); have G0' := Aside0.mk (Kd.R_step G0.out (fun k_ h_ l_ => hk'.2 k_ l_ (fun z_ => z_.1.2 h_.2))); have G1' := Aside0.mk (hr'); have G2' := Aside0.mk (Kd.R_step G2.out (fun k_ h_ l_ => hk'.2 k_ l_ (fun z_ => h_.2 z_.2))); have Kw' := Aside0.mk (Kw.out.then_ hk' (fun k_ h_ => .inl h_.1.1.1)); have B' := Aside0.mk hb'; clear G0 G1 G2 Kw HB B_b hx0 hx1 hx2 hr' hb' hk'; have B_b := b_; have G0 := G0'; have G1 := G1'; have G2 := G2'; have Kw := Kw'; have HB := B'; clear b_ G0' G1' G2' Kw' B'; have hx0 := bc_ B_b 0; have hx1 := bc_ B_b 1; have hx2 := bc_ B_b 2)
    | ((with_reducible refine gate_callee (f := 38) rfl ?_); refine goesL_ (some 16) rfl rfl Tryd.func38 (by kernel_rfl) rfl #[.slice A2_ x.f2.length c2, .int .i64 t2] rfl ar_ ?_; (refine (laws_markSubS.calls k (fun k => ((ok k ∧ k < w.heap.size) ∧ ¬ p k) ∧ ¬ q k) _ x.f2 t2 t3 n3 w0 _ HB.out G2.out A3.out).mono ?_); rintro e w12 ⟨rfl, hr', hb', hk'⟩; refine ⟨_, rfl, ?_⟩; have b_ := Aside0.mk (blk_kept B_b.out hk' (fun h_ => absurd (h_.1.1.2 : g_b < _) (Nat.not_lt_of_le N_b.out))); have G0' := Aside0.mk (Kd.R_step G0.out (fun k_ h_ l_ => hk'.2 k_ l_ (fun z_ => z_.1.2 h_.2))); have G1' := Aside0.mk (Kd.S_step G1.out (fun k_ h_ l_ => hk'.2 k_ l_ (fun z_ => z_.2 h_.2))); have G2' := Aside0.mk (Kd.R_mono (Kd.R_tight rfl hr') (fun k_ e_ => G2.out.1 k_ e_.symm)); have Kw' := Aside0.mk (Kw.out.then_ hk' (fun k_ h_ => .inl h_.1.1.1)); have B' := Aside0.mk hb'; clear G0 G1 G2 Kw HB B_b hx0 hx1 hx2 hr' hb' hk'; have B_b := b_; have G0 := G0'; have G1 := G1'; have G2 := G2'; have Kw := Kw'; have HB := B'; clear b_ G0' G1' G2' Kw' B'; have hx0 := bc_ B_b 0; have hx1 := bc_ B_b 1; have hx2 := bc_ B_b 2))
  go_ret
  exact ⟨by first | rfl | (simp; done), kT_mkM _ _ ok p q ⟨_, _, _⟩ (Kd.R_mono G0.out (fun k hk => ⟨hk.1.1, hk.2⟩)) (Kd.S_mono G1.out (fun k hk => ⟨⟨hk.1.1.1, hk.1.2⟩, hk.2⟩)) (Kd.R_mono G2.out (fun k hk => ⟨⟨hk.1.1.1, hk.1.2⟩, hk.2⟩)), HB.out, Kw.out⟩
end Go.Proofs.YtggokdobijhdhaaDoor.P
