/- Trees that are written: a kind for Node whose rows lie apart at all depths; laws.markNodeS, laws.markNode told by hand. -/
import Derived.Test.YtggokdobijhdhaaDoorL10
import Derived.Test.YtggokdobijhdhaaDoorPx0
import Derived.Test.YtggokdobijhdhaaDoorPx32
import Derived.Test.YtggokdobijhdhaaDoorS
import Derived.Test.YtggokdobijhdhaaDoorL10
import Derived.Test.YtggokdobijhdhaaDoorS
namespace Go.Proofs.YtggokdobijhdhaaDoor.P
open Go.RowKit Go.Proofs.YtggokdobijhdhaaDoor.X Go.Proofs.YtggokdobijhdhaaDoorW.PrintWords Go.Proofs.YtggokdobijhdhaaDoorW.PrintLast Go.Proofs.YtggokdobijhdhaaDoorW.PrintMore
set_option linter.unusedVariables false
set_option linter.unusedSimpArgs false
theorem Kept.cellS {w W : World} {S : Nat → Prop} (h : Kept w W S) {g o : Nat} {v : Value} (hc : w.cell? ⟨g, o, none⟩ = some v) (hg : g < w.heap.size) (hn : ¬ S g) : W.cell? ⟨g, o, none⟩ = some v := by
  rw [World.cell?_of_block (h.2 g hg hn)]; exact hc
/-- laws.markNodeS: each node's names, kids and subscriptions are written. -/
def laws_markNodeS.l0 : Nat → List S33 → Int → Int → Option (Int × List S33)
  | 0, _, _, _ => none
  | k + 1, x0, x1, x5 => if x5 < (x0.length : Int) then (if 0 ≤ x5 then ((laws_markStringS.f k (rd_T33 x0 x5).f0 x1).bind fun a => (laws_markNodeS.l0 k (rd_T33 x0 x5).f1 a.1 0).bind fun b => (laws_markSubS.f k (rd_T33 x0 x5).f2 b.1).bind fun c => laws_markNodeS.l0 k (x0.set x5.toNat ⟨a.2, b.2, c.2⟩) c.1 (wrap64 (x5 + 1))) else none) else (some (x1, x0))
def laws_markNodeS.f (k : Nat) (l0 : List S33) (a1 : Int) : Option (Int × List S33) := laws_markNodeS.l0 k l0 a1 0
def laws_markNode.f (k : Nat) (l0 : List ByteArray) (l1 : List S33) (l2 : List S86) (a1 : Int) : Option (Int × List ByteArray × List S33 × List S86) :=
  (laws_markStringS.f k l0 a1).bind fun a => (laws_markNodeS.f k l1 a.1).bind fun b => (laws_markSubS.f k l2 b.1).bind fun c => some (c.1, a.2, b.2, c.2)
set_option maxHeartbeats 8000000 in
set_option maxRecDepth 100000 in
theorem laws_markNodeS.calls (k : Nat) : ∀ (P0_ : Nat → Prop) (u : Value) (l0 : List S33) (a1 r1 : Int) (r2 : List S33) (w0 w : World) (hB : Below w0.heap.size w0 w) (ho0 : Kd.S kT 33 w w0.heap.size P0_ u l0) (h : laws_markNodeS.f k l0 a1 = some (r1, r2)),
    Calls Tryd.prog 37 #[u, .int .i64 a1] w fun e w' => e = .returned (.int .i64 r1) ∧ Kd.S kT 33 w' w0.heap.size P0_ u r2 ∧ Below w0.heap.size w0 w' ∧ Kept w w' P0_ := by
  induction k using Nat.strongRecOn with
  | ind k IH =>
  intro P0_ u l0 a1 r1 r2 w0 w hB ho0 h
  have IH' := Aside0.mk IH
  clear IH
  have HO := Aside0.mk ho0
  have HK := Aside0.mk (Kept.refl w P0_)
  have HB := Aside0.mk hB
  clear hB ho0
  have H' := Aside0.mk (show laws_markNodeS.l0 k l0 a1 0 = some (r1, r2) from h)
  clear h
  have hu1 := Tryd.underlying33
  go_enter Tryd.func37, Tryd.ntmps37
  go_wp2
  go_loopg [1, 5] k (fun kq v1 v5 w' => ∃ (x0_1 : List S33) (x1_1 : Int) (x5_1 : Int), v1 = .int .i64 x1_1 ∧ v5 = .int .i64 x5_1 ∧ Aside0 (laws_markNodeS.l0 kq x0_1 x1_1 x5_1 = some (r1, r2)) ∧ Aside0 (kq ≤ k) ∧ Aside0 (Kd.S kT 33 w' w0.heap.size P0_ u x0_1) ∧ Aside0 (Kept w w' P0_) ∧ Aside0 (Below w0.heap.size w0 w'))
  case atStart => exact ⟨l0, a1, 0, rfl, rfl, H', ⟨Nat.le_refl _⟩, HO, HK, HB⟩
  case round =>
    clear H'
    try clear p2
    obtain ⟨x0_1, x1_1, x5_1, rfl, rfl, HA, HK1, HO, HK, HB⟩ := hrel
    cases gk with
    | zero => exact absurd HA.out (by simp [laws_markNodeS.l0])
    | succ k1 =>
      have H := HA.out
      clear HA
      simp only [laws_markNodeS.l0] at H
      by_cases c3 : x5_1 < (x0_1.length : Int)
      · rw [if_pos c3] at H
        have c3b0 : decide (x5_1 < (x0_1.length : Int)) = true := decide_eq_true c3
        by_cases c5 : 0 ≤ x5_1
        · rw [if_pos c5] at H
          have c5b0 : decide (0 ≤ x5_1) = true := decide_eq_true c5
          obtain ⟨⟨t1, n1⟩, A10, H⟩ := Option.bind_eq_some_iff.mp H
          obtain ⟨⟨t2, n2⟩, A20, H⟩ := Option.bind_eq_some_iff.mp H
          obtain ⟨⟨t3, n3⟩, A30, H⟩ := Option.bind_eq_some_iff.mp H
          dsimp only at H A20 A30
          have A1 := Aside0.mk A10
          have A2 := Aside0.mk A20
          have A3 := Aside0.mk A30
          have H' := Aside0.mk H
          clear H A10 A20 A30
          have Q5 := Aside0.mk c5
          have Q3 := Aside0.mk c3
          clear c5 c3
          obtain ⟨go, co, rfl, gb, gl, -⟩ := Kd.S_form HO.out (by have := Q3.out; have := Q5.out; omega)
          have HG := Aside0.mk gl
          have HP := Aside0.mk ((Kd.S_R HO.out).1 go rfl)
          clear gb gl
          obtain ⟨oki, p, q, v0, v1, v2, hc0, hc1, hc2, hok, g0, g1, g2, hBd⟩ := node_elem HO.out x5_1 Q5.out Q3.out
          obtain ⟨A0, c0, rfl⟩ := Kd.R_slice g0
          obtain ⟨A1_, c1, rfl⟩ := Kd.S_slice g1
          obtain ⟨A2_, c2, rfl⟩ := Kd.R_slice g2
          have Hok := Aside0.mk hok
          have G0 := Aside0.mk g0
          have G1 := Aside0.mk g1
          have G2 := Aside0.mk g2
          have HBd := Aside0.mk hBd
          clear hok g0 g1 g2 hBd
          have p5 := eq_true Q5.out
          have p3 := eq_true Q3.out
          go_wp2_with (first
            | ((with_reducible refine gate_callee (f := 36) rfl ?_); refine goesL_ (some 18) rfl rfl Tryd.func36 (by kernel_rfl) rfl #[.slice A0 (rd_T33 x0_1 x5_1).f0.length c0, .int .i64 x1_1] rfl ar_ ?_; (refine (laws_markStringS.calls k1 (fun k => oki k ∧ p k) _ (rd_T33 x0_1 x5_1).f0 x1_1 t1 n1 w0 _ HB.out G0.out A1.out).mono ?_); rintro e w8 ⟨rfl, hr', hb', hk'⟩; refine ⟨_, rfl, ?_⟩; have m1 := Kept.cellS hk' hc1 HG.out (fun h_ => (Hok.out go h_.1).2 rfl); have m2 := Kept.cellS hk' hc2 HG.out (fun h_ => (Hok.out go h_.1).2 rfl); have G0' := Aside0.mk (Kd.R_mono (Kd.R_tight rfl hr') (fun k_ e_ => G0.out.1 k_ e_.symm)); have G1' := Aside0.mk (Kd.S_step G1.out (fun k_ h_ l_ => hk'.2 k_ l_ (fun z_ => h_.1.2 z_.2))); have G2' := Aside0.mk (Kd.R_step G2.out (fun k_ h_ l_ => hk'.2 k_ l_ (fun z_ => h_.1.2 z_.2))); have Kw := Aside0.mk (show Kept _ w8 oki from ⟨hk'.1, fun i_ l_ n_ => hk'.2 i_ l_ (fun z_ => n_ z_.1)⟩); have B' := Aside0.mk hb'; have G' := Aside0.mk (Nat.lt_of_lt_of_le HG.out hk'.1); clear G0 G1 G2 HB HG hc0 hc1 hc2 hr' hb' hk'; have hc1 := m1; have hc2 := m2; have G0 := G0'; have G1 := G1'; have G2 := G2'; have HB := B'; have HG := G'; clear m1 m2 G0' G1' G2' B' G')
            | ((with_reducible refine gate_callee (f := 37) rfl ?_); refine goesL_ (some 25) rfl rfl Tryd.func37 (by kernel_rfl) rfl #[.slice A1_ (rd_T33 x0_1 x5_1).f1.length c1, .int .i64 t1] rfl ar_ ?_; (refine (IH'.out k1 (by have := HK1.out; omega) (fun k => (oki k ∧ ¬ p k) ∧ q k) _ (rd_T33 x0_1 x5_1).f1 t1 t2 n2 w0 _ HB.out G1.out A2.out).mono ?_); rintro e w10 ⟨rfl, hr', hb', hk'⟩; refine ⟨_, rfl, ?_⟩; have m2 := Kept.cellS hk' hc2 HG.out (fun h_ => (Hok.out go h_.1.1).2 rfl); have G0' := Aside0.mk (Kd.R_step G0.out (fun k_ h_ l_ => hk'.2 k_ l_ (fun z_ => z_.1.2 h_.2))); have G1' := Aside0.mk hr'; have G2' := Aside0.mk (Kd.R_step G2.out (fun k_ h_ l_ => hk'.2 k_ l_ (fun z_ => h_.2 z_.2))); have Kw' := Aside0.mk (Kw.out.then_ hk' (fun k_ h_ => .inl h_.1.1)); have B' := Aside0.mk hb'; have G' := Aside0.mk (Nat.lt_of_lt_of_le HG.out hk'.1); clear G0 G1 G2 HB HG Kw hc1 hc2 hr' hb' hk'; have hc2 := m2; have G0 := G0'; have G1 := G1'; have G2 := G2'; have HB := B'; have HG := G'; have Kw := Kw'; clear m2 G0' G1' G2' B' G' Kw')
            | ((with_reducible refine gate_callee (f := 38) rfl ?_); refine goesL_ (some 32) rfl rfl Tryd.func38 (by kernel_rfl) rfl #[.slice A2_ (rd_T33 x0_1 x5_1).f2.length c2, .int .i64 t2] rfl ar_ ?_; (refine (laws_markSubS.calls k1 (fun k => (oki k ∧ ¬ p k) ∧ ¬ q k) _ (rd_T33 x0_1 x5_1).f2 t2 t3 n3 w0 _ HB.out G2.out A3.out).mono ?_); rintro e w12 ⟨rfl, hr', hb', hk'⟩; refine ⟨_, rfl, ?_⟩; have Kw' := Kw.out.then_ hk' (fun k_ h_ => .inl h_.1.1); have HO' := Aside0.mk (HBd.out w12 n1 n2 n3 (Kd.R_step G0.out (fun k_ h_ l_ => hk'.2 k_ l_ (fun z_ => z_.1.2 h_.2))) (Kd.S_step G1.out (fun k_ h_ l_ => hk'.2 k_ l_ (fun z_ => z_.2 h_.2))) (Kd.R_mono (Kd.R_tight rfl hr') (fun k_ e_ => G2.out.1 k_ e_.symm)) Kw'); have HK' := Aside0.mk (HK.out.then_ Kw' (fun k_ h_ => .inl (Hok.out k_ h_).1)); have B' := Aside0.mk hb'; clear HO HK HB G0 G1 G2 Kw Kw' hc2 hr' hb' hk'; have HO := HO'; have HK := HK'; have HB := B'; clear HO' HK' B'))
          go_roundg k1
          case measure => have := HK1.out; omega
          case rel => exact ⟨x0_1.set x5_1.toNat ⟨n1, n2, n3⟩, t3, wrap64 (x5_1 + 1), (by first | rfl | (simp; done) | (simp [*]; done)), (by first | rfl | (simp; done) | (simp [*]; done)), H', ⟨by have := HK1.out; omega⟩, HO, HK, HB⟩
        · rw [if_neg c5] at H
          exact absurd H (by simp)
      · rw [if_neg c3] at H
        have c3b0 : decide (x5_1 < (x0_1.length : Int)) = false := decide_eq_false c3
        simp only [Option.some.injEq, Prod.mk.injEq] at H
        obtain ⟨rfl, rfl⟩ := H
        obtain ⟨Ao, co, eo⟩ := Kd.S_slice HO.out
        subst eo
        clear c3
        go_wp2
        go_ret
        exact ⟨by first | rfl | (simp; done), HO.out, HB.out, HK.out⟩
end Go.Proofs.YtggokdobijhdhaaDoor.P
