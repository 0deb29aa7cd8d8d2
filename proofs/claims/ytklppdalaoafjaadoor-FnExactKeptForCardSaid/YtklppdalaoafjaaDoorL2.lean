/- Rows of what is kept, written into: an element's text, its row, its number; laws.markKeptS told by hand. -/
import Derived.Test.YtklppdalaoafjaaDoorL1
import Derived.Test.YtklppdalaoafjaaDoorPx0
import Derived.Test.YtklppdalaoafjaaDoorPx13
import Derived.Test.YtklppdalaoafjaaDoorPx14
import Derived.Test.YtklppdalaoafjaaDoorS
import Derived.Test.YtklppdalaoafjaaDoorL1
import Derived.Test.YtklppdalaoafjaaDoorS
namespace Go.Proofs.YtklppdalaoafjaaDoor.P
open Go.RowKit Go.Proofs.YtklppdalaoafjaaDoor.X Go.Proofs.YtklppdalaoafjaaDoorW.PrintWords Go.Proofs.YtklppdalaoafjaaDoorW.PrintLast Go.Proofs.YtklppdalaoafjaaDoorW.PrintMore
set_option linter.unusedVariables false
set_option linter.unusedSimpArgs false
/-- laws.markKeptS: each element's text, row and number are written. -/
def laws_markKeptS.l0 : Nat → List S35 → Int → Int → Option (Int × List S35)
  | 0, _, _, _ => none
  | k + 1, x0, x1, x5 => if x5 < (x0.length : Int) then (if 0 ≤ x5 then ((laws_markText.f k x1).bind fun t => ((laws_markByteS.f k (rd_T35 x0 x5).f1 (wrap64 (x1 + 1))).bind fun bt => (laws_markKeptS.l0 k (x0.set x5.toNat ⟨t, bt.2, bt.1⟩) (wrap64 (bt.1 + 1)) (wrap64 (x5 + 1))))) else none) else (some (x1, x0))
def laws_markKeptS.f (k : Nat) (l0 : List S35) (a1 : Int) : Option (Int × List S35) := laws_markKeptS.l0 k l0 a1 0
theorem laws_markKeptS.mono_l : ∀ k, (∀ y0 y1 y2, LeO (laws_markKeptS.l0 k y0 y1 y2) (laws_markKeptS.l0 (k + 1) y0 y1 y2))
  | 0 => fun _ _ _ r h => by simp [laws_markKeptS.l0] at h
  | k + 1 => by
    have ih0 := laws_markKeptS.mono_l k
    · intro y0 y1 y2
      unfold laws_markKeptS.l0
      repeat' first
      | (with_reducible exact ih0 _ _ _)
      | (with_reducible exact laws_markText.mono _ _)
      | (with_reducible exact laws_markByteS.mono _ _ _)
      | (with_reducible exact LeO.refl _)
      | (with_reducible exact LeO.none _)
      | (with_reducible refine LeO.ite ?_ ?_)
      | (with_reducible refine LeO.bind ?_ (fun _ => ?_))
      | exact ih0 _ _ _
      | exact laws_markText.mono _ _
      | exact laws_markByteS.mono _ _ _
      | exact LeO.none _
      | refine LeO.ite ?_ ?_
      | refine LeO.bind ?_ (fun _ => ?_)
theorem laws_markKeptS.mono : ∀ a0 a1 k, LeO (laws_markKeptS.f k a0 a1) (laws_markKeptS.f (k + 1) a0 a1) := fun a0 a1 k => laws_markKeptS.mono_l k a0 a1 0
theorem kept_set {xs : List S35} {i : Int} (h0 : 0 ≤ i) (h1 : i < (xs.length : Int)) (x : S35) : rd_T35 (xs.set i.toNat x) i = x := by
  have h : i.toNat < xs.length := by omega
  show (xs.set i.toNat x).getD i.toNat _ = x
  rw [List.getD_eq_getElem?_getD, List.getElem?_set_self h]
  rfl
set_option maxHeartbeats 8000000 in
set_option maxRecDepth 100000 in
theorem laws_markKeptS.calls (k : Nat) (P0_ : Nat → Prop) (u : Value) (l0 : List S35) (a1 r1 : Int) (r2 : List S35) (w0 w : World) (hB : Below w0.heap.size w0 w) (ho0 : Kd.S k35 35 w w0.heap.size P0_ u l0) (h : laws_markKeptS.f k l0 a1 = some (r1, r2)) :
    Calls Tryd.prog 9 #[u, .int .i64 a1] w fun e w' => e = .returned (.int .i64 r1) ∧ Kd.S k35 35 w' w0.heap.size P0_ u r2 ∧ Below w0.heap.size w0 w' ∧ Kept w w' P0_ := by
  have HO := Aside0.mk ho0
  have HK := Aside0.mk (Kept.refl w P0_)
  have HB := Aside0.mk hB
  clear hB ho0
  have H' := Aside0.mk (show laws_markKeptS.l0 k l0 a1 0 = some (r1, r2) from h)
  clear h
  go_enter Tryd.func9, Tryd.ntmps9
  go_wp2
  go_loopg [1, 5] k (fun kq v1 v5 w' => ∃ (x0_1 : List S35) (x1_1 : Int) (x5_1 : Int), v1 = .int .i64 x1_1 ∧ v5 = .int .i64 x5_1 ∧ Aside0 (laws_markKeptS.l0 kq x0_1 x1_1 x5_1 = some (r1, r2)) ∧ Aside0 (kq ≤ k) ∧ Aside0 (Kd.S k35 35 w' w0.heap.size P0_ u x0_1) ∧ Aside0 (Kept w w' P0_) ∧ Aside0 (Below w0.heap.size w0 w'))
  case atStart => exact ⟨l0, a1, 0, rfl, rfl, H', ⟨Nat.le_refl _⟩, HO, HK, HB⟩
  case round =>
    clear H'
    try clear p2
    obtain ⟨x0_1, x1_1, x5_1, rfl, rfl, HA, HK1, HO, HK, HB⟩ := hrel
    cases gk with
    | zero => exact absurd HA.out (by simp [laws_markKeptS.l0])
    | succ k1 =>
      have H := HA.out
      clear HA
      simp only [laws_markKeptS.l0] at H
      by_cases c3 : x5_1 < (x0_1.length : Int)
      · rw [if_pos c3] at H
        have c3b0 : decide (x5_1 < (x0_1.length : Int)) = true := decide_eq_true c3
        by_cases c5 : 0 ≤ x5_1
        · rw [if_pos c5] at H
          have c5b0 : decide (0 ≤ x5_1) = true := decide_eq_true c5
          replace H := Option.bind_eq_some_iff.mp H
          obtain ⟨t, A40, H⟩ := H
          replace H := Option.bind_eq_some_iff.mp H
          obtain ⟨⟨q, l1⟩, A60, H⟩ := H
          dsimp only at H
          have A4 := Aside0.mk A40
          have A6 := Aside0.mk A60
          have H' := Aside0.mk H
          clear H A40 A60
          have Q5 := Aside0.mk c5
          have Q3 := Aside0.mk c3
          clear c5 c3
          obtain ⟨go, co, rfl, gb, gl, -⟩ := Kd.S_form HO.out (by have := Q3.out; have := Q5.out; omega)
          have HG := Aside0.mk gb
          have HP := Aside0.mk ((Kd.S_R HO.out).1 go rfl)
          clear gb gl
          have p5 := eq_true Q5.out
          have p3 := eq_true Q3.out
          go_wp2_with (first
            | ((with_reducible refine gate_callee (f := 18) rfl ?_); refine goesL_ (some 15) rfl rfl Tryd.func18 (by kernel_rfl) rfl #[.int .i64 x1_1] rfl ar_ ?_; (with_reducible refine (laws_markText.calls k1 x1_1 t _ A4.out).mono ?_); rintro e w8 ⟨rfl, hb⟩; refine ⟨_, rfl, ?_⟩; have nO := Aside0.mk (Kd.S_below HO.out hb); have nK := Aside0.mk (Kept.below HK.out hb); have nB := Aside0.mk (below_step HB.out hb); clear HO HK HB hb; have HO := nO; have HK := nK; have HB := nB; clear nO nK nB; obtain ⟨oki, v1, hc0, hc1, hc2, hfr, hR, hok, hT, hQ, hBd⟩ := kept_elem HO.out x5_1 Q5.out Q3.out; have hf0 : w8.frozen? ⟨go, x5_1.toNat * 3, none⟩ = false := hfr 0; have HT := Aside0.mk hT; clear hc1 hc2 hfr hR hok hT hQ hBd)
            | ((with_reducible refine gate_store (t := 9) (p := 17) rfl ?_); refine store_event (t := 9) (p := 17) (v := ?vo_) (w1 := w8.setCell ⟨go, x5_1.toNat * 3, none⟩ (.string t)) ?hg ?ho ?hn ?hr ?_; (case ho => rfl); (case hg => rfl); (case hn => rfl); (case hr => first | (go_simp; done) | (go_simp; rfl)); intro w10 hw; have nO := Aside0.mk (by rw [hw]; exact HT.out t : Kd.S k35 35 w10 w0.heap.size P0_ (.slice (some ⟨go, 0, none⟩) x0_1.length co) (x0_1.set x5_1.toNat ⟨t, (rd_T35 x0_1 x5_1).f1, (rd_T35 x0_1 x5_1).f2⟩)); have nK := Aside0.mk (by rw [hw]; exact Kept.setCell HK.out (.inl HP.out) _ : Kept w w10 P0_); have nB := Aside0.mk (by rw [hw]; exact below_set HB.out HG.out : Below w0.heap.size w0 w10); clear HO HK HB HT hw hc0 hf0; have HO := nO; have HK := nK; have HB := nB; clear nO nK nB; obtain ⟨oki2, v2, hc0, hc1, hc2, hfr, hR, hok, hT, hQ, hBd⟩ := kept_elem HO.out x5_1 Q5.out Q3.out; rw [kept_set Q5.out Q3.out] at hR hBd; obtain ⟨A1, c1, rfl⟩ := Kd.R_slice hR; have HR := Aside0.mk hR; have HBd := Aside0.mk hBd; have Hok := Aside0.mk hok; clear hc0 hc2 hfr hR hok hT hQ hBd)
            | ((with_reducible refine gate_callee (f := 19) rfl ?_); refine goesL_ (some 26) rfl rfl Tryd.func19 (by kernel_rfl) rfl #[.slice A1 (rd_T35 x0_1 x5_1).f1.length c1, .int .i64 (wrap64 (x1_1 + 1))] rfl ar_ ?_; (with_reducible refine (laws_markByteS.calls k1 oki2 _ (rd_T35 x0_1 x5_1).f1 (wrap64 (x1_1 + 1)) q l1 w0 _ HB.out HR.out A6.out).mono ?_); rintro e w12 ⟨rfl, hr', hb', hk'⟩; refine ⟨_, rfl, ?_⟩; have nO := Aside0.mk (HBd.out w12 l1 (Kd.R_mono (Kd.R_tight rfl hr') (fun k_ e_ => HR.out.1 k_ e_.symm)) hk'); have nK := Aside0.mk (Kept.then_ HK.out hk' (fun k_ h_ => .inl (Hok.out k_ h_).1)); have nB := Aside0.mk hb'; clear HO HK HB HR HBd Hok hr' hb' hk' hc1; have HO := nO; have HK := nK; have HB := nB; clear nO nK nB; obtain ⟨oki3, v3, hc0, hc1, hc2, hfr, hR, hok, hT, hQ, hBd⟩ := kept_elem HO.out x5_1 Q5.out Q3.out; have hf2 : w12.frozen? ⟨go, x5_1.toNat * 3 + 2, none⟩ = false := hfr 2; simp only [List.set_set, kept_set Q5.out Q3.out] at hQ; have HQ := Aside0.mk hQ; clear hc0 hc1 hfr hR hok hT hQ hBd))
          go_roundg k1
          case measure => have := HK1.out; omega
          case rel => exact ⟨x0_1.set x5_1.toNat ⟨t, l1, q⟩, wrap64 (q + 1), wrap64 (x5_1 + 1), (by first | rfl | (simp; done) | (simp [*]; done)), (by first | rfl | (simp; done) | (simp [*]; done)), H', ⟨by have := HK1.out; omega⟩, ⟨HQ.out q⟩, ⟨Kept.setCell HK.out (.inl HP.out) _⟩, ⟨below_set HB.out HG.out⟩⟩
        · rw [if_neg c5] at H
          exact absurd H (by simp)
      · rw [if_neg c3] at H
        have c3b0 : decide (x5_1 < (x0_1.length : Int)) = false := decide_eq_false c3
        simp only [Option.some.injEq, Prod.mk.injEq] at H
        obtain ⟨rfl, rfl⟩ := H
        obtain ⟨Ao, co, eo⟩ := Kd.S_slice HO.out
        subst eo
        clear c3
        go_wp2
        go_ret
        exact ⟨by first | rfl | (simp; done), HO.out, HB.out, HK.out⟩
end Go.Proofs.YtklppdalaoafjaaDoor.P
