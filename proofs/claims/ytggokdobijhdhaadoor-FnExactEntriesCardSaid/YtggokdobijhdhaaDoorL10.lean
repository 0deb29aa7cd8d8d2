/- Trees that are written: a kind for Node whose rows lie apart at all depths; laws.markNodeS, laws.markNode told by hand. -/
import Derived.Test.YtggokdobijhdhaaDoorPx0
namespace Go.Proofs.YtggokdobijhdhaaDoor.P
open Go.RowKit Go.Proofs.YtggokdobijhdhaaDoor.X Go.Proofs.YtggokdobijhdhaaDoorW.PrintWords Go.Proofs.YtggokdobijhdhaaDoorW.PrintLast Go.Proofs.YtggokdobijhdhaaDoorW.PrintMore
set_option linter.unusedVariables false
set_option linter.unusedSimpArgs false
section
variable {α β γ : Type}
/-- A row of elements that lie apart. -/
def sliceS (e : Nat) (d : Kd α) : Kd (List α) where
  sz := 1
  E := e :: d.E
  K := (Kd.slice e d).K
  M := fun w base ok xs cs => ∃ v, cs = [v] ∧ Kd.S d e w base ok v xs
  K_len := (Kd.slice e d).K_len
  K_one := (Kd.slice e d).K_one
  K_below := (Kd.slice e d).K_below
  K_of_M := by
    rintro w base ok x cs ⟨v, rfl, h⟩
    exact (Kd.slice e d).K_of_M (ok := ok) (base := base) ⟨v, rfl, Kd.S_R h⟩
  M_mono := by
    rintro w base ok ok' x cs hok ⟨v, rfl, h⟩
    exact ⟨v, rfl, Kd.S_mono h hok⟩
  M_bound := by
    rintro w base ok x cs ⟨v, rfl, h⟩
    exact ⟨v, rfl, Kd.S_bound h⟩
  M_move := by
    rintro w w1 base ok x cs hm ⟨v, rfl, h⟩
    exact ⟨v, rfl, Kd.S_move h hm⟩
  M_lower := by
    rintro w base base' ok x cs hb ⟨v, rfl, h⟩
    exact ⟨v, rfl, Kd.S_lower h hb⟩
/-- Two in line that lie apart. -/
def pairS (a : Kd α) (b : Kd β) : Kd (α × β) where
  sz := a.sz + b.sz
  E := a.E ++ b.E
  K := (Kd.pair a b).K
  M := fun w base ok x cs => ∃ p : Nat → Prop, ∃ c0 c1, cs = c0 ++ c1 ∧ a.M w base (fun k => ok k ∧ p k) x.1 c0 ∧ b.M w base (fun k => ok k ∧ ¬ p k) x.2 c1
  K_len := (Kd.pair a b).K_len
  K_one := (Kd.pair a b).K_one
  K_below := (Kd.pair a b).K_below
  K_of_M := by
    rintro w base ok x cs ⟨p, c0, c1, rfl, h0, h1⟩
    exact ⟨c0, c1, rfl, a.K_of_M h0, b.K_of_M h1⟩
  M_mono := by
    rintro w base ok ok' x cs hok ⟨p, c0, c1, rfl, h0, h1⟩
    exact ⟨p, c0, c1, rfl, a.M_mono (fun k hk => ⟨hok k hk.1, hk.2⟩) h0, b.M_mono (fun k hk => ⟨hok k hk.1, hk.2⟩) h1⟩
  M_bound := by
    rintro w base ok x cs ⟨p, c0, c1, rfl, h0, h1⟩
    refine ⟨p, c0, c1, rfl, a.M_mono ?_ (a.M_bound h0), b.M_mono ?_ (b.M_bound h1)⟩
    · rintro k ⟨h2, h3, h4, q, hq, hc⟩
      exact ⟨⟨h2.1, h3, h4, q, List.mem_append_left _ hq, hc⟩, h2.2⟩
    · rintro k ⟨h2, h3, h4, q, hq, hc⟩
      exact ⟨⟨h2.1, h3, h4, q, List.mem_append_right _ hq, hc⟩, h2.2⟩
  M_move := by
    rintro w w1 base ok x cs hm ⟨p, c0, c1, rfl, h0, h1⟩
    exact ⟨p, c0, c1, rfl, a.M_move (fun k hk => hm k hk.1) h0, b.M_move (fun k hk => hm k hk.1) h1⟩
  M_lower := by
    rintro w base base' ok x cs hb ⟨p, c0, c1, rfl, h0, h1⟩
    exact ⟨p, c0, c1, rfl, a.M_lower hb h0, b.M_lower hb h1⟩
theorem S_imp {d d' : Kd α} (hs : d.sz = d'.sz) (h : ∀ w base ok x cs, d.M w base ok x cs → d'.M w base ok x cs) {e : Nat} {w : World} {base : Nat} {ok : Nat → Prop} {v : Value} {xs : List α} (hS : Kd.S d e w base ok v xs) : Kd.S d' e w base ok v xs := by
  obtain ⟨f, hR⟩ := hS
  exact ⟨f, Kd.R_imp (d := Kd.tag f d) (d' := Kd.tag f d') hs (fun w base ok x cs hp => h w base _ x.1 cs hp) hR⟩
theorem mono_sliceS (e : Nat) {G : Kd α → Kd β} (hG : Kd.Mono G) : Kd.Mono (fun d => sliceS e (G d)) := by
  refine ⟨fun d d' hs => rfl, ?_, ?_⟩
  · exact (Kd.mono_slice e hG).K
  · rintro d d' hs h w base ok x cs ⟨v, rfl, hr⟩
    exact ⟨v, rfl, S_imp (hG.sz d d' hs) (hG.M d d' hs h) hr⟩
theorem mono_pairS {G : Kd α → Kd β} {H : Kd α → Kd γ} (hG : Kd.Mono G) (hH : Kd.Mono H) : Kd.Mono (fun d => pairS (G d) (H d)) := by
  refine ⟨(Kd.mono_pair hG hH).sz, (Kd.mono_pair hG hH).K, ?_⟩
  rintro d d' hs h w base ok x cs ⟨p, c0, c1, rfl, h0, h1⟩
  exact ⟨p, c0, c1, rfl, hG.M d d' hs h _ _ _ _ _ h0, hH.M d d' hs h _ _ _ _ _ h1⟩
theorem sub_sliceS {E : List Nat} (e : Nat) {G : Kd α → Kd β} (he : e ∈ E) (hG : Kd.Sub G E) : Kd.Sub (fun d => sliceS e (G d)) E := Kd.sub_slice e he hG
theorem sub_pairS {E : List Nat} {G : Kd α → Kd β} {H : Kd α → Kd γ} (hG : Kd.Sub G E) (hH : Kd.Sub H E) : Kd.Sub (fun d => pairS (G d) (H d)) E := Kd.sub_pair hG hH
variable {F : Kd α → Kd α} {sz : Nat} {E : List Nat} {hs : ∀ n, (Kd.upto F sz E n).sz = sz} {hE : ∀ n q, q ∈ (Kd.upto F sz E n).E → q ∈ E}
theorem fix_S {n : Nat} {e : Nat} {w : World} {base : Nat} {ok : Nat → Prop} {v : Value} {xs : List α} (h : Kd.S (Kd.upto F sz E n) e w base ok v xs) : Kd.S (Kd.fix F sz E hs hE) e w base ok v xs :=
  S_imp (d' := Kd.fix F sz E hs hE) (hs n) (fun w base ok x cs hp => (⟨n, hp⟩ : ∃ n, (Kd.upto F sz E n).M w base ok x cs)) h
theorem fix_S_back (hm : Kd.Mono F) {e : Nat} {w : World} {base : Nat} {ok : Nat → Prop} {v : Value} {xs : List α} (h : Kd.S (Kd.fix F sz E hs hE) e w base ok v xs) : ∃ n, Kd.S (Kd.upto F sz E n) e w base ok v xs := by
  obtain ⟨f, h0, inner, ho, hr⟩ := h
  obtain ⟨N, hN⟩ := Kd.reps_bounded (R := fun n p c => (Kd.tag f (Kd.upto F sz E n)).M w base (fun k => ok k ∧ some k ≠ v.ownBlock) p c) (fun n m p c hnm hp => Kd.upto_M_le hm hs hnm hp) hr
  refine ⟨N, f, h0, inner, ?_, ?_⟩
  · show w.ownsRow base e (Kd.upto F sz E N).sz v xs.zipIdx.length inner
    rw [hs N]; exact ho
  · show Reps _ (Kd.upto F sz E N).sz xs.zipIdx inner
    rw [hs N]; exact hN
end
/-! The tree. -/
def FT (d : Kd S33) : Kd S33 := Kd.iso (pairS (Kd.slice 9 Kd.string) (pairS (sliceS 33 d) (Kd.slice 86 k86))) (fun x : S33 => (x.f0, x.f1, x.f2))
theorem monoT : Kd.Mono FT := Kd.mono_iso _ (mono_pairS (Kd.mono_const _) (mono_pairS (mono_sliceS 33 Kd.mono_id) (Kd.mono_const _)))
theorem subT : Kd.Sub FT [9, 33, 86] := Kd.sub_iso _ (sub_pairS (Kd.sub_const _ (by decide)) (sub_pairS (sub_sliceS 33 (by decide) Kd.sub_id) (Kd.sub_const _ (by decide))))
theorem szT : ∀ n, (Kd.upto FT 3 [9, 33, 86] n).sz = 3 := Kd.upto_sz (fun _ => rfl)
def kT : Kd S33 := Kd.fix FT 3 [9, 33, 86] szT (Kd.upto_E subT)
theorem kT_n : ∀ (n : Nat) {w : World} {x : S33} {cs : List Value}, (Kd.upto FT 3 [9, 33, 86] n).K w x cs → (Kd.upto F33 3 [9, 33, 86] n).K w x cs
  | 0, _, _, _, h => h.elim
  | n + 1, _, _, _, ⟨c0, c1, e, h0, c2, c3, e2, ⟨A, c, e3, hl, hC⟩, h3⟩ => ⟨c0, c1, e, h0, c2, c3, e2, ⟨A, c, e3, hl, Kd.C_imp (by rw [szT n, sz33 n]) (fun _ _ _ hp => kT_n n hp) hC⟩, h3⟩
/-- What is told apart can be read. -/
theorem kT_K {w : World} {x : S33} {cs : List Value} (h : kT.K w x cs) : k33.K w x cs := by
  obtain ⟨n, h⟩ := h
  exact ⟨n, kT_n n h⟩
theorem kT_C {w : World} {A : Option Addr} {n : Nat} {xs : List S33} (h : Kd.C kT w A n xs) : Kd.C k33 w A n xs := Kd.C_imp (d := kT) (d' := k33) rfl (fun _ _ _ hp => kT_K hp) h
theorem kT_openM {w : World} {base : Nat} {ok : Nat → Prop} {x : S33} {cs : List Value} (h : kT.M w base ok x cs) : ∃ (p q : Nat → Prop) (v0 v1 v2 : Value), cs = [v0, v1, v2] ∧ Kd.string.R 9 w base (fun k => ok k ∧ p k) v0 x.f0 ∧ Kd.S kT 33 w base (fun k => (ok k ∧ ¬ p k) ∧ q k) v1 x.f1 ∧ k86.R 86 w base (fun k => (ok k ∧ ¬ p k) ∧ ¬ q k) v2 x.f2 := by
  obtain ⟨n, h⟩ := h
  cases n with
  | zero => exact h.elim
  | succ n =>
    obtain ⟨p, _, _, rfl, ⟨v0, rfl, g0⟩, ⟨q, _, _, rfl, ⟨v1, rfl, g1⟩, ⟨v2, rfl, g2⟩⟩⟩ := h
    exact ⟨p, q, v0, v1, v2, rfl, g0, fix_S g1, g2⟩
theorem kT_mkM (w : World) (base : Nat) (ok p q : Nat → Prop) (x : S33) {v0 : Value} (g0 : Kd.string.R 9 w base (fun k => ok k ∧ p k) v0 x.f0) {v1 : Value} (g1 : Kd.S kT 33 w base (fun k => (ok k ∧ ¬ p k) ∧ q k) v1 x.f1) {v2 : Value} (g2 : k86.R 86 w base (fun k => (ok k ∧ ¬ p k) ∧ ¬ q k) v2 x.f2) : kT.M w base ok x [v0, v1, v2] := by
  obtain ⟨n, r1⟩ := fix_S_back monoT g1
  exact ⟨n + 1, p, [v0], [v1, v2], rfl, ⟨v0, rfl, g0⟩, q, [v1], [v2], rfl, ⟨v1, rfl, r1⟩, ⟨v2, rfl, g2⟩⟩
/-- A node's row, element i: its cells, its rows, and how the row stands behind a write into them. -/
theorem node_elem {W : World} {base g n cap : Nat} {ok : Nat → Prop} {xs : List S33} (h : Kd.S kT 33 W base ok (.slice (some ⟨g, 0, none⟩) n cap) xs) (i : Int) (h0 : 0 ≤ i) (h1 : i < n) :
    ∃ (oki p q : Nat → Prop) (v0 v1 v2 : Value), W.cell? ⟨g, i.toNat * 3, none⟩ = some v0 ∧ W.cell? ⟨g, i.toNat * 3 + 1, none⟩ = some v1 ∧ W.cell? ⟨g, i.toNat * 3 + 2, none⟩ = some v2 ∧ (∀ k, oki k → ok k ∧ k ≠ g) ∧
      Kd.string.R 9 W base (fun k => oki k ∧ p k) v0 (rd_T33 xs i).f0 ∧ Kd.S kT 33 W base (fun k => (oki k ∧ ¬ p k) ∧ q k) v1 (rd_T33 xs i).f1 ∧ k86.R 86 W base (fun k => (oki k ∧ ¬ p k) ∧ ¬ q k) v2 (rd_T33 xs i).f2 ∧
      (∀ W' l0 l1 l2, Kd.string.R 9 W' base (fun k => oki k ∧ p k) v0 l0 → Kd.S kT 33 W' base (fun k => (oki k ∧ ¬ p k) ∧ q k) v1 l1 → k86.R 86 W' base (fun k => (oki k ∧ ¬ p k) ∧ ¬ q k) v2 l2 → Kept W W' oki → Kd.S kT 33 W' base ok (.slice (some ⟨g, 0, none⟩) n cap) (xs.set i.toNat ⟨l0, l1, l2⟩)) := by
  obtain ⟨oki, c, hcl, hM, hcc, hfr, hoki, hH⟩ := Kd.S_elem h z33 i h0 h1
  have hM' : kT.M W base oki (rd_T33 xs i) c := hM
  clear hM
  obtain ⟨p, q, v0, v1, v2, rfl, g0, g1, g2⟩ := kT_openM hM'
  refine ⟨oki, p, q, v0, v1, v2, hcc 0 _ rfl, hcc 1 _ rfl, hcc 2 _ rfl, hoki, g0, g1, g2, fun W' l0 l1 l2 r0 r1 r2 hK => ?_⟩
  have h2 := Kd.H_step hH (w1 := W') (fun k _ hn hlt => hK.2 k hlt hn)
  exact Kd.H_back h2 (kT_mkM W' base oki p q ⟨l0, l1, l2⟩ r0 r1 r2) (fun _ h => h)
end Go.Proofs.YtggokdobijhdhaaDoor.P
