/- Rows of what is kept, written into: an element's text, its row, its number; laws.markKeptS told by hand. -/
import Derived.Test.YtklppdalaoafjaaDoorPx0
namespace Go.Proofs.YtklppdalaoafjaaDoor.P
open Go.RowKit Go.Proofs.YtklppdalaoafjaaDoor.X Go.Proofs.YtklppdalaoafjaaDoorW.PrintWords Go.Proofs.YtklppdalaoafjaaDoorW.PrintLast Go.Proofs.YtklppdalaoafjaaDoorW.PrintMore
set_option linter.unusedVariables false
set_option linter.unusedSimpArgs false
/-- Element i of a row of what is kept: its cells, its own row, and how the row stands behind a write into each. -/
theorem kept_elem {W : World} {base g n cap : Nat} {ok : Nat → Prop} {xs : List S35} (h : Kd.S k35 35 W base ok (.slice (some ⟨g, 0, none⟩) n cap) xs) (i : Int) (h0 : 0 ≤ i) (h1 : i < n) :
    ∃ (oki : Nat → Prop) (v1 : Value), W.cell? ⟨g, i.toNat * 3, none⟩ = some (.string (rd_T35 xs i).f0) ∧ W.cell? ⟨g, i.toNat * 3 + 1, none⟩ = some v1 ∧ W.cell? ⟨g, i.toNat * 3 + 2, none⟩ = some (.int .i64 (rd_T35 xs i).f2) ∧
      (∀ j, W.frozen? ⟨g, i.toNat * 3 + j, none⟩ = false) ∧ (Kd.int .u8).R 5 W base oki v1 (rd_T35 xs i).f1 ∧ (∀ k, oki k → ok k ∧ k ≠ g) ∧
      (∀ t, Kd.S k35 35 (W.setCell ⟨g, i.toNat * 3, none⟩ (.string t)) base ok (.slice (some ⟨g, 0, none⟩) n cap) (xs.set i.toNat ⟨t, (rd_T35 xs i).f1, (rd_T35 xs i).f2⟩)) ∧
      (∀ q, Kd.S k35 35 (W.setCell ⟨g, i.toNat * 3 + 2, none⟩ (.int .i64 q)) base ok (.slice (some ⟨g, 0, none⟩) n cap) (xs.set i.toNat ⟨(rd_T35 xs i).f0, (rd_T35 xs i).f1, q⟩)) ∧
      (∀ W' l1, (Kd.int .u8).R 5 W' base oki v1 l1 → Kept W W' oki → Kd.S k35 35 W' base ok (.slice (some ⟨g, 0, none⟩) n cap) (xs.set i.toNat ⟨(rd_T35 xs i).f0, l1, (rd_T35 xs i).f2⟩)) := by
  obtain ⟨oki, c, hcl, hM, hcc, hfr, hoki, hH⟩ := Kd.S_elem h z35 i h0 h1
  have hM' : k35.M W base oki (rd_T35 xs i) c := hM
  clear hM
  obtain ⟨v1, rfl, hR⟩ := k35_openM hM'
  refine ⟨oki, v1, hcc 0 _ rfl, hcc 1 _ rfl, hcc 2 _ rfl, hfr, hR, hoki, fun t => ?_, fun q => ?_, fun W' l1 hR' hK => ?_⟩
  · obtain ⟨h2, _⟩ := Kd.H_seg hH h0 h1 (seg := [.string t]) (j := 0) (by show (0 : Nat) + 1 ≤ 3; omega) (by intro q hq; rw [List.mem_singleton] at hq; subst hq; rfl)
    exact Kd.H_back h2 (k35_mkM _ base oki ⟨t, (rd_T35 xs i).f1, (rd_T35 xs i).f2⟩ (Kd.R_far hR (p := ⟨g, _, none⟩) (fun k hk => (hoki k hk).2) _)) (fun _ h => h)
  · obtain ⟨h2, _⟩ := Kd.H_seg hH h0 h1 (seg := [.int .i64 q]) (j := 2) (by show (2 : Nat) + 1 ≤ 3; omega) (by intro q hq; rw [List.mem_singleton] at hq; subst hq; rfl)
    exact Kd.H_back h2 (k35_mkM _ base oki ⟨(rd_T35 xs i).f0, (rd_T35 xs i).f1, q⟩ (Kd.R_far hR (p := ⟨g, _, none⟩) (fun k hk => (hoki k hk).2) _)) (fun _ h => h)
  · have h2 := Kd.H_step hH (w1 := W') (fun k _ hn hlt => hK.2 k hlt hn)
    exact Kd.H_back h2 (k35_mkM W' base oki ⟨(rd_T35 xs i).f0, l1, (rd_T35 xs i).f2⟩ hR') (fun _ h => h)
end Go.Proofs.YtklppdalaoafjaaDoor.P
