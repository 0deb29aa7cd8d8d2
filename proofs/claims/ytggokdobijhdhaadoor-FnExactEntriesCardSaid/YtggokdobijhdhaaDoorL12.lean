/- Trees that are written: a kind for Node whose rows lie apart at all depths; laws.markNodeS, laws.markNode told by hand. -/
import Derived.Test.YtggokdobijhdhaaDoorL10
import Derived.Test.YtggokdobijhdhaaDoorPx0
import Derived.Test.YtggokdobijhdhaaDoorL10
namespace Go.Proofs.YtggokdobijhdhaaDoor.P
open Go.RowKit Go.Proofs.YtggokdobijhdhaaDoor.X Go.Proofs.YtggokdobijhdhaaDoorW.PrintWords Go.Proofs.YtggokdobijhdhaaDoorW.PrintLast Go.Proofs.YtggokdobijhdhaaDoorW.PrintMore
set_option linter.unusedVariables false
set_option linter.unusedSimpArgs false
theorem kT_zero (w : World) (base : Nat) (ok : Nat → Prop) : kT.M w base ok z33 [.slice none 0 0, .slice none 0 0, .slice none 0 0] :=
  kT_mkM w base ok (fun _ => True) (fun _ => True) z33 (Kd.R_nil _ _ _ _ _) (Kd.S_nil _ _ _ _ _) (Kd.R_nil _ _ _ _ _)
/-- A node whose three rows are told to be three. -/
theorem kT_three {w : World} {base : Nat} (x : S33) {v0 v1 v2 : Value} (h0 : Kd.R Kd.string 9 w base (fun _ => True) v0 x.f0) (h1 : Kd.S kT 33 w base (fun k => some k ≠ v0.ownBlock ∧ some k ≠ v2.ownBlock) v1 x.f1) (h2 : Kd.R k86 86 w base (fun _ => True) v2 x.f2) : kT.M w base (fun _ => True) x [v0, v1, v2] := by
  refine kT_mkM w base _ (fun k => some k = v0.ownBlock) (fun k => some k ≠ v2.ownBlock) x (Kd.R_mono (Kd.R_tight rfl h0) (fun k hk => ⟨trivial, hk⟩)) (Kd.S_mono h1 (fun k hk => ⟨⟨trivial, hk.1⟩, hk.2⟩)) (Kd.R_mono (Kd.R_tight rfl h2) (fun k hk => ⟨⟨trivial, fun e => ?_⟩, fun e => e hk⟩))
  obtain ⟨c0, e0⟩ := Kd.R_typed h0 k e.symm
  obtain ⟨c2, e2⟩ := Kd.R_typed h2 k hk.symm
  rw [e0] at e2
  simp at e2
/-- What stands ready ahead of out[i] = toNode(a[i]). -/
theorem toT_prep {W w2 : World} {base g m cap : Nat} {xs : List S33} {t1 : List ByteArray} {t2 : List S33} {t3 : List S86} {v0 v1 v2 : Value} (hS : Kd.S kT 33 W base (fun _ => True) (.slice (some ⟨g, 0, none⟩) m cap) xs) (hb : Below W.heap.size W w2) (hbase : base ≤ W.heap.size)
    (h0 : Kd.R Kd.string 9 w2 W.heap.size (fun _ => True) v0 t1) (h1 : Kd.S kT 33 w2 W.heap.size (fun k => some k ≠ v0.ownBlock ∧ some k ≠ v2.ownBlock) v1 t2) (h2 : Kd.R k86 86 w2 W.heap.size (fun _ => True) v2 t3) (i : Int) (hi0 : 0 ≤ i) (hi : i < m) :
    ∃ (oki : Nat → Prop) (c : List Value), Kd.H kT 33 w2 base (fun _ => True) (.slice (some ⟨g, 0, none⟩) m cap) xs i (fun k => oki k ∨ W.heap.size ≤ k) c ∧ kT.M w2 base (fun k => W.heap.size ≤ k) ⟨t1, t2, t3⟩ (c.take 0 ++ [v0, v1, v2] ++ c.drop (0 + 3)) := by
  have hS2 : Kd.S kT 33 w2 base (fun k => True ∧ ¬ W.heap.size ≤ k) (.slice (some ⟨g, 0, none⟩) m cap) xs := Kd.S_mono (Kd.S_old hS hb) (fun k hk => ⟨trivial, by omega⟩)
  obtain ⟨oki, c, hcl, _, _, _, _, hH⟩ := Kd.S_elem hS2 z33 i hi0 hi
  refine ⟨oki, c, Kd.H_more hH (fun _ _ => trivial), ?_⟩
  have e : c.take 0 ++ [v0, v1, v2] ++ c.drop (0 + 3) = [v0, v1, v2] := by
    rw [List.drop_of_length_le (by rw [hcl]; exact Nat.le_refl 3), List.append_nil, List.take_zero, List.nil_append]
  rw [e]
  exact kT.M_lower hbase (kT.M_mono (fun k hk => hk.2.1) (kT.M_bound (kT_three ⟨t1, t2, t3⟩ h0 h1 h2)))
end Go.Proofs.YtggokdobijhdhaaDoor.P
