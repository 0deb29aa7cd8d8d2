/- Functions that the law FnExactSamePacket reaches: what each answers, by the path calculus. Printed by a program of this work (gen_same.py). -/
import Derived.Test.YtnflbiafmddpgaaZP6
namespace Go.Proofs.Ytnflbiafmddpgaa.P
open Go.RowKit Go.Proofs.Ytnflbiafmddpgaa.Z
set_option linter.unusedVariables false
set_option maxRecDepth 100000
set_option maxHeartbeats 4000000

theorem szP_small (p : S27) (x : Int) (h0 : 0 ≤ x) (hx : x ≤ 1048576) (h : 0 ≤ szP p x) : Small p ∧ szP p x ≤ 1048576 := by
  have H : szP p x = szP p x := rfl
  conv at H => rhs; unfold szP
  unfold szP at h
  obtain ⟨g, h⟩ := tS_inv h
  replace H := H.trans (tS_nn g)
  have m5 := szL_le' g
  replace hx := Int.le_trans m5.2 hx
  replace h0 := g
  clear m5 g
  obtain ⟨g, h⟩ := tS_inv h
  replace H := H.trans (tS_nn g)
  have m6 := szL_le' g
  have n6 := Int.le_trans m6.1 hx
  replace hx := Int.le_trans m6.2 hx
  replace h0 := g
  clear m6 g
  obtain ⟨g, h⟩ := tS_inv h
  replace H := H.trans (tS_nn g)
  have m7 := szL_le' g
  replace hx := Int.le_trans m7.2 hx
  replace h0 := g
  clear m7 g
  obtain ⟨g, h⟩ := tS_inv h
  replace H := H.trans (tS_nn g)
  have m12 := szL_le' g
  replace hx := Int.le_trans m12.2 hx
  replace h0 := g
  clear m12 g
  obtain ⟨g, h⟩ := tS_inv h
  replace H := H.trans (tS_nn g)
  have m13 := szL_le' g
  have n13 := Int.le_trans m13.1 hx
  replace hx := Int.le_trans m13.2 hx
  replace h0 := g
  clear m13 g
  obtain ⟨g, h⟩ := tS_inv h
  replace H := H.trans (tS_nn g)
  have m17 := szL_le' g
  replace hx := Int.le_trans m17.2 hx
  replace h0 := g
  clear m17 g
  obtain ⟨g, h⟩ := tS_inv h
  replace H := H.trans (tS_nn g)
  have m19 := szL_le' g
  have n19 := Int.le_trans m19.1 hx
  replace hx := Int.le_trans m19.2 hx
  replace h0 := g
  clear m19 g
  obtain ⟨g, h⟩ := tS_inv h
  replace H := H.trans (tS_nn g)
  have m22 := tG_le' h0 g
  have n22 := Int.le_trans m22.1 hx
  replace hx := Int.le_trans m22.2 hx
  replace h0 := g
  clear m22 g
  obtain ⟨g, h⟩ := tS_inv h
  replace H := H.trans (tS_nn g)
  have m23 := tG_le' h0 g
  have n23 := Int.le_trans m23.1 hx
  replace hx := Int.le_trans m23.2 hx
  replace h0 := g
  clear m23 g
  obtain ⟨g, h⟩ := tS_inv h
  replace H := H.trans (tS_nn g)
  have m24 := szL_le' g
  have n24 := Int.le_trans m24.1 hx
  replace hx := Int.le_trans m24.2 hx
  replace h0 := g
  clear m24 g
  refine ⟨⟨Int.ofNat_le.1 n6, Int.ofNat_le.1 n13, Int.ofNat_le.1 n19, Int.ofNat_le.1 n22, Int.ofNat_le.1 n23, Int.ofNat_le.1 n24⟩, ?_⟩
  rw [H]; exact hx
theorem fit2 {p : S27} (h : Fit p) : Fit2 (toP p) := ⟨h.s5, h.l6, h.y6, h.s7, h.s12, h.l13, h.y13, h.s17, h.l19, h.y19, (by simpa [toP] using h.l22), (by intro x hx; obtain ⟨y, hy, rfl⟩ := List.mem_map.1 hx; exact h.w22 y hy), h.l23, h.w23, h.l24⟩
end Go.Proofs.Ytnflbiafmddpgaa.P
