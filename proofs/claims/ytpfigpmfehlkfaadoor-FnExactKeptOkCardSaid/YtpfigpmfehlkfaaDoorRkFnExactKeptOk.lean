/- The row's side of the law FnExactKeptOk: its plain statement, and its walk behind the plain law. Laid out by a program of this work (row.py). -/
import Derived.Test.YtpfigpmfehlkfaaDoorPx0
import Derived.Test.YtpfigpmfehlkfaaDoorPx9
namespace Go.Proofs.YtpfigpmfehlkfaaDoor.P
open Go.RowKit Go.Proofs.YtpfigpmfehlkfaaDoor.X Go.Proofs.YtpfigpmfehlkfaaDoorW.PrintWords Go.Proofs.YtpfigpmfehlkfaaDoorW.PrintLast
def laws_FnExactKeptOk.Pure : Prop := ∀ (l0 : List S45), (l0.length ≤ 140737488351232 ∧ ∀ y0 ∈ l0, (y0.f0.size ≤ 140737488351232 ∧ (y0.f1.length ≤ 140737488351232 ∧ ∀ y1 ∈ y0.f1, (Lit.int .u8 y1).wf = true) ∧ (Lit.int .i64 y0.f2).wf = true)) → ∃ k, laws_FnExactKeptOk.f k l0 = some true
theorem laws_FnExactKeptOk.walk (P : laws_FnExactKeptOk.Pure) (A0 : Option Addr) (c0 : Nat) (l0 : List S45) (w : World) (hr0 : Kd.C k45 w A0 l0.length l0) (hc0 : l0.length ≤ c0) (g0 : (l0.length ≤ 140737488351232 ∧ ∀ y0 ∈ l0, (y0.f0.size ≤ 140737488351232 ∧ (y0.f1.length ≤ 140737488351232 ∧ ∀ y1 ∈ y0.f1, (Lit.int .u8 y1).wf = true) ∧ (Lit.int .i64 y0.f2).wf = true))) (hT : Tabs w) :
    Calls Tryd.prog 3 #[.slice A0 l0.length c0] w fun e w' => e = .returned (.bool true) ∧ Below w.heap.size w w' := by
  obtain ⟨k, h⟩ := P l0 g0
  refine (laws_FnExactKeptOk.calls k _ _ l0 true w hr0 hc0 hT h).mono ?_
  rintro e w' ⟨rfl, hd⟩
  exact ⟨rfl, hd⟩
end Go.Proofs.YtpfigpmfehlkfaaDoor.P
