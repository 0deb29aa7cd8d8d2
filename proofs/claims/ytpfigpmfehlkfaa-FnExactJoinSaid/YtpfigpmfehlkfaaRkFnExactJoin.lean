/- The row's side of the law FnExactJoin: its plain statement, and its walk behind the plain law. Laid out by a program of this work (row.py). -/
import Derived.Test.YtpfigpmfehlkfaaPx2
namespace Go.Proofs.Ytpfigpmfehlkfaa.P
open Go.RowKit Go.Proofs.YtpfigpmfehlkfaaW.PrintWords Go.Proofs.YtpfigpmfehlkfaaW.PrintLast
def laws_FnExactJoin.Pure : Prop := ∀ (l0 : List ByteArray), (l0.length ≤ 140737488351232 ∧ ∀ y0 ∈ l0, y0.size ≤ 140737488351232) → ∃ k, laws_FnExactJoin.f k l0 = some true
theorem laws_FnExactJoin.walk (P : laws_FnExactJoin.Pure) (A0 : Option Addr) (c0 : Nat) (l0 : List ByteArray) (w : World) (hr0 : Kd.C Kd.string w A0 l0.length l0) (hc0 : l0.length ≤ c0) (g0 : (l0.length ≤ 140737488351232 ∧ ∀ y0 ∈ l0, y0.size ≤ 140737488351232)) :
    Calls Try.prog 3 #[.slice A0 l0.length c0] w fun e w' => e = .returned (.bool true) ∧ Below w.heap.size w w' := by
  obtain ⟨k, h⟩ := P l0 g0
  refine (laws_FnExactJoin.calls k _ _ l0 true w hr0 hc0 h).mono ?_
  rintro e w' ⟨rfl, hd⟩
  exact ⟨rfl, hd⟩
end Go.Proofs.Ytpfigpmfehlkfaa.P
