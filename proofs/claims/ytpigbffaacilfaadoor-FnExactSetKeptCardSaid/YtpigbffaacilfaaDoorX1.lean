/- Contracts of functions that the print does not take, in the form in which the print takes its callees: utf8.DecodeRune, utf8.RuneCountInString, strings.Split, impl.TextOk. Conditions: the package-level tables as laid (Tabs); each function's own '.f' is 'none' where its contract says nothing. -/
import Derived.Test.YtpigbffaacilfaaDoorProg
import Derived.Test.YtpigbffaacilfaaDoorSh
import Derived.Test.YtpigbffaacilfaaDoorK
import Derived.Test.YtpigbffaacilfaaDoorWMore
import Derived.Laws.RangeString
import Derived.Laws.RangeAny
import Derived.LoopTactic
import Derived.Deep.DeepMust
namespace Go.Proofs.YtpigbffaacilfaaDoor.X
open Go.RowKit Go.Proofs.YtpigbffaacilfaaDoorW.PrintWords Go.Proofs.YtpigbffaacilfaaDoorW.PrintLast Go.Proofs.YtpigbffaacilfaaDoorW.PrintMore
set_option linter.unusedVariables false
set_option linter.unusedSimpArgs false
/-- The tables of unicode/utf8 lie as their initialisers lay them; internal/bytealg.MaxLen holds a number. -/
def Tabs (w : World) : Prop := Lib.Utf8Tabs 0 1 w ∧ ∃ m : Int, w.cell? ⟨2, 0, none⟩ = some (.int .i64 m)
theorem Tabs.below {w w' : World} (h : Tabs w) (hb : Below w.heap.size w w') : Tabs w' := by
  obtain ⟨h1, m, h2⟩ := h
  exact ⟨Utf8Tabs_below h1 hb, m, (hb.cell (World.block_lt_of_cell? w _ h2)).trans h2⟩
theorem Tabs.drewN {w : World} (h : Tabs w) (n : Nat) : Tabs (w.drewN n) := Tabs.below h (pw_below_drewN (Below.refl _ _) n)
/-- Bytes as numbers, as a ByteArray. -/
def baOf (l : List Int) : ByteArray := ⟨(l.map fun x => x.toNat.toUInt8).toArray⟩
theorem baOf_size (l : List Int) : (baOf l).size = l.length := by simp [baOf, ByteArray.size]
def areBytes (l : List Int) : Bool := l.all fun x => decide (0 ≤ x ∧ x ≤ 255)
theorem areBytes_at {l : List Int} (h : areBytes l = true) (j : Nat) (hj : j < l.length) : (((baOf l).get! j).toNat : Int) = l.getD j 0 := by
  have hx := List.all_eq_true.1 h l[j] (List.getElem_mem hj)
  simp only [decide_eq_true_eq] at hx
  have e : (baOf l).get! j = l[j].toNat.toUInt8 := by
    show (baOf l).data.get!Internal j = _
    simp [baOf, hj]
  rw [e, List.getD_eq_getElem?_getD, List.getElem?_eq_getElem hj]
  simp only [Option.getD_some]
  have : l[j].toNat.toUInt8.toNat = l[j].toNat := by
    simp
    omega
  rw [this]
  omega
end Go.Proofs.YtpigbffaacilfaaDoor.X
