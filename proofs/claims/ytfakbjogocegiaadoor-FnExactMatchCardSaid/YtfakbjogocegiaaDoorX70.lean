/- Contracts of functions that the print does not take for a conversion of a text to bytes: spec.CountRunes, impl.PutText. Conditions: the tables as laid (Tabs) where TextOk is asked; each function's own '.f' is 'none' where its contract says nothing. -/
import Derived.Test.YtfakbjogocegiaaDoorProg
import Derived.Test.YtfakbjogocegiaaDoorPx0
import Derived.Test.YtfakbjogocegiaaDoorX1
import Derived.Lib.ConvBytes
import Derived.Laws.AppendOwn
import Derived.Deep.LoopGhost
import Derived.Deep.DeepMust
namespace Go.Proofs.YtfakbjogocegiaaDoor.X
open Go.RowKit Go.Proofs.YtfakbjogocegiaaDoor.P Go.Proofs.YtfakbjogocegiaaDoorW.PrintWords Go.Proofs.YtfakbjogocegiaaDoorW.PrintLast Go.Proofs.YtfakbjogocegiaaDoorW.PrintMore
set_option linter.unusedVariables false
set_option linter.unusedSimpArgs false
theorem bytesOf_getD (s : ByteArray) (j : Nat) (hj : j < s.size) : (bytesOf s).getD j 0 = ((s.data.toList.getD j 0).toNat : Int) := by
  have h : j < s.data.toList.length := by rw [Array.length_toList]; exact hj
  simp only [bytesOf, List.getD_eq_getElem?_getD, List.getElem?_map, List.getElem?_eq_getElem h, Option.map_some, Option.getD_some]
/-- The world behind '[]byte(s)'. -/
theorem bytes_below (w : World) (e : TypeId) (s : ByteArray) : Below w.heap.size w (Lib.bytesWorld w e s) :=
  ⟨rfl, rfl, rfl, by rw [Lib.bytesWorld_size]; omega, fun i hi => Lib.bytesWorld_at_old w e s i hi⟩
theorem bytes_readsC (w : World) (e : TypeId) (s : ByteArray) (hs : s.size ≤ 9223372036854775807) : Kd.C (Kd.int .u8) (Lib.bytesWorld w e s) (some ⟨w.heap.size, 0, none⟩) (bytesOf s).length (bytesOf s) := by
  refine ⟨rfl, by rw [bytesOf_length]; exact hs, fun _ => ⟨_, rfl, fun j p hp => ⟨[.int .u8 p], rfl, rfl, fun i u hu => ?_⟩⟩⟩
  have hj : j < (bytesOf s).length := (List.getElem?_eq_some_iff.1 hp).1
  rw [bytesOf_length] at hj
  have hi : i = 0 := by
    have := (List.getElem?_eq_some_iff.1 hu).1
    simp at this
    omega
  subst hi
  simp only [List.getElem?_cons_zero, Option.some.injEq] at hu
  subst hu
  have hc := Lib.bytesWorld_cell w e s j hj
  have hg := bytesOf_getD s j hj
  rw [List.getD_eq_getElem?_getD, hp] at hg
  simp only [Option.getD_some] at hg
  rw [hg]
  have : (Kd.int .u8).sz = 1 := rfl
  rw [this, Nat.mul_one, Nat.add_zero, add_plain]
  exact hc
theorem grown_room (w : World) (n : Nat) (e : TypeId) : n ≤ grownCap w n 0 e := by
  exact grownCap_ge w n 0 e
end Go.Proofs.YtfakbjogocegiaaDoor.X
