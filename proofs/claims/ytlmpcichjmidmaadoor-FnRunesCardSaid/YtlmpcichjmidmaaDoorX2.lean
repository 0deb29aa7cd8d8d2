/- Contracts of functions that the print does not take, in the form in which the print takes its callees: utf8.DecodeRune, utf8.RuneCountInString, strings.Split, impl.TextOk. Conditions: the package-level tables as laid (Tabs); each function's own '.f' is 'none' where its contract says nothing. -/
import Derived.Test.YtlmpcichjmidmaaDoorProg
import Derived.Test.YtlmpcichjmidmaaDoorSh
import Derived.Test.YtlmpcichjmidmaaDoorX1
import Derived.Test.YtlmpcichjmidmaaDoorWMore
import Derived.Laws.RangeString
import Derived.Laws.RangeAny
import Derived.LoopTactic
import Derived.Deep.DeepMust
namespace Go.Proofs.YtlmpcichjmidmaaDoor.X
open Go.RowKit Go.Proofs.YtlmpcichjmidmaaDoorW.PrintWords Go.Proofs.YtlmpcichjmidmaaDoorW.PrintLast Go.Proofs.YtlmpcichjmidmaaDoorW.PrintMore
set_option linter.unusedVariables false
set_option linter.unusedSimpArgs false
def utf8_DecodeRune.f (l0 : List Int) : Option (Int × Int) := if areBytes l0 = true then some (((Lib.decodeGo (baOf l0)).1 : Int), ((Lib.decodeGo (baOf l0)).2 : Int)) else none
set_option maxHeartbeats 4000000 in
set_option maxRecDepth 1000000 in
/-- The slow road, at whatever address. -/
theorem slow_calls (s : ByteArray) (b off cap : Nat) (sp : Option Nat) (w : World) (hT : Lib.Utf8Tabs 0 1 w)
    (hp : ∀ j, j < s.size → w.cell? ((⟨b, off, sp⟩ : Addr).add j) = some (.int .u8 (s.get! j).toNat)) (h0 : s.size ≠ 0) :
    Calls Tryd.prog 65 #[.slice (some ⟨b, off, sp⟩) s.size cap] w fun e w' => e = .returned (.tuple #[.int .i32 (Lib.decodeGo s).1, .int .i64 (Lib.decodeGo s).2]) ∧ Below w.heap.size w w' := by
  have hz0 : (0 : Int) < (s.size : Int) := by omega
  have hz0' : ¬ ((s.size : Int) < 1) := by omega
  obtain ⟨x0, hx0⟩ : ∃ x0, s.get! 0 = x0 := ⟨_, rfl⟩
  obtain ⟨x1, hx1⟩ : ∃ x1, s.get! 1 = x1 := ⟨_, rfl⟩
  obtain ⟨x2, hx2⟩ : ∃ x2, s.get! 2 = x2 := ⟨_, rfl⟩
  obtain ⟨x3, hx3⟩ : ∃ x3, s.get! 3 = x3 := ⟨_, rfl⟩
  have hs0 : w.cell? ⟨b, off, sp⟩ = some (.int .u8 x0.toNat) := by have := hp 0 (by omega); rwa [hx0] at this
  have hb : b < w.heap.size := World.block_lt_of_cell? w _ hs0
  have hq1 : 1 < s.size → w.cell? ⟨b, off + 1, none⟩ = some (.int .u8 x1.toNat) := fun h => by have := hp 1 h; rwa [hx1] at this
  have hq2 : 2 < s.size → w.cell? ⟨b, off + 2, none⟩ = some (.int .u8 x2.toNat) := fun h => by have := hp 2 h; rwa [hx2] at this
  have hq3 : 3 < s.size → w.cell? ⟨b, off + 3, none⟩ = some (.int .u8 x3.toNat) := fun h => by have := hp 3 h; rwa [hx3] at this
  clear hp
  have l0 := x0.toNat_lt; have l1 := x1.toNat_lt; have l2 := x2.toNat_lt; have l3 := x3.toNat_lt
  have hdec : Lib.decodeGo s = Lib.decodeN s.size x0.toNat x1.toNat x2.toNat x3.toNat := by
    simp only [Lib.decodeGo, h0, if_false]
    rw [Lib.decode_at, Nat.sub_zero, Nat.zero_add, Nat.zero_add, Nat.zero_add, hx0, hx1, hx2, hx3]
  rw [hdec]
  clear hdec hx0 hx1 hx2 hx3
  have hc0 := hT.1 x0.toNat (by omega)
  have hres : Lib.firstT x0.toNat < 240 → Lib.decodeN s.size x0.toNat x1.toNat x2.toNat x3.toNat = Lib.slowN s.size x0.toNat x1.toNat x2.toNat x3.toNat (Lib.firstT x0.toNat % 8) (Lib.accLo (Lib.firstT x0.toNat / 16)) (Lib.accHi (Lib.firstT x0.toNat / 16)) :=
    fun h => (Lib.slow_eq _ _ _ _ _ (by omega) (by omega) (by omega) (by omega) h).symm
  have ha0 := hT.2 0 (by omega); have ha1 := hT.2 1 (by omega); have ha2 := hT.2 2 (by omega); have ha3 := hT.2 3 (by omega); have ha4 := hT.2 4 (by omega)
  clear hT
  rcases Lib.firstT_cases x0.toNat with hX | hX | hX | hX | hX | hX | hX | hX | hX
  · rw [Lib.ascii_eq _ _ _ _ _ hX]
    rw [hX] at hc0
    clear hres hX hq1 hq2 hq3 ha0 ha1 ha2 ha3 ha4
    go_enter Tryd.func65, Tryd.ntmps65
    go_wp2
    rw [Utf8W.mask240, Utf8W.keep_byte ⟨x0.toNat, l0⟩]
    go_ret2
    exact ⟨rfl, Below.refl _ _⟩
  · rw [Lib.bad_eq _ _ _ _ _ (by omega) hX]
    rw [hX] at hc0
    clear hres hX hq1 hq2 hq3 ha0 ha1 ha2 ha3 ha4
    go_enter Tryd.func65, Tryd.ntmps65
    go_wp2
    rw [Utf8W.mask241, Utf8W.drop_byte ⟨x0.toNat, l0⟩]
    go_ret2
    exact ⟨rfl, Below.refl _ _⟩
  all_goals
    replace hres := hres (by omega)
    rw [hX] at hc0 hres
    obtain ⟨ha0, hb0⟩ := ha0; obtain ⟨ha1, hb1⟩ := ha1; obtain ⟨ha2, hb2⟩ := ha2; obtain ⟨ha3, hb3⟩ := ha3; obtain ⟨ha4, hb4⟩ := ha4
    simp only [Lib.accLo, Lib.accHi, Nat.reduceMul, Nat.reduceAdd, Nat.reduceEqDiff, if_true, if_false, Nat.reduceMod, Nat.reduceDiv] at ha0 ha1 ha2 ha3 ha4 hb0 hb1 hb2 hb3 hb4 hres
    rw [hres]
    clear hres hX
  all_goals
    by_cases n1 : 1 < s.size
    · have z1 : (1 : Int) < (s.size : Int) := by omega
      have z1' : ¬ ((s.size : Int) < 2) := by omega
      have hs1 := hq1 n1
      by_cases n2 : 2 < s.size
      · have z2 : (2 : Int) < (s.size : Int) := by omega
        have z2' : ¬ ((s.size : Int) < 3) := by omega
        have hs2 := hq2 n2
        by_cases n3 : 3 < s.size
        · have z3 : (3 : Int) < (s.size : Int) := by omega
          have z3' : ¬ ((s.size : Int) < 4) := by omega
          have hs3 := hq3 n3
          clear hq1 hq2 hq3
          go_enter Tryd.func65, Tryd.ntmps65
          go_wp2
          all_goals (go_ret2; refine ⟨?_, (Below.refl _ _).alloc (Nat.le_refl _) _⟩; utf8_leaf)
        · have z3 : (s.size : Int) < 4 := by omega
          clear hq1 hq2 hq3
          go_enter Tryd.func65, Tryd.ntmps65
          go_wp2
          all_goals (go_ret2; refine ⟨?_, (Below.refl _ _).alloc (Nat.le_refl _) _⟩; utf8_leaf)
      · have z2 : (s.size : Int) < 3 := by omega
        have z3 : (s.size : Int) < 4 := by omega
        clear hq1 hq2 hq3
        go_enter Tryd.func65, Tryd.ntmps65
        go_wp2
        all_goals (go_ret2; refine ⟨?_, (Below.refl _ _).alloc (Nat.le_refl _) _⟩; utf8_leaf)
    · have z1 : (s.size : Int) < 2 := by omega
      have z2 : (s.size : Int) < 3 := by omega
      have z3 : (s.size : Int) < 4 := by omega
      clear hq1 hq2 hq3
      go_enter Tryd.func65, Tryd.ntmps65
      go_wp2
      all_goals (go_ret2; refine ⟨?_, (Below.refl _ _).alloc (Nat.le_refl _) _⟩; utf8_leaf)
end Go.Proofs.YtlmpcichjmidmaaDoor.X
