/- Contracts of strings.IndexRune, strings.IndexAny, strings.ContainsAny over the two wild signs, for texts of any bytes. Conditions: the text is shorter than 4294967281 bytes. -/
import Derived.Test.YtfakbjogocegiaaDoorProg
import Derived.Test.YtfakbjogocegiaaDoorSh
import Derived.Test.YtfakbjogocegiaaDoorSh
import Derived.Test.YtfakbjogocegiaaDoorX12R
import Derived.Test.YtfakbjogocegiaaDoorX12S
import Derived.Test.YtfakbjogocegiaaDoorWMore
import Derived.Laws.RangeAny
import Derived.Laws.Runes
import Derived.Scope
import Derived.Shelf.Strings.IndexAnyAll
namespace Go.Proofs.YtfakbjogocegiaaDoor.X
open Go.RowKit Go.Shelf Go.Lib Go.Proofs Go.Proofs.YtfakbjogocegiaaDoorW.PrintWords
set_option linter.unusedVariables false
set_option linter.unusedSimpArgs false
def strings_ContainsAny.f (a0 : ByteArray) (a1 : ByteArray) : Option Bool := if a0.size < 4294967281 ∧ a1 = wildSigns then some (Lib.containsAny a0.data.toList wildSigns.data.toList) else none
theorem wild_ascii : ∀ (j : Nat) b, wildSigns.data.toList[j]? = some b → b.toNat < 128 := by
  intro j b h
  have h1 : b ∈ wildSigns.data.toList := List.mem_of_getElem? h
  have h2 : wildSigns.data.toList = [43, 35] := rfl
  rw [h2] at h1
  simp at h1
  rcases h1 with rfl | rfl <;> decide
set_option maxHeartbeats 4000000 in
theorem strings_ContainsAny.calls (a0 : ByteArray) (a1 : ByteArray) (r : Bool) (w : World) (h : strings_ContainsAny.f a0 a1 = some r) :
    Calls Tryd.prog 45 #[.string a0, .string a1] w fun e w' => e = .returned (.bool r) ∧ Below w.heap.size w w' := by
  unfold strings_ContainsAny.f at h
  by_cases hs : a0.size < 4294967281 ∧ a1 = wildSigns
  · rw [if_pos hs] at h
    simp only [Option.some.injEq] at h
    subst h
    obtain ⟨hs, rfl⟩ := hs
    have c : Calls Tryd.prog 64 #[.string a0, .string wildSigns] w fun e w' => e = .returned (.int .i64 (Lib.indexAny a0.data.toList wildSigns.data.toList)) ∧ Below w.heap.size w w' := by
      by_cases h8 : a0.size ≤ 8
      · exact indexAny_short a0 w h8
      · have h116 : (Tryd.prog.info? (Tryd.lays150_ren.t 116)).map (fun i => (i.zero, i.size)) = some (some (.agg (Array.replicate 256 (.bool false))), 256) := by kernel_rfl
        refine (Any.strings_IndexAny_long { Tryd.lays150 with } (zero_of_info h116).1 (zero_of_info h116).2 a0 wildSigns w (by decide) (by omega) hs (by decide) wild_ascii).mono ?_
        rintro e w' ⟨rfl, rfl⟩
        exact ⟨rfl, ((Below.refl _ _).alloc (Nat.le_refl _) _).alloc (by simp) _⟩
    unfold Lib.containsAny
    go_enter Tryd.func45, Tryd.ntmps45
    go_wp2_with (go_at_call 64; refine c.mono ?_; rintro e w' ⟨rfl, hw⟩)
    go_ret
    exact ⟨rfl, hw⟩
  · rw [if_neg hs] at h
    cases h
end Go.Proofs.YtfakbjogocegiaaDoor.X
