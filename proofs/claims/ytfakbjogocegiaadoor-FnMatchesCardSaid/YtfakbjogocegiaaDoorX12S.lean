/- Contracts of strings.IndexRune, strings.IndexAny, strings.ContainsAny over the two wild signs, for texts of any bytes. Conditions: the text is shorter than 4294967281 bytes. -/
import Derived.Test.YtfakbjogocegiaaDoorProg
import Derived.Test.YtfakbjogocegiaaDoorSh
import Derived.Test.YtfakbjogocegiaaDoorSh
import Derived.Test.YtfakbjogocegiaaDoorX12R
import Derived.Test.YtfakbjogocegiaaDoorWMore
import Derived.Laws.RangeAny
import Derived.Laws.Runes
import Derived.Scope
import Derived.Shelf.Strings.IndexAnyAll
namespace Go.Proofs.YtfakbjogocegiaaDoor.X
open Go.RowKit Go.Shelf Go.Lib Go.Proofs Go.Proofs.YtfakbjogocegiaaDoorW.PrintWords
set_option linter.unusedVariables false
set_option linter.unusedSimpArgs false
theorem wild_not {x : UInt8} (h : 128 ≤ x.toNat) : wildSigns.data.toList.contains x = false := by
  have h1 : x ≠ 43 := by rintro rfl; revert h; decide
  have h2 : x ≠ 35 := by rintro rfl; revert h; decide
  show List.contains [43, 35] x = false
  simp [h1, h2]
theorem noAny_wide {s : ByteArray} {pos k : Nat} (h : Lib.NoAny s.data.toList wildSigns.data.toList pos) (hp : pos < s.size) (h0 : 128 ≤ (s[pos]'hp).toNat) (hk : ∀ j, pos < j → j < pos + k → 128 ≤ (s.get! j).toNat) :
    Lib.NoAny s.data.toList wildSigns.data.toList (pos + k) := by
  intro j b hj hb
  by_cases h1 : j < pos
  · exact h j b h1 hb
  · have hjs : j < s.size := by
      rcases Nat.lt_or_ge j s.size with h | h
      · exact h
      · rw [List.getElem?_eq_none (by rw [← Lib.size_eq]; exact h)] at hb; cases hb
    have hx := Lib.data_getElem? s j hjs
    rw [hx] at hb
    cases hb
    refine wild_not ?_
    by_cases h2 : j = pos
    · subst h2; exact h0
    · have := hk j (by omega) hj
      have e := get_at s j hjs
      rw [Nat.add_zero] at e
      rwa [e] at this
theorem indexRune_high (r : Int) (w : World) (h : r = 65533 ∨ (128 ≤ r ∧ (r < 55296 ∨ (57343 < r ∧ r ≤ 1114111)))) : Calls Tryd.prog 74 #[.string wildSigns, .int .i32 r] w fun e w' => e = .returned (.int .i64 (-1)) ∧ Below w.heap.size w w' := by
  by_cases h1 : r = 65533
  · subst h1
    refine (indexRune_error w).mono ?_
    rintro e w' ⟨rfl, pos, rfl⟩
    exact ⟨rfl, (Below.refl _ _).alloc (Nat.le_refl _) _⟩
  · rcases h with h | ⟨h, h2⟩
    · exact absurd h h1
    · exact indexRune_wide r w h h2 h1
theorem heap_lt {w : World} {k : Nat} {o : Obj} (h : w.heap[k]? = some o) : k < w.heap.size := by
  rcases Nat.lt_or_ge k w.heap.size with h1 | h1
  · exact h1
  · rw [Array.getElem?_eq_none h1] at h; cases h
set_option maxHeartbeats 8000000 in
set_option maxRecDepth 1000000 in
theorem indexAny_short (s : ByteArray) (w : World) (h8 : s.size ≤ 8) :
    Calls Tryd.prog 64 #[.string s, .string wildSigns] w fun e w' => e = .returned (.int .i64 (Lib.indexAny s.data.toList wildSigns.data.toList)) ∧ Below w.heap.size w w' := by
  have hemp : wildSigns.toList.isEmpty = false := by
    rw [Lib.toList_data]; rfl
  have hz : (wildSigns.size : Int) = 2 := rfl
  have hn1 : ((wildSigns.size : Int) == 1) = false := rfl
  have h8z : decide ((8 : Int) < (s.size : Int)) = false := decide_eq_false (by omega)
  go_enter Tryd.func64, Tryd.ntmps64
  go_wp2_with (go_at_call 75; refine (Any.strings_shouldUseASCIISet { Tryd.lays150 with } _ _).mono ?_; rintro e w' ⟨rfl, hw⟩; rw [hw, h8z])
  go_loopg [9, 10] s.size (fun g _ _ wx => ∃ i : Nat, i + g = s.size ∧ wx.heap[w.heap.size]? = some (.stringIter s i) ∧ Below w.heap.size w wx ∧ Lib.NoAny s.data.toList wildSigns.data.toList i)
  case atStart => exact ⟨0, by omega, World.iter_heap _ _ _, (Below.refl _ _).alloc (Nat.le_refl _) _, Lib.NoAny.zero _ _⟩
  case round =>
    obtain ⟨i, hig, hit, hbw, hno⟩ := hrel
    have HN := Aside0.mk hno
    clear hno
    have HB := Aside0.mk hbw
    clear hbw
    cases gk with
    | zero =>
      obtain rfl : i = s.size := by omega
      have hnx := fun ty => next_over (P := Tryd.prog) wr w.heap.size s s.size ty (by omega) hit
      clear hit
      go_wp2
      go_ret
      exact ⟨by rw [Lib.indexAny_none (by rw [← Lib.size_eq]; exact HN.out)]; rfl, HB.out⟩
    | succ g =>
      have hi : i < s.size := by omega
      obtain ⟨w1, hit1, hb1, hnx⟩ := next_any (P := Tryd.prog) wr w.heap.size s i hi hit
      have hlt := heap_lt hit1
      have HI := Aside0.mk (And.intro hit1 (HB.out.trans (hb1 _ (Nat.le_refl _))))
      clear hit hb1 hit1 HB
      obtain ⟨x, hx⟩ : ∃ x : UInt8, s[i]'hi = x := ⟨_, rfl⟩
      have hxl : s.data.toList[i]? = some x := by rw [← hx]; exact Lib.data_getElem? s i hi
      by_cases hx128 : x.toNat < 128
      · have hd := decode_ascii s i hi (by rw [hx]; exact hx128)
        rw [hx] at hd
        rw [hd] at hnx HI
        simp only at hnx HI
        have Hx := Aside0.mk hxl
        clear hxl hx hd
        have hcon := Lib.contains_iff_indexByte wildSigns.data.toList x
        have hback : ((x.toNat : Int)).toNat.toUInt8 = x := by simp
        cases hin : wildSigns.data.toList.contains x
        · rw [hin] at hcon
          have hlt : ¬ ((0 : Int) ≤ Lib.indexByte wildSigns.data.toList x) := of_decide_eq_false hcon.symm
          clear hcon
          go_wp2_with (go_at_call 74; refine (Any.strings_IndexRune_ascii { Tryd.lays150 with } _ _ _ (by omega) (by omega)).mono ?_; rintro e w' ⟨rfl, hw⟩; rw [hw, hback])
          go_roundg g
          case measure => omega
          case rel => exact ⟨i + 1, by omega, HI.out.1, HI.out.2, HN.out.succ Hx.out hin⟩
        · rw [hin] at hcon
          have hge : (0 : Int) ≤ Lib.indexByte wildSigns.data.toList x := of_decide_eq_true hcon.symm
          clear hcon
          go_wp2_with (go_at_call 74; refine (Any.strings_IndexRune_ascii { Tryd.lays150 with } _ _ _ (by omega) (by omega)).mono ?_; rintro e w' ⟨rfl, hw⟩; rw [hw, hback])
          go_ret
          exact ⟨by rw [Lib.indexAny_hit HN.out Hx.out hin]; rfl, HI.out.2⟩
      · obtain ⟨hc, hk1, hk2, hk3⟩ := decode_wide s i hi (by rw [hx]; omega)
        have HW := Aside0.mk (noAny_wide HN.out hi (by rw [hx]; omega) hk3)
        clear HN hxl hx hk3 hx128
        generalize Utf8.decode s i = d at hnx HI HW hc hk1 hk2
        obtain ⟨d1, d2⟩ := d
        simp only at hnx HI HW hc hk1 hk2
        have cR := fun W => indexRune_high (d1 : Int) W (by omega)
        have HC := Aside0.mk hc
        clear hc
        go_wp2_with (go_at_call 74; refine (cR _).mono ?_; rintro e w2 ⟨rfl, hb2⟩; have HB2 := Aside0.mk hb2; clear hb2)
        go_roundg (s.size - (i + d2))
        case measure => omega
        case rel =>
          exact ⟨i + d2, by omega, (HB2.out.block _ hlt).trans HI.out.1, HI.out.2.trans (HB2.out.mono (by omega)), HW.out⟩
end Go.Proofs.YtfakbjogocegiaaDoor.X
