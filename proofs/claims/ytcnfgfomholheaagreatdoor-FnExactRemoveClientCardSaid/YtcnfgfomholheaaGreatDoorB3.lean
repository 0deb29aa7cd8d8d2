/- The signs of bytes: what spec.RuneAt and impl.RuneAt, spec.CountRunes, TextOk of the program and of the reference come to, all in the words of the model's own decoder. No program in sight. -/
import Derived.Test.YtcnfgfomholheaaGreatDoorK
import Derived.Test.YtcnfgfomholheaaGreatDoorB1
import Derived.Test.YtcnfgfomholheaaGreatDoorK
import Derived.Test.YtcnfgfomholheaaGreatDoorPx0
import Derived.Test.YtcnfgfomholheaaGreatDoorPx4
import Derived.Test.YtcnfgfomholheaaGreatDoorPx5
import Derived.Test.YtcnfgfomholheaaGreatDoorX5
import Derived.Test.YtcnfgfomholheaaGreatDoorX7
import Derived.Test.YtcnfgfomholheaaGreatDoorZa
import Derived.Lib.DecodeN
import Derived.Lib.TrimUEq
import Derived.Lib.ValidLaws
import Derived.Lib.RuneCount
import Derived.Lib.FieldsU
import Derived.Laws.BytesArg
namespace Go.Proofs.YtcnfgfomholheaaGreatDoor.Pure
open Go.RowKit Go.Proofs.YtcnfgfomholheaaGreatDoor.X Go.Proofs.YtcnfgfomholheaaGreatDoor.P Go.Proofs.YtcnfgfomholheaaGreatDoorW.PrintWords Go.Proofs.YtcnfgfomholheaaGreatDoorW.PrintLast Go.Proofs.YtcnfgfomholheaaGreatDoor.K
set_option linter.unusedVariables false
set_option linter.unusedSimpArgs false
theorem bytesOf_bytes (s : ByteArray) : Bytes (bytesOf s) := by
  intro x hx
  unfold bytesOf at hx
  obtain ⟨b, _, rfl⟩ := List.mem_map.1 hx
  have := b.toNat_lt
  omega
theorem bytesOf_at (s : ByteArray) (j : Nat) : ((bytesOf s).getD j 0).toNat = (s.data.toList.getD j 0).toNat := by
  unfold bytesOf
  simp only [List.getD_eq_getElem?_getD, List.getElem?_map]
  cases s.data.toList[j]? <;> simp
theorem dec_bytesOf (s : ByteArray) (pos : Nat) : dec (bytesOf s) pos = Utf8.decode s pos := by
  rw [Lib.decode_N]
  unfold dec
  rw [bytesOf_at, bytesOf_at, bytesOf_at, bytesOf_at]
  have : (bytesOf s).length = s.data.toList.length := by unfold bytesOf; rw [List.length_map]
  rw [this]
/-- From pos on all is valid. -/
def validFrom (s : ByteArray) (pos : Nat) : Bool := Lib.validD (s.data.toList.drop pos)
theorem len_data (s : ByteArray) : s.data.toList.length = s.size := by rw [Array.length_toList]; rfl
theorem validFrom_end (s : ByteArray) (pos : Nat) (h : ¬ pos < s.size) : validFrom s pos = true := by
  unfold validFrom
  rw [List.drop_of_length_le (by rw [len_data]; omega)]
  rfl
theorem validFrom_step (s : ByteArray) (pos : Nat) (h : pos < s.size) : validFrom s pos = if (Utf8.decode s pos).1 = 65533 ∧ (Utf8.decode s pos).2 = 1 then false else validFrom s (pos + (Utf8.decode s pos).2) := by
  unfold validFrom
  have hne : s.data.toList.drop pos ≠ [] := by
    intro e
    have := congrArg List.length e
    rw [List.length_drop, len_data] at this
    simp at this
    omega
  rw [Lib.validD_step _ hne, Lib.decodeL_drop, List.drop_drop]
theorem count_l (s : ByteArray) (hs : s.size ≤ 1048576) : ∀ (b pos n : Nat), s.size ≤ pos + b → pos ≤ s.size + 4 → n ≤ pos →
    Ev (fun k => spec_CountRunes.l0 k (bytesOf s) (n : Int) (pos : Int)) (cond (noZero s b pos && validFrom s pos) ((n + Lib.runeCountFrom s b pos : Nat) : Int) (-1))
  | 0, pos, n, hb, hp, hn => by
    have hpos : ¬ pos < s.size := by omega
    rw [validFrom_end s pos hpos]
    refine ev_to (Ev.step (fun k => ?_) (Ev.now (n : Int))) (by simp [noZero, Lib.runeCountFrom])
    simp only [spec_CountRunes.l0]
    rw [bytesOf_length, if_neg (by omega)]
  | b + 1, pos, n, hb, hp, hn => by
    by_cases hpos : pos < s.size
    · have hl := bytesOf_length s
      have hr := specRuneAt_ev (bytesOf s) (pos : Int) (bytesOf_bytes s) (by omega)
      refine Ev.step (f := fun k => (spec_RuneAt.f k (bytesOf s) (pos : Int)).bind fun t => (if t.2.2 = true then (if t.1 = 0 then some (-1) else spec_CountRunes.l0 k (bytesOf s) (wrap64 ((n : Int) + 1)) t.2.1) else some (-1))) (fun k => ?_) (Ev.bind hr ?_)
      · simp only [spec_CountRunes.l0]
        rw [if_pos (by omega)]
      · unfold runeAtP
        rw [if_pos (by omega), Int.toNat_natCast, dec_bytesOf, validFrom_step s pos hpos]
        simp only [noZero, Lib.runeCountFrom]
        rw [if_pos hpos, if_pos hpos]
        have hw := dec_width (bytesOf s) pos (by omega)
        have hg := dec_ge1 (bytesOf s) pos
        rw [dec_bytesOf] at hw hg
        by_cases e : (Utf8.decode s pos).1 = 65533 ∧ (Utf8.decode s pos).2 = 1
        · rw [if_pos e, if_pos e]
          refine ev_neg (by simp) (ev_some ?_)
          simp
        · rw [if_neg e, if_neg e]
          refine ev_pos rfl ?_
          by_cases z : (Utf8.decode s pos).1 = 0
          · refine ev_pos (by simp only; omega) (ev_some ?_)
            rw [if_pos z]
            simp
          · refine ev_neg (by simp only; omega) ?_
            rw [if_neg z]
            have e1 : wrap64 ((n : Int) + 1) = ((n + 1 : Nat) : Int) := w64s (show n < n + 1 by omega) (by omega)
            have e2 : (pos : Int) + ((Utf8.decode s pos).2 : Int) = ((pos + (Utf8.decode s pos).2 : Nat) : Int) := by omega
            rw [e1, e2]
            refine ev_to (count_l s hs b (pos + (Utf8.decode s pos).2) (n + 1) (by omega) (by omega) (by omega)) ?_
            have e3 : n + 1 + Lib.runeCountFrom s b (pos + (Utf8.decode s pos).2) = n + (1 + Lib.runeCountFrom s b (pos + (Utf8.decode s pos).2)) := by omega
            rw [e3]
    · rw [validFrom_end s pos hpos]
      refine ev_to (Ev.step (fun k => ?_) (Ev.now (n : Int))) (by simp [noZero, Lib.runeCountFrom, hpos])
      simp only [spec_CountRunes.l0]
      rw [bytesOf_length, if_neg (by omega)]
/-- How many signs (-1: it is no text). -/
def countP (s : ByteArray) : Int := if textOkP s = true then (Lib.runeCount s : Int) else -1
theorem specCountRunes_ev (s : ByteArray) : Ev (fun k => spec_CountRunes.f k s) (countP s) := by
  unfold spec_CountRunes.f countP textOkP
  by_cases h : (s.size : Int) > 60
  · refine ev_pos h (ev_some ?_)
    rw [decide_eq_false (by omega)]
    simp
  · refine ev_neg h (ev_to (count_l s (by omega) s.size 0 0 (by omega) (by omega) (by omega)) ?_)
    rw [decide_eq_true (by omega)]
    unfold validFrom Lib.runeCount
    simp only [List.drop_zero, Bool.and_true, Nat.zero_add]
    cases (noZero s s.size 0 && Lib.validD s.data.toList) <;> rfl
theorem implTextOk_eq (s : ByteArray) (hs : s.size ≤ 140737488351232) : impl_TextOk.f s = some (textOkP s) := by
  unfold impl_TextOk.f
  rw [if_pos (by omega)]
theorem specTextOk_ev (s : ByteArray) : Ev (fun k => spec_TextOk.f k s) (textOkP s) := by
  unfold spec_TextOk.f
  refine Ev.bind (specCountRunes_ev s) (ev_some ?_)
  unfold countP
  by_cases h : textOkP s = true
  · rw [if_pos h, h]
    exact decide_eq_true (by omega)
  · rw [if_neg h]
    have h' : textOkP s = false := by simpa using h
    rw [h']
    rfl
end Go.Proofs.YtcnfgfomholheaaGreatDoor.Pure
