/- The signs of bytes: what spec.RuneAt and impl.RuneAt, spec.CountRunes, TextOk of the program and of the reference come to, all in the words of the model's own decoder. No program in sight. -/
import Derived.Test.YtlmpcichjmidmaaDoorK
import Derived.Test.YtlmpcichjmidmaaDoorA7
import Derived.Test.YtlmpcichjmidmaaDoorB1
import Derived.Test.YtlmpcichjmidmaaDoorK
import Derived.Test.YtlmpcichjmidmaaDoorPx0
import Derived.Test.YtlmpcichjmidmaaDoorPx5
import Derived.Test.YtlmpcichjmidmaaDoorX1
import Derived.Test.YtlmpcichjmidmaaDoorX2
import Derived.Lib.DecodeN
import Derived.Lib.TrimUEq
import Derived.Lib.ValidLaws
import Derived.Lib.RuneCount
import Derived.Lib.FieldsU
import Derived.Laws.BytesArg
namespace Go.Proofs.YtlmpcichjmidmaaDoor.Pure
open Go.RowKit Go.Proofs.YtlmpcichjmidmaaDoor.X Go.Proofs.YtlmpcichjmidmaaDoor.P Go.Proofs.YtlmpcichjmidmaaDoorW.PrintWords Go.Proofs.YtlmpcichjmidmaaDoorW.PrintLast Go.Proofs.YtlmpcichjmidmaaDoor.K
set_option linter.unusedVariables false
set_option linter.unusedSimpArgs false
theorem dec_ge1 (l : List Int) (a : Nat) : 1 ≤ (dec l a).2 := Lib.decodeN_ge1 _ _ _ _ _
theorem dec_rune (l : List Int) (a : Nat) (hb : Bytes l) : (dec l a).1 ≤ 1114111 := by
  have h := rd_nat hb (a : Int) (by omega) 0
  simp only [Int.toNat_natCast, Nat.add_zero] at h
  exact Lib.decodeN_rune_le _ _ _ _ _ (by omega)
theorem dec_width (l : List Int) (a : Nat) (h : a < l.length) : (dec l a).2 ≤ l.length - a := Lib.decodeN_le_n' _ _ _ _ _ (by omega)
theorem areBytes_of {l : List Int} (hb : Bytes l) : areBytes l = true := List.all_eq_true.2 fun x hx => decide_eq_true (hb x hx)
theorem bytes_drop {l : List Int} (hb : Bytes l) (n : Nat) : Bytes (l.drop n) := fun x hx => hb x (List.mem_of_mem_drop hx)
theorem bytes_take {l : List Int} (hb : Bytes l) (n : Nat) : Bytes (l.take n) := fun x hx => hb x (List.mem_of_mem_take hx)
theorem baOf_getD {l : List Int} (hb : Bytes l) (j : Nat) : ((baOf l).data.toList.getD j 0).toNat = (l.getD j 0).toNat := by
  unfold baOf
  simp only [List.getD_eq_getElem?_getD, List.getElem?_map]
  by_cases h : j < l.length
  · rw [List.getElem?_eq_getElem h]
    have := hb l[j] (List.getElem_mem h)
    simp only [Option.map_some, Option.getD_some]
    simp
    omega
  · rw [List.getElem?_eq_none (by omega)]
    simp
theorem decodeGo_eq (l : List Int) (a : Nat) (hb : Bytes l) (h : a < l.length) : Lib.decodeGo (baOf (l.drop a)) = dec l a := by
  have hs : (baOf (l.drop a)).size = l.length - a := by rw [baOf_size, List.length_drop]
  unfold Lib.decodeGo
  rw [if_neg (by omega), Lib.decode_N]
  have hl : (baOf (l.drop a)).data.toList.length = l.length - a := by rw [Array.length_toList]; exact hs
  rw [hl, baOf_getD (bytes_drop hb a), baOf_getD (bytes_drop hb a), baOf_getD (bytes_drop hb a), baOf_getD (bytes_drop hb a)]
  unfold dec
  have g : ∀ j, (l.drop a).getD j 0 = l.getD (a + j) 0 := fun j => by simp [List.getD_eq_getElem?_getD, List.getElem?_drop]
  rw [g, g, g, g]
  rfl
theorem implRuneAt_ev (l : List Int) (a : Int) (hb : Bytes l) (hl : l.length ≤ 35184372088832) : Ev (fun k => impl_RuneAt.f k l a) (runeAtP l a) := by
  unfold impl_RuneAt.f runeAtP
  by_cases h0 : a < 0
  · rw [if_neg (show ¬ (0 ≤ a ∧ a < (l.length : Int)) by omega)]
    exact ev_pos h0 (Ev.step (fun k => by rw [impl_RuneAt.j0]) (ev_pos rfl (Ev.now _)))
  refine ev_neg h0 (Ev.step (fun k => by rw [impl_RuneAt.j0]) ?_)
  by_cases h1 : a ≥ (l.length : Int)
  · rw [if_neg (show ¬ (0 ≤ a ∧ a < (l.length : Int)) by omega)]
    exact ev_pos (by simpa using h1) (Ev.now _)
  rw [if_pos (show 0 ≤ a ∧ a < (l.length : Int) by omega)]
  refine ev_neg (by simp; omega) (ev_pos (by omega) (ev_pos (by omega) ?_))
  have hd := decodeGo_eq l a.toNat hb (by omega)
  have g1 := dec_ge1 l a.toNat
  have g2 := dec_rune l a.toNat hb
  have g3 := dec_width l a.toNat (by omega)
  refine ev_b (a := (((dec l a.toNat).1 : Int), ((dec l a.toNat).2 : Int))) (by unfold utf8_DecodeRune.f; rw [if_pos (areBytes_of (bytes_drop hb _)), hd]) ?_
  generalize dec l a.toNat = d at g1 g2 g3
  obtain ⟨R, hR⟩ : ∃ R : Int × Int × Bool, R = if d.1 = 65533 ∧ d.2 = 1 then (0, 0, false) else ((d.1 : Int), a + (d.2 : Int), true) := ⟨_, rfl⟩
  rw [← hR]
  have e3 : wrap64 (d.1 : Int) = (d.1 : Int) := w64 (by omega) (by omega)
  have e4 : wrap64 (a + (d.2 : Int)) = a + (d.2 : Int) := w64 (by omega) (by omega)
  dsimp only
  rw [e3, e4]
  by_cases e : d.1 = 65533
  · refine ev_pos (by omega) ?_
    by_cases e2 : d.2 = 1
    · rw [if_pos ⟨e, e2⟩] at hR
      exact ev_pos (by omega) (ev_some hR.symm)
    · rw [if_neg (fun q => e2 q.2)] at hR
      exact ev_neg (by omega) (ev_some hR.symm)
  · rw [if_neg (fun q => e q.1)] at hR
    exact ev_neg (by omega) (ev_some hR.symm)
end Go.Proofs.YtlmpcichjmidmaaDoor.Pure
