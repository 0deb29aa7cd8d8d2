/- Plain lemmas of several texts in one (a claim holds at most 60 files). -/
import Derived.Test.YtlmpcichjmidmaaDoorK
import Derived.Test.YtlmpcichjmidmaaDoorPx0
import Derived.Test.YtlmpcichjmidmaaDoorPx1
import Derived.Test.YtlmpcichjmidmaaDoorPx2
import Derived.Lib.DecodeN
import Derived.Lib.TrimUEq
import Derived.Lib.ValidLaws
import Derived.Lib.RuneCount
import Derived.Lib.FieldsU
import Derived.Laws.BytesArg
import Derived.Test.YtlmpcichjmidmaaDoorPx5
import Derived.Test.YtlmpcichjmidmaaDoorX1
import Derived.Test.YtlmpcichjmidmaaDoorX2
import Derived.Test.YtlmpcichjmidmaaDoorPx3
import Derived.Test.YtlmpcichjmidmaaDoorPx7
import Derived.Test.YtlmpcichjmidmaaDoorX4
import Derived.Test.YtlmpcichjmidmaaDoorX5
import Derived.Test.YtlmpcichjmidmaaDoorX7
import Derived.Test.YtlmpcichjmidmaaDoorPx12
import Derived.Test.YtlmpcichjmidmaaDoorPx13
import Derived.Laws.BitsLemmas
import Derived.Test.YtlmpcichjmidmaaDoorPx11
import Derived.Test.YtlmpcichjmidmaaDoorPx14
import Derived.Test.YtlmpcichjmidmaaDoorPx16
import Derived.Test.YtlmpcichjmidmaaDoorPx10
import Derived.Test.YtlmpcichjmidmaaDoorX9
import Derived.Test.YtlmpcichjmidmaaDoorPx17
import Derived.Test.YtlmpcichjmidmaaDoorX10
import Derived.Test.YtlmpcichjmidmaaDoorX11
section
/- What the small functions of the laws and of the program come to: copies, comparisons, marks of bytes and numbers; joined; PutWord, GetWord, PutBytes, GetBytes, PutLen. No program in sight. -/
namespace Go.Proofs.YtlmpcichjmidmaaDoor.Pure
open Go.RowKit Go.Proofs.YtlmpcichjmidmaaDoor.P Go.Proofs.YtlmpcichjmidmaaDoorW.PrintWords Go.Proofs.YtlmpcichjmidmaaDoorW.PrintLast Go.Proofs.YtlmpcichjmidmaaDoor.K
set_option linter.unusedVariables false
set_option linter.unusedSimpArgs false

theorem l1In_eq (a b c : Int) : spec_l1In.f a b c = some (decide (b ≤ a ∧ a ≤ c)) := by
  unfold spec_l1In.f
  by_cases h : a ≥ b
  · rw [if_pos h]; congr 1; simp; omega
  · rw [if_neg h]; congr 1; symm; simp; omega
end Go.Proofs.YtlmpcichjmidmaaDoor.Pure
end
section
/- The signs of bytes: what spec.RuneAt and impl.RuneAt, spec.CountRunes, TextOk of the program and of the reference come to, all in the words of the model's own decoder. No program in sight. -/
namespace Go.Proofs.YtlmpcichjmidmaaDoor.Pure
open Go.RowKit Go.Proofs.YtlmpcichjmidmaaDoor.X Go.Proofs.YtlmpcichjmidmaaDoor.P Go.Proofs.YtlmpcichjmidmaaDoorW.PrintWords Go.Proofs.YtlmpcichjmidmaaDoorW.PrintLast Go.Proofs.YtlmpcichjmidmaaDoor.K
set_option linter.unusedVariables false
set_option linter.unusedSimpArgs false
theorem i64_and31 {x : Int} (h0 : 0 ≤ x) (h1 : x < 9223372036854775808) : Go.bits .and .i64 x 31 = x % 32 :=
  bits_mask .i64 63 (by decide) wraps_i64 5 (by decide) x h0 h1
theorem i64_and15 {x : Int} (h0 : 0 ≤ x) (h1 : x < 9223372036854775808) : Go.bits .and .i64 x 15 = x % 16 :=
  bits_mask .i64 63 (by decide) wraps_i64 4 (by decide) x h0 h1
theorem i64_and7 {x : Int} (h0 : 0 ≤ x) (h1 : x < 9223372036854775808) : Go.bits .and .i64 x 7 = x % 8 :=
  bits_mask .i64 63 (by decide) wraps_i64 3 (by decide) x h0 h1
/-- The sign at a place, by the model's own decoder. -/
def dec (l : List Int) (a : Nat) : Nat × Nat := Lib.decodeN (l.length - a) (l.getD a 0).toNat (l.getD (a + 1) 0).toNat (l.getD (a + 2) 0).toNat (l.getD (a + 3) 0).toNat
def runeAtP (l : List Int) (a : Int) : Int × Int × Bool :=
  if 0 ≤ a ∧ a < l.length then (if (dec l a.toNat).1 = 65533 ∧ (dec l a.toNat).2 = 1 then (0, 0, false) else (((dec l a.toNat).1 : Int), a + ((dec l a.toNat).2 : Int), true)) else (0, 0, false)
theorem runeAt_end (l : List Int) (a x8 x9 v i : Int) (r : Int × Int × Bool) (h : x8 < i) (ha : -1 ≤ a) (ha1 : a ≤ 35184372088832) (h8 : 0 ≤ x8) (h81 : x8 ≤ 3)
    (hr : r = if v < x9 ∨ 1114111 < v ∨ (55296 ≤ v ∧ v ≤ 57343) then (0, 0, false) else (v, a + 1 + x8, true)) : Ev (fun k => spec_RuneAt.l0 k l a x8 x9 v i) r := by
  refine Ev.step (fun k => by rw [spec_RuneAt.l0]) ?_
  refine ev_neg (by omega) ?_
  by_cases h1 : v < x9
  · rw [if_pos (.inl h1)] at hr
    exact ev_pos h1 (ev_some hr.symm)
  refine ev_neg h1 ?_
  by_cases h2 : v > 1114111
  · rw [if_pos (.inr (.inl h2))] at hr
    exact ev_pos h2 (ev_some hr.symm)
  refine ev_neg h2 (ev_b (l1In_eq v 55296 57343) ?_)
  by_cases h3 : 55296 ≤ v ∧ v ≤ 57343
  · rw [if_pos (.inr (.inr h3))] at hr
    exact ev_pos (by simpa using h3) (ev_some hr.symm)
  · rw [if_neg (by omega)] at hr
    refine ev_neg (by simpa using h3) (ev_some ?_)
    rw [hr, w64 (x := a + 1) (by omega) (by omega), w64 (by omega) (by omega)]
theorem runeAt_more (l : List Int) (a x8 x9 v i : Int) (r : Int × Int × Bool) (hb : Bytes l) (h : i ≤ x8) (ha : 0 ≤ a) (h0 : 1 ≤ i) (h8 : x8 ≤ 3) (hlt : a + i < l.length) (hl : l.length ≤ 35184372088832) (hv : 0 ≤ v) (hv1 : v ≤ 1073741824)
    (hbad : rd l (a + i) / 64 ≠ 2 → r = (0, 0, false)) (hok : rd l (a + i) / 64 = 2 → Ev (fun k => spec_RuneAt.l0 k l a x8 x9 (v * 64 + rd l (a + i) % 64) (i + 1)) r) : Ev (fun k => spec_RuneAt.l0 k l a x8 x9 v i) r := by
  have hy := bytes_rd hb (a + i)
  refine Ev.step (fun k => by rw [spec_RuneAt.l0]) ?_
  rw [w64 (x := a + i) (by omega) (by omega), w64 (x := rd l (a + i)) (by omega) (by omega)]
  refine ev_pos h (ev_pos (by omega) (ev_pos hlt ?_))
  by_cases h1 : rd l (a + i) < 128
  · exact ev_pos h1 (ev_some (hbad (by omega)).symm)
  refine ev_neg h1 ?_
  by_cases h2 : rd l (a + i) > 191
  · exact ev_pos h2 (ev_some (hbad (by omega)).symm)
  refine ev_neg h2 ?_
  rw [w64 (x := v * 64) (by omega) (by omega), w64 (x := v * 64 + rd l (a + i)) (by omega) (by omega), w64 (x := v * 64 + rd l (a + i) - 128) (by omega) (by omega), w64 (x := i + 1) (by omega) (by omega)]
  have e : v * 64 + rd l (a + i) - 128 = v * 64 + rd l (a + i) % 64 := by omega
  rw [e]
  exact hok (by omega)
/-- A number of the list and its Nat. -/
theorem rd_nat {l : List Int} (hb : Bytes l) (a : Int) (ha : 0 ≤ a) (j : Nat) : rd l (a + (j : Int)) = ((l.getD (a.toNat + j) 0).toNat : Int) ∧ (l.getD (a.toNat + j) 0).toNat ≤ 255 := by
  have h := bytes_rd hb (a + (j : Int))
  have e : (a + (j : Int)).toNat = a.toNat + j := by omega
  unfold rd at h ⊢
  rw [e] at h ⊢
  omega
set_option maxHeartbeats 1000000 in
theorem specRuneAt_ev (l : List Int) (a : Int) (hb : Bytes l) (hl : l.length ≤ 35184372088832) : Ev (fun k => spec_RuneAt.f k l a) (runeAtP l a) := by
  unfold spec_RuneAt.f runeAtP
  by_cases h0 : a < 0
  · rw [if_neg (by omega)]
    refine ev_pos h0 (Ev.step (fun k => by rw [spec_RuneAt.j0]) (ev_pos rfl (Ev.now _)))
  refine ev_neg h0 (Ev.step (fun k => by rw [spec_RuneAt.j0]) ?_)
  by_cases h1 : a ≥ (l.length : Int)
  · rw [if_neg (by omega)]
    exact ev_pos (by simpa using h1) (Ev.now _)
  rw [if_pos (by omega)]
  have d0 := rd_nat hb a (by omega) 0
  have d1 := rd_nat hb a (by omega) 1
  have d2 := rd_nat hb a (by omega) 2
  have d3 := rd_nat hb a (by omega) 3
  unfold dec
  simp only [Nat.add_zero, Int.natCast_zero, Int.add_zero] at d0
  generalize hg0 : (l.getD a.toNat 0).toNat = b0 at d0 ⊢
  generalize hg1 : (l.getD (a.toNat + 1) 0).toNat = b1 at d1 ⊢
  generalize hg2 : (l.getD (a.toNat + 2) 0).toNat = b2 at d2 ⊢
  generalize hg3 : (l.getD (a.toNat + 3) 0).toNat = b3 at d3 ⊢
  clear hg0 hg1 hg2 hg3
  generalize hn : l.length - a.toNat = n
  have e0 : wrap64 (rd l a) = rd l a := w64 (by omega) (by omega)
  rw [e0, d0.1]
  refine ev_neg (by simp; omega) (ev_pos (by omega) (ev_pos (by omega) ?_))
  by_cases c0 : b0 < 128
  · refine ev_pos (by omega) (ev_some ?_)
    rw [w64 (x := a + 1) (by omega) (by omega)]
    unfold Lib.decodeN
    rw [if_pos c0]
    rw [if_neg (by simp only; omega)]
    rfl
  refine ev_neg (by omega) ?_
  obtain ⟨R, hR⟩ : ∃ R : Int × Int × Bool, R = if (Lib.decodeN n b0 b1 b2 b3).1 = 65533 ∧ (Lib.decodeN n b0 b1 b2 b3).2 = 1 then (0, 0, false) else (((Lib.decodeN n b0 b1 b2 b3).1 : Int), a + ((Lib.decodeN n b0 b1 b2 b3).2 : Int), true) := ⟨_, rfl⟩
  rw [← hR]
  have bad : Lib.decodeN n b0 b1 b2 b3 = (65533, 1) → R = (0, 0, false) := fun h => by rw [hR, h]; rfl
  have good : ∀ c k, k ≠ 1 → Lib.decodeN n b0 b1 b2 b3 = (c, k) → R = ((c : Int), a + (k : Int), true) := fun c k hk h => by
    rw [hR, h, if_neg (fun q => hk q.2)]
  clear hR
  have hc0 : b0 ≤ 255 := by omega
  have nA : ∀ h : b0 < 192 ∨ 248 ≤ b0, Lib.decodeN n b0 b1 b2 b3 = (65533, 1) := fun h => by
    unfold Lib.decodeN
    rw [if_neg (by omega), if_neg (by omega), if_neg (by omega), if_neg (by omega)]
  by_cases c1 : b0 < 192
  · refine ev_neg (by omega) (Ev.step (fun k => by rw [spec_RuneAt.j1]) (ev_neg (by simp) (ev_neg (by omega) ?_)))
    exact Ev.step (fun k => by rw [spec_RuneAt.j2]) (ev_neg (by simp) (ev_neg (by omega) (ev_some (bad (nA (.inl c1))).symm)))
  refine ev_pos (by omega) (Ev.step (fun k => by rw [spec_RuneAt.j1]) ?_)
  have el : wrap64 ((l.length : Int) - 1) = (l.length : Int) - 1 := w64 (by omega) (by omega)
  by_cases c2 : b0 < 224
  · refine ev_pos (by simp; omega) (Ev.step (fun k => by rw [spec_RuneAt.j3]) ?_)
    rw [el, w64 (x := (l.length : Int) - 1 - 1) (by omega) (by omega), i64_and31 (by omega) (by omega)]
    by_cases n1 : 1 < n
    · refine ev_neg (by omega) (runeAt_more l a 1 128 _ 1 R hb (by omega) (by omega) (by omega) (by omega) (by omega) hl (by omega) (by omega) (fun h => bad ?_) (fun h => ?_))
      · have := d1.1
        simp only [Int.natCast_one] at this
        unfold Lib.decodeN
        rw [if_neg (by omega), if_neg (by omega), if_neg (by omega), if_neg (by omega)]
      · have h1 := d1.1
        simp only [Int.natCast_one] at h1
        rw [h1]
        rw [h1] at h
        refine runeAt_end l a 1 128 _ _ R (by omega) (by omega) (by omega) (by omega) (by omega) ?_
        by_cases q : b0 % 32 * 64 + b1 % 64 ≥ 128
        · rw [if_neg (by omega), good (b0 % 32 * 64 + b1 % 64) 2 (by omega) (by unfold Lib.decodeN; rw [if_neg (by omega), if_pos (by omega), if_pos q])]
          simp only [Prod.mk.injEq, and_true]
          omega
        · rw [if_pos (by omega), bad (by unfold Lib.decodeN; rw [if_neg (by omega), if_pos (by omega), if_neg q])]
    · refine ev_pos (by omega) (ev_some (bad ?_).symm)
      unfold Lib.decodeN
      rw [if_neg (by omega), if_neg (by omega), if_neg (by omega), if_neg (by omega)]
  refine ev_neg (by simp; omega) (ev_pos (by omega) (Ev.step (fun k => by rw [spec_RuneAt.j2]) ?_))
  by_cases c3 : b0 < 240
  · refine ev_pos (by simp; omega) (Ev.step (fun k => by rw [spec_RuneAt.j3]) ?_)
    rw [el, w64 (x := (l.length : Int) - 1 - 2) (by omega) (by omega), i64_and15 (by omega) (by omega)]
    by_cases n2 : 2 < n
    · refine ev_neg (by omega) (runeAt_more l a 2 2048 _ 1 R hb (by omega) (by omega) (by omega) (by omega) (by omega) hl (by omega) (by omega) (fun h => bad ?_) (fun h => ?_))
      · have := d1.1
        simp only [Int.natCast_one] at this
        unfold Lib.decodeN
        rw [if_neg (by omega), if_neg (by omega), if_neg (by omega), if_neg (by omega)]
      · have h1 := d1.1
        simp only [Int.natCast_one] at h1
        rw [h1]
        rw [h1] at h
        have h2 := d2.1
        have e2 : ((2 : Nat) : Int) = 1 + 1 := rfl
        rw [e2] at h2
        refine runeAt_more l a 2 2048 _ (1 + 1) R hb (by omega) (by omega) (by omega) (by omega) (by omega) hl (by omega) (by omega) (fun g => bad ?_) (fun g => ?_)
        · unfold Lib.decodeN
          rw [if_neg (by omega), if_neg (by omega), if_neg (by omega), if_neg (by omega)]
        · rw [h2]
          rw [h2] at g
          refine runeAt_end l a 2 2048 _ _ R (by omega) (by omega) (by omega) (by omega) (by omega) ?_
          have ec : ((b0 : Int) % 16 * 64 + (b1 : Int) % 64) * 64 + (b2 : Int) % 64 = ((b0 % 16 * 4096 + b1 % 64 * 64 + b2 % 64 : Nat) : Int) := by omega
          rw [ec]
          generalize hc : b0 % 16 * 4096 + b1 % 64 * 64 + b2 % 64 = c
          by_cases q : c ≥ 2048 ∧ (c < 55296 ∨ (57344 ≤ c ∧ c ≤ 1114111))
          · rw [if_neg (by omega), good c 3 (by omega) (by unfold Lib.decodeN; rw [if_neg (by omega), if_neg (by omega), if_pos (by omega), hc, if_pos q])]
            simp only [Prod.mk.injEq, and_true, true_and]
            omega
          · rw [if_pos (by omega), bad (by unfold Lib.decodeN; rw [if_neg (by omega), if_neg (by omega), if_pos (by omega), hc, if_neg q])]
    · refine ev_pos (by omega) (ev_some (bad ?_).symm)
      unfold Lib.decodeN
      rw [if_neg (by omega), if_neg (by omega), if_neg (by omega), if_neg (by omega)]
  refine ev_neg (by simp; omega) (ev_pos (by omega) ?_)
  by_cases c4 : b0 < 248
  · refine ev_pos (by omega) (Ev.step (fun k => by rw [spec_RuneAt.j3]) ?_)
    rw [el, w64 (x := (l.length : Int) - 1 - 3) (by omega) (by omega), i64_and7 (by omega) (by omega)]
    by_cases n3 : 3 < n
    · refine ev_neg (by omega) (runeAt_more l a 3 65536 _ 1 R hb (by omega) (by omega) (by omega) (by omega) (by omega) hl (by omega) (by omega) (fun h => bad ?_) (fun h => ?_))
      · have := d1.1
        simp only [Int.natCast_one] at this
        unfold Lib.decodeN
        rw [if_neg (by omega), if_neg (by omega), if_neg (by omega), if_neg (by omega)]
      · have h1 := d1.1
        simp only [Int.natCast_one] at h1
        rw [h1]
        rw [h1] at h
        have h2 := d2.1
        have e2 : ((2 : Nat) : Int) = 1 + 1 := rfl
        rw [e2] at h2
        refine runeAt_more l a 3 65536 _ (1 + 1) R hb (by omega) (by omega) (by omega) (by omega) (by omega) hl (by omega) (by omega) (fun g => bad ?_) (fun g => ?_)
        · unfold Lib.decodeN
          rw [if_neg (by omega), if_neg (by omega), if_neg (by omega), if_neg (by omega)]
        · rw [h2]
          rw [h2] at g
          have h3 := d3.1
          have e3 : ((3 : Nat) : Int) = 1 + 1 + 1 := rfl
          rw [e3] at h3
          refine runeAt_more l a 3 65536 _ (1 + 1 + 1) R hb (by omega) (by omega) (by omega) (by omega) (by omega) hl (by omega) (by omega) (fun f => bad ?_) (fun f => ?_)
          · unfold Lib.decodeN
            rw [if_neg (by omega), if_neg (by omega), if_neg (by omega), if_neg (by omega)]
          · rw [h3]
            rw [h3] at f
            refine runeAt_end l a 3 65536 _ _ R (by omega) (by omega) (by omega) (by omega) (by omega) ?_
            have ec : (((b0 : Int) % 8 * 64 + (b1 : Int) % 64) * 64 + (b2 : Int) % 64) * 64 + (b3 : Int) % 64 = ((b0 % 8 * 262144 + b1 % 64 * 4096 + b2 % 64 * 64 + b3 % 64 : Nat) : Int) := by omega
            rw [ec]
            generalize hc : b0 % 8 * 262144 + b1 % 64 * 4096 + b2 % 64 * 64 + b3 % 64 = c
            by_cases q : c ≥ 65536 ∧ (c < 55296 ∨ (57344 ≤ c ∧ c ≤ 1114111))
            · rw [if_neg (by omega), good c 4 (by omega) (by unfold Lib.decodeN; rw [if_neg (by omega), if_neg (by omega), if_neg (by omega), if_pos (by omega), hc, if_pos q])]
              simp only [Prod.mk.injEq, and_true, true_and]
              omega
            · rw [if_pos (by omega), bad (by unfold Lib.decodeN; rw [if_neg (by omega), if_neg (by omega), if_neg (by omega), if_pos (by omega), hc, if_neg q])]
    · refine ev_pos (by omega) (ev_some (bad ?_).symm)
      unfold Lib.decodeN
      rw [if_neg (by omega), if_neg (by omega), if_neg (by omega), if_neg (by omega)]
  · exact ev_neg (by omega) (ev_some (bad (nA (.inr (by omega)))).symm)
end Go.Proofs.YtlmpcichjmidmaaDoor.Pure
end
section
/- The signs of bytes: what spec.RuneAt and impl.RuneAt, spec.CountRunes, TextOk of the program and of the reference come to, all in the words of the model's own decoder. No program in sight. -/
namespace Go.Proofs.YtlmpcichjmidmaaDoor.Pure
open Go.RowKit Go.Proofs.YtlmpcichjmidmaaDoor.X Go.Proofs.YtlmpcichjmidmaaDoor.P Go.Proofs.YtlmpcichjmidmaaDoorW.PrintWords Go.Proofs.YtlmpcichjmidmaaDoorW.PrintLast Go.Proofs.YtlmpcichjmidmaaDoor.K
set_option linter.unusedVariables false
set_option linter.unusedSimpArgs false
theorem dec_ge1 (l : List Int) (a : Nat) : 1 ≤ (dec l a).2 := Lib.decodeN_ge1 _ _ _ _ _
theorem dec_rune (l : List Int) (a : Nat) (hb : Bytes l) : (dec l a).1 ≤ 1114111 := by
  have h := rd_nat hb (a : Int) (by omega) 0
  simp only [Int.toNat_natCast, Nat.add_zero] at h
  exact Lib.decodeN_rune_le _ _ _ _ _ (by omega)
theorem dec_width (l : List Int) (a : Nat) (h : a < l.length) : (dec l a).2 ≤ l.length - a := Lib.decodeN_le_n' _ _ _ _ _ (by omega)
theorem areBytes_of {l : List Int} (hb : Bytes l) : areBytes l = true := List.all_eq_true.2 fun x hx => decide_eq_true (hb x hx)
theorem bytes_drop {l : List Int} (hb : Bytes l) (n : Nat) : Bytes (l.drop n) := fun x hx => hb x (List.mem_of_mem_drop hx)
theorem bytes_take {l : List Int} (hb : Bytes l) (n : Nat) : Bytes (l.take n) := fun x hx => hb x (List.mem_of_mem_take hx)
theorem baOf_getD {l : List Int} (hb : Bytes l) (j : Nat) : ((baOf l).data.toList.getD j 0).toNat = (l.getD j 0).toNat := by
  unfold baOf
  simp only [List.getD_eq_getElem?_getD, List.getElem?_map]
  by_cases h : j < l.length
  · rw [List.getElem?_eq_getElem h]
    have := hb l[j] (List.getElem_mem h)
    simp only [Option.map_some, Option.getD_some]
    simp
    omega
  · rw [List.getElem?_eq_none (by omega)]
    simp
theorem decodeGo_eq (l : List Int) (a : Nat) (hb : Bytes l) (h : a < l.length) : Lib.decodeGo (baOf (l.drop a)) = dec l a := by
  have hs : (baOf (l.drop a)).size = l.length - a := by rw [baOf_size, List.length_drop]
  unfold Lib.decodeGo
  rw [if_neg (by omega), Lib.decode_N]
  have hl : (baOf (l.drop a)).data.toList.length = l.length - a := by rw [Array.length_toList]; exact hs
  rw [hl, baOf_getD (bytes_drop hb a), baOf_getD (bytes_drop hb a), baOf_getD (bytes_drop hb a), baOf_getD (bytes_drop hb a)]
  unfold dec
  have g : ∀ j, (l.drop a).getD j 0 = l.getD (a + j) 0 := fun j => by simp [List.getD_eq_getElem?_getD, List.getElem?_drop]
  rw [g, g, g, g]
  rfl
theorem implRuneAt_ev (l : List Int) (a : Int) (hb : Bytes l) (hl : l.length ≤ 35184372088832) : Ev (fun k => impl_RuneAt.f k l a) (runeAtP l a) := by
  unfold impl_RuneAt.f runeAtP
  by_cases h0 : a < 0
  · rw [if_neg (show ¬ (0 ≤ a ∧ a < (l.length : Int)) by omega)]
    exact ev_pos h0 (Ev.step (fun k => by rw [impl_RuneAt.j0]) (ev_pos rfl (Ev.now _)))
  refine ev_neg h0 (Ev.step (fun k => by rw [impl_RuneAt.j0]) ?_)
  by_cases h1 : a ≥ (l.length : Int)
  · rw [if_neg (show ¬ (0 ≤ a ∧ a < (l.length : Int)) by omega)]
    exact ev_pos (by simpa using h1) (Ev.now _)
  rw [if_pos (show 0 ≤ a ∧ a < (l.length : Int) by omega)]
  refine ev_neg (by simp; omega) (ev_pos (by omega) (ev_pos (by omega) ?_))
  have hd := decodeGo_eq l a.toNat hb (by omega)
  have g1 := dec_ge1 l a.toNat
  have g2 := dec_rune l a.toNat hb
  have g3 := dec_width l a.toNat (by omega)
  refine ev_b (a := (((dec l a.toNat).1 : Int), ((dec l a.toNat).2 : Int))) (by unfold utf8_DecodeRune.f; rw [if_pos (areBytes_of (bytes_drop hb _)), hd]) ?_
  generalize dec l a.toNat = d at g1 g2 g3
  obtain ⟨R, hR⟩ : ∃ R : Int × Int × Bool, R = if d.1 = 65533 ∧ d.2 = 1 then (0, 0, false) else ((d.1 : Int), a + (d.2 : Int), true) := ⟨_, rfl⟩
  rw [← hR]
  have e3 : wrap64 (d.1 : Int) = (d.1 : Int) := w64 (by omega) (by omega)
  have e4 : wrap64 (a + (d.2 : Int)) = a + (d.2 : Int) := w64 (by omega) (by omega)
  dsimp only
  rw [e3, e4]
  by_cases e : d.1 = 65533
  · refine ev_pos (by omega) ?_
    by_cases e2 : d.2 = 1
    · rw [if_pos ⟨e, e2⟩] at hR
      exact ev_pos (by omega) (ev_some hR.symm)
    · rw [if_neg (fun q => e2 q.2)] at hR
      exact ev_neg (by omega) (ev_some hR.symm)
  · rw [if_neg (fun q => e q.1)] at hR
    exact ev_neg (by omega) (ev_some hR.symm)
end Go.Proofs.YtlmpcichjmidmaaDoor.Pure
end
section
/- The signs of bytes: what spec.RuneAt and impl.RuneAt, spec.CountRunes, TextOk of the program and of the reference come to, all in the words of the model's own decoder. No program in sight. -/
namespace Go.Proofs.YtlmpcichjmidmaaDoor.Pure
open Go.RowKit Go.Proofs.YtlmpcichjmidmaaDoor.X Go.Proofs.YtlmpcichjmidmaaDoor.P Go.Proofs.YtlmpcichjmidmaaDoorW.PrintWords Go.Proofs.YtlmpcichjmidmaaDoorW.PrintLast Go.Proofs.YtlmpcichjmidmaaDoor.K
set_option linter.unusedVariables false
set_option linter.unusedSimpArgs false
theorem bytesOf_bytes (s : ByteArray) : Bytes (bytesOf s) := by
  intro x hx
  unfold bytesOf at hx
  obtain ⟨b, _, rfl⟩ := List.mem_map.1 hx
  have := b.toNat_lt
  omega
theorem bytesOf_at (s : ByteArray) (j : Nat) : ((bytesOf s).getD j 0).toNat = (s.data.toList.getD j 0).toNat := by
  unfold bytesOf
  simp only [List.getD_eq_getElem?_getD, List.getElem?_map]
  cases s.data.toList[j]? <;> simp
theorem dec_bytesOf (s : ByteArray) (pos : Nat) : dec (bytesOf s) pos = Utf8.decode s pos := by
  rw [Lib.decode_N]
  unfold dec
  rw [bytesOf_at, bytesOf_at, bytesOf_at, bytesOf_at]
  have : (bytesOf s).length = s.data.toList.length := by unfold bytesOf; rw [List.length_map]
  rw [this]
/-- From pos on all is valid. -/
def validFrom (s : ByteArray) (pos : Nat) : Bool := Lib.validD (s.data.toList.drop pos)
theorem len_data (s : ByteArray) : s.data.toList.length = s.size := by rw [Array.length_toList]; rfl
theorem validFrom_end (s : ByteArray) (pos : Nat) (h : ¬ pos < s.size) : validFrom s pos = true := by
  unfold validFrom
  rw [List.drop_of_length_le (by rw [len_data]; omega)]
  rfl
theorem validFrom_step (s : ByteArray) (pos : Nat) (h : pos < s.size) : validFrom s pos = if (Utf8.decode s pos).1 = 65533 ∧ (Utf8.decode s pos).2 = 1 then false else validFrom s (pos + (Utf8.decode s pos).2) := by
  unfold validFrom
  have hne : s.data.toList.drop pos ≠ [] := by
    intro e
    have := congrArg List.length e
    rw [List.length_drop, len_data] at this
    simp at this
    omega
  rw [Lib.validD_step _ hne, Lib.decodeL_drop, List.drop_drop]
theorem count_l (s : ByteArray) (hs : s.size ≤ 1048576) : ∀ (b pos n : Nat), s.size ≤ pos + b → pos ≤ s.size + 4 → n ≤ pos →
    Ev (fun k => spec_CountRunes.l0 k (bytesOf s) (n : Int) (pos : Int)) (cond (noZero s b pos && validFrom s pos) ((n + Lib.runeCountFrom s b pos : Nat) : Int) (-1))
  | 0, pos, n, hb, hp, hn => by
    have hpos : ¬ pos < s.size := by omega
    rw [validFrom_end s pos hpos]
    refine ev_to (Ev.step (fun k => ?_) (Ev.now (n : Int))) (by simp [noZero, Lib.runeCountFrom])
    simp only [spec_CountRunes.l0]
    rw [bytesOf_length, if_neg (by omega)]
  | b + 1, pos, n, hb, hp, hn => by
    by_cases hpos : pos < s.size
    · have hl := bytesOf_length s
      have hr := specRuneAt_ev (bytesOf s) (pos : Int) (bytesOf_bytes s) (by omega)
      refine Ev.step (f := fun k => (spec_RuneAt.f k (bytesOf s) (pos : Int)).bind fun t => (if t.2.2 = true then (if t.1 = 0 then some (-1) else spec_CountRunes.l0 k (bytesOf s) (wrap64 ((n : Int) + 1)) t.2.1) else some (-1))) (fun k => ?_) (Ev.bind hr ?_)
      · simp only [spec_CountRunes.l0]
        rw [if_pos (by omega)]
      · unfold runeAtP
        rw [if_pos (by omega), Int.toNat_natCast, dec_bytesOf, validFrom_step s pos hpos]
        simp only [noZero, Lib.runeCountFrom]
        rw [if_pos hpos, if_pos hpos]
        have hw := dec_width (bytesOf s) pos (by omega)
        have hg := dec_ge1 (bytesOf s) pos
        rw [dec_bytesOf] at hw hg
        by_cases e : (Utf8.decode s pos).1 = 65533 ∧ (Utf8.decode s pos).2 = 1
        · rw [if_pos e, if_pos e]
          refine ev_neg (by simp) (ev_some ?_)
          simp
        · rw [if_neg e, if_neg e]
          refine ev_pos rfl ?_
          by_cases z : (Utf8.decode s pos).1 = 0
          · refine ev_pos (by simp only; omega) (ev_some ?_)
            rw [if_pos z]
            simp
          · refine ev_neg (by simp only; omega) ?_
            rw [if_neg z]
            have e1 : wrap64 ((n : Int) + 1) = ((n + 1 : Nat) : Int) := w64s (show n < n + 1 by omega) (by omega)
            have e2 : (pos : Int) + ((Utf8.decode s pos).2 : Int) = ((pos + (Utf8.decode s pos).2 : Nat) : Int) := by omega
            rw [e1, e2]
            refine ev_to (count_l s hs b (pos + (Utf8.decode s pos).2) (n + 1) (by omega) (by omega) (by omega)) ?_
            have e3 : n + 1 + Lib.runeCountFrom s b (pos + (Utf8.decode s pos).2) = n + (1 + Lib.runeCountFrom s b (pos + (Utf8.decode s pos).2)) := by omega
            rw [e3]
    · rw [validFrom_end s pos hpos]
      refine ev_to (Ev.step (fun k => ?_) (Ev.now (n : Int))) (by simp [noZero, Lib.runeCountFrom, hpos])
      simp only [spec_CountRunes.l0]
      rw [bytesOf_length, if_neg (by omega)]
/-- How many signs (-1: it is no text). -/
def countP (s : ByteArray) : Int := if textOkP s = true then (Lib.runeCount s : Int) else -1
theorem specCountRunes_ev (s : ByteArray) : Ev (fun k => spec_CountRunes.f k s) (countP s) := by
  unfold spec_CountRunes.f countP textOkP
  by_cases h : (s.size : Int) > 60
  · refine ev_pos h (ev_some ?_)
    rw [decide_eq_false (by omega)]
    simp
  · refine ev_neg h (ev_to (count_l s (by omega) s.size 0 0 (by omega) (by omega) (by omega)) ?_)
    rw [decide_eq_true (by omega)]
    unfold validFrom Lib.runeCount
    simp only [List.drop_zero, Bool.and_true, Nat.zero_add]
    cases (noZero s s.size 0 && Lib.validD s.data.toList) <;> rfl
theorem implTextOk_eq (s : ByteArray) (hs : s.size ≤ 140737488351232) : impl_TextOk.f s = some (textOkP s) := by
  unfold impl_TextOk.f
  rw [if_pos (by omega)]
theorem implCountRunes_eq (s : ByteArray) (hs : s.size ≤ 140737488351232) : impl_CountRunes.f s = some (countP s) := by
  unfold impl_CountRunes.f countP
  rw [implTextOk_eq s hs]
  simp only [Option.bind_some]
  by_cases h : textOkP s = true
  · rw [if_pos h, if_pos h]
    unfold utf8_RuneCountInString.f
    rw [if_pos (by omega)]
    rfl
  · rw [if_neg h, if_neg h]
theorem specTextOk_ev (s : ByteArray) : Ev (fun k => spec_TextOk.f k s) (textOkP s) := by
  unfold spec_TextOk.f
  refine Ev.bind (specCountRunes_ev s) (ev_some ?_)
  unfold countP
  by_cases h : textOkP s = true
  · rw [if_pos h, h]
    exact decide_eq_true (by omega)
  · rw [if_neg h]
    have h' : textOkP s = false := by simpa using h
    rw [h']
    rfl
theorem textOkP_size {s : ByteArray} (h : textOkP s = true) : s.size ≤ 60 := by
  unfold textOkP at h
  simp only [Bool.and_eq_true, decide_eq_true_eq] at h
  exact h.2.2
end Go.Proofs.YtlmpcichjmidmaaDoor.Pure
end
section
/- What is drawn of bytes: a place in them that never leaves them, numbers below a bound, bytes. No program in sight. -/
namespace Go.Proofs.YtlmpcichjmidmaaDoor.Pure
open Go.RowKit Go.Proofs.YtlmpcichjmidmaaDoor.P Go.Proofs.YtlmpcichjmidmaaDoorW.PrintWords Go.Proofs.YtlmpcichjmidmaaDoorW.PrintLast Go.Proofs.YtlmpcichjmidmaaDoorW.PrintMore Go.Proofs.YtlmpcichjmidmaaDoor.K
set_option linter.unusedVariables false
set_option linter.unusedSimpArgs false
theorem and255_any (x : Int) : 0 ≤ Go.bits .and .i64 x 255 ∧ Go.bits .and .i64 x 255 ≤ 255 := by
  have h : (BitVec.ofInt 64 x &&& BitVec.ofInt 64 255).toNat ≤ 255 := by
    rw [BitVec.toNat_and]
    exact Nat.le_trans Nat.and_le_right (by decide)
  show 0 ≤ IntKind.i64.wrap ((BitVec.ofInt 64 x &&& BitVec.ofInt 64 255).toNat : Int) ∧ IntKind.i64.wrap ((BitVec.ofInt 64 x &&& BitVec.ofInt 64 255).toNat : Int) ≤ 255
  rw [IntKind.wrap_i64]
  omega
/-- A place in the bytes. -/
def Pos (l : List Int) (a : Int) : Prop := 0 ≤ a ∧ a ≤ l.length ∧ l.length ≤ 1048576
theorem l1New_l (l : List Int) (hl : l.length ≤ 1048576) : ∀ (d i : Nat) (c : Int), i + d = l.length → ∃ z, Ev (fun k => spec_l1New.l0 k l c (i : Int)) (l, 0, z)
  | 0, i, c, hd => ⟨_, Ev.step (fun k => by rw [spec_l1New.l0]) (ev_neg (by omega) (Ev.now _))⟩
  | d + 1, i, c, hd => by
    by_cases h : (i : Int) < 4000
    · obtain ⟨z, hz⟩ := l1New_l l hl d (i + 1) (Go.bits .and .i64 (wrap64 ((wrap64 ((wrap64 (c * 137)) + (wrap64 (rd l (i : Int))))) + 11)) 1073741823) (by omega)
      refine ⟨z, Ev.step (fun k => by rw [spec_l1New.l0]) (ev_pos (by omega) (ev_pos h (ev_pos (by omega) ?_)))⟩
      rw [w64s (i := i) (n := l.length) (by omega) (by omega)]
      exact hz
    · exact ⟨_, Ev.step (fun k => by rw [spec_l1New.l0]) (ev_pos (by omega) (ev_neg h (Ev.now _)))⟩
theorem l1New_ev (l : List Int) (hl : l.length ≤ 1048576) : ∃ c, Ev (fun k => spec_l1New.f k l) (l, 0, c) := by
  unfold spec_l1New.f
  exact l1New_l l hl l.length 0 _ (by omega)
theorem l1Byte_eq (l : List Int) (a c : Int) (h : Pos l a) : ∃ v a' c', spec_l1Byte.f l a c = some (v, a', c') ∧ 0 ≤ v ∧ v ≤ 255 ∧ Pos l a' := by
  obtain ⟨h0, h1, h2⟩ := h
  unfold spec_l1Byte.f
  by_cases q : a < (l.length : Int)
  · rw [if_pos q, if_pos h0, w64 (x := a + 1) (by omega) (by omega)]
    exact ⟨_, _, _, rfl, (and255_any _).1, (and255_any _).2, by omega, by omega, h2⟩
  · rw [if_neg q]
    exact ⟨_, _, _, rfl, (and255_any _).1, (and255_any _).2, h0, h1, h2⟩
theorem l1Below_eq (l : List Int) (a c m : Int) (h : Pos l a) : ∃ v a' c', spec_l1Below.f l a c m = some (v, a', c') ∧ 0 ≤ v ∧ (0 < m → v < m) ∧ Pos l a' := by
  unfold spec_l1Below.f
  by_cases q : m ≤ 0
  · rw [if_pos q]
    exact ⟨_, _, _, rfl, by omega, by omega, h⟩
  rw [if_neg q]
  have hm : ∀ x : Int, 0 ≤ x → Int.tmod x m = x % m := fun x hx => Int.tmod_eq_emod_of_nonneg hx
  by_cases q2 : m ≤ 256
  · rw [if_pos q2]
    obtain ⟨v, a', c', e, h0, h1, hp⟩ := l1Byte_eq l a c h
    rw [e, Option.bind_some, if_neg (by omega), hm v h0]
    exact ⟨_, _, _, rfl, Int.emod_nonneg _ (by omega), fun _ => Int.emod_lt_of_pos _ (by omega), hp⟩
  · rw [if_neg q2]
    obtain ⟨v, a', c', e, h0, h1, hp⟩ := l1Byte_eq l a c h
    rw [e, Option.bind_some]
    obtain ⟨v2, a2, c2, e2, h02, h12, hp2⟩ := l1Byte_eq l a' c' hp
    rw [e2, Option.bind_some]
    obtain ⟨v3, a3, c3, e3, h03, h13, hp3⟩ := l1Byte_eq l a2 c2 hp2
    rw [e3, Option.bind_some, if_neg (by omega)]
    dsimp only
    rw [w64 (x := v * 65536) (by omega) (by omega), w64 (x := v2 * 256) (by omega) (by omega), w64 (x := v * 65536 + v2 * 256) (by omega) (by omega), w64 (by omega) (by omega), hm _ (by omega)]
    exact ⟨_, _, _, rfl, Int.emod_nonneg _ (by omega), fun _ => Int.emod_lt_of_pos _ (by omega), hp3⟩
theorem l1Once_eq (l : List Int) (a c m : Int) (h : Pos l a) : ∃ v a' c', spec_l1Once.f l a c m = some (v, a', c') ∧ Pos l a' := by
  unfold spec_l1Once.f
  obtain ⟨v, a', c', e, _, _, hp⟩ := l1Below_eq l a c m h
  rw [e, Option.bind_some]
  exact ⟨_, _, _, rfl, hp⟩
theorem l1Bytes_l (l : List Int) (n : Nat) (hn : n ≤ 1048576) : ∀ (d i : Nat) (acc : List Int) (a c : Int), i + d = n → Pos l a → acc.length = i → Bytes acc →
    ∃ r a' c', Ev (fun k => spec_l1Bytes.l0 k (n : Int) acc (i : Int) l a c) (r, a', c') ∧ r.length = n ∧ Bytes r ∧ Pos l a'
  | 0, i, acc, a, c, hd, hp, hl, hb => ⟨_, _, _, Ev.step (fun k => by rw [spec_l1Bytes.l0]) (ev_neg (by omega) (Ev.now _)), by omega, hb, hp⟩
  | d + 1, i, acc, a, c, hd, hp, hl, hb => by
    obtain ⟨v, a1, c1, e, h0, h1, hp1⟩ := l1Byte_eq l a c hp
    obtain ⟨r, a', c', hr, hrl, hrb, hp'⟩ := l1Bytes_l l n hn d (i + 1) (acc ++ [v % 256]) a1 c1 (by omega) hp1 (by simp [hl]) (by
      intro x hx
      rcases List.mem_append.1 hx with q | q
      · exact hb x q
      · obtain rfl := List.mem_singleton.1 q
        omega)
    refine ⟨r, a', c', ?_, hrl, hrb, hp'⟩
    refine Ev.step (fun k => by rw [spec_l1Bytes.l0]) ?_
    refine ev_pos (by omega) (ev_b e ?_)
    refine ev_pos (by omega) ?_
    rw [w64s (i := i) (n := n) (by omega) (by omega)]
    exact hr
theorem l1Bytes_ev (l : List Int) (a c n : Int) (h : Pos l a) (h0 : 0 ≤ n) (h1 : n ≤ 1048576) : ∃ r a' c', Ev (fun k => spec_l1Bytes.f k l a c n) (r, a', c') ∧ (r.length : Int) = n ∧ Bytes r ∧ Pos l a' := by
  obtain ⟨m, rfl⟩ := Int.eq_ofNat_of_zero_le h0
  unfold spec_l1Bytes.f
  obtain ⟨r, a', c', hr, hl, hb, hp⟩ := l1Bytes_l l m (by omega) m 0 [] a c (by omega) h rfl (fun x hx => by cases hx)
  exact ⟨r, a', c', hr, by omega, hb, hp⟩
theorem l1Int_eq (l : List Int) (a c : Int) (xs : List Int) (h : Pos l a) (hx : 0 < xs.length) : ∃ v a' c', spec_l1Int.f l a c xs = some (v, a', c') ∧ v ∈ xs ∧ Pos l a' := by
  unfold spec_l1Int.f
  obtain ⟨v, a', c', e, h0, h1, hp⟩ := l1Below_eq l a c (xs.length : Int) h
  have h2 := h1 (by omega)
  rw [e, Option.bind_some, if_pos h0, if_pos h2]
  refine ⟨_, _, _, rfl, ?_, hp⟩
  obtain ⟨m, rfl⟩ := Int.eq_ofNat_of_zero_le h0
  show rd xs (m : Int) ∈ xs
  rw [rd_get (by omega)]
  exact List.getElem_mem _
end Go.Proofs.YtlmpcichjmidmaaDoor.Pure
end
section
/- What is drawn of bytes: a place in them that never leaves them, numbers below a bound, bytes. No program in sight. -/
namespace Go.Proofs.YtlmpcichjmidmaaDoor.Pure
open Go.RowKit Go.Proofs.YtlmpcichjmidmaaDoor.P Go.Proofs.YtlmpcichjmidmaaDoorW.PrintWords Go.Proofs.YtlmpcichjmidmaaDoorW.PrintLast Go.Proofs.YtlmpcichjmidmaaDoorW.PrintMore Go.Proofs.YtlmpcichjmidmaaDoor.K
set_option linter.unusedVariables false
set_option linter.unusedSimpArgs false
theorem same_eq (a b : List Int) (h : a = b) : laws_same.f a b = some true := by
  subst h
  unfold laws_same.f
  rw [beq_self_eq_true]
theorem big_ev (l : List Int) (f : Nat → Bool → Option Bool) (hs : l.length ≤ 1048576 → Ev (fun k => f k false) true) (hb : Ev (fun k => f k true) true) : Ev (fun k => (laws_big.f l).bind (f k)) true := by
  unfold laws_big.f
  by_cases q : (l.length : Int) > 1048576
  · refine ev_b (a := true) (by rw [decide_eq_true q]) hb
  · refine ev_b (a := false) (by rw [decide_eq_false q]) (hs (by omega))
end Go.Proofs.YtlmpcichjmidmaaDoor.Pure
end
section
/- What is drawn of bytes: a place in them that never leaves them, numbers below a bound, bytes. No program in sight. -/
namespace Go.Proofs.YtlmpcichjmidmaaDoor.Pure
open Go.RowKit Go.Proofs.YtlmpcichjmidmaaDoor.P Go.Proofs.YtlmpcichjmidmaaDoorW.PrintWords Go.Proofs.YtlmpcichjmidmaaDoorW.PrintLast Go.Proofs.YtlmpcichjmidmaaDoorW.PrintMore Go.Proofs.YtlmpcichjmidmaaDoor.K
set_option linter.unusedVariables false
set_option linter.unusedSimpArgs false
theorem l1Bend_eq (l : List Int) (a c : Int) (xs : List Int) (h : Pos l a) (hb : Bytes xs) (hx : xs.length ≤ 1048576) : ∃ r a' c', spec_l1Bend.f l a c xs = some (r, a', c') ∧ Bytes r ∧ r.length ≤ xs.length + 1 ∧ Pos l a' := by
  unfold spec_l1Bend.f
  rw [Option.bind_some, if_pos (by simp only [List.length_nil]; omega), List.nil_append, Option.bind_some]
  obtain ⟨v, a1, c1, e, h0, h1, hp⟩ := l1Below_eq l a c 8 h
  rw [e, Option.bind_some]
  dsimp only
  by_cases q0 : v = 0
  · rw [if_pos q0]
    by_cases p : (xs.length : Int) > 0
    · rw [if_pos p]
      obtain ⟨i, a2, c2, e2, hi0, hi1, hp2⟩ := l1Below_eq l a1 c1 (xs.length : Int) hp
      rw [e2, Option.bind_some, if_pos hi0, if_pos (hi1 p)]
      obtain ⟨j, a3, c3, e3, hj0, hj1, hp3⟩ := l1Below_eq l a2 c2 255 hp2
      rw [e3, Option.bind_some]
      refine ⟨_, _, _, rfl, ?_, by rw [List.length_set]; omega, hp3⟩
      intro x hxm
      rcases List.mem_or_eq_of_mem_set hxm with q | q
      · exact hb x q
      · subst q
        have hk : (BitVec.ofInt 8 (rd xs i) ^^^ BitVec.ofInt 8 ((wrap64 (1 + j)) % 256)).toNat < 256 := BitVec.isLt _
        show 0 ≤ IntKind.u8.wrap ((BitVec.ofInt 8 (rd xs i) ^^^ BitVec.ofInt 8 ((wrap64 (1 + j)) % 256)).toNat : Int) ∧ IntKind.u8.wrap ((BitVec.ofInt 8 (rd xs i) ^^^ BitVec.ofInt 8 ((wrap64 (1 + j)) % 256)).toNat : Int) ≤ 255
        rw [IntKind.wrap_u8]
        omega
    · rw [if_neg p]
      exact ⟨_, _, _, rfl, hb, by omega, hp⟩
  rw [if_neg q0]
  by_cases q1 : v = 1
  · rw [if_pos q1]
    by_cases p : (xs.length : Int) > 0
    · rw [if_pos p]
      obtain ⟨i, a2, c2, e2, hi0, hi1, hp2⟩ := l1Below_eq l a1 c1 (xs.length : Int) hp
      have := hi1 p
      rw [e2, Option.bind_some, if_pos hi0, if_pos (by omega)]
      exact ⟨_, _, _, rfl, fun x hxm => hb x (List.mem_of_mem_take hxm), by rw [List.length_take]; omega, hp2⟩
    · rw [if_neg p]
      exact ⟨_, _, _, rfl, hb, by omega, hp⟩
  rw [if_neg q1]
  by_cases q2 : v = 2
  · rw [if_pos q2]
    obtain ⟨j, a3, c3, e3, hj0, hj1, hp3⟩ := l1Byte_eq l a1 c1 hp
    rw [e3, Option.bind_some, if_pos (by omega)]
    refine ⟨_, _, _, rfl, ?_, by simp, hp3⟩
    intro x hxm
    rcases List.mem_append.1 hxm with q | q
    · exact hb x q
    · obtain rfl := List.mem_singleton.1 q
      show 0 ≤ j % 256 ∧ j % 256 ≤ 255
      omega
  · rw [if_neg q2]
    exact ⟨_, _, _, rfl, hb, by omega, hp⟩
end Go.Proofs.YtlmpcichjmidmaaDoor.Pure
end
section
/- What the small functions of the laws and of the program come to: copies, comparisons, marks of bytes and numbers; joined; PutWord, GetWord, PutBytes, GetBytes, PutLen. No program in sight. -/
namespace Go.Proofs.YtlmpcichjmidmaaDoor.Pure
open Go.RowKit Go.Proofs.YtlmpcichjmidmaaDoor.P Go.Proofs.YtlmpcichjmidmaaDoorW.PrintWords Go.Proofs.YtlmpcichjmidmaaDoorW.PrintLast Go.Proofs.YtlmpcichjmidmaaDoor.K
set_option linter.unusedVariables false
set_option linter.unusedSimpArgs false

theorem joined_l (xs : List (List Int)) (hn : xs.length ≤ 4611686018427387904) : ∀ (d i : Nat) (acc : List Int), i + d = xs.length → acc.length + (xs.drop i).flatten.length < 140737488355328 → Ev (fun k => impl_joined.l0 k acc xs (xs.length : Int) (i : Int)) (acc ++ (xs.drop i).flatten)
  | 0, i, acc, hd, hl => by
    have hi : i = xs.length := by omega
    subst hi
    refine ev_to (Ev.step (fun k => ?_) (Ev.now acc)) (by simp)
    simp only [impl_joined.l0]
    rw [if_neg (by omega)]
  | d + 1, i, acc, hd, hl => by
    have hi : i < xs.length := by omega
    rw [List.drop_eq_getElem_cons hi, List.flatten_cons] at hl ⊢
    simp only [List.length_append] at hl
    have hr : rd_L1 xs (i : Int) = xs[i] := by unfold rd_L1; exact getD_get hi
    refine ev_to (Ev.step (fun k => ?_) (joined_l xs hn d (i + 1) (acc ++ xs[i]) (by omega) (by simp only [List.length_append]; omega))) (by simp)
    simp only [impl_joined.l0]
    rw [if_pos (by omega), if_pos (by omega), if_pos (by omega), hr, if_pos (by omega), w64s hi (by omega)]
theorem joined_ev (xs : List (List Int)) (hn : xs.length ≤ 4611686018427387904) (hl : xs.flatten.length < 140737488355328) : Ev (fun k => impl_joined.f k xs) xs.flatten := by
  unfold impl_joined.f
  have h := joined_l xs hn xs.length 0 [] (by omega) (by simpa using hl)
  simpa using h
theorem joined1_ev (a : List Int) (hl : a.length < 140737488355328) : Ev (fun k => impl_joined.f k [a]) a :=
  ev_to (joined_ev [a] (by simp) (by simpa using hl)) (by simp)
theorem joined2_ev (a b : List Int) (hl : a.length + b.length < 140737488355328) : Ev (fun k => impl_joined.f k [a, b]) (a ++ b) :=
  ev_to (joined_ev [a, b] (by simp) (by simpa using hl)) (by simp)
end Go.Proofs.YtlmpcichjmidmaaDoor.Pure
end
section
/- What the small functions of the laws and of the program come to: copies, comparisons, marks of bytes and numbers; joined; PutWord, GetWord, PutBytes, GetBytes, PutLen. No program in sight. -/
namespace Go.Proofs.YtlmpcichjmidmaaDoor.Pure
open Go.RowKit Go.Proofs.YtlmpcichjmidmaaDoor.P Go.Proofs.YtlmpcichjmidmaaDoorW.PrintWords Go.Proofs.YtlmpcichjmidmaaDoorW.PrintLast Go.Proofs.YtlmpcichjmidmaaDoor.K
set_option linter.unusedVariables false
set_option linter.unusedSimpArgs false

/-- A word's two bytes. -/
def word2 (n : Int) : List Int := [(Go.bits .and .i64 (n / 256) 255) % 256, (Go.bits .and .i64 n 255) % 256]
theorem word2_length (n : Int) : (word2 n).length = 2 := rfl
theorem specPutWord_eq (b : List Int) (n : Int) (hb : b.length ≤ 1073741824) : spec_PutWord.f b n = some (b ++ word2 n) := by
  unfold spec_PutWord.f
  simp only [Option.bind_some, List.nil_append, List.length_nil]
  rw [if_pos (by omega), if_pos (by simp; omega)]
  rfl
theorem putWord_ev (b : List Int) (n : Int) (hb : b.length ≤ 1073741824) : Ev (fun k => impl_PutWord.f k b n) (b ++ word2 n) := by
  unfold impl_PutWord.f
  exact Ev.bind (joined2_ev b (word2 n) (by rw [word2_length]; omega)) (Ev.now _)
end Go.Proofs.YtlmpcichjmidmaaDoor.Pure
end
section
/- What the small functions of the laws and of the program come to: copies, comparisons, marks of bytes and numbers; joined; PutWord, GetWord, PutBytes, GetBytes, PutLen. No program in sight. -/
namespace Go.Proofs.YtlmpcichjmidmaaDoor.Pure
open Go.RowKit Go.Proofs.YtlmpcichjmidmaaDoor.P Go.Proofs.YtlmpcichjmidmaaDoorW.PrintWords Go.Proofs.YtlmpcichjmidmaaDoorW.PrintLast Go.Proofs.YtlmpcichjmidmaaDoor.K
set_option linter.unusedVariables false
set_option linter.unusedSimpArgs false

/-- What GetWord comes to. -/
def getWordP (l : List Int) (a : Int) : Int × Int × Bool := if 0 ≤ a ∧ a ≤ (l.length : Int) - 2 then (rd l a * 256 + rd l (a + 1), a + 2, true) else (0, 0, false)
theorem specGetWord_eq (l : List Int) (a : Int) (hb : Bytes l) (hl : l.length ≤ 35184372088832) : spec_GetWord.f l a = some (getWordP l a) := by
  unfold spec_GetWord.f getWordP
  by_cases h0 : a < 0
  · rw [if_pos h0, if_neg (by omega)]
  rw [if_neg h0, w64 (x := (l.length : Int) - 2) (by omega) (by omega)]
  by_cases h1 : a > (l.length : Int) - 2
  · rw [if_pos h1, if_neg (by omega)]
  have b1 := bytes_rd hb a
  have b2 := bytes_rd hb (a + 1)
  rw [if_neg h1, w64 (x := a + 1) (by omega) (by omega), if_pos (by omega), if_pos (by omega), if_pos (by omega), if_pos (by omega), if_pos (by omega)]
  rw [w64 (x := a + 2) (by omega) (by omega), w64 (x := rd l a) (by omega) (by omega), w64 (x := rd l (a + 1)) (by omega) (by omega), w64 (x := rd l a * 256) (by omega) (by omega), w64 (by omega) (by omega)]
theorem implGetWord_eq (l : List Int) (a : Int) (hb : Bytes l) (hl : l.length ≤ 35184372088832) : impl_GetWord.f l a = some (getWordP l a) := by
  unfold impl_GetWord.f getWordP
  by_cases h0 : a < 0
  · rw [if_pos h0, if_neg (by omega)]
  rw [if_neg h0, w64 (x := (l.length : Int) - 2) (by omega) (by omega)]
  by_cases h1 : a > (l.length : Int) - 2
  · rw [if_pos h1, if_neg (by omega)]
  have b1 := bytes_rd hb a
  have b2 := bytes_rd hb (a + 1)
  rw [if_neg h1, w64 (x := a + 1) (by omega) (by omega), if_pos (by omega), if_pos (by omega), if_pos (by omega), if_pos (by omega), if_pos (by omega)]
  rw [w64 (x := a + 2) (by omega) (by omega), w64 (x := rd l a) (by omega) (by omega), w64 (x := rd l (a + 1)) (by omega) (by omega), w64 (x := rd l a * 256) (by omega) (by omega)]
  rw [bits_join .i64 63 (by decide) wraps_i64 8 (rd l a * 256) (rd l (a + 1)) (by omega) (by omega) (by omega) (by omega) (by omega) (by omega)]
end Go.Proofs.YtlmpcichjmidmaaDoor.Pure
end
section
/- What the small functions of the laws and of the program come to: copies, comparisons, marks of bytes and numbers; joined; PutWord, GetWord, PutBytes, GetBytes, PutLen. No program in sight. -/
namespace Go.Proofs.YtlmpcichjmidmaaDoor.Pure
open Go.RowKit Go.Proofs.YtlmpcichjmidmaaDoor.P Go.Proofs.YtlmpcichjmidmaaDoorW.PrintWords Go.Proofs.YtlmpcichjmidmaaDoorW.PrintLast Go.Proofs.YtlmpcichjmidmaaDoor.K
set_option linter.unusedVariables false
set_option linter.unusedSimpArgs false

open Go.Proofs.YtlmpcichjmidmaaDoor.X
def getBytesP (l : List Int) (a : Int) : List Int × Int × Bool :=
  if (getWordP l a).2.2 = true ∧ (getWordP l a).1 ≤ 60 ∧ (getWordP l a).1 ≤ (l.length : Int) - (getWordP l a).2.1 then
    ((l.take ((getWordP l a).2.1 + (getWordP l a).1).toNat).drop ((getWordP l a).2.1).toNat, (getWordP l a).2.1 + (getWordP l a).1, true) else ([], 0, false)
theorem getWordP_bd (l : List Int) (a : Int) (hb : Bytes l) : 0 ≤ (getWordP l a).1 ∧ (getWordP l a).1 ≤ 65535 ∧ 0 ≤ (getWordP l a).2.1 ∧ ((getWordP l a).2.2 = true → (getWordP l a).2.1 ≤ l.length) := by
  unfold getWordP
  have b1 := bytes_rd hb a
  have b2 := bytes_rd hb (a + 1)
  split
  · refine ⟨?_, ?_, ?_, fun _ => ?_⟩ <;> simp only <;> omega
  · simp
theorem specGetBytes_eq (l : List Int) (a : Int) (hb : Bytes l) (hl : l.length ≤ 35184372088832) : spec_GetBytes.f l a = some (getBytesP l a) := by
  unfold spec_GetBytes.f getBytesP
  rw [specGetWord_eq l a hb hl]
  have hbd := getWordP_bd l a hb
  generalize getWordP l a = g at hbd ⊢
  obtain ⟨g1, g2, g3⟩ := g
  simp only at hbd ⊢
  simp only [Option.bind_some]
  cases g3 with
  | false => simp
  | true =>
    have h3 := hbd.2.2.2 rfl
    simp only [if_true, true_and]
    by_cases h1 : g1 > 60
    · rw [if_pos h1, if_neg (by omega)]
    rw [if_neg h1, w64 (x := (l.length : Int) - g2) (by omega) (by omega)]
    by_cases h2 : g1 > (l.length : Int) - g2
    · rw [if_pos h2, if_neg (by omega)]
    rw [if_neg h2, w64 (x := g2 + g1) (by omega) (by omega), if_pos (by omega), if_pos (by omega), if_pos (by omega), if_pos (by simp; omega), if_pos (by omega)]
    simp
theorem getBytes_ev (l : List Int) (a : Int) (hb : Bytes l) (hl : l.length ≤ 35184372088832) : Ev (fun k => impl_GetBytes.f k l a) (getBytesP l a) := by
  unfold impl_GetBytes.f getBytesP
  have hbd := getWordP_bd l a hb
  refine ev_b (implGetWord_eq l a hb hl) ?_
  generalize getWordP l a = g at hbd ⊢
  obtain ⟨g1, g2, g3⟩ := g
  simp only at hbd ⊢
  cases g3 with
  | false => exact Ev.now _
  | true =>
    have h3 := hbd.2.2.2 rfl
    simp only [if_true, true_and]
    by_cases h1 : g1 > 60
    · rw [if_neg (by omega)]
      exact ev_pos h1 (Ev.now _)
    refine ev_neg h1 ?_
    rw [w64 (x := (l.length : Int) - g2) (by omega) (by omega)]
    by_cases h2 : g1 > (l.length : Int) - g2
    · rw [if_neg (by omega)]
      exact ev_pos h2 (Ev.now _)
    rw [if_pos (by omega), w64 (x := g2 + g1) (by omega) (by omega)]
    refine ev_neg h2 (ev_pos (by omega) (ev_pos (by omega) (ev_pos (by omega) (Ev.bind (joined1_ev _ ?_) (Ev.now _)))))
    simp
    omega
end Go.Proofs.YtlmpcichjmidmaaDoor.Pure
end
section
/- What is read of bytes has these bytes; what is drawn of bytes and texts. No program in sight. -/
namespace Go.Proofs.YtlmpcichjmidmaaDoor.Pure
open Go.RowKit Go.Proofs.YtlmpcichjmidmaaDoor.X Go.Proofs.YtlmpcichjmidmaaDoor.P Go.Proofs.YtlmpcichjmidmaaDoorW.PrintWords Go.Proofs.YtlmpcichjmidmaaDoorW.PrintLast Go.Proofs.YtlmpcichjmidmaaDoorW.PrintMore Go.Proofs.YtlmpcichjmidmaaDoor.K
set_option linter.unusedVariables false
set_option linter.unusedSimpArgs false
theorem bytesOf_strOfNums {l : List Int} (hb : Bytes l) : bytesOf (strOfNums l) = l := by
  unfold bytesOf strOfNums
  simp only [List.map_map]
  refine (List.map_congr_left fun x hx => ?_).trans (List.map_id l)
  have := hb x hx
  simp only [Function.comp, id]
  rw [UInt8.toNat_ofNat']
  omega
theorem word2_bytes (n : Int) : Bytes (word2 n) := by
  intro x hx
  unfold word2 at hx
  simp only [List.mem_cons, List.not_mem_nil, or_false] at hx
  rcases hx with rfl | rfl <;> omega
theorem getBytesP_bytes (x : List Int) (p : Int) (hb : Bytes x) : Bytes (getBytesP x p).1 := by
  unfold getBytesP
  split
  · intro y hy
    exact hb y (List.mem_of_mem_take (List.mem_of_mem_drop hy))
  · intro y hy
    cases hy
theorem getBytesP_back (x : List Int) (p : Int) (hb : Bytes x) (h : (getBytesP x p).2.2 = true) :
    0 ≤ p ∧ p ≤ (getBytesP x p).2.1 ∧ (getBytesP x p).2.1 ≤ x.length ∧ (getBytesP x p).1.length ≤ 60 ∧
    word2 ((getBytesP x p).1.length : Int) ++ (getBytesP x p).1 = (x.take ((getBytesP x p).2.1).toNat).drop p.toNat := by
  unfold getBytesP at h ⊢
  by_cases c : (getWordP x p).2.2 = true ∧ (getWordP x p).1 ≤ 60 ∧ (getWordP x p).1 ≤ (x.length : Int) - (getWordP x p).2.1
  · rw [if_pos c] at h ⊢
    clear h
    obtain ⟨c1, c2, c3⟩ := c
    unfold getWordP at c1 c2 c3 ⊢
    by_cases d : 0 ≤ p ∧ p ≤ (x.length : Int) - 2
    · rw [if_pos d] at c1 c2 c3 ⊢
      dsimp only at c1 c2 c3 ⊢
      obtain ⟨n, rfl⟩ := Int.eq_ofNat_of_zero_le d.1
      have hn : n + 2 ≤ x.length := by omega
      have r0 : rd x ((n : Nat) : Int) = x[n] := rd_get (by omega)
      have r1 : rd x (((n : Nat) : Int) + 1) = x[n + 1] := by
        rw [show ((n : Nat) : Int) + 1 = ((n + 1 : Nat) : Int) by omega]
        exact rd_get (by omega)
      have b0 := hb x[n] (List.getElem_mem _)
      have b1 := hb x[n + 1] (List.getElem_mem _)
      rw [r0, r1] at c2 c3 ⊢
      revert c2 c3
      obtain ⟨T, hT⟩ : ∃ T : Nat, ((n : Int) + 2 + (x[n] * 256 + x[n + 1])).toNat = T := ⟨_, rfl⟩
      rw [hT]
      intro c2 c3
      have ht : (x.take T).length = T := by rw [List.length_take]; omega
      have e2 : ((n : Int) + 2).toNat = n + 2 := by omega
      have e3 : ((n : Nat) : Int).toNat = n := by omega
      have hd : (x.take T).drop n = x[n] :: x[n + 1] :: (x.take T).drop (n + 2) := by
        rw [List.drop_eq_getElem_cons (by omega : n < (x.take T).length), List.drop_eq_getElem_cons (by omega : n + 1 < (x.take T).length), List.getElem_take, List.getElem_take]
      rw [e2, e3, hd, List.length_drop, ht]
      refine ⟨by omega, by omega, by omega, by omega, ?_⟩
      have e4 : ((T - (n + 2) : Nat) : Int) = x[n] * 256 + x[n + 1] := by omega
      unfold word2
      rw [e4, Go.Proofs.YtlmpcichjmidmaaDoor.K.i64_and255 (by omega) (by omega), Go.Proofs.YtlmpcichjmidmaaDoor.K.i64_and255 (by omega) (by omega)]
      simp only [List.cons_append, List.nil_append, List.cons.injEq, and_true]
      omega
    · rw [if_neg d] at c1
      cases c1
  · rw [if_neg c] at h
    cases h
theorem l1Str_eq (l : List Int) (a c : Int) (xs : List ByteArray) (h : Pos l a) (hx : 0 < xs.length) : ∃ v a' c', spec_l1Str.f l a c xs = some (v, a', c') ∧ v ∈ xs ∧ Pos l a' := by
  unfold spec_l1Str.f
  obtain ⟨v, a', c', e, h0, h1, hp⟩ := l1Below_eq l a c (xs.length : Int) h
  have h2 := h1 (by omega)
  rw [e, Option.bind_some, if_pos h0, if_pos h2]
  refine ⟨_, _, _, rfl, ?_, hp⟩
  obtain ⟨m, rfl⟩ := Int.eq_ofNat_of_zero_le h0
  show rdOf ByteArray.empty xs (m : Int) ∈ xs
  unfold rdOf
  rw [getD_get (by omega)]
  exact List.getElem_mem _
theorem l1Text_eq (l : List Int) (a c : Int) (h : Pos l a) : ∃ s a' c', spec_l1Text.f l a c = some (s, a', c') ∧ s.size ≤ 61 ∧ Pos l a' := by
  unfold spec_l1Text.f
  generalize hxs : ([(⟨#[]⟩ : ByteArray), _, _, _, _, _, _, _, _, _, _, _, _, _, _, _] : List ByteArray) = xs
  have hs : ∀ s ∈ xs, s.size ≤ 61 := by subst hxs; decide
  have hl : 0 < xs.length := by subst hxs; decide
  obtain ⟨s, a', c', e, hm, hp⟩ := l1Str_eq l a c xs h hl
  rw [e, Option.bind_some]
  exact ⟨s, a', c', rfl, hs s hm, hp⟩
end Go.Proofs.YtlmpcichjmidmaaDoor.Pure
end
section
/- The law FnRunes answers true of all bytes. -/
namespace Go.Proofs.YtlmpcichjmidmaaDoor.Pure
open Go.RowKit Go.Proofs.YtlmpcichjmidmaaDoor.X Go.Proofs.YtlmpcichjmidmaaDoor.P Go.Proofs.YtlmpcichjmidmaaDoorW.PrintWords Go.Proofs.YtlmpcichjmidmaaDoorW.PrintLast Go.Proofs.YtlmpcichjmidmaaDoor.K
set_option linter.unusedVariables false
theorem decodeN_take (n b0 b1 b2 b3 c1 c2 c3 r w : Nat) (h : Lib.decodeN n b0 b1 b2 b3 = (r, w)) (hne : ¬ (r = 65533 ∧ w = 1)) (h1 : 2 ≤ w → c1 = b1) (h2 : 3 ≤ w → c2 = b2) (h3 : 4 ≤ w → c3 = b3) : Lib.decodeN w b0 c1 c2 c3 = (r, w) := by
  have bad : ((65533 : Nat), (1 : Nat)) = (r, w) → False := fun e => by
    simp only [Prod.mk.injEq] at e
    exact hne ⟨e.1.symm, e.2.symm⟩
  unfold Lib.decodeN at h
  split at h
  · rename_i q
    simp only [Prod.mk.injEq] at h
    obtain ⟨rfl, rfl⟩ := h
    unfold Lib.decodeN
    rw [if_pos q]
  rename_i q0
  split at h
  · rename_i q1
    split at h
    · rename_i q2
      simp only [Prod.mk.injEq] at h
      obtain ⟨rfl, rfl⟩ := h
      obtain rfl := h1 (by omega)
      unfold Lib.decodeN
      rw [if_neg q0, if_pos ⟨q1.1, by omega, q1.2.2⟩, if_pos q2]
    · exact (bad h).elim
  rename_i q1
  split at h
  · rename_i q2
    split at h
    · rename_i q3
      simp only [Prod.mk.injEq] at h
      obtain ⟨rfl, rfl⟩ := h
      obtain rfl := h1 (by omega)
      obtain rfl := h2 (by omega)
      unfold Lib.decodeN
      rw [if_neg q0, if_neg (fun e => by omega), if_pos ⟨q2.1, ⟨by omega, q2.2.1.2⟩, by omega, q2.2.2.2⟩, if_pos q3]
    · exact (bad h).elim
  rename_i q2
  split at h
  · rename_i q3
    split at h
    · rename_i q4
      simp only [Prod.mk.injEq] at h
      obtain ⟨rfl, rfl⟩ := h
      obtain rfl := h1 (by omega)
      obtain rfl := h2 (by omega)
      obtain rfl := h3 (by omega)
      unfold Lib.decodeN
      rw [if_neg q0, if_neg (fun e => by omega), if_neg (fun e => by omega), if_pos ⟨q3.1, ⟨by omega, q3.2.1.2⟩, ⟨by omega, q3.2.2.1.2⟩, by omega, q3.2.2.2.2⟩, if_pos q4]
    · exact (bad h).elim
  · exact (bad h).elim
theorem dec_le4 (l : List Int) (a : Nat) : (dec l a).2 ≤ 4 := by
  unfold dec Lib.decodeN
  repeat' split
  all_goals simp
theorem textOk_sign (x : List Int) (hb : Bytes x) (n : Nat) (hn : n < x.length) (hg : ¬ ((dec x n).1 = 65533 ∧ (dec x n).2 = 1)) :
    textOkP (strOfNums ((x.take (n + (dec x n).2)).drop n)) = (((dec x n).1 : Int) != 0) := by
  have h4 := dec_le4 x n
  have h1 := dec_ge1 x n
  have hw := dec_width x n hn
  obtain ⟨r, w, e⟩ : ∃ r w, dec x n = (r, w) := ⟨_, _, rfl⟩
  rw [e] at hg h4 h1 hw ⊢
  dsimp only at hg h4 h1 hw ⊢
  have hl : ((x.take (n + w)).drop n).length = w := by
    rw [List.length_drop, List.length_take]
    omega
  have hbl : Bytes ((x.take (n + w)).drop n) := fun y hy => hb y (List.mem_of_mem_take (List.mem_of_mem_drop hy))
  have hat : ∀ j, j < w → ((x.take (n + w)).drop n).getD j 0 = x.getD (n + j) 0 := by
    intro j hj
    simp only [List.getD_eq_getElem?_getD, List.getElem?_drop, List.getElem?_take]
    rw [if_pos (by omega)]
  have hd : dec ((x.take (n + w)).drop n) 0 = (r, w) := by
    unfold dec at e ⊢
    rw [hl, Nat.sub_zero, Nat.zero_add, Nat.zero_add, Nat.zero_add, hat 0 (by omega), Nat.add_zero]
    exact decodeN_take _ _ _ _ _ _ _ _ r w e hg (fun q => by rw [hat 1 (by omega)]) (fun q => by rw [hat 2 (by omega)]) (fun q => by rw [hat 3 (by omega)])
  have hs : (strOfNums ((x.take (n + w)).drop n)).size = w := by rw [strOfNums_size, hl]
  have hu : Utf8.decode (strOfNums ((x.take (n + w)).drop n)) 0 = (r, w) := by
    rw [← dec_bytesOf, bytesOf_strOfNums hbl, hd]
  revert hs hu
  generalize strOfNums ((x.take (n + w)).drop n) = t
  intro hs hu
  have hv : Lib.validD t.data.toList = true := by
    have q := validFrom_step t 0 (by omega)
    rw [hu] at q
    dsimp only at q
    rw [if_neg hg, validFrom_end t (0 + w) (by omega)] at q
    unfold validFrom at q
    rwa [List.drop_zero] at q
  have hz : noZero t t.size 0 = decide (r ≠ 0) := by
    rw [hs]
    obtain ⟨m, rfl⟩ : ∃ m, w = m + 1 := ⟨w - 1, by omega⟩
    rw [noZero, if_pos (by omega), hu]
    dsimp only
    by_cases z : r = 0
    · rw [if_pos z, decide_eq_false (fun k => k z)]
    · rw [if_neg z, decide_eq_true z]
      cases m with
      | zero => rfl
      | succ m => rw [noZero, if_neg (by omega)]
  unfold textOkP
  rw [hz, hv, hs, decide_eq_true (show w ≤ 60 by omega)]
  by_cases z : r = 0
  · subst z
    rfl
  · rw [decide_eq_true z]
    have : ((r : Int) != 0) = true := by
      rw [bne_iff_ne]
      omega
    rw [this]
    rfl
theorem drawRuneAt_ev (l : List Int) (hl : l.length ≤ 1048576) : ∃ x p, Ev (fun k => spec_DrawRuneAt.f k l) (x, p) ∧ Bytes x ∧ x.length ≤ 200 ∧ -1 ≤ p ∧ p ≤ 6 := by
  unfold spec_DrawRuneAt.f
  obtain ⟨c0, h0⟩ := l1New_ev l hl
  obtain ⟨s1, a1, c1, h1, hs1, hp1⟩ := l1Text_eq l 0 c0 ⟨by omega, by omega, hl⟩
  obtain ⟨s2, a2, c2, h2, hs2, hp2⟩ := l1Text_eq l a1 c1 hp1
  obtain ⟨o, a3, c3, h3, hp3⟩ := l1Once_eq l a2 c2 3 hp2
  cases o with
  | true =>
    obtain ⟨n, a4, c4, h4, hn0, hn1, hp4⟩ := l1Below_eq l a3 c3 6 hp3
    have hn2 := hn1 (by omega)
    obtain ⟨b, a5, c5, h5, hbl, hbb, hp5⟩ := l1Bytes_ev l a4 c4 n hp4 hn0 (by omega)
    obtain ⟨y, a6, c6, h6, hyb, hyl, hp6⟩ := l1Bend_eq l a5 c5 b hp5 hbb (by omega)
    obtain ⟨v, a7, c7, h7, hv0, hv1, hp7⟩ := l1Below_eq l a6 c6 7 hp6
    have hv2 := hv1 (by omega)
    refine ⟨y, wrap64 (v - 1), Ev.bind h0 (ev_b h1 (ev_b h2 (ev_pos (by show s1.size + s2.size ≤ _; omega) (ev_b h3 ?_)))), hyb, by omega, by rw [w64 (by omega) (by omega)]; omega, by rw [w64 (by omega) (by omega)]; omega⟩
    exact ev_pos rfl (ev_b h4 (Ev.bind h5 (ev_b h6 (ev_b h7 (Ev.now _)))))
  | false =>
    have hbl : (bytesOf (s1 ++ s2)).length ≤ 122 := by rw [bytesOf_length, ByteArray.size_append]; omega
    obtain ⟨y, a6, c6, h6, hyb, hyl, hp6⟩ := l1Bend_eq l a3 c3 (bytesOf (s1 ++ s2)) hp3 (bytesOf_bytes _) (by omega)
    obtain ⟨v, a7, c7, h7, hv0, hv1, hp7⟩ := l1Below_eq l a6 c6 7 hp6
    have hv2 := hv1 (by omega)
    refine ⟨y, wrap64 (v - 1), Ev.bind h0 (ev_b h1 (ev_b h2 (ev_pos (by show s1.size + s2.size ≤ _; omega) (ev_b h3 ?_)))), hyb, by omega, by rw [w64 (by omega) (by omega)]; omega, by rw [w64 (by omega) (by omega)]; omega⟩
    exact ev_neg (by simp) (ev_b h6 (ev_b h7 (Ev.now _)))
theorem drawCountRunes_ev (l : List Int) (hl : l.length ≤ 1048576) : ∃ s, Ev (fun k => spec_DrawCountRunes.f k l) s ∧ s.size ≤ 200 := by
  unfold spec_DrawCountRunes.f
  obtain ⟨c0, h0⟩ := l1New_ev l hl
  obtain ⟨s1, a1, c1, h1, hs1, hp1⟩ := l1Text_eq l 0 c0 ⟨by omega, by omega, hl⟩
  obtain ⟨s2, a2, c2, h2, hm, hp2⟩ := l1Str_eq l a1 c1 [(⟨#[]⟩ : ByteArray), (⟨#[122]⟩ : ByteArray), (⟨#[195, 169]⟩ : ByteArray)] hp1 (by decide)
  have hs2 : s2.size ≤ 2 := by
    simp only [List.mem_cons, List.not_mem_nil, or_false] at hm
    rcases hm with rfl | rfl | rfl <;> decide
  have hbl : (bytesOf (s1 ++ s2)).length ≤ 63 := by rw [bytesOf_length, ByteArray.size_append]; omega
  obtain ⟨y, a6, c6, h6, hyb, hyl, hp6⟩ := l1Bend_eq l a2 c2 (bytesOf (s1 ++ s2)) hp2 (bytesOf_bytes _) (by omega)
  exact ⟨strOfNums y, Ev.bind h0 (ev_b h1 (ev_b h2 (ev_pos (by show s1.size + s2.size ≤ _; omega) (ev_b h6 (Ev.now _))))), by rw [strOfNums_size]; omega⟩
theorem FnRunes : laws_FnRunes.Pure := by
  intro l _ _ hb
  refine Ev.rounds ?_
  unfold laws_FnRunes.f
  refine big_ev l _ (fun hl => ?_) (ev_pos rfl (Ev.now _))
  refine ev_neg (by simp) ?_
  obtain ⟨x, p, hx, hxb, hxl, hp0, hp1⟩ := drawRuneAt_ev l hl
  obtain ⟨s, hs, hsz⟩ := drawCountRunes_ev l hl
  refine Ev.bind hx (Ev.bind (implRuneAt_ev x p hxb (by omega)) (Ev.bind (specRuneAt_ev x p hxb (by omega)) (Ev.bind hs (ev_b (implCountRunes_eq s (by omega)) ?_))))
  refine ev_pos rfl (ev_pos rfl (ev_neg (by simp) (Ev.bind (specCountRunes_ev s) (ev_pos rfl (ev_b (implTextOk_eq s (by omega)) ?_)))))
  have hrc := Lib.runeCount_le s
  have hc : textOkP s = decide (countP s ≥ 0) ∧ ¬ countP s > (s.size : Int) := by
    unfold countP
    by_cases q : textOkP s = true
    · rw [if_pos q, q]
      exact ⟨(decide_eq_true (by omega)).symm, by omega⟩
    · rw [if_neg q]
      refine ⟨?_, by omega⟩
      rw [Bool.not_eq_true] at q
      rw [q]
      rfl
  refine ev_neg (by rw [← hc.1]; simp) (ev_neg hc.2 ?_)
  by_cases hr : (runeAtP x p).2.2 = true
  · refine ev_pos hr ?_
    unfold runeAtP at hr ⊢
    by_cases q : 0 ≤ p ∧ p < (x.length : Int)
    · rw [if_pos q] at hr ⊢
      obtain ⟨n, rfl⟩ := Int.eq_ofNat_of_zero_le q.1
      rw [Int.toNat_natCast] at hr ⊢
      have hn : n < x.length := by omega
      by_cases g : (dec x n).1 = 65533 ∧ (dec x n).2 = 1
      · rw [if_pos g] at hr
        cases hr
      · rw [if_neg g]
        dsimp only
        have h4 := dec_le4 x n
        have h1 := dec_ge1 x n
        have hw := dec_width x n hn
        have e1 : ((n : Int) + ((dec x n).2 : Int)).toNat = n + (dec x n).2 := by omega
        rw [w64 (x := (n : Int) + 4) (by omega) (by omega), e1]
        refine ev_pos (by omega) (ev_pos (by omega) (ev_pos (by omega) (ev_pos (by omega) (ev_pos (by omega) ?_))))
        refine ev_b (implTextOk_eq _ (by rw [strOfNums_size, List.length_drop, List.length_take]; omega)) (ev_some ?_)
        rw [textOk_sign x hxb n hn g]
        simp
    · rw [if_neg q] at hr
      cases hr
  · exact ev_neg hr (Ev.now _)
end Go.Proofs.YtlmpcichjmidmaaDoor.Pure
end
