/- Contracts of the drawing functions that turn a text into bytes (a frozen row, which no word on own rows takes): spec.DrawCountRunes, spec.DrawRuneAt. -/
import Derived.Test.YtlmpcichjmidmaaDoorWMore
import Derived.Test.YtlmpcichjmidmaaDoorPx0
import Derived.Test.YtlmpcichjmidmaaDoorPx12
import Derived.Test.YtlmpcichjmidmaaDoorPx13
import Derived.Test.YtlmpcichjmidmaaDoorPx16
import Derived.Test.YtlmpcichjmidmaaDoorX70
import Derived.Lib.ConvBytes
namespace Go.Proofs.YtlmpcichjmidmaaDoor.X
open Go.RowKit Go.Proofs.YtlmpcichjmidmaaDoor.P Go.Proofs.YtlmpcichjmidmaaDoorW.PrintWords Go.Proofs.YtlmpcichjmidmaaDoorW.PrintLast Go.Proofs.YtlmpcichjmidmaaDoorW.PrintMore
attribute [local go_sem] max2_int min2_int max_two min_two max_three min_three max_four min_four   -- for this text's walks alone
set_option linter.unusedVariables false
set_option linter.unusedSimpArgs false
/-- The row of a text's bytes is none of a state's own block. -/
theorem far_new (w : World) (g n : Nat) (h : g < w.heap.size) : ∀ ad : Addr, some (⟨w.heap.size, 0, none⟩ : Addr) = some ad → 0 < n → ad.block ≠ g := by
  intro ad e _
  obtain rfl := Option.some.inj e
  show w.heap.size ≠ g
  omega
def spec_DrawCountRunes.f (k : Nat) (l0 : List Int) : Option ByteArray := (spec_l1New.f k l0).bind fun b1 => ((spec_l1Text.f b1.1 b1.2.1 b1.2.2).bind fun b2 => ((spec_l1Str.f b1.1 b2.2.1 b2.2.2 ([(⟨#[]⟩ : ByteArray), (⟨#[122]⟩ : ByteArray), (⟨#[195, 169]⟩ : ByteArray)] : List ByteArray)).bind fun b3 => (if b2.1.size + b3.1.size ≤ 9223372036854775807 then ((spec_l1Bend.f b1.1 b3.2.1 b3.2.2 (bytesOf (b2.1 ++ b3.1))).bind fun b4 => (some (strOfNums b4.1))) else none)))
theorem spec_DrawCountRunes.mono : ∀ l0 k, LeO (spec_DrawCountRunes.f k l0) (spec_DrawCountRunes.f (k + 1) l0) := by
  intro l0 k
  unfold spec_DrawCountRunes.f
  exact LeO.bind (spec_l1New.mono _ _) (fun _ => LeO.refl _)
set_option maxHeartbeats 8000000 in
set_option maxRecDepth 100000 in
theorem spec_DrawCountRunes.calls (k : Nat) (A0 : Option Addr) (c0 : Nat) (l0 : List Int) (r : ByteArray) (w : World) (hr0 : Kd.C (Kd.int .u8) w A0 l0.length l0) (hc0 : l0.length ≤ c0) (h : spec_DrawCountRunes.f k l0 = some r) :
    Calls Tryd.prog 36 #[.slice A0 l0.length c0] w fun e w' => e = .returned (.string r) ∧ Below w.heap.size w w' := by
  have HR0 := Aside0.mk hr0
  have HC0 := Aside0.mk hc0
  clear hr0 hc0
  have HB := Aside0.mk (Below.refl w.heap.size w)
  unfold spec_DrawCountRunes.f at h
  replace h := Option.bind_eq_some_iff.mp h
  obtain ⟨⟨t1, t2, t3⟩, A2, h⟩ := h
  replace h := Option.bind_eq_some_iff.mp h
  obtain ⟨⟨s1, t4, t5⟩, A3, h⟩ := h
  replace h := Option.bind_eq_some_iff.mp h
  obtain ⟨⟨s2, t6, t7⟩, A4, h⟩ := h
  dsimp only at A2 A3 A4 h
  obtain ⟨ys, hys⟩ : ∃ ys : List ByteArray, ys = [(⟨#[]⟩ : ByteArray), (⟨#[122]⟩ : ByteArray), (⟨#[195, 169]⟩ : ByteArray)] := ⟨_, rfl⟩
  rw [← hys] at A4
  have NY := Aside0.mk hys
  clear hys
  by_cases hs : s1.size + s2.size ≤ 9223372036854775807
  case neg => simp [hs] at h
  rw [if_pos hs] at h
  replace h := Option.bind_eq_some_iff.mp h
  obtain ⟨⟨x, t8, t9⟩, A50, h⟩ := h
  dsimp only at A50 h
  obtain rfl := Option.some.inj h
  have A2 := Aside0.mk A2
  have A3 := Aside0.mk A3
  have A4 := Aside0.mk A4
  have A5 := Aside0.mk A50
  clear h A50
  have hsb : decide (s1.size + s2.size ≤ 9223372036854775807) = true := decide_eq_true hs
  have hsn : (9223372036854775807 < s1.size + s2.size) = False := eq_false (Nat.not_lt.2 hs)
  have HZ := Aside0.mk (show (s1 ++ s2).size ≤ 9223372036854775807 by rw [ByteArray.size_append]; exact hs)
  have hcv := fun W : World => Lib.run_convert_string_bytes (P := Tryd.prog) W 9 23 5 (s1 ++ s2) Tryd.underlying9 Tryd.underlying23 Tryd.underlying5
  clear hs
  go_enter Tryd.func36, Tryd.ntmps36
  go_wp2_with (first
    | (go_at_call 51; refine (spec_l1New.calls k _ _ l0 t1 t2 t3 w _ HB.out HR0.out HC0.out A2.out).mono ?_; rintro e w9 ⟨g, rfl, hi, hb, hb2⟩; have HI := Aside0.mk hi; clear HB; have HB := Aside0.mk hb; clear hb hb2 hi)
    | (go_at_call 54; refine (spec_l1Text.calls g t1 t2 t3 s1 t4 t5 w _ HI.out HB.out A3.out).mono ?_; rintro e w10 ⟨rfl, hi, hb, hk⟩; clear HI HB; have HI := Aside0.mk hi; have HB := Aside0.mk hb; clear hb hk hi)
    | ((with_reducible refine gate_dst (N := 10) rfl ?_); refine Kd.R_lit Kd.string _ 9 ?hg (N := 10) ?hd (xs := ([(⟨#[]⟩ : ByteArray), (⟨#[122]⟩ : ByteArray), (⟨#[195, 169]⟩ : ByteArray)] : List ByteArray)) (inner := [.string (⟨#[]⟩ : ByteArray), .string (⟨#[122]⟩ : ByteArray), .string (⟨#[195, 169]⟩ : ByteArray)]) (ok := fun _ => True) (okp := fun _ => True) ?hr ?hp (fun _ hk => hk) trivial (Below.refl _ _) (Nat.le_refl _) (by simp) ?_; (case hd => rfl); (case hg => rfl); (case hr => first | (go_simp; done) | (go_simp; rfl)); (case hp => exact (Reps.one (show Kd.M Kd.string _ _ _ (⟨#[]⟩ : ByteArray) [.string (⟨#[]⟩ : ByteArray)] from rfl) (Reps.one (show Kd.M Kd.string _ _ _ (⟨#[122]⟩ : ByteArray) [.string (⟨#[122]⟩ : ByteArray)] from rfl) (Reps.one (show Kd.M Kd.string _ _ _ (⟨#[195, 169]⟩ : ByteArray) [.string (⟨#[195, 169]⟩ : ByteArray)] from rfl) (Reps.none _ _))))); intro v11 w11 ho hb hg_ hnew_; clear hg_ hnew_; rw [← NY.out] at ho; have n0_ := Aside0.mk (IsS76.below HI.out hb); have n1_ := Aside0.mk (below_step HB.out hb); clear HI HB; have HI := n0_; have HB := n1_; have HO := Aside0.mk ho; clear n0_ n1_ hb ho; obtain ⟨Ao, co, eo⟩ := Kd.R_slice HO.out; subst eo)
    | (go_at_call 59; refine (spec_l1Str.calls g t1 t4 t5 _ _ ys s2 t6 t7 w _ HI.out HB.out (Kd.R_reads' HO.out).2.2 (Kd.R_reads' HO.out).2.1 (far_slice (IsS76.own_ne HI.out HO.out (by decide))) A4.out).mono ?_; rintro e w12 ⟨rfl, hi, hb, hk⟩; clear HI HB HO; have HI := Aside0.mk hi; have HB := Aside0.mk hb; clear hb hk hi)
    | (go_at_call 58; have e_ : s1.size + s2.size = (bytesOf (s1 ++ s2)).length := (by rw [bytesOf_length, ByteArray.size_append]); rw [e_]; refine (spec_l1Bend.calls g t1 t6 t7 _ _ (bytesOf (s1 ++ s2)) x t8 t9 w _ (IsS76.below HI.out (bytes_below _ _ _)) (below_step HB.out (bytes_below _ _ _)) (bytes_readsC _ _ _ HZ.out) (grown_room _ _ _) (far_new _ g _ (IsS76.lt HI.out)) A5.out).mono ?_; rintro e w13 ⟨v0, rfl, ho, hi, hb, hk⟩; clear e_ HI HB; have HB := Aside0.mk hb; clear hb hk hi; have HO := Aside0.mk ho; clear ho; obtain ⟨Ao2, co2, eo2⟩ := Kd.R_slice HO.out; subst eo2; have hcv2 := Kd.C_string (P := Tryd.prog) (A := Ao2) (c := co2) Tryd.underlying23 Tryd.underlying5 Tryd.underlying9 (Kd.R_reads' HO.out).2.2))
  go_ret
  exact ⟨rfl, HB.out⟩
end Go.Proofs.YtlmpcichjmidmaaDoor.X
