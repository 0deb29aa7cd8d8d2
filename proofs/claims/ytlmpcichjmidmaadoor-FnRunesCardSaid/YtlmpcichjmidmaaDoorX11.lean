/- Contracts of the drawing functions that turn a text into bytes (a frozen row, which no word on own rows takes): spec.DrawCountRunes, spec.DrawRuneAt. -/
import Derived.Test.YtlmpcichjmidmaaDoorWMore
import Derived.Test.YtlmpcichjmidmaaDoorPx0
import Derived.Test.YtlmpcichjmidmaaDoorPx12
import Derived.Test.YtlmpcichjmidmaaDoorPx13
import Derived.Test.YtlmpcichjmidmaaDoorPx16
import Derived.Test.YtlmpcichjmidmaaDoorX10
import Derived.Test.YtlmpcichjmidmaaDoorX70
import Derived.Lib.ConvBytes
namespace Go.Proofs.YtlmpcichjmidmaaDoor.X
open Go.RowKit Go.Proofs.YtlmpcichjmidmaaDoor.P Go.Proofs.YtlmpcichjmidmaaDoorW.PrintWords Go.Proofs.YtlmpcichjmidmaaDoorW.PrintLast Go.Proofs.YtlmpcichjmidmaaDoorW.PrintMore
attribute [local go_sem] max2_int min2_int max_two min_two max_three min_three max_four min_four   -- for this text's walks alone
set_option linter.unusedVariables false
set_option linter.unusedSimpArgs false
def spec_DrawRuneAt.f (k : Nat) (l0 : List Int) : Option (List Int × Int) := (spec_l1New.f k l0).bind fun b1 => ((spec_l1Text.f b1.1 b1.2.1 b1.2.2).bind fun b2 => ((spec_l1Text.f b1.1 b2.2.1 b2.2.2).bind fun b3 => (if b2.1.size + b3.1.size ≤ 9223372036854775807 then ((spec_l1Once.f b1.1 b3.2.1 b3.2.2 3).bind fun b4 => (if b4.1 = true then ((spec_l1Below.f b1.1 b4.2.1 b4.2.2 6).bind fun b5 => ((spec_l1Bytes.f k b1.1 b5.2.1 b5.2.2 b5.1).bind fun b6 => ((spec_l1Bend.f b1.1 b6.2.1 b6.2.2 b6.1).bind fun b7 => ((spec_l1Below.f b1.1 b7.2.1 b7.2.2 7).bind fun b8 => (some (b7.1, wrap64 (b8.1 - 1))))))) else ((spec_l1Bend.f b1.1 b4.2.1 b4.2.2 (bytesOf (b2.1 ++ b3.1))).bind fun b7 => ((spec_l1Below.f b1.1 b7.2.1 b7.2.2 7).bind fun b8 => (some (b7.1, wrap64 (b8.1 - 1))))))) else none)))
theorem spec_DrawRuneAt.mono : ∀ l0 k, LeO (spec_DrawRuneAt.f k l0) (spec_DrawRuneAt.f (k + 1) l0) := by
  intro l0 k
  unfold spec_DrawRuneAt.f
  exact LeO.bind (spec_l1New.mono _ _) (fun _ => LeO.bind (LeO.refl _) (fun _ => LeO.bind (LeO.refl _) (fun _ => LeO.ite (LeO.bind (LeO.refl _) (fun _ => LeO.ite (LeO.bind (LeO.refl _) (fun _ => LeO.bind (spec_l1Bytes.mono _ _ _ _ _) (fun _ => LeO.refl _))) (LeO.refl _))) (LeO.refl _))))
set_option maxHeartbeats 8000000 in
set_option maxRecDepth 100000 in
theorem spec_DrawRuneAt.calls (k : Nat) (A0 : Option Addr) (c0 : Nat) (l0 : List Int) (r1 : List Int) (r2 : Int) (w : World) (hr0 : Kd.C (Kd.int .u8) w A0 l0.length l0) (hc0 : l0.length ≤ c0) (h : spec_DrawRuneAt.f k l0 = some (r1, r2)) :
    Calls Tryd.prog 35 #[.slice A0 l0.length c0] w fun e w' => ∃ v0_ : Value, e = .returned (.tuple #[v0_, .int .i64 r2]) ∧ Kd.R (Kd.int .u8) 5 w' w.heap.size (fun _ => True) v0_ r1 ∧ Below w.heap.size w w' := by
  have HR0 := Aside0.mk hr0
  have HC0 := Aside0.mk hc0
  clear hr0 hc0
  have HB := Aside0.mk (Below.refl w.heap.size w)
  unfold spec_DrawRuneAt.f at h
  replace h := Option.bind_eq_some_iff.mp h
  obtain ⟨⟨t1, t2, t3⟩, A2, h⟩ := h
  replace h := Option.bind_eq_some_iff.mp h
  obtain ⟨⟨s1, t4, t5⟩, A3, h⟩ := h
  replace h := Option.bind_eq_some_iff.mp h
  obtain ⟨⟨s2, t6, t7⟩, A4, h⟩ := h
  dsimp only at A2 A3 A4 h
  by_cases hs : s1.size + s2.size ≤ 9223372036854775807
  case neg => simp [hs] at h
  rw [if_pos hs] at h
  replace h := Option.bind_eq_some_iff.mp h
  obtain ⟨⟨o, t8, t9⟩, A5, h⟩ := h
  dsimp only at A5 h
  have A2 := Aside0.mk A2
  have A3 := Aside0.mk A3
  have A4 := Aside0.mk A4
  have hsb : decide (s1.size + s2.size ≤ 9223372036854775807) = true := decide_eq_true hs
  have hsn : (9223372036854775807 < s1.size + s2.size) = False := eq_false (Nat.not_lt.2 hs)
  have HZ := Aside0.mk (show (s1 ++ s2).size ≤ 9223372036854775807 by rw [ByteArray.size_append]; exact hs)
  have hcv := fun W : World => Lib.run_convert_string_bytes (P := Tryd.prog) W 9 23 5 (s1 ++ s2) Tryd.underlying9 Tryd.underlying23 Tryd.underlying5
  clear hs
  cases o with
  | true =>
    have A5 := Aside0.mk A5
    rw [if_pos rfl] at h
    replace h := Option.bind_eq_some_iff.mp h
    obtain ⟨⟨n5, t10, t11⟩, A60, h⟩ := h
    replace h := Option.bind_eq_some_iff.mp h
    obtain ⟨⟨y, t12, t13⟩, A70, h⟩ := h
    replace h := Option.bind_eq_some_iff.mp h
    obtain ⟨⟨x, t14, t15⟩, A80, h⟩ := h
    replace h := Option.bind_eq_some_iff.mp h
    obtain ⟨⟨n7, t16, t17⟩, A90, h⟩ := h
    dsimp only at A60 A70 A80 A90 h
    simp only [Option.some.injEq, Prod.mk.injEq] at h
    obtain ⟨rfl, rfl⟩ := h
    have A6 := Aside0.mk A60
    have A7 := Aside0.mk A70
    have A8 := Aside0.mk A80
    have A9 := Aside0.mk A90
    clear A60 A70 A80 A90
    go_enter Tryd.func35, Tryd.ntmps35
    go_wp2_with (first
      | (go_at_call 51; refine (spec_l1New.calls k _ _ l0 t1 t2 t3 w _ HB.out HR0.out HC0.out A2.out).mono ?_; rintro e w9 ⟨g, rfl, hi, hb, hb2⟩; have HI := Aside0.mk hi; clear HB; have HB := Aside0.mk hb; clear hb hb2 hi)
      | (go_at_call 54; refine (spec_l1Text.calls g t1 t2 t3 s1 t4 t5 w _ HI.out HB.out A3.out).mono ?_; rintro e w10 ⟨rfl, hi, hb, hk⟩; clear HI HB A3; have HI := Aside0.mk hi; have HB := Aside0.mk hb; clear hb hk hi)
      | (go_at_call 54; refine (spec_l1Text.calls g t1 t4 t5 s2 t6 t7 w _ HI.out HB.out A4.out).mono ?_; rintro e w11 ⟨rfl, hi, hb, hk⟩; clear HI HB; have HI := Aside0.mk (IsS76.below hi (bytes_below _ 5 (s1 ++ s2))); have HB := Aside0.mk (below_step hb (bytes_below _ 5 (s1 ++ s2))); clear hb hk hi)
      | (go_at_call 56; refine (spec_l1Once.calls g t1 t6 t7 3 true t8 t9 w _ HI.out HB.out A5.out).mono ?_; rintro e w12 ⟨rfl, hi, hb, hk⟩; clear HI HB; have HI := Aside0.mk hi; have HB := Aside0.mk hb; clear hb hk hi)
      | (go_at_call 53; refine (spec_l1Below.calls g t1 t8 t9 6 n5 t10 t11 w _ HI.out HB.out A6.out).mono ?_; rintro e w13 ⟨rfl, hi, hb, hk⟩; clear HI HB A6; have HI := Aside0.mk hi; have HB := Aside0.mk hb; clear hb hk hi)
      | (go_at_call 52; refine (spec_l1Bytes.calls k g t1 t10 t11 n5 y t12 t13 w _ HI.out HB.out A7.out).mono ?_; rintro e w14 ⟨v0, rfl, ho, hi, hb, hk⟩; clear HI HB; have HI := Aside0.mk hi; have HB := Aside0.mk hb; have HO := Aside0.mk ho; clear hb hk hi ho; obtain ⟨Ao, co, eo⟩ := Kd.R_slice HO.out; subst eo)
      | (go_at_call 58; refine (spec_l1Bend.calls g t1 t12 t13 _ _ y x t14 t15 w _ HI.out HB.out (Kd.R_reads' HO.out).2.2 (Kd.R_reads' HO.out).2.1 (far_slice (IsS76.own_ne HI.out HO.out (by decide))) A8.out).mono ?_; rintro e w15 ⟨v1, rfl, ho, hi, hb, hk⟩; have HX := Aside0.mk (Kd.R_lower ho (below_size HB.out)); clear HI HB HO; have HI := Aside0.mk hi; have HB := Aside0.mk hb; clear hb hk hi ho)
      | (go_at_call 53; refine (spec_l1Below.calls g t1 t14 t15 7 n7 t16 t17 w _ HI.out HB.out A9.out).mono ?_; rintro e w16 ⟨rfl, hi, hb, hk⟩; have n0_ := Aside0.mk (Kd.R_mono (Kd.R_keep (IsS76.apart HI.out HX.out (by decide)) hk (fun _ h => h.2)) (fun _ h => h.1)); clear HI HB HX; have HX := n0_; have HI := Aside0.mk hi; have HB := Aside0.mk hb; clear hb hk hi n0_))
    go_ret2
    exact ⟨_, by first | rfl | (simp; done) | (simp [*]; done), Kd.R_mono HX.out (fun _ _ => trivial), HB.out⟩
  | false =>
    have A5 := Aside0.mk A5
    rw [if_neg (by simp)] at h
    replace h := Option.bind_eq_some_iff.mp h
    obtain ⟨⟨x, t14, t15⟩, A80, h⟩ := h
    replace h := Option.bind_eq_some_iff.mp h
    obtain ⟨⟨n7, t16, t17⟩, A90, h⟩ := h
    dsimp only at A80 A90 h
    simp only [Option.some.injEq, Prod.mk.injEq] at h
    obtain ⟨rfl, rfl⟩ := h
    have A8 := Aside0.mk A80
    have A9 := Aside0.mk A90
    clear A80 A90
    go_enter Tryd.func35, Tryd.ntmps35
    go_wp2_with (first
      | (go_at_call 51; refine (spec_l1New.calls k _ _ l0 t1 t2 t3 w _ HB.out HR0.out HC0.out A2.out).mono ?_; rintro e w9 ⟨g, rfl, hi, hb, hb2⟩; have HI := Aside0.mk hi; clear HB; have HB := Aside0.mk hb; clear hb hb2 hi)
      | (go_at_call 54; refine (spec_l1Text.calls g t1 t2 t3 s1 t4 t5 w _ HI.out HB.out A3.out).mono ?_; rintro e w10 ⟨rfl, hi, hb, hk⟩; clear HI HB A3; have HI := Aside0.mk hi; have HB := Aside0.mk hb; clear hb hk hi)
      | (go_at_call 54; refine (spec_l1Text.calls g t1 t4 t5 s2 t6 t7 w _ HI.out HB.out A4.out).mono ?_; rintro e w11 ⟨rfl, hi, hb, hk⟩; have HN := Aside0.mk (IsS76.lt hi); clear HI HB; have HI := Aside0.mk (IsS76.below hi (bytes_below _ 5 (s1 ++ s2))); have HB := Aside0.mk (below_step hb (bytes_below _ 5 (s1 ++ s2))); have HY := Aside0.mk (bytes_readsC w11 5 (s1 ++ s2) HZ.out); clear hb hk hi)
      | (go_at_call 56; refine (spec_l1Once.calls g t1 t6 t7 3 false t8 t9 w _ HI.out HB.out A5.out).mono ?_; rintro e w12 ⟨rfl, hi, hb, hk⟩; have n0_ := Aside0.mk (Kd.C_keep 0 HY.out hk (far_new w11 g _ HN.out)); clear HI HB HY; have HI := Aside0.mk hi; have HB := Aside0.mk hb; have HY := n0_; clear hb hi hk n0_)
      | (go_at_call 58; have e_ : s1.size + s2.size = (bytesOf (s1 ++ s2)).length := (by rw [bytesOf_length, ByteArray.size_append]); rw [e_]; refine (spec_l1Bend.calls g t1 t8 t9 _ _ (bytesOf (s1 ++ s2)) x t14 t15 w _ HI.out HB.out HY.out (grown_room _ _ _) (far_new w11 g _ HN.out) A8.out).mono ?_; rintro e w15 ⟨v1, rfl, ho, hi, hb, hk⟩; have HX := Aside0.mk (Kd.R_lower ho (below_size HB.out)); clear e_ HI HB HY; have HI := Aside0.mk hi; have HB := Aside0.mk hb; clear hb hk hi ho)
      | (go_at_call 53; refine (spec_l1Below.calls g t1 t14 t15 7 n7 t16 t17 w _ HI.out HB.out A9.out).mono ?_; rintro e w16 ⟨rfl, hi, hb, hk⟩; have n0_ := Aside0.mk (Kd.R_mono (Kd.R_keep (IsS76.apart HI.out HX.out (by decide)) hk (fun _ h => h.2)) (fun _ h => h.1)); clear HI HB HX; have HX := n0_; have HI := Aside0.mk hi; have HB := Aside0.mk hb; clear hb hk hi n0_))
    go_ret2
    exact ⟨_, by first | rfl | (simp; done) | (simp [*]; done), Kd.R_mono HX.out (fun _ _ => trivial), HB.out⟩
end Go.Proofs.YtlmpcichjmidmaaDoor.X
