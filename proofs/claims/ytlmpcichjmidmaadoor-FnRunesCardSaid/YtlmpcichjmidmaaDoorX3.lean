/- Contracts of functions that the print does not take, in the form in which the print takes its callees: utf8.DecodeRune, utf8.RuneCountInString, strings.Split, impl.TextOk. Conditions: the package-level tables as laid (Tabs); each function's own '.f' is 'none' where its contract says nothing. -/
import Derived.Test.YtlmpcichjmidmaaDoorProg
import Derived.Test.YtlmpcichjmidmaaDoorSh
import Derived.Test.YtlmpcichjmidmaaDoorX1
import Derived.Test.YtlmpcichjmidmaaDoorX2
import Derived.Test.YtlmpcichjmidmaaDoorWMore
import Derived.Laws.RangeString
import Derived.Laws.RangeAny
import Derived.LoopTactic
import Derived.Deep.DeepMust
namespace Go.Proofs.YtlmpcichjmidmaaDoor.X
open Go.RowKit Go.Proofs.YtlmpcichjmidmaaDoorW.PrintWords Go.Proofs.YtlmpcichjmidmaaDoorW.PrintLast Go.Proofs.YtlmpcichjmidmaaDoorW.PrintMore
set_option linter.unusedVariables false
set_option linter.unusedSimpArgs false
theorem addr_eta (a : Addr) : (⟨a.block, a.off, a.spot⟩ : Addr) = a := rfl
set_option maxHeartbeats 4000000 in
set_option maxRecDepth 1000000 in
theorem utf8_DecodeRune.calls (A0 : Option Addr) (c0 : Nat) (l0 : List Int) (r1 : Int) (r2 : Int) (w : World) (hr0 : Kd.C (Kd.int .u8) w A0 l0.length l0) (hc0 : l0.length ≤ c0) (hT : Tabs w) (h : utf8_DecodeRune.f l0 = some (r1, r2)) :
    Calls Tryd.prog 47 #[.slice A0 l0.length c0] w fun e w' => e = .returned (.tuple #[.int .i32 r1, .int .i64 r2]) ∧ Below w.heap.size w w' := by
  unfold utf8_DecodeRune.f at h
  by_cases hb : areBytes l0 = true
  · rw [if_pos hb] at h
    simp only [Option.some.injEq, Prod.mk.injEq] at h
    obtain ⟨rfl, rfl⟩ := h
    by_cases h0 : l0.length = 0
    · have hz : (l0.length : Int) < 1 := by omega
      have hz' : ¬ ((0 : Int) < (l0.length : Int)) := by omega
      have hd : Lib.decodeGo (baOf l0) = (65533, 0) := by unfold Lib.decodeGo; rw [if_pos (by rw [baOf_size]; exact h0)]
      rw [hd]
      have cS : Calls Tryd.prog 65 #[.slice A0 l0.length c0] w fun e w' => e = .returned (.tuple #[.int .i32 65533, .int .i64 0]) ∧ w = w' := by
        clear hd h0 hb hr0 hc0 hT
        go_enter Tryd.func65, Tryd.ntmps65
        go_wp2
        go_ret2
        exact ⟨rfl, rfl⟩
      clear hd h0 hb hr0 hc0 hT hz
      go_enter Tryd.func47, Tryd.ntmps47
      go_wp2
      go_loop [8] (fun i => i = .int .i64 0) (fun _ => 0)
      case atStart => rfl
      case round =>
        subst hrel
        go_wp2_with (go_at_call 65; refine cS.mono ?_; rintro e w' ⟨rfl, rfl⟩)
        go_ret2
        exact ⟨rfl, Below.refl _ _⟩
    · have hz : (0 : Int) < (l0.length : Int) := by omega
      have hs : (baOf l0).size = l0.length := baOf_size l0
      obtain ⟨ad, rfl, hc⟩ : ∃ ad, A0 = some ad ∧ ∀ j, j < l0.length → w.cell? (ad.add j) = some (.int .u8 ((baOf l0).get! j).toNat) := by
        obtain ⟨ad, e, _⟩ := Kd.at_int hr0 0 (by omega) (by omega)
        refine ⟨ad, e, fun j hj => ?_⟩
        obtain ⟨ad', e', hx⟩ := Kd.at_int hr0 (j : Int) (by omega) (by omega)
        rw [e] at e'
        injection e' with e'
        subst e'
        rw [areBytes_at hb j hj]
        simpa [rd] using hx
      obtain ⟨b, off, sp⟩ := ad
      have cS := slow_calls (baOf l0) b off c0 sp w hT.1 (fun j hj => hc j (by omega)) (by omega)
      rw [hs] at cS
      have hc1 := hc 0 (by omega)
      generalize hg : (baOf l0).get! 0 = x0 at hc1
      have hc2 : w.cell? ⟨b, off, sp⟩ = some (.int .u8 x0.toNat) := hc1
      have hl := x0.toNat_lt
      by_cases ha : x0.toNat < 128
      · have hd : Lib.decodeGo (baOf l0) = (x0.toNat, 1) := by
          unfold Lib.decodeGo
          rw [if_neg (by omega), Lib.decode_at]
          simp [Lib.decodeN, hg, ha]
        rw [hd]
        have ha' : (x0.toNat : Int) < 128 := by omega
        clear hd hg hc hc1 cS hs hb hr0 hc0 hT h0
        go_enter Tryd.func47, Tryd.ntmps47
        go_wp2
        go_loop [8] (fun i => i = .int .i64 0) (fun _ => 0)
        case atStart => rfl
        case round =>
          subst hrel
          go_wp2
          go_ret2
          exact ⟨rfl, Below.refl _ _⟩
      · have ha' : ¬ (x0.toNat : Int) < 128 := by omega
        generalize Lib.decodeGo (baOf l0) = R at cS ⊢
        clear hg hc hc1 hs hb hr0 hc0 hT h0
        go_enter Tryd.func47, Tryd.ntmps47
        go_wp2
        go_loop [8] (fun i => i = .int .i64 0) (fun _ => 0)
        case atStart => rfl
        case round =>
          subst hrel
          go_wp2_with (go_at_call 65; refine cS.mono ?_; rintro e w' ⟨rfl, hb⟩)
          go_ret2
          exact ⟨rfl, hb⟩
  · rw [if_neg hb] at h
    cases h
end Go.Proofs.YtlmpcichjmidmaaDoor.X
