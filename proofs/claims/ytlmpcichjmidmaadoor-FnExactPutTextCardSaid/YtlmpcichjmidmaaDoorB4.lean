/- The signs of bytes: what spec.RuneAt and impl.RuneAt, spec.CountRunes, TextOk of the program and of the reference come to, all in the words of the model's own decoder. No program in sight. -/
import Derived.Test.YtlmpcichjmidmaaDoorK
import Derived.Test.YtlmpcichjmidmaaDoorA3
import Derived.Test.YtlmpcichjmidmaaDoorA5
import Derived.Test.YtlmpcichjmidmaaDoorB3
import Derived.Test.YtlmpcichjmidmaaDoorK
import Derived.Test.YtlmpcichjmidmaaDoorPx0
import Derived.Test.YtlmpcichjmidmaaDoorPx7
import Derived.Test.YtlmpcichjmidmaaDoorX5
import Derived.Test.YtlmpcichjmidmaaDoorX8
import Derived.Lib.DecodeN
import Derived.Lib.TrimUEq
import Derived.Lib.ValidLaws
import Derived.Lib.RuneCount
import Derived.Lib.FieldsU
import Derived.Laws.BytesArg
namespace Go.Proofs.YtlmpcichjmidmaaDoor.Pure
open Go.RowKit Go.Proofs.YtlmpcichjmidmaaDoor.X Go.Proofs.YtlmpcichjmidmaaDoor.P Go.Proofs.YtlmpcichjmidmaaDoorW.PrintWords Go.Proofs.YtlmpcichjmidmaaDoorW.PrintLast Go.Proofs.YtlmpcichjmidmaaDoor.K
set_option linter.unusedVariables false
set_option linter.unusedSimpArgs false
def putTextP (b : List Int) (s : ByteArray) : List Int := if textOkP s = true then b ++ word2 (s.size : Int) ++ bytesOf s else b
theorem putTextP_length (b : List Int) (s : ByteArray) : (putTextP b s).length ≤ b.length + 62 := by
  unfold putTextP
  split
  · rename_i h
    have := textOkP_size h
    simp only [List.length_append, word2_length, bytesOf_length]
    omega
  · omega
theorem specPutText_ev (b : List Int) (s : ByteArray) (hb : b.length ≤ 1073741824) : Ev (fun k => spec_PutText.f k b s) (putTextP b s) := by
  obtain ⟨R, hR⟩ : ∃ R, R = putTextP b s := ⟨_, rfl⟩
  rw [← hR]
  unfold putTextP at hR
  unfold spec_PutText.f
  refine Ev.bind (specTextOk_ev s) ?_
  by_cases h : textOkP s = true
  · rw [if_pos h] at hR
    have hs := textOkP_size h
    refine ev_pos h (ev_b (specPutWord_eq b (s.size : Int) hb) (ev_pos ?_ (ev_some hR.symm)))
    simp only [List.length_append, word2_length]
    omega
  · rw [if_neg h] at hR
    refine ev_neg h (ev_b (a := ([] : List Int)) rfl (ev_pos ?_ (ev_some ?_)))
    · simp only [List.length_nil]
      omega
    · rw [hR, List.nil_append]
theorem putText_ev (b : List Int) (s : ByteArray) (hb : b.length ≤ 1073741824) (hs : s.size ≤ 140737488351232) : Ev (fun k => impl_PutText.f k b s) (putTextP b s) := by
  have hR : putTextP b s = if textOkP s = true then b ++ word2 (s.size : Int) ++ bytesOf s else b := rfl
  unfold impl_PutText.f
  refine ev_b (implTextOk_eq s hs) ?_
  by_cases h : textOkP s = true
  · rw [if_pos h] at hR
    have hz := textOkP_size h
    rw [hR]
    refine ev_pos h (Ev.bind (putWord_ev b (s.size : Int) hb) (joined2_ev _ _ ?_))
    simp only [List.length_append, word2_length, bytesOf_length]
    omega
  · rw [if_neg h] at hR
    rw [hR]
    exact ev_neg h (joined1_ev b (by omega))
end Go.Proofs.YtlmpcichjmidmaaDoor.Pure
