/- The signs of bytes: what spec.RuneAt and impl.RuneAt, spec.CountRunes, TextOk of the program and of the reference come to, all in the words of the model's own decoder. No program in sight. -/
import Derived.Test.YtlmpcichjmidmaaDoorK
import Derived.Test.YtlmpcichjmidmaaDoorA7
import Derived.Test.YtlmpcichjmidmaaDoorA8
import Derived.Test.YtlmpcichjmidmaaDoorB3
import Derived.Test.YtlmpcichjmidmaaDoorK
import Derived.Test.YtlmpcichjmidmaaDoorPx0
import Derived.Test.YtlmpcichjmidmaaDoorPx10
import Derived.Test.YtlmpcichjmidmaaDoorPx11
import Derived.Test.YtlmpcichjmidmaaDoorPx3
import Derived.Test.YtlmpcichjmidmaaDoorX5
import Derived.Lib.DecodeN
import Derived.Lib.TrimUEq
import Derived.Lib.ValidLaws
import Derived.Lib.RuneCount
import Derived.Lib.FieldsU
import Derived.Laws.BytesArg
namespace Go.Proofs.YtlmpcichjmidmaaDoor.Pure
open Go.RowKit Go.Proofs.YtlmpcichjmidmaaDoor.X Go.Proofs.YtlmpcichjmidmaaDoor.P Go.Proofs.YtlmpcichjmidmaaDoorW.PrintWords Go.Proofs.YtlmpcichjmidmaaDoorW.PrintLast Go.Proofs.YtlmpcichjmidmaaDoor.K
set_option linter.unusedVariables false
set_option linter.unusedSimpArgs false
def getTextP (l : List Int) (a : Int) : ByteArray × Int × Bool :=
  if (getBytesP l a).2.2 = true ∧ textOkP (strOfNums (getBytesP l a).1) = true then (strOfNums (getBytesP l a).1, (getBytesP l a).2.1, true) else ((⟨#[]⟩ : ByteArray), 0, false)
theorem getBytesP_len (l : List Int) (a : Int) : (getBytesP l a).1.length ≤ l.length := by
  unfold getBytesP
  split
  · simp
    omega
  · simp
theorem getTextP_ev (l : List Int) (a : Int) (f : Nat → ByteArray → Option Bool) (hf : Ev (fun k => f k (strOfNums (getBytesP l a).1)) (textOkP (strOfNums (getBytesP l a).1))) :
    Ev (fun k => if (getBytesP l a).2.2 = true then ((f k (strOfNums (getBytesP l a).1)).bind fun t => (if t = true then (some (strOfNums (getBytesP l a).1, (getBytesP l a).2.1, true)) else (some ((⟨#[]⟩ : ByteArray), 0, false)))) else (some ((⟨#[]⟩ : ByteArray), 0, false))) (getTextP l a) := by
  obtain ⟨R, hR⟩ : ∃ R, R = getTextP l a := ⟨_, rfl⟩
  rw [← hR]
  unfold getTextP at hR
  by_cases h : (getBytesP l a).2.2 = true
  · refine ev_pos h (Ev.bind hf ?_)
    by_cases q : textOkP (strOfNums (getBytesP l a).1) = true
    · rw [if_pos ⟨h, q⟩] at hR
      exact ev_pos q (ev_some hR.symm)
    · rw [if_neg (fun e => q e.2)] at hR
      exact ev_neg q (ev_some hR.symm)
  · rw [if_neg (fun e => h e.1)] at hR
    exact ev_neg h (ev_some hR.symm)
theorem specGetText_ev (l : List Int) (a : Int) (hb : Bytes l) (hl : l.length ≤ 35184372088832) : Ev (fun k => spec_GetText.f k l a) (getTextP l a) := by
  unfold spec_GetText.f
  exact ev_b (specGetBytes_eq l a hb hl) (getTextP_ev l a (fun k s => spec_TextOk.f k s) (specTextOk_ev _))
theorem getText_ev (l : List Int) (a : Int) (hb : Bytes l) (hl : l.length ≤ 35184372088832) : Ev (fun k => impl_GetText.f k l a) (getTextP l a) := by
  unfold impl_GetText.f
  have hz := getBytesP_len l a
  exact Ev.bind (getBytes_ev l a hb hl) (getTextP_ev l a (fun _ s => impl_TextOk.f s) (ev_of_eq (implTextOk_eq _ (by rw [strOfNums_size]; omega))))
end Go.Proofs.YtlmpcichjmidmaaDoor.Pure
