/- What the small functions of the laws and of the program come to: copies, comparisons, marks of bytes and numbers; joined; PutWord, GetWord, PutBytes, GetBytes, PutLen. No program in sight. -/
import Derived.Test.YtlmpcichjmidmaaDoorK
import Derived.Test.YtlmpcichjmidmaaDoorA3
import Derived.Test.YtlmpcichjmidmaaDoorK
import Derived.Test.YtlmpcichjmidmaaDoorPx0
import Derived.Test.YtlmpcichjmidmaaDoorPx7
namespace Go.Proofs.YtlmpcichjmidmaaDoor.Pure
open Go.RowKit Go.Proofs.YtlmpcichjmidmaaDoor.P Go.Proofs.YtlmpcichjmidmaaDoorW.PrintWords Go.Proofs.YtlmpcichjmidmaaDoorW.PrintLast Go.Proofs.YtlmpcichjmidmaaDoor.K
set_option linter.unusedVariables false
set_option linter.unusedSimpArgs false

/-- A word's two bytes. -/
def word2 (n : Int) : List Int := [(Go.bits .and .i64 (n / 256) 255) % 256, (Go.bits .and .i64 n 255) % 256]
theorem word2_length (n : Int) : (word2 n).length = 2 := rfl
theorem specPutWord_eq (b : List Int) (n : Int) (hb : b.length ≤ 1073741824) : spec_PutWord.f b n = some (b ++ word2 n) := by
  unfold spec_PutWord.f
  simp only [Option.bind_some, List.nil_append, List.length_nil]
  rw [if_pos (by omega), if_pos (by simp; omega)]
  rfl
theorem putWord_ev (b : List Int) (n : Int) (hb : b.length ≤ 1073741824) : Ev (fun k => impl_PutWord.f k b n) (b ++ word2 n) := by
  unfold impl_PutWord.f
  exact Ev.bind (joined2_ev b (word2 n) (by rw [word2_length]; omega)) (Ev.now _)
end Go.Proofs.YtlmpcichjmidmaaDoor.Pure
