/- What the small functions of the laws and of the program come to: copies, comparisons, marks of bytes and numbers; joined; PutWord, GetWord, PutBytes, GetBytes, PutLen. No program in sight. -/
import Derived.Test.YtkeacohngljhaaaK
import Derived.Test.YtkeacohngljhaaaA3
import Derived.Test.YtkeacohngljhaaaK
import Derived.Test.YtkeacohngljhaaaPx0
import Derived.Test.YtkeacohngljhaaaPx6
namespace Go.Proofs.Ytkeacohngljhaaa.Pure
open Go.RowKit Go.Proofs.Ytkeacohngljhaaa.P Go.Proofs.YtkeacohngljhaaaW.PrintWords Go.Proofs.YtkeacohngljhaaaW.PrintLast Go.Proofs.Ytkeacohngljhaaa.K

/-- A word's two bytes. -/
def word2 (n : Int) : List Int := [(Go.bits .and .i64 (n / 256) 255) % 256, (Go.bits .and .i64 n 255) % 256]
theorem word2_length (n : Int) : (word2 n).length = 2 := rfl
theorem specPutWord_eq (b : List Int) (n : Int) (hb : b.length ≤ 1073741824) : spec_PutWord.f b n = some (b ++ word2 n) := by
  unfold spec_PutWord.f
  simp only [Option.bind_some, List.nil_append, List.length_nil]
  rw [if_pos (by omega), if_pos (by simp; omega)]
  rfl
theorem putWord_ev (b : List Int) (n : Int) (hb : b.length ≤ 1073741824) : Ev (fun k => impl_PutWord.f k b n) (b ++ word2 n) := by
  unfold impl_PutWord.f
  exact Ev.bind (joined2_ev b (word2 n) (by rw [word2_length]; omega)) (Ev.now _)
end Go.Proofs.Ytkeacohngljhaaa.Pure
