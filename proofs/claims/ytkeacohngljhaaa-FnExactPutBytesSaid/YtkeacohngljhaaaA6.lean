/- What the small functions of the laws and of the program come to: copies, comparisons, marks of bytes and numbers; joined; PutWord, GetWord, PutBytes, GetBytes, PutLen. No program in sight. -/
import Derived.Test.YtkeacohngljhaaaK
import Derived.Test.YtkeacohngljhaaaA3
import Derived.Test.YtkeacohngljhaaaA5
import Derived.Test.YtkeacohngljhaaaK
import Derived.Test.YtkeacohngljhaaaPx0
import Derived.Test.YtkeacohngljhaaaPx8
import Derived.Test.YtkeacohngljhaaaPx9
namespace Go.Proofs.Ytkeacohngljhaaa.Pure
open Go.RowKit Go.Proofs.Ytkeacohngljhaaa.P Go.Proofs.YtkeacohngljhaaaW.PrintWords Go.Proofs.YtkeacohngljhaaaW.PrintLast Go.Proofs.Ytkeacohngljhaaa.K

def putBytesP (b x : List Int) : List Int := if x.length ≤ 60 then b ++ word2 (x.length : Int) ++ x else b
theorem specPutBytes_eq (b x : List Int) (hb : b.length ≤ 1073741824) : spec_PutBytes.f b x = some (putBytesP b x) := by
  unfold spec_PutBytes.f putBytesP
  by_cases h : x.length ≤ 60
  · rw [if_neg (by omega), if_pos h, specPutWord_eq b _ hb]
    simp only [Option.bind_some]
    rw [if_pos (by simp [word2_length]; omega)]
  · rw [if_pos (by omega), if_neg h]
    simp only [Option.bind_some, List.nil_append, List.length_nil]
    rw [if_pos (by omega)]
theorem putBytes_ev (b x : List Int) (hb : b.length ≤ 1073741824) : Ev (fun k => impl_PutBytes.f k b x) (putBytesP b x) := by
  unfold impl_PutBytes.f putBytesP
  by_cases h : x.length ≤ 60
  · rw [if_pos h]
    refine ev_neg (by omega) (Ev.bind (putWord_ev b _ hb) (Ev.bind (joined2_ev _ _ ?_) (Ev.now _)))
    simp [word2_length]; omega
  · rw [if_neg h]
    exact ev_pos (by omega) (Ev.bind (joined1_ev b (by omega)) (Ev.now _))
end Go.Proofs.Ytkeacohngljhaaa.Pure
