/- The law FnExactConstants answers true: it has no condition. -/
import Derived.Test.YtkeacohngljhaaaK
import Derived.Test.YtkeacohngljhaaaPx0
import Derived.Test.YtkeacohngljhaaaPx1
namespace Go.Proofs.Ytkeacohngljhaaa.Pure
open Go.RowKit Go.Proofs.Ytkeacohngljhaaa.P
theorem FnExactConstants : laws_FnExactConstants.Pure := rfl
end Go.Proofs.Ytkeacohngljhaaa.Pure
