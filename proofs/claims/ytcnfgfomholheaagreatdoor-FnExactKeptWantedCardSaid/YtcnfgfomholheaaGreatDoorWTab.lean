import Derived.Test.YtcnfgfomholheaaGreatDoorWLast
import Derived.Test.YtcnfgfomholheaaGreatDoorWWords
namespace Go.Proofs.YtcnfgfomholheaaGreatDoorW.PrintLast
open Go.Proofs.YtcnfgfomholheaaGreatDoorW.PrintWords (Aside0)
section
variable {md:Region.Mode} {ops:Array Oper} {T:Bool × List (List Nat × List Nat)} {l l' li lj lk:Array Bool} {ds:List Nat} {i j k:Nat}
end
end Go.Proofs.YtcnfgfomholheaaGreatDoorW.PrintLast
