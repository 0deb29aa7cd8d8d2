import Derived.Test.YtcnfgfomholheaaGreatDoorPx0
import Derived.Test.YtcnfgfomholheaaGreatDoorPx1
import Derived.Test.YtcnfgfomholheaaGreatDoorPx2
import Derived.Test.YtcnfgfomholheaaGreatDoorPx5
namespace Go.Proofs.YtcnfgfomholheaaGreatDoor.P
open Go.RowKit Go.Proofs.YtcnfgfomholheaaGreatDoor.X Go.Proofs.YtcnfgfomholheaaGreatDoorW.PrintWords Go.Proofs.YtcnfgfomholheaaGreatDoorW.PrintLast Go.Proofs.YtcnfgfomholheaaGreatDoorW.PrintMore
attribute [local go_sem] oJ oK qU qV mX mY oL oM
set_option linter.unusedVariables false
set_option linter.unusedSimpArgs false
mutual
def vG.l0:Nat→List ByteArray→List ByteArray→List ByteArray→Int→Int→Option (Bool)
 | 0,_,_,_,_,_=>none
 | k+1,x0,x1,x7,x8,x9=>if x9<x8 then (if 0≤x9 then (if x9<(x7.length:Int) then (if (cZ ByteArray.empty x7 x9).toList=([35]:List UInt8) then (some true) else (if x9=(x1.length:Int) then (some false) else (if (cZ ByteArray.empty x7 x9).toList=([43]:List UInt8) then (if x9<(x1.length:Int) then (vG.j1 k x0 x1 x9 (cZ ByteArray.empty x7 x9) x7 x8 x9 ((cZ ByteArray.empty x1 x9).toList==([35]:List UInt8))) else (none)) else (vG.j1 k x0 x1 x9 (cZ ByteArray.empty x7 x9) x7 x8 x9 false)))) else (none)) else (none)) else (some ((x0.length:Int)==(x1.length:Int)))
def vG.j1:Nat→List ByteArray→List ByteArray→Int→ByteArray→List ByteArray→Int→Int→Bool→Option (Bool)
 | 0,_,_,_,_,_,_,_,_=>none
 | k+1,x0,x1,x5,x6,x7,x8,x9,x22=>if x22=true then (some false) else (if x6.toList=([43]:List UInt8) then (vG.l0 k x0 x1 x7 x8 (wrap64 (x9+1))) else (if 0≤x5 then (if x5<(x1.length:Int) then (if x6.toList=(cZ ByteArray.empty x1 x5).toList then (vG.l0 k x0 x1 x7 x8 (wrap64 (x9+1))) else (some false)) else (none)) else (none)))
end
end Go.Proofs.YtcnfgfomholheaaGreatDoor.P
