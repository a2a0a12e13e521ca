
import Derived.Test.YthejdhjpbpamoaaGreatDoorWInv
import Derived.Test.YthejdhjpbpamoaaGreatDoorWFootNe
namespace Go.Proofs.YthejdhjpbpamoaaGreatDoorW.iK
open Go.RowKit
end Go.Proofs.YthejdhjpbpamoaaGreatDoorW.iK
namespace Go.Proofs.YthejdhjpbpamoaaGreatDoorW.lX
section
variable {ops:Array Oper} {a:Act} {o abE:Oper} {g:Nat} {t:Tmp} {u:Bool}
end
end Go.Proofs.YthejdhjpbpamoaaGreatDoorW.lX
