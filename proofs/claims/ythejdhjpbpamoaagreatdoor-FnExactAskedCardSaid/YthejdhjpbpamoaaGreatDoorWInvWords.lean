
import Derived.Test.YthejdhjpbpamoaaGreatDoorWInv
import Derived.Test.YthejdhjpbpamoaaGreatDoorWFootNe
namespace Go.Proofs.YthejdhjpbpamoaaGreatDoorW.jk
open Go.RowKit
end Go.Proofs.YthejdhjpbpamoaaGreatDoorW.jk
namespace Go.Proofs.YthejdhjpbpamoaaGreatDoorW.qI
section
variable {ops:Array Oper} {a:Act} {o V5:Oper} {g:Nat} {t:Tmp} {u:Bool}
end
end Go.Proofs.YthejdhjpbpamoaaGreatDoorW.qI
