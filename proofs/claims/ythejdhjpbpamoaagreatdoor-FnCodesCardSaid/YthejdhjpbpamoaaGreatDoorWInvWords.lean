
import Derived.Test.YthejdhjpbpamoaaGreatDoorWInv
import Derived.Test.YthejdhjpbpamoaaGreatDoorWFootNe
namespace Go.Proofs.YthejdhjpbpamoaaGreatDoorW.iw
open Go.RowKit
end Go.Proofs.YthejdhjpbpamoaaGreatDoorW.iw
namespace Go.Proofs.YthejdhjpbpamoaaGreatDoorW.lH
section
variable {ops:Array Oper} {a:Act} {o Zv:Oper} {g:Nat} {t:Tmp} {u:Bool}
end
end Go.Proofs.YthejdhjpbpamoaaGreatDoorW.lH
