
import Derived.Test.YtleoknilacjakaaGreatDoorWInv
import Derived.Test.YtleoknilacjakaaGreatDoorWFootNe
namespace Go.Proofs.YtleoknilacjakaaGreatDoorW.PrintWords
open Go.RowKit
end Go.Proofs.YtleoknilacjakaaGreatDoorW.PrintWords
namespace Go.Proofs.YtleoknilacjakaaGreatDoorW.PrintLast
section
variable {ops:Array Oper} {a:Act} {o og:Oper} {g:Nat} {t:Tmp} {u:Bool}
end
end Go.Proofs.YtleoknilacjakaaGreatDoorW.PrintLast
