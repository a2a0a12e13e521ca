
import Derived.Test.YtleoknilacjakaaGreatWInv
import Derived.Test.YtleoknilacjakaaGreatWFootNe
namespace Go.Proofs.YtleoknilacjakaaGreatW.PrintWords
open Go.RowKit
end Go.Proofs.YtleoknilacjakaaGreatW.PrintWords
namespace Go.Proofs.YtleoknilacjakaaGreatW.PrintLast
section
variable {ops : Array Oper} {a : Act} {o og : Oper} {g : Nat} {t : Tmp} {u : Bool}
end
end Go.Proofs.YtleoknilacjakaaGreatW.PrintLast
