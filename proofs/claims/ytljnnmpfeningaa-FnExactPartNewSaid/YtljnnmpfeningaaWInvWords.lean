
import Derived.Test.YtljnnmpfeningaaWInv
import Derived.Test.YtljnnmpfeningaaWFootNe
namespace Go.Proofs.YtljnnmpfeningaaW.PrintWords
open Go.RowKit
end Go.Proofs.YtljnnmpfeningaaW.PrintWords
namespace Go.Proofs.YtljnnmpfeningaaW.PrintLast
section
variable {ops : Array Oper} {a : Act} {o og : Oper} {g : Nat} {t : Tmp} {u : Bool}
end
end Go.Proofs.YtljnnmpfeningaaW.PrintLast
