
import Derived.Test.YtjfhddenmnjgbaaDoorWInv
import Derived.Test.YtjfhddenmnjgbaaDoorWFootNe
namespace Go.Proofs.YtjfhddenmnjgbaaDoorW.PrintWords
open Go.RowKit
end Go.Proofs.YtjfhddenmnjgbaaDoorW.PrintWords
namespace Go.Proofs.YtjfhddenmnjgbaaDoorW.PrintLast
section
variable {ops : Array Oper} {a : Act} {o og : Oper} {g : Nat} {t : Tmp} {u : Bool}
end
end Go.Proofs.YtjfhddenmnjgbaaDoorW.PrintLast
