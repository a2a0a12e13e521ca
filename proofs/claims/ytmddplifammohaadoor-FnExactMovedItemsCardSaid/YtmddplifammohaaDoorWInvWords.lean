
import Derived.Test.YtmddplifammohaaDoorWInv
import Derived.Test.YtmddplifammohaaDoorWFootNe
namespace Go.Proofs.YtmddplifammohaaDoorW.PrintWords
open Go.RowKit
end Go.Proofs.YtmddplifammohaaDoorW.PrintWords
namespace Go.Proofs.YtmddplifammohaaDoorW.PrintLast
section
variable {ops : Array Oper} {a : Act} {o og : Oper} {g : Nat} {t : Tmp} {u : Bool}
end
end Go.Proofs.YtmddplifammohaaDoorW.PrintLast
