
import Derived.Test.YtcdnfkoahajhhaaWInv
import Derived.Test.YtcdnfkoahajhhaaWFootNe
namespace Go.Proofs.YtcdnfkoahajhhaaW.PrintWords
open Go.RowKit
end Go.Proofs.YtcdnfkoahajhhaaW.PrintWords
namespace Go.Proofs.YtcdnfkoahajhhaaW.PrintLast
section
variable {ops : Array Oper} {a : Act} {o og : Oper} {g : Nat} {t : Tmp} {u : Bool}
end
end Go.Proofs.YtcdnfkoahajhhaaW.PrintLast
