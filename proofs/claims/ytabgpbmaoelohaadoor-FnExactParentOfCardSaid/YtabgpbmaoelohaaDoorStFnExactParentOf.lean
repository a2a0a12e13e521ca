/- The pure statement of FnExactParentOf, over the Lean function that its printed walk comes to: for all arguments within the row's own bounds it answers true. It holds no proof. -/
import Derived.Test.YtabgpbmaoelohaaDoorPFnExactParentOfx2
namespace Go.Proofs.YtabgpbmaoelohaaDoor.PFnExactParentOf
open Go.RowKit Go.Proofs.YtabgpbmaoelohaaDoorW.PrintWords Go.Proofs.YtabgpbmaoelohaaDoorW.PrintLast
def laws_FnExactParentOf.Law : Prop := ∀ (a0 : ByteArray), (a0.size ≤ 140737488351232) → ∃ k, laws_FnExactParentOf.f k a0 = some true
end Go.Proofs.YtabgpbmaoelohaaDoor.PFnExactParentOf
