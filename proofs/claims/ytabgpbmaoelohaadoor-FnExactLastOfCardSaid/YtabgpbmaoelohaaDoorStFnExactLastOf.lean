/- The pure statement of FnExactLastOf, over the Lean function that its printed walk comes to: for all arguments within the row's own bounds it answers true. It holds no proof. -/
import Derived.Test.YtabgpbmaoelohaaDoorPFnExactLastOfx2
namespace Go.Proofs.YtabgpbmaoelohaaDoor.PFnExactLastOf
open Go.RowKit Go.Proofs.YtabgpbmaoelohaaDoorW.PrintWords Go.Proofs.YtabgpbmaoelohaaDoorW.PrintLast
def laws_FnExactLastOf.Law : Prop := ∀ (a0 : ByteArray), (a0.size ≤ 140737488351232) → ∃ k, laws_FnExactLastOf.f k a0 = some true
end Go.Proofs.YtabgpbmaoelohaaDoor.PFnExactLastOf
