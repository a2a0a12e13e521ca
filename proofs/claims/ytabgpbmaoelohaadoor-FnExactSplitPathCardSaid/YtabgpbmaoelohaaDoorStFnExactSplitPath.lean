/- The pure statement of FnExactSplitPath, over the Lean function that its printed walk comes to: for all arguments within the row's own bounds it answers true. It holds no proof. -/
import Derived.Test.YtabgpbmaoelohaaDoorPFnExactSplitPathx3
namespace Go.Proofs.YtabgpbmaoelohaaDoor.PFnExactSplitPath
open Go.RowKit Go.Proofs.YtabgpbmaoelohaaDoorW.PrintWords Go.Proofs.YtabgpbmaoelohaaDoorW.PrintLast
def laws_FnExactSplitPath.Law : Prop := ∀ (a0 : ByteArray), (a0.size ≤ 140737488351232) → ∃ k, laws_FnExactSplitPath.f k a0 = some true
end Go.Proofs.YtabgpbmaoelohaaDoor.PFnExactSplitPath
