/- The pure statement of FnExactIsUnder, over the Lean function that its printed walk comes to: for all arguments within the row's own bounds it answers true. It holds no proof. -/
import Derived.Test.YtabgpbmaoelohaaDoorPFnExactIsUnderx3
namespace Go.Proofs.YtabgpbmaoelohaaDoor.PFnExactIsUnder
open Go.RowKit Go.Proofs.YtabgpbmaoelohaaDoorW.PrintWords Go.Proofs.YtabgpbmaoelohaaDoorW.PrintLast
def laws_FnExactIsUnder.Law : Prop := ∀ (a0 : ByteArray) (a1 : ByteArray), (a0.size ≤ 140737488351232) → (a1.size ≤ 140737488351232) → ∃ k, laws_FnExactIsUnder.f k a0 a1 = some true
end Go.Proofs.YtabgpbmaoelohaaDoor.PFnExactIsUnder
