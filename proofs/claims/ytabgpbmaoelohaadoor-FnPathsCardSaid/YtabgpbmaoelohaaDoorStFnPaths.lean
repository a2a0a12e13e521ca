/- The pure statement of FnPaths, over the Lean function that its printed walk comes to: for all arguments within the row's own bounds it answers true. It holds no proof. -/
import Derived.Test.YtabgpbmaoelohaaDoorPFnPathsx4
namespace Go.Proofs.YtabgpbmaoelohaaDoor.PFnPaths
open Go.RowKit Go.Proofs.YtabgpbmaoelohaaDoorW.PrintWords Go.Proofs.YtabgpbmaoelohaaDoorW.PrintLast
def Wf5 (x : Int) : Prop := (Lit.int .u8 x).wf = true
def laws_FnPaths.Law : Prop := ∀ (l0 : List (Int)), ((l0.length * 1 ≤ 140737488351232 ∧ ∀ y_ ∈ l0, Wf5 y_)) → ∃ k, laws_FnPaths.f k l0 = some true
end Go.Proofs.YtabgpbmaoelohaaDoor.PFnPaths
