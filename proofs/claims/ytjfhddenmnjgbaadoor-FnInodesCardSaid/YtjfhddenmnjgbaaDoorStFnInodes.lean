/- The pure statement of FnInodes, over the Lean function that its printed walk comes to: for all arguments within the row's own bounds it answers true. It holds no proof. -/
import Derived.Test.YtjfhddenmnjgbaaDoorPFnInodesx17
namespace Go.Proofs.YtjfhddenmnjgbaaDoor.PFnInodes
open Go.RowKit Go.Proofs.YtjfhddenmnjgbaaDoorW.PrintWords Go.Proofs.YtjfhddenmnjgbaaDoorW.PrintLast
def Wf5 (x : Int) : Prop := (Lit.int .u8 x).wf = true
def laws_FnInodes.Law : Prop := ∀ (l0 : List (Int)), ((l0.length * 1 ≤ 140737488351232 ∧ ∀ y_ ∈ l0, Wf5 y_)) → ∃ k, laws_FnInodes.f k l0 = some true
end Go.Proofs.YtjfhddenmnjgbaaDoor.PFnInodes
