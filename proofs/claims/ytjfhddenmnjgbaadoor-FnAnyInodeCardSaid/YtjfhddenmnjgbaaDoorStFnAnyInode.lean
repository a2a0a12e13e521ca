/- The pure statement of FnAnyInode, over the Lean function that its printed walk comes to: for all arguments within the row's own bounds it answers true. It holds no proof. -/
import Derived.Test.YtjfhddenmnjgbaaDoorPFnAnyInodex20
namespace Go.Proofs.YtjfhddenmnjgbaaDoor.PFnAnyInode
open Go.RowKit Go.Proofs.YtjfhddenmnjgbaaDoorW.PrintWords Go.Proofs.YtjfhddenmnjgbaaDoorW.PrintLast
def Wf5 (x : Int) : Prop := (Lit.int .u8 x).wf = true
def laws_FnAnyInode.Law : Prop := ∀ (l0 : List (Int)), ((l0.length * 1 ≤ 140737488351232 ∧ ∀ y_ ∈ l0, Wf5 y_)) → ∃ k, laws_FnAnyInode.f k l0 = some true
end Go.Proofs.YtjfhddenmnjgbaaDoor.PFnAnyInode
