/- The pure statement of FnExactReadInode, over the Lean function that its printed walk comes to: for all arguments within the row's own bounds it answers true. It holds no proof. -/
import Derived.Test.YtjfhddenmnjgbaaDoorPFnExactReadInodex17
namespace Go.Proofs.YtjfhddenmnjgbaaDoor.PFnExactReadInode
open Go.RowKit Go.Proofs.YtjfhddenmnjgbaaDoorW.PrintWords Go.Proofs.YtjfhddenmnjgbaaDoorW.PrintLast
def Wf9 (x : ByteArray) : Prop := x.size ≤ 140737488351232
def laws_FnExactReadInode.Law : Prop := ∀ (l0 : List (ByteArray)), ((l0.length * 16 ≤ 140737488351232 ∧ ∀ y_ ∈ l0, Wf9 y_)) → ∃ k, laws_FnExactReadInode.f k l0 = some true
end Go.Proofs.YtjfhddenmnjgbaaDoor.PFnExactReadInode
