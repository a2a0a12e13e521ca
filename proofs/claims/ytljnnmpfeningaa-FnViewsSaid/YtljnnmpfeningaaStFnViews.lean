/- The pure statement of FnViews, over the Lean function that its printed walk comes to: for all arguments within the row's own bounds it answers true. It holds no proof. -/
import Derived.Test.YtljnnmpfeningaaPFnViewsx18
namespace Go.Proofs.Ytljnnmpfeningaa.PFnViews
open Go.RowKit Go.Proofs.YtljnnmpfeningaaW.PrintWords Go.Proofs.YtljnnmpfeningaaW.PrintLast
def Wf5 (x : Int) : Prop := (Lit.int .u8 x).wf = true
def laws_FnViews.Law : Prop := ∀ (l0 : List (Int)), ((l0.length * 1 ≤ 140737488351232 ∧ ∀ y_ ∈ l0, Wf5 y_)) → ∃ k, laws_FnViews.f k l0 = some true
end Go.Proofs.Ytljnnmpfeningaa.PFnViews
