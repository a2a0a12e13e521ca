/- The pure statement of FnEntries, over the Lean function that its printed walk comes to: for all arguments within the row's own bounds it answers true. It holds no proof. -/
import Derived.Test.YtcdnfkoahajhhaaPFnEntriesx13
namespace Go.Proofs.Ytcdnfkoahajhhaa.PFnEntries
open Go.RowKit Go.Proofs.YtcdnfkoahajhhaaW.PrintWords Go.Proofs.YtcdnfkoahajhhaaW.PrintLast
def Wf5 (x : Int) : Prop := (Lit.int .u8 x).wf = true
def laws_FnEntries.Law : Prop := ∀ (l0 : List (Int)), ((l0.length * 1 ≤ 140737488351232 ∧ ∀ y_ ∈ l0, Wf5 y_)) → ∃ k, laws_FnEntries.f k l0 = some true
end Go.Proofs.Ytcdnfkoahajhhaa.PFnEntries
