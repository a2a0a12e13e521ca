/- The pure statement of FnWritten, over the Lean function that its printed walk comes to: for all arguments within the row's own bounds it answers true. It holds no proof. -/
import Derived.Test.YtfgammfdaiicpaaPFnWrittenx3
namespace Go.Proofs.Ytfgammfdaiicpaa.PFnWritten
open Go.RowKit Go.Proofs.YtfgammfdaiicpaaW.PrintWords Go.Proofs.YtfgammfdaiicpaaW.PrintLast
def Wf5 (x : Int) : Prop := (Lit.int .u8 x).wf = true
def laws_FnWritten.Law : Prop := ∀ (l0 : List (Int)), ((l0.length * 1 ≤ 140737488351232 ∧ ∀ y_ ∈ l0, Wf5 y_)) → ∃ k, laws_FnWritten.f k l0 = some true
end Go.Proofs.Ytfgammfdaiicpaa.PFnWritten
