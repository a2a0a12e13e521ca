/- The pure statement of FnExactSerialWord, over the Lean function that its printed walk comes to: for all arguments within the row's own bounds it answers true. It holds no proof. -/
import Derived.Test.YtakcojednmlheaaPFnExactSerialWordx2
namespace Go.Proofs.Ytakcojednmlheaa.PFnExactSerialWord
open Go.RowKit Go.Proofs.YtakcojednmlheaaW.PrintWords Go.Proofs.YtakcojednmlheaaW.PrintLast
def laws_FnExactSerialWord.Law : Prop := ∀ (a0 : Int), ((Lit.int .i64 a0).wf = true) → ∃ k, laws_FnExactSerialWord.f k a0 = some true
end Go.Proofs.Ytakcojednmlheaa.PFnExactSerialWord
