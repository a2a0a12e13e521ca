/- The pure statement of FnExactTextWith, over the Lean function that its printed walk comes to: for all arguments within the row's own bounds it answers true. It holds no proof. -/
import Derived.Test.YtakcojednmlheaaPFnExactTextWithx1
namespace Go.Proofs.Ytakcojednmlheaa.PFnExactTextWith
open Go.RowKit Go.Proofs.YtakcojednmlheaaW.PrintWords Go.Proofs.YtakcojednmlheaaW.PrintLast
def laws_FnExactTextWith.Law : Prop := ∀ (a0 : ByteArray) (a1 : Int) (a2 : ByteArray), (a0.size ≤ 140737488351232) → ((Lit.int .i64 a1).wf = true) → (a2.size ≤ 140737488351232) → ∃ k, laws_FnExactTextWith.f k a0 a1 a2 = some true
end Go.Proofs.Ytakcojednmlheaa.PFnExactTextWith
