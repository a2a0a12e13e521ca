/- The pure statement of FnExactPageOf, over the Lean function that its printed walk comes to: for all arguments within the row's own bounds it answers true. It holds no proof. -/
import Derived.Test.YtakcojednmlheaaPFnExactPageOfx1
namespace Go.Proofs.Ytakcojednmlheaa.PFnExactPageOf
open Go.RowKit Go.Proofs.YtakcojednmlheaaW.PrintWords Go.Proofs.YtakcojednmlheaaW.PrintLast
def laws_FnExactPageOf.Law : Prop := ∀ (a0 : ByteArray) (a1 : Int), (a0.size ≤ 140737488351232) → ((Lit.int .i64 a1).wf = true) → ∃ k, laws_FnExactPageOf.f k a0 a1 = some true
end Go.Proofs.Ytakcojednmlheaa.PFnExactPageOf
