/- The pure statement of FnExactStatesWords, over the Lean function that its printed walk comes to: for all arguments within the row's own bounds it answers true. It holds no proof. -/
import Derived.Test.YtakcojednmlheaaPFnExactStatesWordsx3
namespace Go.Proofs.Ytakcojednmlheaa.PFnExactStatesWords
open Go.RowKit Go.Proofs.YtakcojednmlheaaW.PrintWords Go.Proofs.YtakcojednmlheaaW.PrintLast
def Wf3 (x : Int) : Prop := (Lit.int .i64 x).wf = true
def laws_FnExactStatesWords.Law : Prop := ∀ (l0 : List (Int)), ((l0.length * 8 ≤ 140737488351232 ∧ ∀ y_ ∈ l0, Wf3 y_)) → ∃ k, laws_FnExactStatesWords.f k l0 = some true
end Go.Proofs.Ytakcojednmlheaa.PFnExactStatesWords
