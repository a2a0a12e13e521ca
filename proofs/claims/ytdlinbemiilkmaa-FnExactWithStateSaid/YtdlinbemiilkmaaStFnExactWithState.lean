/- The pure statement of FnExactWithState, over the Lean function that its printed walk comes to: for all arguments within the row's own bounds it answers true. It holds no proof. -/
import Derived.Test.YtdlinbemiilkmaaPFnExactWithStatex2
namespace Go.Proofs.Ytdlinbemiilkmaa.PFnExactWithState
open Go.RowKit Go.Proofs.YtdlinbemiilkmaaW.PrintWords Go.Proofs.YtdlinbemiilkmaaW.PrintLast
def Wf3 (x : Int) : Prop := (Lit.int .i64 x).wf = true
def laws_FnExactWithState.Law : Prop := ∀ (l0 : List (Int)) (l1 : List (Int)) (a2 : Int), ((l0.length * 8 ≤ 140737488351232 ∧ ∀ y_ ∈ l0, Wf3 y_)) → ((l1.length * 8 ≤ 140737488351232 ∧ ∀ y_ ∈ l1, Wf3 y_)) → ((Lit.int .i64 a2).wf = true) → ∃ k, laws_FnExactWithState.f k l0 l1 a2 = some true
end Go.Proofs.Ytdlinbemiilkmaa.PFnExactWithState
