/- The pure statement of FnExactStatesOk, over the Lean function that its printed walk comes to: for all arguments within the row's own bounds it answers true. It holds no proof. -/
import Derived.Test.YtdlinbemiilkmaaPFnExactStatesOkx1
namespace Go.Proofs.Ytdlinbemiilkmaa.PFnExactStatesOk
open Go.RowKit Go.Proofs.YtdlinbemiilkmaaW.PrintWords Go.Proofs.YtdlinbemiilkmaaW.PrintLast
def Wf3 (x : Int) : Prop := (Lit.int .i64 x).wf = true
def laws_FnExactStatesOk.Law : Prop := ∀ (l0 : List (Int)) (a1 : Int), ((l0.length * 8 ≤ 140737488351232 ∧ ∀ y_ ∈ l0, Wf3 y_)) → ((Lit.int .i64 a1).wf = true) → ∃ k, laws_FnExactStatesOk.f k l0 a1 = some true
end Go.Proofs.Ytdlinbemiilkmaa.PFnExactStatesOk
