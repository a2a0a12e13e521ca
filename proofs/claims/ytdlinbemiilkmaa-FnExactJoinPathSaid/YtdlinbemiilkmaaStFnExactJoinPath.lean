/- The pure statement of FnExactJoinPath, over the Lean function that its printed walk comes to: for all arguments within the row's own bounds it answers true. It holds no proof. -/
import Derived.Test.YtdlinbemiilkmaaPFnExactJoinPathx1
namespace Go.Proofs.Ytdlinbemiilkmaa.PFnExactJoinPath
open Go.RowKit Go.Proofs.YtdlinbemiilkmaaW.PrintWords Go.Proofs.YtdlinbemiilkmaaW.PrintLast
def Wf9 (x : ByteArray) : Prop := x.size ≤ 140737488351232
def laws_FnExactJoinPath.Law : Prop := ∀ (l0 : List (ByteArray)), ((l0.length * 16 ≤ 140737488351232 ∧ ∀ y_ ∈ l0, Wf9 y_)) → ∃ k, laws_FnExactJoinPath.f k l0 = some true
end Go.Proofs.Ytdlinbemiilkmaa.PFnExactJoinPath
