/- The pure statement of FnExactTextCut, over the Lean function that its printed walk comes to: for all arguments within the row's own bounds it answers true. It holds no proof. -/
import Derived.Test.YtdlinbemiilkmaaPFnExactTextCutx1
namespace Go.Proofs.Ytdlinbemiilkmaa.PFnExactTextCut
open Go.RowKit Go.Proofs.YtdlinbemiilkmaaW.PrintWords Go.Proofs.YtdlinbemiilkmaaW.PrintLast
def laws_FnExactTextCut.Law : Prop := ∀ (a0 : ByteArray) (a1 : Int), (a0.size ≤ 140737488351232) → ((Lit.int .i64 a1).wf = true) → ∃ k, laws_FnExactTextCut.f k a0 a1 = some true
end Go.Proofs.Ytdlinbemiilkmaa.PFnExactTextCut
