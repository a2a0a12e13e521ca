/- The pure statement of FnExactTouchedBy, over the Lean function that its printed walk comes to: for all arguments within the row's own bounds it answers true. It holds no proof. -/
import Derived.Test.YtdlinbemiilkmaaPFnExactTouchedByx3
namespace Go.Proofs.Ytdlinbemiilkmaa.PFnExactTouchedBy
open Go.RowKit Go.Proofs.YtdlinbemiilkmaaW.PrintWords Go.Proofs.YtdlinbemiilkmaaW.PrintLast
def laws_FnExactTouchedBy.Law : Prop := ∀ (a0 : Int) (a1_0 : Int) (a1_1 : ByteArray) (a1_2 : ByteArray) (a1_3 : Int) (a1_4 : Int) (a1_5 : ByteArray), ((Lit.int .i64 a0).wf = true) → ((Lit.int .i64 a1_0).wf = true) → (a1_1.size ≤ 140737488351232) → (a1_2.size ≤ 140737488351232) → ((Lit.int .i64 a1_3).wf = true) → ((Lit.int .i64 a1_4).wf = true) → (a1_5.size ≤ 140737488351232) → ∃ k, laws_FnExactTouchedBy.f k a0 a1_0 a1_1 a1_2 a1_3 a1_4 a1_5 = some true
end Go.Proofs.Ytdlinbemiilkmaa.PFnExactTouchedBy
