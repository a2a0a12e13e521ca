/- The pure statement of FnExactAskOk, over the Lean function that its printed walk comes to: for all arguments within the row's own bounds it answers true. It holds no proof. -/
import Derived.Test.YtdlinbemiilkmaaPFnExactAskOkx1
namespace Go.Proofs.Ytdlinbemiilkmaa.PFnExactAskOk
open Go.RowKit Go.Proofs.YtdlinbemiilkmaaW.PrintWords Go.Proofs.YtdlinbemiilkmaaW.PrintLast
def laws_FnExactAskOk.Law : Prop := ∀ (a0_0 : Int) (a0_1 : ByteArray) (a0_2 : ByteArray) (a0_3 : Int) (a0_4 : Int) (a0_5 : ByteArray), ((Lit.int .i64 a0_0).wf = true) → (a0_1.size ≤ 140737488351232) → (a0_2.size ≤ 140737488351232) → ((Lit.int .i64 a0_3).wf = true) → ((Lit.int .i64 a0_4).wf = true) → (a0_5.size ≤ 140737488351232) → laws_FnExactAskOk.f a0_0 a0_1 a0_2 a0_3 a0_4 a0_5 = some true
end Go.Proofs.Ytdlinbemiilkmaa.PFnExactAskOk
