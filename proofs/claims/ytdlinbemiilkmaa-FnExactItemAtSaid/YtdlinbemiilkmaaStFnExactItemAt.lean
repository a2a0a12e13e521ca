/- The pure statement of FnExactItemAt, over the Lean function that its printed walk comes to: for all arguments within the row's own bounds it answers true. It holds no proof. -/
import Derived.Test.YtdlinbemiilkmaaPFnExactItemAtx2
namespace Go.Proofs.Ytdlinbemiilkmaa.PFnExactItemAt
open Go.RowKit Go.Proofs.YtdlinbemiilkmaaW.PrintWords Go.Proofs.YtdlinbemiilkmaaW.PrintLast
def Wf84 (x : S84) : Prop := (x.f0.size ≤ 140737488351232) ∧ (True) ∧ (x.f2.size ≤ 140737488351232)
def laws_FnExactItemAt.Law : Prop := ∀ (l0_0 : List (S84)) (a1 : ByteArray), ((l0_0.length * 40 ≤ 140737488351232 ∧ ∀ y_ ∈ l0_0, Wf84 y_)) → (a1.size ≤ 140737488351232) → ∃ k, laws_FnExactItemAt.f k l0_0 a1 = some true
end Go.Proofs.Ytdlinbemiilkmaa.PFnExactItemAt
