/- The pure statement of FnExactPutItem, over the Lean function that its printed walk comes to: for all arguments within the row's own bounds it answers true. It holds no proof. -/
import Derived.Test.YtcdnfkoahajhhaaPFnExactPutItemx6
namespace Go.Proofs.Ytcdnfkoahajhhaa.PFnExactPutItem
open Go.RowKit Go.Proofs.YtcdnfkoahajhhaaW.PrintWords Go.Proofs.YtcdnfkoahajhhaaW.PrintLast
def Wf35 (x : S35) : Prop := (x.f0.size ≤ 140737488351232) ∧ (True) ∧ (x.f2.size ≤ 140737488351232)
def laws_FnExactPutItem.Law : Prop := ∀ (l0_0 : List (S35)) (a1_0 : ByteArray) (a1_1 : Bool) (a1_2 : ByteArray), ((l0_0.length * 40 ≤ 140737488351232 ∧ ∀ y_ ∈ l0_0, Wf35 y_)) → (a1_0.size ≤ 140737488351232) → (a1_2.size ≤ 140737488351232) → ∃ k, laws_FnExactPutItem.f k l0_0 a1_0 a1_1 a1_2 = some true
end Go.Proofs.Ytcdnfkoahajhhaa.PFnExactPutItem
