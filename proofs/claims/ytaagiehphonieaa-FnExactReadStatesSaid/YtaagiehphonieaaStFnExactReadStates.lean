/- The pure statement of FnExactReadStates, over the Lean function that its printed walk comes to: for all arguments within the row's own bounds it answers true. It holds no proof. -/
import Derived.Test.YtaagiehphonieaaPFnExactReadStatesx6
namespace Go.Proofs.Ytaagiehphonieaa.PFnExactReadStates
open Go.RowKit Go.Proofs.YtaagiehphonieaaW.PrintWords Go.Proofs.YtaagiehphonieaaW.PrintLast
def Wf9 (x : ByteArray) : Prop := x.size ≤ 140737488351232
def laws_FnExactReadStates.Law : Prop := ∀ (l0 : List (ByteArray)) (a1 : Int), ((l0.length * 16 ≤ 140737488351232 ∧ ∀ y_ ∈ l0, Wf9 y_)) → ((Lit.int .i64 a1).wf = true) → ∃ k, laws_FnExactReadStates.f k l0 a1 = some true
end Go.Proofs.Ytaagiehphonieaa.PFnExactReadStates
