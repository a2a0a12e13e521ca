/- The pure statement of FnExactWithEntry, over the Lean function that its printed walk comes to: for all arguments within the row's own bounds it answers true. It holds no proof. -/
import Derived.Test.YtcdnfkoahajhhaaPFnExactWithEntryx7
namespace Go.Proofs.Ytcdnfkoahajhhaa.PFnExactWithEntry
open Go.RowKit Go.Proofs.YtcdnfkoahajhhaaW.PrintWords Go.Proofs.YtcdnfkoahajhhaaW.PrintLast
def Wf181 (x : S181) : Prop := ((Lit.int .i64 x.f0).wf = true) ∧ ((Lit.int .i64 x.f1).wf = true) ∧ (x.f2.size ≤ 140737488351232)
def Wf56 (x : S56) : Prop := ((Lit.int .i64 x.f0).wf = true) ∧ (x.f1.size ≤ 140737488351232)
def laws_FnExactWithEntry.Law : Prop := ∀ (a0_0 : Int) (a0_1 : Int) (a0_2 : Int) (a0_3 : ByteArray) (l0_4 : List (S181)) (l0_5 : List (S56)) (a1_0 : Int) (a1_1 : ByteArray), ((Lit.int .i64 a0_0).wf = true) → ((Lit.int .i64 a0_1).wf = true) → ((Lit.int .i64 a0_2).wf = true) → (a0_3.size ≤ 140737488351232) → ((l0_4.length * 32 ≤ 140737488351232 ∧ ∀ y_ ∈ l0_4, Wf181 y_)) → ((l0_5.length * 24 ≤ 140737488351232 ∧ ∀ y_ ∈ l0_5, Wf56 y_)) → ((Lit.int .i64 a1_0).wf = true) → (a1_1.size ≤ 140737488351232) → ∃ k, laws_FnExactWithEntry.f k a0_0 a0_1 a0_2 a0_3 l0_4 l0_5 a1_0 a1_1 = some true
end Go.Proofs.Ytcdnfkoahajhhaa.PFnExactWithEntry
