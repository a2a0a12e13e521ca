/- The pure statement of FnExactPageText, over the Lean function that its printed walk comes to: for all arguments within the row's own bounds it answers true. It holds no proof. -/
import Derived.Test.YtaagiehphonieaaPFnExactPageTextx9
namespace Go.Proofs.Ytaagiehphonieaa.PFnExactPageText
open Go.RowKit Go.Proofs.YtaagiehphonieaaW.PrintWords Go.Proofs.YtaagiehphonieaaW.PrintLast
def Wf140 (x : S140) : Prop := ((Lit.int .i64 x.f0).wf = true) ∧ (x.f1.size ≤ 140737488351232) ∧ (True)
def laws_FnExactPageText.Law : Prop := ∀ (a0_0 : ByteArray) (l0_1 : List (S140)) (a1_0 : Int) (a1_1 : Int) (a1_2 : Int) (a1_3 : Int) (a2 : Int) (a3 : Int), (a0_0.size ≤ 140737488351232) → ((l0_1.length * 32 ≤ 140737488351232 ∧ ∀ y_ ∈ l0_1, Wf140 y_)) → ((Lit.int .i64 a1_0).wf = true) → ((Lit.int .i64 a1_1).wf = true) → ((Lit.int .i64 a1_2).wf = true) → ((Lit.int .i64 a1_3).wf = true) → ((Lit.int .i64 a2).wf = true) → ((Lit.int .i64 a3).wf = true) → ∃ k, laws_FnExactPageText.f k a0_0 l0_1 a1_0 a1_1 a1_2 a1_3 a2 a3 = some true
end Go.Proofs.Ytaagiehphonieaa.PFnExactPageText
