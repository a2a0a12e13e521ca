/- The pure statement of FnExactPartNew, over the Lean function that its printed walk comes to: for all arguments within the row's own bounds it answers true. It holds no proof. -/
import Derived.Test.YtljnnmpfeningaaPFnExactPartNewx10
namespace Go.Proofs.Ytljnnmpfeningaa.PFnExactPartNew
open Go.RowKit Go.Proofs.YtljnnmpfeningaaW.PrintWords Go.Proofs.YtljnnmpfeningaaW.PrintLast
def laws_FnExactPartNew.Law : Prop := ∀ (a0_0 : Int) (a0_1 : Int) (a0_2 : Int) (a0_3 : Int), ((Lit.int .i64 a0_0).wf = true) → ((Lit.int .i64 a0_1).wf = true) → ((Lit.int .i64 a0_2).wf = true) → ((Lit.int .i64 a0_3).wf = true) → ∃ k, laws_FnExactPartNew.f k a0_0 a0_1 a0_2 a0_3 = some true
end Go.Proofs.Ytljnnmpfeningaa.PFnExactPartNew
