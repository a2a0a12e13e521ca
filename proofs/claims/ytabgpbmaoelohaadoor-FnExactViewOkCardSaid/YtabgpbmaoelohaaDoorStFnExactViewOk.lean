/- The pure statement of FnExactViewOk, over the Lean function that its printed walk comes to: for all arguments within the row's own bounds it answers true. It holds no proof. -/
import Derived.Test.YtabgpbmaoelohaaDoorPFnExactViewOkx8
namespace Go.Proofs.YtabgpbmaoelohaaDoor.PFnExactViewOk
open Go.RowKit Go.Proofs.YtabgpbmaoelohaaDoorW.PrintWords Go.Proofs.YtabgpbmaoelohaaDoorW.PrintLast
def Wf103 (x : S103) : Prop := (x.f0.size ≤ 140737488351232) ∧ (True) ∧ (x.f2.size ≤ 140737488351232)
def laws_FnExactViewOk.Law : Prop := ∀ (a0_0 : Int) (a0_1 : Int) (a0_2 : Int) (a0_3 : Int) (l1_0 : List (S103)), ((Lit.int .i64 a0_0).wf = true) → ((Lit.int .i64 a0_1).wf = true) → ((Lit.int .i64 a0_2).wf = true) → ((Lit.int .i64 a0_3).wf = true) → ((l1_0.length * 40 ≤ 140737488351232 ∧ ∀ y_ ∈ l1_0, Wf103 y_)) → ∃ k, laws_FnExactViewOk.f k a0_0 a0_1 a0_2 a0_3 l1_0 = some true
end Go.Proofs.YtabgpbmaoelohaaDoor.PFnExactViewOk
