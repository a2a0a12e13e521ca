/- The pure statement of FnExactKidsOf, over the Lean function that its printed walk comes to: for all arguments within the row's own bounds it answers true. It holds no proof. -/
import Derived.Test.YtabgpbmaoelohaaDoorPFnExactKidsOfx6
namespace Go.Proofs.YtabgpbmaoelohaaDoor.PFnExactKidsOf
open Go.RowKit Go.Proofs.YtabgpbmaoelohaaDoorW.PrintWords Go.Proofs.YtabgpbmaoelohaaDoorW.PrintLast
def Wf103 (x : S103) : Prop := (x.f0.size ≤ 140737488351232) ∧ (True) ∧ (x.f2.size ≤ 140737488351232)
def laws_FnExactKidsOf.Law : Prop := ∀ (l0_0 : List (S103)) (a1 : ByteArray), ((l0_0.length * 40 ≤ 140737488351232 ∧ ∀ y_ ∈ l0_0, Wf103 y_)) → (a1.size ≤ 140737488351232) → ∃ k, laws_FnExactKidsOf.f k l0_0 a1 = some true
end Go.Proofs.YtabgpbmaoelohaaDoor.PFnExactKidsOf
