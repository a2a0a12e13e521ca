/- The pure statement of FnExactMovedItems, over the Lean function that its printed walk comes to: for all arguments within the row's own bounds it answers true. It holds no proof. -/
import Derived.Test.YtmddplifammohaaDoorPFnExactMovedItemsx12
namespace Go.Proofs.YtmddplifammohaaDoor.PFnExactMovedItems
open Go.RowKit Go.Proofs.YtmddplifammohaaDoorW.PrintWords Go.Proofs.YtmddplifammohaaDoorW.PrintLast
def Wf46 (x : S46) : Prop := (x.f0.size ≤ 140737488351232) ∧ (True) ∧ (x.f2.size ≤ 140737488351232)
def laws_FnExactMovedItems.Law : Prop := ∀ (l0_0 : List (S46)) (a1 : ByteArray) (a2 : ByteArray), ((l0_0.length * 40 ≤ 140737488351232 ∧ ∀ y_ ∈ l0_0, Wf46 y_)) → (a1.size ≤ 140737488351232) → (a2.size ≤ 140737488351232) → ∃ k, laws_FnExactMovedItems.f k l0_0 a1 a2 = some true
end Go.Proofs.YtmddplifammohaaDoor.PFnExactMovedItems
