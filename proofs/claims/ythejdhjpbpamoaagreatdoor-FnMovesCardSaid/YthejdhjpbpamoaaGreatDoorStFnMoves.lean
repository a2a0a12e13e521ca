/- The pure statement of FnMoves, over the Lean function that its printed walk comes to: for all arguments within the row's own bounds it answers true. It holds no proof. -/
import Derived.Test.YthejdhjpbpamoaaGreatDoorPFnMovesx26
namespace Go.Proofs.YthejdhjpbpamoaaGreatDoor.jM
open Go.RowKit Go.Proofs.YthejdhjpbpamoaaGreatDoorW.iK Go.Proofs.YthejdhjpbpamoaaGreatDoorW.lX
def QU (x : Int) : Prop := (Lit.int .u8 x).wf = true
def jR.Ya : Prop := ∀ (l0 : List (Int)), ((l0.length * 1 ≤ 140737488351232 ∧ ∀ y_ ∈ l0, QU y_)) → ∃ k, jR.f k l0 = some true
end Go.Proofs.YthejdhjpbpamoaaGreatDoor.jM
