/- The pure statement of FnCodes, over the Lean function that its printed walk comes to: for all arguments within the row's own bounds it answers true. It holds no proof. -/
import Derived.Test.YthejdhjpbpamoaaGreatDoorPFnCodesx29
namespace Go.Proofs.YthejdhjpbpamoaaGreatDoor.jD
open Go.RowKit Go.Proofs.YthejdhjpbpamoaaGreatDoorW.iw Go.Proofs.YthejdhjpbpamoaaGreatDoorW.lH
def Vq (x : Int) : Prop := (Lit.int .u8 x).wf = true
def ni.abG : Prop := ∀ (l0 : List (Int)), ((l0.length * 1 ≤ 140737488351232 ∧ ∀ y_ ∈ l0, Vq y_)) → ∃ k, ni.f k l0 = some true
end Go.Proofs.YthejdhjpbpamoaaGreatDoor.jD
