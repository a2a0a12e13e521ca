/- The pure statement of FnExactReadPart, over the Lean function that its printed walk comes to: for all arguments within the row's own bounds it answers true. It holds no proof. -/
import Derived.Test.YtleoknilacjakaaGreatDoorPFnExactReadPartx32
namespace Go.Proofs.YtleoknilacjakaaGreatDoor.PFnExactReadPart
open Go.RowKit Go.Proofs.YtleoknilacjakaaGreatDoorW.PrintWords Go.Proofs.YtleoknilacjakaaGreatDoorW.PrintLast
def Wf76 (x : S76) : Prop := ((Lit.int .i64 x.f0).wf = true) ∧ (x.f1.size ≤ 140737488351232) ∧ (True)
def laws_FnExactReadPart.Law : Prop := ∀ (a0_0 : ByteArray) (l0_1 : List (S76)) (a1_0 : Int) (a1_1 : Int) (a1_2 : Int) (a1_3 : Int) (a2 : Int), (a0_0.size ≤ 140737488351232) → ((l0_1.length * 32 ≤ 140737488351232 ∧ ∀ y_ ∈ l0_1, Wf76 y_)) → ((Lit.int .i64 a1_0).wf = true) → ((Lit.int .i64 a1_1).wf = true) → ((Lit.int .i64 a1_2).wf = true) → ((Lit.int .i64 a1_3).wf = true) → ((Lit.int .i64 a2).wf = true) → ∃ k, laws_FnExactReadPart.f k a0_0 l0_1 a1_0 a1_1 a1_2 a1_3 a2 = some true
end Go.Proofs.YtleoknilacjakaaGreatDoor.PFnExactReadPart
