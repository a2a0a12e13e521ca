/- The pure statement of FnExactAsked, over the Lean function that its printed walk comes to: for all arguments within the row's own bounds it answers true. It holds no proof. -/
import Derived.Test.YthejdhjpbpamoaaGreatDoorPFnExactAskedx31
namespace Go.Proofs.YthejdhjpbpamoaaGreatDoor.pU
open Go.RowKit Go.Proofs.YthejdhjpbpamoaaGreatDoorW.jk Go.Proofs.YthejdhjpbpamoaaGreatDoorW.qI
def GN (x : nY) : Prop := (x.f0.size ≤ 140737488351232) ∧ (True) ∧ (x.f2.size ≤ 140737488351232)
def lY.aeS : Prop := ∀ (GR : Int) (GU : Int) (GV : Int) (GX : Int) (bg : List (nY)) (GY : Int) (GZ : ByteArray) (G5 : ByteArray) (G6 : Int) (G7 : Int) (G8 : ByteArray), ((Lit.int .i64 GR).wf = true) → ((Lit.int .i64 GU).wf = true) → ((Lit.int .i64 GV).wf = true) → ((Lit.int .i64 GX).wf = true) → ((bg.length * 40 ≤ 140737488351232 ∧ ∀ y_ ∈ bg, GN y_)) → ((Lit.int .i64 GY).wf = true) → (GZ.size ≤ 140737488351232) → (G5.size ≤ 140737488351232) → ((Lit.int .i64 G6).wf = true) → ((Lit.int .i64 G7).wf = true) → (G8.size ≤ 140737488351232) → ∃ k, lY.f k GR GU GV GX bg GY GZ G5 G6 G7 G8 = some true
end Go.Proofs.YthejdhjpbpamoaaGreatDoor.pU
