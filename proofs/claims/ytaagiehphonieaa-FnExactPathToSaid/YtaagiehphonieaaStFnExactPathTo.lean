/- The pure statement of FnExactPathTo, over the Lean function that its printed walk comes to: for all arguments within the row's own bounds it answers true. It holds no proof. -/
import Derived.Test.YtaagiehphonieaaPFnExactPathTox8
namespace Go.Proofs.Ytaagiehphonieaa.PFnExactPathTo
open Go.RowKit Go.Proofs.YtaagiehphonieaaW.PrintWords Go.Proofs.YtaagiehphonieaaW.PrintLast
def Wf3 (x : Int) : Prop := (Lit.int .i64 x).wf = true
def Wf156 (x : S156) : Prop := ((Lit.int .i64 x.f0).wf = true) ∧ ((Lit.int .i64 x.f1).wf = true) ∧ (x.f2.size ≤ 140737488351232)
def Wf63 (x : S63) : Prop := ((Lit.int .i64 x.f0).wf = true) ∧ (x.f1.size ≤ 140737488351232)
def Wf61 (x : S61) : Prop := ((Lit.int .i64 x.f0).wf = true) ∧ ((Lit.int .i64 x.f1).wf = true) ∧ ((Lit.int .i64 x.f2).wf = true) ∧ (x.f3.size ≤ 140737488351232) ∧ ((x.f4.length * 32 ≤ 140737488351232 ∧ ∀ y_ ∈ x.f4, Wf156 y_)) ∧ ((x.f5.length * 24 ≤ 140737488351232 ∧ ∀ y_ ∈ x.f5, Wf63 y_))
def laws_FnExactPathTo.Law : Prop := ∀ (a0_0 : Int) (l0_1 : List (Int)) (l0_2 : List (S61)) (a1 : Int), ((Lit.int .i64 a0_0).wf = true) → ((l0_1.length * 8 ≤ 140737488351232 ∧ ∀ y_ ∈ l0_1, Wf3 y_)) → ((l0_2.length * 88 ≤ 140737488351232 ∧ ∀ y_ ∈ l0_2, Wf61 y_)) → ((Lit.int .i64 a1).wf = true) → ∃ k, laws_FnExactPathTo.f k a0_0 l0_1 l0_2 a1 = some true
end Go.Proofs.Ytaagiehphonieaa.PFnExactPathTo
