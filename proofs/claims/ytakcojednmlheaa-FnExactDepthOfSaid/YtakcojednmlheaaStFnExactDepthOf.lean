/- The pure statement of FnExactDepthOf, over the Lean function that its printed walk comes to: for all arguments within the row's own bounds it answers true. It holds no proof. -/
import Derived.Test.YtakcojednmlheaaPFnExactDepthOfx7
namespace Go.Proofs.Ytakcojednmlheaa.PFnExactDepthOf
open Go.RowKit Go.Proofs.YtakcojednmlheaaW.PrintWords Go.Proofs.YtakcojednmlheaaW.PrintLast
def Wf3 (x : Int) : Prop := (Lit.int .i64 x).wf = true
def Wf127 (x : S127) : Prop := ((Lit.int .i64 x.f0).wf = true) ∧ ((Lit.int .i64 x.f1).wf = true) ∧ (x.f2.size ≤ 140737488351232)
def Wf129 (x : S129) : Prop := ((Lit.int .i64 x.f0).wf = true) ∧ (x.f1.size ≤ 140737488351232)
def Wf59 (x : S59) : Prop := ((Lit.int .i64 x.f0).wf = true) ∧ ((Lit.int .i64 x.f1).wf = true) ∧ ((Lit.int .i64 x.f2).wf = true) ∧ (x.f3.size ≤ 140737488351232) ∧ ((x.f4.length * 32 ≤ 140737488351232 ∧ ∀ y_ ∈ x.f4, Wf127 y_)) ∧ ((x.f5.length * 24 ≤ 140737488351232 ∧ ∀ y_ ∈ x.f5, Wf129 y_))
def laws_FnExactDepthOf.Law : Prop := ∀ (a0_0 : Int) (l0_1 : List (Int)) (l0_2 : List (S59)) (a1 : Int), ((Lit.int .i64 a0_0).wf = true) → ((l0_1.length * 8 ≤ 140737488351232 ∧ ∀ y_ ∈ l0_1, Wf3 y_)) → ((l0_2.length * 88 ≤ 140737488351232 ∧ ∀ y_ ∈ l0_2, Wf59 y_)) → ((Lit.int .i64 a1).wf = true) → ∃ k, laws_FnExactDepthOf.f k a0_0 l0_1 l0_2 a1 = some true
end Go.Proofs.Ytakcojednmlheaa.PFnExactDepthOf
