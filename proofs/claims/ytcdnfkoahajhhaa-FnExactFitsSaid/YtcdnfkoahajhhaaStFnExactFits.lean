/- The pure statement of FnExactFits, over the Lean function that its printed walk comes to: for all arguments within the row's own bounds it answers true. It holds no proof. -/
import Derived.Test.YtcdnfkoahajhhaaPFnExactFitsx13
namespace Go.Proofs.Ytcdnfkoahajhhaa.PFnExactFits
open Go.RowKit Go.Proofs.YtcdnfkoahajhhaaW.PrintWords Go.Proofs.YtcdnfkoahajhhaaW.PrintLast
def Wf3 (x : Int) : Prop := (Lit.int .i64 x).wf = true
def Wf181 (x : S181) : Prop := ((Lit.int .i64 x.f0).wf = true) ∧ ((Lit.int .i64 x.f1).wf = true) ∧ (x.f2.size ≤ 140737488351232)
def Wf56 (x : S56) : Prop := ((Lit.int .i64 x.f0).wf = true) ∧ (x.f1.size ≤ 140737488351232)
def Wf44 (x : S44) : Prop := ((Lit.int .i64 x.f0).wf = true) ∧ ((Lit.int .i64 x.f1).wf = true) ∧ ((Lit.int .i64 x.f2).wf = true) ∧ (x.f3.size ≤ 140737488351232) ∧ ((x.f4.length * 32 ≤ 140737488351232 ∧ ∀ y_ ∈ x.f4, Wf181 y_)) ∧ ((x.f5.length * 24 ≤ 140737488351232 ∧ ∀ y_ ∈ x.f5, Wf56 y_))
def Wf35 (x : S35) : Prop := (x.f0.size ≤ 140737488351232) ∧ (True) ∧ (x.f2.size ≤ 140737488351232)
def laws_FnExactFits.Law : Prop := ∀ (a0_0 : Int) (l0_1 : List (Int)) (l0_2 : List (S44)) (l1_0 : List (S35)), ((Lit.int .i64 a0_0).wf = true) → ((l0_1.length * 8 ≤ 140737488351232 ∧ ∀ y_ ∈ l0_1, Wf3 y_)) → ((l0_2.length * 88 ≤ 140737488351232 ∧ ∀ y_ ∈ l0_2, Wf44 y_)) → ((l1_0.length * 40 ≤ 140737488351232 ∧ ∀ y_ ∈ l1_0, Wf35 y_)) → ∃ k, laws_FnExactFits.f k a0_0 l0_1 l0_2 l1_0 = some true
end Go.Proofs.Ytcdnfkoahajhhaa.PFnExactFits
