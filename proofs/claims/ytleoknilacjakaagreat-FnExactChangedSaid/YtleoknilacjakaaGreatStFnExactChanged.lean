/- The pure statement of FnExactChanged, over the Lean function that its printed walk comes to: for all arguments within the row's own bounds it answers true. It holds no proof. -/
import Derived.Test.YtleoknilacjakaaGreatPFnExactChangedx28
namespace Go.Proofs.YtleoknilacjakaaGreat.PFnExactChanged
open Go.RowKit Go.Proofs.YtleoknilacjakaaGreatW.PrintWords Go.Proofs.YtleoknilacjakaaGreatW.PrintLast
def Wf3 (x : Int) : Prop := (Lit.int .i64 x).wf = true
def Wf107 (x : S107) : Prop := ((Lit.int .i64 x.f0).wf = true) ∧ ((Lit.int .i64 x.f1).wf = true) ∧ (x.f2.size ≤ 140737488351232)
def Wf109 (x : S109) : Prop := ((Lit.int .i64 x.f0).wf = true) ∧ (x.f1.size ≤ 140737488351232)
def Wf62 (x : S62) : Prop := ((Lit.int .i64 x.f0).wf = true) ∧ ((Lit.int .i64 x.f1).wf = true) ∧ ((Lit.int .i64 x.f2).wf = true) ∧ (x.f3.size ≤ 140737488351232) ∧ ((x.f4.length * 32 ≤ 140737488351232 ∧ ∀ y_ ∈ x.f4, Wf107 y_)) ∧ ((x.f5.length * 24 ≤ 140737488351232 ∧ ∀ y_ ∈ x.f5, Wf109 y_))
def laws_FnExactChanged.Law : Prop := ∀ (a0_0 : Int) (a0_1 : Int) (a0_2 : Int) (a0_3 : Int) (a1 : Int) (a2_0 : Int) (l2_1 : List (Int)) (l2_2 : List (S62)) (a3_0 : Int) (l3_1 : List (Int)) (l3_2 : List (S62)), ((Lit.int .i64 a0_0).wf = true) → ((Lit.int .i64 a0_1).wf = true) → ((Lit.int .i64 a0_2).wf = true) → ((Lit.int .i64 a0_3).wf = true) → ((Lit.int .i64 a1).wf = true) → ((Lit.int .i64 a2_0).wf = true) → ((l2_1.length * 8 ≤ 140737488351232 ∧ ∀ y_ ∈ l2_1, Wf3 y_)) → ((l2_2.length * 88 ≤ 140737488351232 ∧ ∀ y_ ∈ l2_2, Wf62 y_)) → ((Lit.int .i64 a3_0).wf = true) → ((l3_1.length * 8 ≤ 140737488351232 ∧ ∀ y_ ∈ l3_1, Wf3 y_)) → ((l3_2.length * 88 ≤ 140737488351232 ∧ ∀ y_ ∈ l3_2, Wf62 y_)) → ∃ k, laws_FnExactChanged.f k a0_0 a0_1 a0_2 a0_3 a1 a2_0 l2_1 l2_2 a3_0 l3_1 l3_2 = some true
end Go.Proofs.YtleoknilacjakaaGreat.PFnExactChanged
