/- The pure statement of FnExactPartOk, over the Lean function that its printed walk comes to: for all arguments within the row's own bounds it answers true. It holds no proof. -/
import Derived.Test.YtljnnmpfeningaaPFnExactPartOkx21
namespace Go.Proofs.Ytljnnmpfeningaa.PFnExactPartOk
open Go.RowKit Go.Proofs.YtljnnmpfeningaaW.PrintWords Go.Proofs.YtljnnmpfeningaaW.PrintLast
def Wf3 (x : Int) : Prop := (Lit.int .i64 x).wf = true
def Wf137 (x : S137) : Prop := ((Lit.int .i64 x.f0).wf = true) ∧ ((Lit.int .i64 x.f1).wf = true) ∧ (x.f2.size ≤ 140737488351232)
def Wf139 (x : S139) : Prop := ((Lit.int .i64 x.f0).wf = true) ∧ (x.f1.size ≤ 140737488351232)
def Wf93 (x : S93) : Prop := ((Lit.int .i64 x.f0).wf = true) ∧ ((Lit.int .i64 x.f1).wf = true) ∧ ((Lit.int .i64 x.f2).wf = true) ∧ (x.f3.size ≤ 140737488351232) ∧ ((x.f4.length * 32 ≤ 140737488351232 ∧ ∀ y_ ∈ x.f4, Wf137 y_)) ∧ ((x.f5.length * 24 ≤ 140737488351232 ∧ ∀ y_ ∈ x.f5, Wf139 y_))
def laws_FnExactPartOk.Law : Prop := ∀ (a0_0 : Int) (a0_1 : Int) (a0_2 : Int) (a0_3 : Int) (a1_0 : Int) (l1_1 : List (Int)) (l1_2 : List (S93)), ((Lit.int .i64 a0_0).wf = true) → ((Lit.int .i64 a0_1).wf = true) → ((Lit.int .i64 a0_2).wf = true) → ((Lit.int .i64 a0_3).wf = true) → ((Lit.int .i64 a1_0).wf = true) → ((l1_1.length * 8 ≤ 140737488351232 ∧ ∀ y_ ∈ l1_1, Wf3 y_)) → ((l1_2.length * 88 ≤ 140737488351232 ∧ ∀ y_ ∈ l1_2, Wf93 y_)) → ∃ k, laws_FnExactPartOk.f k a0_0 a0_1 a0_2 a0_3 a1_0 l1_1 l1_2 = some true
end Go.Proofs.Ytljnnmpfeningaa.PFnExactPartOk
