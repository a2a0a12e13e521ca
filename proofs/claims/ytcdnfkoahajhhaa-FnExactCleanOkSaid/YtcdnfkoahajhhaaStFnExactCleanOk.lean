/- The pure statement of FnExactCleanOk, over the Lean function that its printed walk comes to: for all arguments within the row's own bounds it answers true. It holds no proof. -/
import Derived.Test.YtcdnfkoahajhhaaPFnExactCleanOkx16
namespace Go.Proofs.Ytcdnfkoahajhhaa.PFnExactCleanOk
open Go.RowKit Go.Proofs.YtcdnfkoahajhhaaW.PrintWords Go.Proofs.YtcdnfkoahajhhaaW.PrintLast
def Wf204 (x : S204) : Prop := ((Lit.int .i64 x.f0).wf = true) ∧ (x.f1.size ≤ 140737488351232) ∧ (True)
def Wf3 (x : Int) : Prop := (Lit.int .i64 x).wf = true
def Wf181 (x : S181) : Prop := ((Lit.int .i64 x.f0).wf = true) ∧ ((Lit.int .i64 x.f1).wf = true) ∧ (x.f2.size ≤ 140737488351232)
def Wf56 (x : S56) : Prop := ((Lit.int .i64 x.f0).wf = true) ∧ (x.f1.size ≤ 140737488351232)
def Wf44 (x : S44) : Prop := ((Lit.int .i64 x.f0).wf = true) ∧ ((Lit.int .i64 x.f1).wf = true) ∧ ((Lit.int .i64 x.f2).wf = true) ∧ (x.f3.size ≤ 140737488351232) ∧ ((x.f4.length * 32 ≤ 140737488351232 ∧ ∀ y_ ∈ x.f4, Wf181 y_)) ∧ ((x.f5.length * 24 ≤ 140737488351232 ∧ ∀ y_ ∈ x.f5, Wf56 y_))
def laws_FnExactCleanOk.Law : Prop := ∀ (a0_0 : ByteArray) (l0_1 : List (S204)) (a1_0 : Int) (a1_1 : Int) (a1_2 : Int) (a1_3 : Int) (a2 : Int) (a3_0 : Int) (l3_1 : List (Int)) (l3_2 : List (S44)), (a0_0.size ≤ 140737488351232) → ((l0_1.length * 32 ≤ 140737488351232 ∧ ∀ y_ ∈ l0_1, Wf204 y_)) → ((Lit.int .i64 a1_0).wf = true) → ((Lit.int .i64 a1_1).wf = true) → ((Lit.int .i64 a1_2).wf = true) → ((Lit.int .i64 a1_3).wf = true) → ((Lit.int .i64 a2).wf = true) → ((Lit.int .i64 a3_0).wf = true) → ((l3_1.length * 8 ≤ 140737488351232 ∧ ∀ y_ ∈ l3_1, Wf3 y_)) → ((l3_2.length * 88 ≤ 140737488351232 ∧ ∀ y_ ∈ l3_2, Wf44 y_)) → ∃ k, laws_FnExactCleanOk.f k a0_0 l0_1 a1_0 a1_1 a1_2 a1_3 a2 a3_0 l3_1 l3_2 = some true
end Go.Proofs.Ytcdnfkoahajhhaa.PFnExactCleanOk
