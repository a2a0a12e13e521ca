/- The pure statement of FnExactFindInode, over the Lean function that its printed walk comes to: for all arguments within the row's own bounds it answers true. It holds no proof. -/
import Derived.Test.YtabgpbmaoelohaaDoorPFnExactFindInodex10
namespace Go.Proofs.YtabgpbmaoelohaaDoor.PFnExactFindInode
open Go.RowKit Go.Proofs.YtabgpbmaoelohaaDoorW.PrintWords Go.Proofs.YtabgpbmaoelohaaDoorW.PrintLast
def Wf3 (x : Int) : Prop := (Lit.int .i64 x).wf = true
def Wf146 (x : S146) : Prop := ((Lit.int .i64 x.f0).wf = true) ∧ ((Lit.int .i64 x.f1).wf = true) ∧ (x.f2.size ≤ 140737488351232)
def Wf148 (x : S148) : Prop := ((Lit.int .i64 x.f0).wf = true) ∧ (x.f1.size ≤ 140737488351232)
def Wf112 (x : S112) : Prop := ((Lit.int .i64 x.f0).wf = true) ∧ ((Lit.int .i64 x.f1).wf = true) ∧ ((Lit.int .i64 x.f2).wf = true) ∧ (x.f3.size ≤ 140737488351232) ∧ ((x.f4.length * 32 ≤ 140737488351232 ∧ ∀ y_ ∈ x.f4, Wf146 y_)) ∧ ((x.f5.length * 24 ≤ 140737488351232 ∧ ∀ y_ ∈ x.f5, Wf148 y_))
def laws_FnExactFindInode.Law : Prop := ∀ (a0_0 : Int) (l0_1 : List (Int)) (l0_2 : List (S112)) (a1 : ByteArray), ((Lit.int .i64 a0_0).wf = true) → ((l0_1.length * 8 ≤ 140737488351232 ∧ ∀ y_ ∈ l0_1, Wf3 y_)) → ((l0_2.length * 88 ≤ 140737488351232 ∧ ∀ y_ ∈ l0_2, Wf112 y_)) → (a1.size ≤ 140737488351232) → ∃ k, laws_FnExactFindInode.f k a0_0 l0_1 l0_2 a1 = some true
end Go.Proofs.YtabgpbmaoelohaaDoor.PFnExactFindInode
