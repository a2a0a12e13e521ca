
import Derived.Test.YthejdhjpbpamoaaGreatDoorWWords
namespace Go.Proofs.YthejdhjpbpamoaaGreatDoorW.iK
theorem bM.one {α:Type} {R:α→List Value→Prop} {ps:List α} {cs:List Value} {p:α} {v:Value} (hp:R p [v]) (h:bM R 1 ps cs):bM R 1 (p :: ps) (v :: cs):=by
  refine ⟨by simp [h.1],fun j q hq=>?_⟩
  cases j with
  | zero =>
    simp only [List.getElem?_cons_zero,Option.some.injEq] at hq
    subst hq
    simpa using hp
  | succ j =>
    simp only [List.getElem?_cons_succ] at hq
    have h1:=h.2 j q hq
    simpa [Nat.mul_one] using h1
theorem bM.front {α:Type} {R:α→List Value→Prop} {size:Nat} {ps:List α} {cs c all:List Value} {p:α} (hp:R p c) (hc:c.length=size) (h:bM R size ps cs) (ha:c++cs=all):bM R size (p :: ps) all:=by
  subst ha
  refine ⟨by rw [List.length_append,hc,h.1,List.length_cons,Nat.succ_mul,Nat.add_comm],fun j q hq=>?_⟩
  cases j with
  | zero =>
    simp only [List.getElem?_cons_zero,Option.some.injEq] at hq
    subst hq
    rw [Nat.zero_mul,List.drop_zero,List.take_append_of_le_length (by omega),List.take_of_length_le (by omega)]
    exact hp
  | succ j =>
    simp only [List.getElem?_cons_succ] at hq
    have h1:=h.2 j q hq
    rw [Nat.succ_mul,List.drop_append,List.drop_of_length_le (by rw [hc];exact Nat.le_add_left _ _),List.nil_append,hc,Nat.add_sub_cancel]
    exact h1
theorem bM.c2 {α:Type} {R:α→List Value→Prop} {ps:List α} {cs:List Value} {p:α} {va vb:Value} (hp:R p [va,vb]) (h:bM R 2 ps cs):bM R 2 (p :: ps) (va :: vb :: cs):=bM.front hp rfl h rfl
theorem bM.c3 {α:Type} {R:α→List Value→Prop} {ps:List α} {cs:List Value} {p:α} {va vb vc:Value} (hp:R p [va,vb,vc]) (h:bM R 3 ps cs):bM R 3 (p :: ps) (va :: vb :: vc :: cs):=bM.front hp rfl h rfl
theorem bM.c4 {α:Type} {R:α→List Value→Prop} {ps:List α} {cs:List Value} {p:α} {va vb vc vd:Value} (hp:R p [va,vb,vc,vd]) (h:bM R 4 ps cs):bM R 4 (p :: ps) (va :: vb :: vc :: vd :: cs):=bM.front hp rfl h rfl
theorem bM.c5 {α:Type} {R:α→List Value→Prop} {ps:List α} {cs:List Value} {p:α} {va vb vc vd ve:Value} (hp:R p [va,vb,vc,vd,ve]) (h:bM R 5 ps cs):bM R 5 (p :: ps) (va :: vb :: vc :: vd :: ve :: cs):=bM.front hp rfl h rfl
theorem bM.c6 {α:Type} {R:α→List Value→Prop} {ps:List α} {cs:List Value} {p:α} {va vb vc vd ve vf:Value} (hp:R p [va,vb,vc,vd,ve,vf]) (h:bM R 6 ps cs):bM R 6 (p :: ps) (va :: vb :: vc :: vd :: ve :: vf :: cs):=bM.front hp rfl h rfl
theorem bM.c7 {α:Type} {R:α→List Value→Prop} {ps:List α} {cs:List Value} {p:α} {va vb vc vd ve vf BQ:Value} (hp:R p [va,vb,vc,vd,ve,vf,BQ]) (h:bM R 7 ps cs):bM R 7 (p :: ps) (va :: vb :: vc :: vd :: ve :: vf :: BQ :: cs):=bM.front hp rfl h rfl
theorem bM.c8 {α:Type} {R:α→List Value→Prop} {ps:List α} {cs:List Value} {p:α} {va vb vc vd ve vf BQ vh:Value} (hp:R p [va,vb,vc,vd,ve,vf,BQ,vh]) (h:bM R 8 ps cs):bM R 8 (p :: ps) (va :: vb :: vc :: vd :: ve :: vf :: BQ :: vh :: cs):=bM.front hp rfl h rfl
theorem bM.c9 {α:Type} {R:α→List Value→Prop} {ps:List α} {cs:List Value} {p:α} {va vb vc vd ve vf BQ vh vi:Value} (hp:R p [va,vb,vc,vd,ve,vf,BQ,vh,vi]) (h:bM R 9 ps cs):bM R 9 (p :: ps) (va :: vb :: vc :: vd :: ve :: vf :: BQ :: vh :: vi :: cs):=bM.front hp rfl h rfl
end Go.Proofs.YthejdhjpbpamoaaGreatDoorW.iK
