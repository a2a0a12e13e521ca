
import Derived.Test.YthejdhjpbpamoaaGreatDoorWWords
namespace Go.Proofs.YthejdhjpbpamoaaGreatDoorW.iw
theorem bD.one {α:Type} {R:α→List Value→Prop} {ps:List α} {cs:List Value} {p:α} {v:Value} (hp:R p [v]) (h:bD R 1 ps cs):bD R 1 (p :: ps) (v :: cs):=by
  refine ⟨by simp [h.1],fun j q hq=>?_⟩
  cases j with
  | zero =>
    simp only [List.getElem?_cons_zero,Option.some.injEq] at hq
    subst hq
    simpa using hp
  | succ j =>
    simp only [List.getElem?_cons_succ] at hq
    have h1:=h.2 j q hq
    simpa [Nat.mul_one] using h1
theorem bD.front {α:Type} {R:α→List Value→Prop} {size:Nat} {ps:List α} {cs c all:List Value} {p:α} (hp:R p c) (hc:c.length=size) (h:bD R size ps cs) (ha:c++cs=all):bD R size (p :: ps) all:=by
  subst ha
  refine ⟨by rw [List.length_append,hc,h.1,List.length_cons,Nat.succ_mul,Nat.add_comm],fun j q hq=>?_⟩
  cases j with
  | zero =>
    simp only [List.getElem?_cons_zero,Option.some.injEq] at hq
    subst hq
    rw [Nat.zero_mul,List.drop_zero,List.take_append_of_le_length (by omega),List.take_of_length_le (by omega)]
    exact hp
  | succ j =>
    simp only [List.getElem?_cons_succ] at hq
    have h1:=h.2 j q hq
    rw [Nat.succ_mul,List.drop_append,List.drop_of_length_le (by rw [hc];exact Nat.le_add_left _ _),List.nil_append,hc,Nat.add_sub_cancel]
    exact h1
theorem bD.c2 {α:Type} {R:α→List Value→Prop} {ps:List α} {cs:List Value} {p:α} {va vb:Value} (hp:R p [va,vb]) (h:bD R 2 ps cs):bD R 2 (p :: ps) (va :: vb :: cs):=bD.front hp rfl h rfl
theorem bD.c3 {α:Type} {R:α→List Value→Prop} {ps:List α} {cs:List Value} {p:α} {va vb vc:Value} (hp:R p [va,vb,vc]) (h:bD R 3 ps cs):bD R 3 (p :: ps) (va :: vb :: vc :: cs):=bD.front hp rfl h rfl
theorem bD.c4 {α:Type} {R:α→List Value→Prop} {ps:List α} {cs:List Value} {p:α} {va vb vc vd:Value} (hp:R p [va,vb,vc,vd]) (h:bD R 4 ps cs):bD R 4 (p :: ps) (va :: vb :: vc :: vd :: cs):=bD.front hp rfl h rfl
theorem bD.c5 {α:Type} {R:α→List Value→Prop} {ps:List α} {cs:List Value} {p:α} {va vb vc vd ve:Value} (hp:R p [va,vb,vc,vd,ve]) (h:bD R 5 ps cs):bD R 5 (p :: ps) (va :: vb :: vc :: vd :: ve :: cs):=bD.front hp rfl h rfl
theorem bD.c6 {α:Type} {R:α→List Value→Prop} {ps:List α} {cs:List Value} {p:α} {va vb vc vd ve vf:Value} (hp:R p [va,vb,vc,vd,ve,vf]) (h:bD R 6 ps cs):bD R 6 (p :: ps) (va :: vb :: vc :: vd :: ve :: vf :: cs):=bD.front hp rfl h rfl
theorem bD.c7 {α:Type} {R:α→List Value→Prop} {ps:List α} {cs:List Value} {p:α} {va vb vc vd ve vf Cc:Value} (hp:R p [va,vb,vc,vd,ve,vf,Cc]) (h:bD R 7 ps cs):bD R 7 (p :: ps) (va :: vb :: vc :: vd :: ve :: vf :: Cc :: cs):=bD.front hp rfl h rfl
theorem bD.c8 {α:Type} {R:α→List Value→Prop} {ps:List α} {cs:List Value} {p:α} {va vb vc vd ve vf Cc vh:Value} (hp:R p [va,vb,vc,vd,ve,vf,Cc,vh]) (h:bD R 8 ps cs):bD R 8 (p :: ps) (va :: vb :: vc :: vd :: ve :: vf :: Cc :: vh :: cs):=bD.front hp rfl h rfl
theorem bD.c9 {α:Type} {R:α→List Value→Prop} {ps:List α} {cs:List Value} {p:α} {va vb vc vd ve vf Cc vh vi:Value} (hp:R p [va,vb,vc,vd,ve,vf,Cc,vh,vi]) (h:bD R 9 ps cs):bD R 9 (p :: ps) (va :: vb :: vc :: vd :: ve :: vf :: Cc :: vh :: vi :: cs):=bD.front hp rfl h rfl
end Go.Proofs.YthejdhjpbpamoaaGreatDoorW.iw
