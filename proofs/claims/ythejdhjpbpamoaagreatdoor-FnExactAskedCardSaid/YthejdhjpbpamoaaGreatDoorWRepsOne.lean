
import Derived.Test.YthejdhjpbpamoaaGreatDoorWWords
namespace Go.Proofs.YthejdhjpbpamoaaGreatDoorW.jk
theorem gu.one {α:Type} {R:α→List Value→Prop} {ps:List α} {cs:List Value} {p:α} {v:Value} (hp:R p [v]) (h:gu R 1 ps cs):gu R 1 (p :: ps) (v :: cs):=by
  refine ⟨by simp [h.1],fun j q hq=>?_⟩
  cases j with
  | zero =>
    simp only [List.getElem?_cons_zero,Option.some.injEq] at hq
    subst hq
    simpa using hp
  | succ j =>
    simp only [List.getElem?_cons_succ] at hq
    have h1:=h.2 j q hq
    simpa [Nat.mul_one] using h1
theorem gu.front {α:Type} {R:α→List Value→Prop} {size:Nat} {ps:List α} {cs c all:List Value} {p:α} (hp:R p c) (hc:c.length=size) (h:gu R size ps cs) (ha:c++cs=all):gu R size (p :: ps) all:=by
  subst ha
  refine ⟨by rw [List.length_append,hc,h.1,List.length_cons,Nat.succ_mul,Nat.add_comm],fun j q hq=>?_⟩
  cases j with
  | zero =>
    simp only [List.getElem?_cons_zero,Option.some.injEq] at hq
    subst hq
    rw [Nat.zero_mul,List.drop_zero,List.take_append_of_le_length (by omega),List.take_of_length_le (by omega)]
    exact hp
  | succ j =>
    simp only [List.getElem?_cons_succ] at hq
    have h1:=h.2 j q hq
    rw [Nat.succ_mul,List.drop_append,List.drop_of_length_le (by rw [hc];exact Nat.le_add_left _ _),List.nil_append,hc,Nat.add_sub_cancel]
    exact h1
theorem gu.c2 {α:Type} {R:α→List Value→Prop} {ps:List α} {cs:List Value} {p:α} {va vb:Value} (hp:R p [va,vb]) (h:gu R 2 ps cs):gu R 2 (p :: ps) (va :: vb :: cs):=gu.front hp rfl h rfl
theorem gu.c3 {α:Type} {R:α→List Value→Prop} {ps:List α} {cs:List Value} {p:α} {va vb vc:Value} (hp:R p [va,vb,vc]) (h:gu R 3 ps cs):gu R 3 (p :: ps) (va :: vb :: vc :: cs):=gu.front hp rfl h rfl
theorem gu.c4 {α:Type} {R:α→List Value→Prop} {ps:List α} {cs:List Value} {p:α} {va vb vc vd:Value} (hp:R p [va,vb,vc,vd]) (h:gu R 4 ps cs):gu R 4 (p :: ps) (va :: vb :: vc :: vd :: cs):=gu.front hp rfl h rfl
theorem gu.c5 {α:Type} {R:α→List Value→Prop} {ps:List α} {cs:List Value} {p:α} {va vb vc vd ve:Value} (hp:R p [va,vb,vc,vd,ve]) (h:gu R 5 ps cs):gu R 5 (p :: ps) (va :: vb :: vc :: vd :: ve :: cs):=gu.front hp rfl h rfl
theorem gu.c6 {α:Type} {R:α→List Value→Prop} {ps:List α} {cs:List Value} {p:α} {va vb vc vd ve vf:Value} (hp:R p [va,vb,vc,vd,ve,vf]) (h:gu R 6 ps cs):gu R 6 (p :: ps) (va :: vb :: vc :: vd :: ve :: vf :: cs):=gu.front hp rfl h rfl
theorem gu.c7 {α:Type} {R:α→List Value→Prop} {ps:List α} {cs:List Value} {p:α} {va vb vc vd ve vf Eh:Value} (hp:R p [va,vb,vc,vd,ve,vf,Eh]) (h:gu R 7 ps cs):gu R 7 (p :: ps) (va :: vb :: vc :: vd :: ve :: vf :: Eh :: cs):=gu.front hp rfl h rfl
theorem gu.c8 {α:Type} {R:α→List Value→Prop} {ps:List α} {cs:List Value} {p:α} {va vb vc vd ve vf Eh vh:Value} (hp:R p [va,vb,vc,vd,ve,vf,Eh,vh]) (h:gu R 8 ps cs):gu R 8 (p :: ps) (va :: vb :: vc :: vd :: ve :: vf :: Eh :: vh :: cs):=gu.front hp rfl h rfl
theorem gu.c9 {α:Type} {R:α→List Value→Prop} {ps:List α} {cs:List Value} {p:α} {va vb vc vd ve vf Eh vh vi:Value} (hp:R p [va,vb,vc,vd,ve,vf,Eh,vh,vi]) (h:gu R 9 ps cs):gu R 9 (p :: ps) (va :: vb :: vc :: vd :: ve :: vf :: Eh :: vh :: vi :: cs):=gu.front hp rfl h rfl
end Go.Proofs.YthejdhjpbpamoaaGreatDoorW.jk
