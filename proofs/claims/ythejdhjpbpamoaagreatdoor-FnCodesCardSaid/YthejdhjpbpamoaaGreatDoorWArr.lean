
import Derived.Test.YthejdhjpbpamoaaGreatDoorWWords
namespace Go.Proofs.YthejdhjpbpamoaaGreatDoorW.iw
open Go.RowKit
namespace Kd
theorem ake {α:Type} {R:α→List Value→Prop} {size:Nat} {ps:List α} {cs:List Value} (h:bD R size ps cs) (hs0:0 < size) (hR:∀ p c,R p c→∀ u ∈ c,u.oneCell'=true):∀ u ∈ cs,u.oneCell'=true:=by
  intro u hu
  obtain ⟨q,hq,rfl⟩:=List.mem_iff_getElem.1 hu
  have Ju:q / size < ps.length:=by
    rw [Nat.div_lt_iff_lt_mul hs0,← h.1]
    exact hq
  refine hR _ _ (h.2 (q / size) _ (List.getElem?_eq_getElem Ju)) _ ?_
  rw [List.mem_iff_getElem?]
  refine ⟨q % size,?_⟩
  rw [List.getElem?_take,if_pos (Nat.mod_lt _ hs0),List.getElem?_drop,Nat.mul_comm,Nat.div_add_mod,List.getElem?_eq_getElem hq]
def arr {α:Type} (n:Nat) (d:Kd α) (hs:0 < d.sz):Kd (List α) where
  sz:=n * d.sz
  E:=d.E
  K:=fun w xs cs=>xs.length=n∧bD (d.K w) d.sz xs cs
  M:=fun w base ok xs cs=>xs.length=n∧bD (d.M w base ok) d.sz xs cs
  nV:=fun h=>by rw [← h.1];exact h.2.1
  nD:=fun h=>ake h.2 hs (fun _ _ hk=>d.nD hk)
  pK:=fun hb h=>⟨h.1,h.2.oU (fun _ _ hk=>d.pK hb hk)⟩
  lM:=fun h=>⟨h.1,h.2.oU (fun _ _ hk=>d.lM hk)⟩
  kS:=fun hok h=>⟨h.1,h.2.oU (fun _ _ hk=>d.kS hok hk)⟩
  nG:=fun h=>⟨h.1,h.2.oU (fun _ _ hk=>d.nG hk)⟩
  mX:=fun hm h=>⟨h.1,h.2.oU (fun _ _ hk=>d.mX hm hk)⟩
  pO:=fun hb h=>⟨h.1,h.2.oU (fun _ _ hk=>d.pO hb hk)⟩
section
variable {α:Type} {n:Nat} {d:Kd α} {hs:0 < d.sz} {w:World} {base:Nat} {ok:Nat→Prop} {xs:List α} {cs:List Value}
end
section
variable {α:Type} {n:Nat} {enc:α→Value} {h1:∀ x,(enc x).oneCell'=true} {hs:0 < (scalar enc h1).sz} {w:World} {base:Nat} {ok:Nat→Prop} {xs:List α} {cs:List Value}
end
end Kd
end Go.Proofs.YthejdhjpbpamoaaGreatDoorW.iw
