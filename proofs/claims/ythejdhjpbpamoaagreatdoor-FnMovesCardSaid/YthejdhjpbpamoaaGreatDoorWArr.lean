
import Derived.Test.YthejdhjpbpamoaaGreatDoorWWords
namespace Go.Proofs.YthejdhjpbpamoaaGreatDoorW.iK
open Go.RowKit
namespace Kd
theorem acf {α:Type} {R:α→List Value→Prop} {size:Nat} {ps:List α} {cs:List Value} (h:bM R size ps cs) (hs0:0 < size) (hR:∀ p c,R p c→∀ u ∈ c,u.oneCell'=true):∀ u ∈ cs,u.oneCell'=true:=by
  intro u hu
  obtain ⟨q,hq,rfl⟩:=List.mem_iff_getElem.1 hu
  have Hr:q / size < ps.length:=by
    rw [Nat.div_lt_iff_lt_mul hs0,← h.1]
    exact hq
  refine hR _ _ (h.2 (q / size) _ (List.getElem?_eq_getElem Hr)) _ ?_
  rw [List.mem_iff_getElem?]
  refine ⟨q % size,?_⟩
  rw [List.getElem?_take,if_pos (Nat.mod_lt _ hs0),List.getElem?_drop,Nat.mul_comm,Nat.div_add_mod,List.getElem?_eq_getElem hq]
def arr {α:Type} (n:Nat) (d:Kd α) (hs:0 < d.sz):Kd (List α) where
  sz:=n * d.sz
  E:=d.E
  K:=fun w xs cs=>xs.length=n∧bM (d.K w) d.sz xs cs
  M:=fun w base ok xs cs=>xs.length=n∧bM (d.M w base ok) d.sz xs cs
  nY:=fun h=>by rw [← h.1];exact h.2.1
  nI:=fun h=>acf h.2 hs (fun _ _ hk=>d.nI hk)
  oQ:=fun hb h=>⟨h.1,h.2.oL (fun _ _ hk=>d.oQ hb hk)⟩
  lJ:=fun h=>⟨h.1,h.2.oL (fun _ _ hk=>d.lJ hk)⟩
  kR:=fun hok h=>⟨h.1,h.2.oL (fun _ _ hk=>d.kR hok hk)⟩
  nJ:=fun h=>⟨h.1,h.2.oL (fun _ _ hk=>d.nJ hk)⟩
  ni:=fun hm h=>⟨h.1,h.2.oL (fun _ _ hk=>d.ni hm hk)⟩
  oU:=fun hb h=>⟨h.1,h.2.oL (fun _ _ hk=>d.oU hb hk)⟩
section
variable {α:Type} {n:Nat} {d:Kd α} {hs:0 < d.sz} {w:World} {base:Nat} {ok:Nat→Prop} {xs:List α} {cs:List Value}
end
section
variable {α:Type} {n:Nat} {enc:α→Value} {h1:∀ x,(enc x).oneCell'=true} {hs:0 < (scalar enc h1).sz} {w:World} {base:Nat} {ok:Nat→Prop} {xs:List α} {cs:List Value}
end
end Kd
end Go.Proofs.YthejdhjpbpamoaaGreatDoorW.iK
