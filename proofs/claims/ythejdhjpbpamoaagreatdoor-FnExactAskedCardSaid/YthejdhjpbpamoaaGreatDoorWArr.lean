
import Derived.Test.YthejdhjpbpamoaaGreatDoorWWords
namespace Go.Proofs.YthejdhjpbpamoaaGreatDoorW.jk
open Go.RowKit
namespace Kd
theorem anv {α:Type} {R:α→List Value→Prop} {size:Nat} {ps:List α} {cs:List Value} (h:gu R size ps cs) (hs0:0 < size) (hR:∀ p c,R p c→∀ u ∈ c,u.oneCell'=true):∀ u ∈ cs,u.oneCell'=true:=by
  intro u hu
  obtain ⟨q,hq,rfl⟩:=List.mem_iff_getElem.1 hu
  have LM:q / size < ps.length:=by
    rw [Nat.div_lt_iff_lt_mul hs0,← h.1]
    exact hq
  refine hR _ _ (h.2 (q / size) _ (List.getElem?_eq_getElem LM)) _ ?_
  rw [List.mem_iff_getElem?]
  refine ⟨q % size,?_⟩
  rw [List.getElem?_take,if_pos (Nat.mod_lt _ hs0),List.getElem?_drop,Nat.mul_comm,Nat.div_add_mod,List.getElem?_eq_getElem hq]
def arr {α:Type} (n:Nat) (d:Kd α) (hs:0 < d.sz):Kd (List α) where
  sz:=n * d.sz
  E:=d.E
  K:=fun w xs cs=>xs.length=n∧gu (d.K w) d.sz xs cs
  M:=fun w base ok xs cs=>xs.length=n∧gu (d.M w base ok) d.sz xs cs
  qg:=fun h=>by rw [← h.1];exact h.2.1
  o_:=fun h=>anv h.2 hs (fun _ _ hk=>d.o_ hk)
  qY:=fun hb h=>⟨h.1,h.2.qM (fun _ _ hk=>d.qY hb hk)⟩
  mV:=fun h=>⟨h.1,h.2.qM (fun _ _ hk=>d.mV hk)⟩
  lS:=fun hok h=>⟨h.1,h.2.qM (fun _ _ hk=>d.lS hok hk)⟩
  pq:=fun h=>⟨h.1,h.2.qM (fun _ _ hk=>d.pq hk)⟩
  oU:=fun hm h=>⟨h.1,h.2.qM (fun _ _ hk=>d.oU hm hk)⟩
  qZ:=fun hb h=>⟨h.1,h.2.qM (fun _ _ hk=>d.qZ hb hk)⟩
section
variable {α:Type} {n:Nat} {d:Kd α} {hs:0 < d.sz} {w:World} {base:Nat} {ok:Nat→Prop} {xs:List α} {cs:List Value}
end
section
variable {α:Type} {n:Nat} {enc:α→Value} {h1:∀ x,(enc x).oneCell'=true} {hs:0 < (scalar enc h1).sz} {w:World} {base:Nat} {ok:Nat→Prop} {xs:List α} {cs:List Value}
end
end Kd
end Go.Proofs.YthejdhjpbpamoaaGreatDoorW.jk
