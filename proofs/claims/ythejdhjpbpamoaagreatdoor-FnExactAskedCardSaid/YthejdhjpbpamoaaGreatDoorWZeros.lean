
import Derived.Test.YthejdhjpbpamoaaGreatDoorWApart
import Derived.Test.YthejdhjpbpamoaaGreatDoorWArr
namespace Go.Proofs.YthejdhjpbpamoaaGreatDoorW.jk
open Go.RowKit
section
variable {P:Program}
end
namespace Kd
section
variable {P:Program} {ops:Array Oper} {rest:List Oper} {o:Oper} {a:Act} {Q:Exit→Act→World→Prop} {Kc:Act→World→Prop} {α:Type}
end
def aCH {α:Type} (f:Nat→Nat) (d:Kd α):Kd (α × Option Nat) where
  sz:=d.sz
  E:=d.E
  K:=fun w x cs=>d.K w x.1 cs
  M:=fun w base ok x cs=>d.M w base (fun k=>ok k∧some (f k)=x.2) x.1 cs
  qg:=fun h=>d.qg h
  o_:=fun h=>d.o_ h
  qY:=fun hb h=>d.qY hb h
  mV:=fun h=>d.mV h
  lS:=fun hok h=>d.lS (fun k hk=>⟨hok k hk.1,hk.2⟩) h
  pq:=fun h=>d.lS (fun _ hk=>⟨⟨hk.1.1,hk.2⟩,hk.1.2⟩) (d.pq h)
  oU:=fun hm h=>d.oU (fun k hk=>hm k hk.1) h
  qZ:=fun hb h=>d.qZ hb h
section
variable {α:Type} {d:Kd α} {e:Nat} {w:World} {base:Nat} {ok:Nat→Prop} {v:Value} {xs:List α}
def aE3 (xs:List α) (z:α) (m:Nat):List (α × Option Nat):=xs.zipIdx.map (fun p=>(p.1,some p.2))++List.replicate m (z,none)
end
section
variable {P:Program} {ops:Array Oper} {rest:List Oper} {o:Oper} {a:Act} {Q:Exit→Act→World→Prop} {Kc:Act→World→Prop} {α:Type}
end
end Kd
end Go.Proofs.YthejdhjpbpamoaaGreatDoorW.jk
