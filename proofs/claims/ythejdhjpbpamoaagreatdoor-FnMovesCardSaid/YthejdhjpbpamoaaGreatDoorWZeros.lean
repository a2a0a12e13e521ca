
import Derived.Test.YthejdhjpbpamoaaGreatDoorWApart
import Derived.Test.YthejdhjpbpamoaaGreatDoorWArr
namespace Go.Proofs.YthejdhjpbpamoaaGreatDoorW.iK
open Go.RowKit
section
variable {P:Program}
end
namespace Kd
section
variable {P:Program} {ops:Array Oper} {rest:List Oper} {o:Oper} {a:Act} {Q:Exit→Act→World→Prop} {Kc:Act→World→Prop} {α:Type}
end
def aio {α:Type} (f:Nat→Nat) (d:Kd α):Kd (α × Option Nat) where
  sz:=d.sz
  E:=d.E
  K:=fun w x cs=>d.K w x.1 cs
  M:=fun w base ok x cs=>d.M w base (fun k=>ok k∧some (f k)=x.2) x.1 cs
  nY:=fun h=>d.nY h
  nI:=fun h=>d.nI h
  oQ:=fun hb h=>d.oQ hb h
  lJ:=fun h=>d.lJ h
  kR:=fun hok h=>d.kR (fun k hk=>⟨hok k hk.1,hk.2⟩) h
  nJ:=fun h=>d.kR (fun _ hk=>⟨⟨hk.1.1,hk.2⟩,hk.1.2⟩) (d.nJ h)
  ni:=fun hm h=>d.ni (fun k hk=>hm k hk.1) h
  oU:=fun hb h=>d.oU hb h
section
variable {α:Type} {d:Kd α} {e:Nat} {w:World} {base:Nat} {ok:Nat→Prop} {v:Value} {xs:List α}
def ak5 (xs:List α) (z:α) (m:Nat):List (α × Option Nat):=xs.zipIdx.map (fun p=>(p.1,some p.2))++List.replicate m (z,none)
end
section
variable {P:Program} {ops:Array Oper} {rest:List Oper} {o:Oper} {a:Act} {Q:Exit→Act→World→Prop} {Kc:Act→World→Prop} {α:Type}
end
end Kd
end Go.Proofs.YthejdhjpbpamoaaGreatDoorW.iK
