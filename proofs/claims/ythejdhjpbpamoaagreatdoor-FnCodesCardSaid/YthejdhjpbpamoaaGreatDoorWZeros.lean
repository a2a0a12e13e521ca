
import Derived.Test.YthejdhjpbpamoaaGreatDoorWApart
import Derived.Test.YthejdhjpbpamoaaGreatDoorWArr
namespace Go.Proofs.YthejdhjpbpamoaaGreatDoorW.iw
open Go.RowKit
section
variable {P:Program}
end
namespace Kd
section
variable {P:Program} {ops:Array Oper} {rest:List Oper} {o:Oper} {a:Act} {Q:Exit→Act→World→Prop} {Kc:Act→World→Prop} {α:Type}
end
def ayY {α:Type} (f:Nat→Nat) (d:Kd α):Kd (α × Option Nat) where
  sz:=d.sz
  E:=d.E
  K:=fun w x cs=>d.K w x.1 cs
  M:=fun w base ok x cs=>d.M w base (fun k=>ok k∧some (f k)=x.2) x.1 cs
  nV:=fun h=>d.nV h
  nD:=fun h=>d.nD h
  pK:=fun hb h=>d.pK hb h
  lM:=fun h=>d.lM h
  kS:=fun hok h=>d.kS (fun k hk=>⟨hok k hk.1,hk.2⟩) h
  nG:=fun h=>d.kS (fun _ hk=>⟨⟨hk.1.1,hk.2⟩,hk.1.2⟩) (d.nG h)
  mX:=fun hm h=>d.mX (fun k hk=>hm k hk.1) h
  pO:=fun hb h=>d.pO hb h
section
variable {α:Type} {d:Kd α} {e:Nat} {w:World} {base:Nat} {ok:Nat→Prop} {v:Value} {xs:List α}
def aBD (xs:List α) (z:α) (m:Nat):List (α × Option Nat):=xs.zipIdx.map (fun p=>(p.1,some p.2))++List.replicate m (z,none)
end
section
variable {P:Program} {ops:Array Oper} {rest:List Oper} {o:Oper} {a:Act} {Q:Exit→Act→World→Prop} {Kc:Act→World→Prop} {α:Type}
end
end Kd
end Go.Proofs.YthejdhjpbpamoaaGreatDoorW.iw
