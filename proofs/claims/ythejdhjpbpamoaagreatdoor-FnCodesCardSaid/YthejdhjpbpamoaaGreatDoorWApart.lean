
import Derived.Test.YthejdhjpbpamoaaGreatDoorWWords
import Derived.Test.YthejdhjpbpamoaaGreatDoorWLast
namespace Go.Proofs.YthejdhjpbpamoaaGreatDoorW.iw
open Go.RowKit
namespace Kd
def tag {α:Type} (f:Nat→Nat) (d:Kd α):Kd (α × Nat) where
  sz:=d.sz
  E:=d.E
  K:=fun w x cs=>d.K w x.1 cs
  M:=fun w base ok x cs=>d.M w base (fun k=>ok k∧f k=x.2) x.1 cs
  nV:=fun h=>d.nV h
  nD:=fun h=>d.nD h
  pK:=fun hb h=>d.pK hb h
  lM:=fun h=>d.lM h
  kS:=fun hok h=>d.kS (fun k hk=>⟨hok k hk.1,hk.2⟩) h
  nG:=fun h=>d.kS (fun _ hk=>⟨⟨hk.1.1,hk.2⟩,hk.1.2⟩) (d.nG h)
  mX:=fun hm h=>d.mX (fun k hk=>hm k hk.1) h
  pO:=fun hb h=>d.pO hb h
def bare {α:Type} (d:Kd α):Kd α where
  sz:=d.sz
  E:=d.E
  K:=d.K
  M:=fun w base _ x cs=>d.M w base (fun _=>False) x cs
  nV:=fun h=>d.nV h
  nD:=fun h=>d.nD h
  pK:=fun hb h=>d.pK hb h
  lM:=fun h=>d.lM h
  kS:=fun _ h=>h
  nG:=fun h=>h
  mX:=fun _ h=>d.mX (fun _ hk=>hk.elim) h
  pO:=fun hb h=>d.pO hb h
def raw (sz:Nat):Kd (List Value) where
  sz:=sz
  E:=[]
  K:=fun _ x cs=>cs=x∧cs.length=sz∧∀ u ∈ cs,u.oneCell'=true
  M:=fun _ _ _ x cs=>cs=x∧cs.length=sz∧∀ u ∈ cs,u.oneCell'=true
  nV:=fun h=>h.2.1
  nD:=fun h=>h.2.2
  pK:=fun _ h=>h
  lM:=fun h=>h
  kS:=fun _ h=>h
  nG:=fun h=>h
  mX:=fun _ h=>h
  pO:=fun _ h=>h
def S {α:Type} (d:Kd α) (e:Nat) (w:World) (base:Nat) (ok:Nat→Prop) (v:Value) (xs:List α):Prop:=∃ f,(tag f d).R e w base ok v xs.zipIdx
section
variable {α β:Type} {d:Kd α} {d':Kd β} {e e':Nat} {w w1 W:World} {base b:Nat} {ok ok' Zx Zw:Nat→Prop} {u v:Value} {xs:List α} {ys:List β}
theorem tV (hE:d.E=[]) (h:d.R e w base ok v xs):d.R e w base (fun k=>some k=v.ownBlock) v xs:=by
  obtain ⟨h0,inner,ho,hr⟩:=h
  refine ⟨fun k hk=>hk.symm,inner,ho,hr.oU (fun p c hp=>d.kS (fun k hk=>?_) (d.nG hp))⟩
  obtain ⟨_,_,_,q,hq,_⟩:=hk
  rw [hE] at hq
  cases hq
theorem abY (d:Kd α) (e:Nat) (w:World) (base:Nat) (ok:Nat→Prop):S d e w base ok (.slice none 0 0) []:=⟨fun _=>0,IC _ _ _ _ _⟩
end
section
variable {α β:Type} {d:Kd α} {d':Kd β} {e e' g:Nat} {w w1 W:World} {base b:Nat} {ok ok' Zx Zw:Nat→Prop} {u v:Value} {xs:List α} {ys:List β}
end
section
variable {P:Program} {ops:Array Oper} {rest:List Oper} {o:Oper} {a:Act} {Q:Exit→Act→World→Prop} {Kc:Act→World→Prop} {α:Type}
end
def gap {α:Type} (f:Nat→Nat) (d:Kd α) (i:Nat) (c:List Value):Kd (α × Nat) where
  sz:=d.sz
  E:=d.E
  K:=fun w x cs=>(x.2=i→cs=c∧cs.length=d.sz∧∀ u ∈ cs,u.oneCell'=true)∧(x.2≠i→d.K w x.1 cs)
  M:=fun w base ok x cs=>(x.2=i→cs=c∧cs.length=d.sz∧∀ u ∈ cs,u.oneCell'=true)∧(x.2≠i→d.M w base (fun k=>ok k∧f k=x.2) x.1 cs)
  nV:=fun {w x cs} h=>by
    by_cases hx:x.2=i
    · exact (h.1 hx).2.1
    · exact d.nV (h.2 hx)
  nD:=fun {w x cs} h=>by
    by_cases hx:x.2=i
    · exact (h.1 hx).2.2
    · exact d.nD (h.2 hx)
  pK:=fun hb h=>⟨h.1,fun hx=>d.pK hb (h.2 hx)⟩
  lM:=fun h=>⟨h.1,fun hx=>d.lM (h.2 hx)⟩
  kS:=fun hok h=>⟨h.1,fun hx=>d.kS (fun k hk=>⟨hok k hk.1,hk.2⟩) (h.2 hx)⟩
  nG:=fun h=>⟨h.1,fun hx=>d.kS (fun _ hk=>⟨⟨hk.1.1,hk.2⟩,hk.1.2⟩) (d.nG (h.2 hx))⟩
  mX:=fun hm h=>⟨h.1,fun hx=>d.mX (fun k hk=>hm k hk.1) (h.2 hx)⟩
  pO:=fun hb h=>⟨h.1,fun hx=>d.pO hb (h.2 hx)⟩
def H {α:Type} (d:Kd α) (e:Nat) (w:World) (base:Nat) (ok:Nat→Prop) (v:Value) (xs:List α) (i:Int) (JQ:Nat→Prop) (c:List Value):Prop :=
  (∀ k,JQ k→ok k)∧∃ f,(gap f d i.toNat c).R e w base (fun k=>ok k∧¬ JQ k) v xs.zipIdx
section
variable {α β:Type} {d:Kd α} {e e' g n cap:Nat} {w w1 W:World} {base:Nat} {ok ok' JQ iJ:Nat→Prop} {u v:Value} {xs:List α} {i:Int} {c:List Value}
end
section
variable {P:Program} {ops:Array Oper} {rest:List Oper} {o:Oper} {a:Act} {Q:Exit→Act→World→Prop} {α:Type}
end
end Kd
end Go.Proofs.YthejdhjpbpamoaaGreatDoorW.iw
