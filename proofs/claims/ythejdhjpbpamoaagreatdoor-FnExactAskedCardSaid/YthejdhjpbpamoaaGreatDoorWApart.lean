
import Derived.Test.YthejdhjpbpamoaaGreatDoorWWords
import Derived.Test.YthejdhjpbpamoaaGreatDoorWLast
namespace Go.Proofs.YthejdhjpbpamoaaGreatDoorW.jk
open Go.RowKit
namespace Kd
def tag {α:Type} (f:Nat→Nat) (d:Kd α):Kd (α × Nat) where
  sz:=d.sz
  E:=d.E
  K:=fun w x cs=>d.K w x.1 cs
  M:=fun w base ok x cs=>d.M w base (fun k=>ok k∧f k=x.2) x.1 cs
  qg:=fun h=>d.qg h
  o_:=fun h=>d.o_ h
  qY:=fun hb h=>d.qY hb h
  mV:=fun h=>d.mV h
  lS:=fun hok h=>d.lS (fun k hk=>⟨hok k hk.1,hk.2⟩) h
  pq:=fun h=>d.lS (fun _ hk=>⟨⟨hk.1.1,hk.2⟩,hk.1.2⟩) (d.pq h)
  oU:=fun hm h=>d.oU (fun k hk=>hm k hk.1) h
  qZ:=fun hb h=>d.qZ hb h
def bare {α:Type} (d:Kd α):Kd α where
  sz:=d.sz
  E:=d.E
  K:=d.K
  M:=fun w base _ x cs=>d.M w base (fun _=>False) x cs
  qg:=fun h=>d.qg h
  o_:=fun h=>d.o_ h
  qY:=fun hb h=>d.qY hb h
  mV:=fun h=>d.mV h
  lS:=fun _ h=>h
  pq:=fun h=>h
  oU:=fun _ h=>d.oU (fun _ hk=>hk.elim) h
  qZ:=fun hb h=>d.qZ hb h
def raw (sz:Nat):Kd (List Value) where
  sz:=sz
  E:=[]
  K:=fun _ x cs=>cs=x∧cs.length=sz∧∀ u ∈ cs,u.oneCell'=true
  M:=fun _ _ _ x cs=>cs=x∧cs.length=sz∧∀ u ∈ cs,u.oneCell'=true
  qg:=fun h=>h.2.1
  o_:=fun h=>h.2.2
  qY:=fun _ h=>h
  mV:=fun h=>h
  lS:=fun _ h=>h
  pq:=fun h=>h
  oU:=fun _ h=>h
  qZ:=fun _ h=>h
def S {α:Type} (d:Kd α) (e:Nat) (w:World) (base:Nat) (ok:Nat→Prop) (v:Value) (xs:List α):Prop:=∃ f,(tag f d).R e w base ok v xs.zipIdx
section
variable {α β:Type} {d:Kd α} {d':Kd β} {e e':Nat} {w w1 W:World} {base b:Nat} {ok ok' abV abU:Nat→Prop} {u v:Value} {xs:List α} {ys:List β}
theorem rH (hE:d.E=[]) (h:d.R e w base ok v xs):d.R e w base (fun k=>some k=v.ownBlock) v xs:=by
  obtain ⟨h0,inner,ho,hr⟩:=h
  refine ⟨fun k hk=>hk.symm,inner,ho,hr.qM (fun p c hp=>d.lS (fun k hk=>?_) (d.pq hp))⟩
  obtain ⟨_,_,_,q,hq,_⟩:=hk
  rw [hE] at hq
  cases hq
theorem afe (d:Kd α) (e:Nat) (w:World) (base:Nat) (ok:Nat→Prop):S d e w base ok (.slice none 0 0) []:=⟨fun _=>0,KG _ _ _ _ _⟩
end
section
variable {α β:Type} {d:Kd α} {d':Kd β} {e e' g:Nat} {w w1 W:World} {base b:Nat} {ok ok' abV abU:Nat→Prop} {u v:Value} {xs:List α} {ys:List β}
end
section
variable {P:Program} {ops:Array Oper} {rest:List Oper} {o:Oper} {a:Act} {Q:Exit→Act→World→Prop} {Kc:Act→World→Prop} {α:Type}
end
def gap {α:Type} (f:Nat→Nat) (d:Kd α) (i:Nat) (c:List Value):Kd (α × Nat) where
  sz:=d.sz
  E:=d.E
  K:=fun w x cs=>(x.2=i→cs=c∧cs.length=d.sz∧∀ u ∈ cs,u.oneCell'=true)∧(x.2≠i→d.K w x.1 cs)
  M:=fun w base ok x cs=>(x.2=i→cs=c∧cs.length=d.sz∧∀ u ∈ cs,u.oneCell'=true)∧(x.2≠i→d.M w base (fun k=>ok k∧f k=x.2) x.1 cs)
  qg:=fun {w x cs} h=>by
    by_cases hx:x.2=i
    · exact (h.1 hx).2.1
    · exact d.qg (h.2 hx)
  o_:=fun {w x cs} h=>by
    by_cases hx:x.2=i
    · exact (h.1 hx).2.2
    · exact d.o_ (h.2 hx)
  qY:=fun hb h=>⟨h.1,fun hx=>d.qY hb (h.2 hx)⟩
  mV:=fun h=>⟨h.1,fun hx=>d.mV (h.2 hx)⟩
  lS:=fun hok h=>⟨h.1,fun hx=>d.lS (fun k hk=>⟨hok k hk.1,hk.2⟩) (h.2 hx)⟩
  pq:=fun h=>⟨h.1,fun hx=>d.lS (fun _ hk=>⟨⟨hk.1.1,hk.2⟩,hk.1.2⟩) (d.pq (h.2 hx))⟩
  oU:=fun hm h=>⟨h.1,fun hx=>d.oU (fun k hk=>hm k hk.1) (h.2 hx)⟩
  qZ:=fun hb h=>⟨h.1,fun hx=>d.qZ hb (h.2 hx)⟩
def H {α:Type} (d:Kd α) (e:Nat) (w:World) (base:Nat) (ok:Nat→Prop) (v:Value) (xs:List α) (i:Int) (MH:Nat→Prop) (c:List Value):Prop :=
  (∀ k,MH k→ok k)∧∃ f,(gap f d i.toNat c).R e w base (fun k=>ok k∧¬ MH k) v xs.zipIdx
section
variable {α β:Type} {d:Kd α} {e e' g n cap:Nat} {w w1 W:World} {base:Nat} {ok ok' MH jG:Nat→Prop} {u v:Value} {xs:List α} {i:Int} {c:List Value}
end
section
variable {P:Program} {ops:Array Oper} {rest:List Oper} {o:Oper} {a:Act} {Q:Exit→Act→World→Prop} {α:Type}
end
end Kd
end Go.Proofs.YthejdhjpbpamoaaGreatDoorW.jk
