
import Derived.Test.YthejdhjpbpamoaaGreatDoorWWords
import Derived.Test.YthejdhjpbpamoaaGreatDoorWLast
namespace Go.Proofs.YthejdhjpbpamoaaGreatDoorW.iK
open Go.RowKit
namespace Kd
def tag {α:Type} (f:Nat→Nat) (d:Kd α):Kd (α × Nat) where
  sz:=d.sz
  E:=d.E
  K:=fun w x cs=>d.K w x.1 cs
  M:=fun w base ok x cs=>d.M w base (fun k=>ok k∧f k=x.2) x.1 cs
  nY:=fun h=>d.nY h
  nI:=fun h=>d.nI h
  oQ:=fun hb h=>d.oQ hb h
  lJ:=fun h=>d.lJ h
  kR:=fun hok h=>d.kR (fun k hk=>⟨hok k hk.1,hk.2⟩) h
  nJ:=fun h=>d.kR (fun _ hk=>⟨⟨hk.1.1,hk.2⟩,hk.1.2⟩) (d.nJ h)
  ni:=fun hm h=>d.ni (fun k hk=>hm k hk.1) h
  oU:=fun hb h=>d.oU hb h
def bare {α:Type} (d:Kd α):Kd α where
  sz:=d.sz
  E:=d.E
  K:=d.K
  M:=fun w base _ x cs=>d.M w base (fun _=>False) x cs
  nY:=fun h=>d.nY h
  nI:=fun h=>d.nI h
  oQ:=fun hb h=>d.oQ hb h
  lJ:=fun h=>d.lJ h
  kR:=fun _ h=>h
  nJ:=fun h=>h
  ni:=fun _ h=>d.ni (fun _ hk=>hk.elim) h
  oU:=fun hb h=>d.oU hb h
def raw (sz:Nat):Kd (List Value) where
  sz:=sz
  E:=[]
  K:=fun _ x cs=>cs=x∧cs.length=sz∧∀ u ∈ cs,u.oneCell'=true
  M:=fun _ _ _ x cs=>cs=x∧cs.length=sz∧∀ u ∈ cs,u.oneCell'=true
  nY:=fun h=>h.2.1
  nI:=fun h=>h.2.2
  oQ:=fun _ h=>h
  lJ:=fun h=>h
  kR:=fun _ h=>h
  nJ:=fun h=>h
  ni:=fun _ h=>h
  oU:=fun _ h=>h
def S {α:Type} (d:Kd α) (e:Nat) (w:World) (base:Nat) (ok:Nat→Prop) (v:Value) (xs:List α):Prop:=∃ f,(tag f d).R e w base ok v xs.zipIdx
section
variable {α β:Type} {d:Kd α} {d':Kd β} {e e':Nat} {w w1 W:World} {base b:Nat} {ok ok' Vj Vh:Nat→Prop} {u v:Value} {xs:List α} {ys:List β}
theorem rU (hE:d.E=[]) (h:d.R e w base ok v xs):d.R e w base (fun k=>some k=v.ownBlock) v xs:=by
  obtain ⟨h0,inner,ho,hr⟩:=h
  refine ⟨fun k hk=>hk.symm,inner,ho,hr.oL (fun p c hp=>d.kR (fun k hk=>?_) (d.nJ hp))⟩
  obtain ⟨_,_,_,q,hq,_⟩:=hk
  rw [hE] at hq
  cases hq
theorem Yr (d:Kd α) (e:Nat) (w:World) (base:Nat) (ok:Nat→Prop):S d e w base ok (.slice none 0 0) []:=⟨fun _=>0,Gg _ _ _ _ _⟩
end
section
variable {α β:Type} {d:Kd α} {d':Kd β} {e e' g:Nat} {w w1 W:World} {base b:Nat} {ok ok' Vj Vh:Nat→Prop} {u v:Value} {xs:List α} {ys:List β}
end
section
variable {P:Program} {ops:Array Oper} {rest:List Oper} {o:Oper} {a:Act} {Q:Exit→Act→World→Prop} {Kc:Act→World→Prop} {α:Type}
end
def gap {α:Type} (f:Nat→Nat) (d:Kd α) (i:Nat) (c:List Value):Kd (α × Nat) where
  sz:=d.sz
  E:=d.E
  K:=fun w x cs=>(x.2=i→cs=c∧cs.length=d.sz∧∀ u ∈ cs,u.oneCell'=true)∧(x.2≠i→d.K w x.1 cs)
  M:=fun w base ok x cs=>(x.2=i→cs=c∧cs.length=d.sz∧∀ u ∈ cs,u.oneCell'=true)∧(x.2≠i→d.M w base (fun k=>ok k∧f k=x.2) x.1 cs)
  nY:=fun {w x cs} h=>by
    by_cases hx:x.2=i
    · exact (h.1 hx).2.1
    · exact d.nY (h.2 hx)
  nI:=fun {w x cs} h=>by
    by_cases hx:x.2=i
    · exact (h.1 hx).2.2
    · exact d.nI (h.2 hx)
  oQ:=fun hb h=>⟨h.1,fun hx=>d.oQ hb (h.2 hx)⟩
  lJ:=fun h=>⟨h.1,fun hx=>d.lJ (h.2 hx)⟩
  kR:=fun hok h=>⟨h.1,fun hx=>d.kR (fun k hk=>⟨hok k hk.1,hk.2⟩) (h.2 hx)⟩
  nJ:=fun h=>⟨h.1,fun hx=>d.kR (fun _ hk=>⟨⟨hk.1.1,hk.2⟩,hk.1.2⟩) (d.nJ (h.2 hx))⟩
  ni:=fun hm h=>⟨h.1,fun hx=>d.ni (fun k hk=>hm k hk.1) (h.2 hx)⟩
  oU:=fun hb h=>⟨h.1,fun hx=>d.oU hb (h.2 hx)⟩
def H {α:Type} (d:Kd α) (e:Nat) (w:World) (base:Nat) (ok:Nat→Prop) (v:Value) (xs:List α) (i:Int) (Ik:Nat→Prop) (c:List Value):Prop :=
  (∀ k,Ik k→ok k)∧∃ f,(gap f d i.toNat c).R e w base (fun k=>ok k∧¬ Ik k) v xs.zipIdx
section
variable {α β:Type} {d:Kd α} {e e' g n cap:Nat} {w w1 W:World} {base:Nat} {ok ok' Ik iT:Nat→Prop} {u v:Value} {xs:List α} {i:Int} {c:List Value}
end
section
variable {P:Program} {ops:Array Oper} {rest:List Oper} {o:Oper} {a:Act} {Q:Exit→Act→World→Prop} {α:Type}
end
end Kd
end Go.Proofs.YthejdhjpbpamoaaGreatDoorW.iK
