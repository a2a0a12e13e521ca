
import Derived.Test.YthejdhjpbpamoaaGreatDoorWKept
namespace Go.Proofs.YthejdhjpbpamoaaGreatDoorW.iw
open Go.RowKit
def sO (P:World→Prop) (W:World) (ok:Nat→Prop):Prop:=∀ W':World,(∀ k,ok k→k < W.heap.size→W'.heap[k]?=W.heap[k]?)→P W'
theorem afG {W W1:World} {k:Nat} (h:W1.heap[k]?=W.heap[k]?) (hlt:k < W.heap.size):k < W1.heap.size:=by
  rw [Array.getElem?_eq_getElem hlt] at h
  exact (Array.getElem?_eq_some_iff.1 h).1
namespace sO
variable {P Q:World→Prop} {W W1:World} {ok ok':Nat→Prop}
theorem now (h:sO P W ok):P W:=h W (fun _ _ _=>rfl)
theorem mono (h:sO P W ok) (hok:∀ k,ok k→ok' k):sO P W ok':=fun W' hW=>h W' (fun k hk hlt=>hW k (hok k hk) hlt)
theorem bound (h:sO P W ok):sO P W (fun k=>ok k∧k < W.heap.size):=fun W' hW=>h W' (fun k hk hlt=>hW k ⟨hk,hlt⟩ hlt)
theorem step (h:sO P W ok) (hm:∀ k,ok k→k < W.heap.size→W1.heap[k]?=W.heap[k]?):sO P W1 ok:=fun W' hW=>h W' (fun k hk hlt=>(hW k hk (afG (hm k hk hlt) hlt)).trans (hm k hk hlt))
theorem imp (h:sO P W ok) (hi:∀ W',P W'→Q W'):sO Q W ok:=fun W' hW=>hi W' (h W' hW)
theorem old (h:sO P W ok) (hb:Below W.heap.size W W1):sO P W1 (fun k=>ok k∧k < W.heap.size):=(h.bound).step (fun k _ hlt=>hb.block k hlt)
end sO
namespace Kd
def F {α:Type} (d:Kd α) (W:World) (ok:Nat→Prop) (A:Option Addr) (n:Nat) (xs:List α):Prop:=sO (fun W=>d.C W A n xs) W ok
def UR {α:Type} (d:Kd α) (W:World) (ok:Nat→Prop) (x:α) (c:List Value):Prop:=sO (fun W=>d.K W x c) W ok
section
variable {α β:Type} {d:Kd α} {e base n n' cc g N:Nat} {ok ok' iJ S:Nat→Prop} {w w0 w1 W W1:World} {A A':Option Addr} {u v v1:Value} {xs:List α} {xs':List β} {d':Kd β} {x:α} {c:List Value}
theorem abn (h:F d W ok A n xs):d.C W A n xs:=sO.now h
theorem Kz (h:F d W ok A n xs) (hok:∀ k,ok k→ok' k):F d W ok' A n xs:=sO.mono h hok
theorem abf (h:F d W ok A n xs):F d W (fun k=>ok k∧k < W.heap.size) A n xs:=sO.bound h
theorem UU (h:F d W ok A n xs) (hm:∀ k,ok k→k < W.heap.size→W1.heap[k]?=W.heap[k]?):F d W1 ok A n xs:=sO.step h hm
theorem Iq (h:F d W ok A n xs) (hb:Below W.heap.size W W1):F d W1 ok A n xs:=UU h (fun k _ hlt=>hb.block k hlt)
theorem abe (h:F d W ok A n xs) (o:Obj):F d (W.alloc o) ok A n xs:=Iq h (mY (Below.refl _ _) o)
theorem abg (h:F d W ok A n xs):F d W.drew ok A n xs:=Iq h (Pm (Below.refl _ _))
theorem abh (h:F d W ok A n xs) (m:Nat):F d (W.drewN m) ok A n xs:=Iq h (qN (Below.refl _ _) m)
theorem abl (h:F d W ok A n xs) {p:Addr} (hok:∀ k,ok k→k≠p.block) (u:Value):F d (W.setCell p u) ok A n xs:=UU h (fun k hk _=>Below.heap_setCell W p u k (hok k hk))
theorem abm (d:Kd α) (W:World) (ok:Nat→Prop):F d W ok none ([]:List α).length []:=fun W' _=>aa' d W'
theorem abj (h:F d W ok A n xs) (hbase:∀ k,v.ownBlock=some k→W.heap.size≤k) (hb:Below W.heap.size W W1):F d W1 (fun k=>ok k∧some k≠v.ownBlock) A n xs :=
  Kz (sO.old h hb) (fun k hk=>⟨hk.1,fun he=>by have:=hbase k he.symm;have:=hk.2;omega⟩)
theorem abk (h:F d W ok A n xs) (a:Nat) (ha:W.heap.size≤a):F d W (fun k=>ok k∧k≠a) A n xs:=Kz (abf h) (fun k hk=>⟨hk.1,by have:=hk.2;omega⟩)
theorem abo (h:F d W ok A n xs) (hb:Below W.heap.size W W1):F d W1 (fun k=>ok k∧k < W.heap.size) A n xs:=sO.old h hb
theorem abp (h:F d W1 (fun k=>ok k∧k < N) A n xs) (hbase:∀ k,v.ownBlock=some k→N≤k):F d W1 (fun k=>(ok k∧some k≠v.ownBlock)∧k < N) A n xs :=
  Kz h (fun k hk=>⟨⟨hk.1,fun he=>Nat.lt_irrefl _ (Nat.lt_of_lt_of_le hk.2 (hbase k he.symm))⟩,hk.2⟩)
theorem aa_ (hd:Heap d) (h:d.C w A n xs):F d w (fun k=>k < w.heap.size) A n xs:=fun _ hW=>hd.C (fun k hlt=>hW k hlt hlt) h
theorem abO (h:d.R e W base ok (.slice A n cc) xs):F d W ok A n xs:=fun W' hW=>by
  have h2:=dN (KR h hW)
  rw [h2.1]
  exact h2.2.2
theorem abd (h:d.M W base ok x c):UR d W ok x c:=fun _ hW=>d.lM (Vb h hW)
end
end Kd
end Go.Proofs.YthejdhjpbpamoaaGreatDoorW.iw
