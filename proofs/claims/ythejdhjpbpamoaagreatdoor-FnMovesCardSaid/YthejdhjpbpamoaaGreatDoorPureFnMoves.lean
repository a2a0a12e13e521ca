/- The pure statement of FnMoves is proved: for all arguments within the row's own bounds the Lean function that the law's walk comes to answers true. Conditions: none beyond these bounds. -/
import Derived.Test.YthejdhjpbpamoaaGreatDoorStFnMoves
import Derived.Test.YthejdhjpbpamoaaGreatDoorBase
namespace Go.Proofs.YthejdhjpbpamoaaGreatDoor.Pure
open Go.RowKit Go.Proofs.YthejdhjpbpamoaaGreatDoor.jM Go.Proofs.YthejdhjpbpamoaaGreatDoorW.iK Go.Proofs.YthejdhjpbpamoaaGreatDoorW.lX Go.Proofs.YthejdhjpbpamoaaGreatDoor.Base
set_option linter.unusedVariables false
set_option linter.unusedSimpArgs false
structure Wk {α:Type} (lt:α→α→Bool):Prop where
 Dv:∀ a,lt a a=false
 Ey:∀ a b,lt a b=true→lt b a=false
 neg:∀ a b c,lt b a=false→lt c b=false→lt c a=false
section
variable {α:Type} {lt:α→α→Bool}
def tie (lt:α→α→Bool) (a b:α):Bool:=!lt a b && !lt b a
def gG (lt:α→α→Bool) (xs:List α):Prop:=xs.Pairwise (fun a b=>lt b a=false)
def gK (lt:α→α→Bool) (xs ys:List α):Prop:=∀ a,xs.filter (tie lt a)=ys.filter (tie lt a)
theorem Pz (h:Wk lt) (a:α):tie lt a a=true:=by simp [tie,h.Dv a]
theorem IG {a b:α}:tie lt a b=true ↔ lt a b=false∧lt b a=false:=by simp [tie]
theorem gK.refl (xs:List α):gK lt xs xs:=fun _=>rfl
theorem gK.trans {xs ys zs:List α} (h:gK lt xs ys) (g:gK lt ys zs):gK lt xs zs:=fun a=>(h a).trans (g a)
theorem gK.symm {xs ys:List α} (h:gK lt xs ys):gK lt ys xs:=fun a=>(h a).symm
theorem gK.app {xs ys us vs:List α} (h:gK lt xs ys) (g:gK lt us vs):gK lt (xs++us) (ys++vs):=fun a=>by rw [List.filter_append,List.filter_append,h a,g a]
theorem gK.mem (hw:Wk lt) {xs ys:List α} (h:gK lt xs ys) {a:α}:a ∈ xs ↔ a ∈ ys:=by
 have e:∀ zs:List α,a ∈ zs ↔ a ∈ zs.filter (tie lt a):=fun zs=>by simp [List.mem_filter,Pz hw a]
 rw [e xs,e ys,h a]
theorem gK.swap {us vs:List α} (h:∀ u ∈ us,∀ v ∈ vs,tie lt u v=false) (hw:Wk lt):gK lt (us++vs) (vs++us):=by
 intro a
 rw [List.filter_append,List.filter_append]
 by_cases hu:us.filter (tie lt a)=[]
 ·rw [hu,List.nil_append,List.append_nil]
 ·have hv:vs.filter (tie lt a)=[]:=by
   rw [List.filter_eq_nil_iff]
   intro v hv hav
   obtain ⟨u,hu⟩:=List.exists_mem_of_ne_nil _ hu
   obtain ⟨h1,h2⟩:=List.mem_filter.1 hu
   have:=h u h1 v hv
   rw [IG] at h2 hav
   have t:tie lt u v=true:=by
    rw [IG]
    exact ⟨hw.neg v a u hav.1 h2.2,hw.neg u a v h2.1 hav.2⟩
   rw [t] at this
   cases this
  rw [hv,List.nil_append,List.append_nil]
theorem gG.cons {x:α} {r:List α}:gG lt (x :: r) ↔ (∀ y ∈ r,lt y x=false)∧gG lt r:=List.pairwise_cons
theorem gG.app {xs ys:List α}:gG lt (xs++ys) ↔ gG lt xs∧gG lt ys∧∀ x ∈ xs,∀ y ∈ ys,lt y x=false:=List.pairwise_append
theorem Wq (hw:Wk lt):∀ (xs ys:List α),gG lt xs→gG lt ys→gK lt xs ys→xs=ys
 | [],[],_,_,_=>rfl
 | [],y :: s,_,_,h=>by
  have:=(h.mem hw (a:=y)).2 (List.mem_cons_self ..)
  cases this
 | x :: r,[],_,_,h=>by
  have:=(h.mem hw (a:=x)).1 (List.mem_cons_self ..)
  cases this
 | x :: r,y :: s,hx,hy,h=>by
  obtain ⟨hx1,hx2⟩:=gG.cons.1 hx
  obtain ⟨hy1,hy2⟩:=gG.cons.1 hy
  have le1:lt y x=false:=by
   rcases List.mem_cons.1 ((h.mem hw (a:=y)).2 (List.mem_cons_self ..)) with e|e
   ·rw [e];exact hw.Dv x
   ·exact hx1 y e
  have abf:lt x y=false:=by
   rcases List.mem_cons.1 ((h.mem hw (a:=x)).1 (List.mem_cons_self ..)) with e|e
   ·rw [e];exact hw.Dv y
   ·exact hy1 x e
  have t:tie lt x y=true:=IG.2 ⟨abf,le1⟩
  have e:=h x
  rw [List.filter_cons_of_pos (Pz hw x),List.filter_cons_of_pos t] at e
  obtain ⟨rfl,_⟩:=List.cons.inj e
  refine congrArg (x :: ·) (Wq hw r s hx2 hy2 (fun a=>?_))
  have e2:=h a
  by_cases ha:tie lt a x=true
  ·rw [List.filter_cons_of_pos ha,List.filter_cons_of_pos ha] at e2
   exact (List.cons.inj e2).2
  ·rw [List.filter_cons_of_neg ha,List.filter_cons_of_neg ha] at e2
   exact e2
theorem OH (p:α→Bool):∀ xs:List α,xs.length=(xs.filter p).length+(xs.filter (fun y=>!p y)).length
 | []=>rfl
 | x :: r=>by
  have ih:=OH p r
  by_cases h:p x=true
  ·rw [List.filter_cons_of_pos h,List.filter_cons_of_neg (by simp [h]),List.length_cons,List.length_cons];omega
  ·rw [List.filter_cons_of_neg h,List.filter_cons_of_pos (by simpa using h),List.length_cons,List.length_cons];omega
theorem gK.len (hw:Wk lt):∀ (n:Nat) (xs ys:List α),xs.length=n→gK lt xs ys→xs.length=ys.length:=by
 intro n
 induction n using Nat.strongRecOn with
 | _ n ih =>
  intro xs ys hn h
  cases xs with
  | nil =>
   cases ys with
   | nil=>rfl
   | cons y s=>have:=(h.mem hw (a:=y)).2 (List.mem_cons_self ..);cases this
  | cons x r =>
   -- all that tie with x, and the rest
   have hx:=OH (tie lt x) (x :: r)
   have hy:=OH (tie lt x) ys
   have hlt:((x :: r).filter (fun y=>!tie lt x y)).length < n:=by
    have:0 < ((x :: r).filter (tie lt x)).length:=by rw [List.filter_cons_of_pos (Pz hw x)];simp
    omega
   have hs:gK lt ((x :: r).filter (fun y=>!tie lt x y)) (ys.filter (fun y=>!tie lt x y)):=by
    intro a
    rw [List.filter_filter,List.filter_filter]
    have c:∀ zs:List α,zs.filter (fun y=>tie lt a y && !tie lt x y)=(zs.filter (tie lt a)).filter (fun y=>!tie lt x y):=fun zs=>by
     rw [List.filter_filter]
     congr 1
     funext y
     rw [Bool.and_comm]
    rw [c,c,h a]
   rw [hx,hy,h x,ih _ hlt _ _ rfl hs]
theorem abq (hw:Wk lt) {L1 U V R2 M1 M2:List α} (hL:gG lt (L1++U)) (hR:gG lt (V++R2)) (h1:∀ u ∈ U,∀ v ∈ V,lt v u=true) (h2:∀ x ∈ L1,∀ y ∈ R2,lt y x=false)
  (s1:gG lt M1) (t1:gK lt M1 (L1++V)) (s2:gG lt M2) (t2:gK lt M2 (U++R2)):gG lt (M1++M2)∧gK lt (M1++M2) ((L1++U)++(V++R2)):=by
 obtain ⟨_,_,ZF⟩:=gG.app.1 hL
 obtain ⟨_,_,ZI⟩:=gG.app.1 hR
 refine ⟨gG.app.2 ⟨s1,s2,fun x hx y hy=>?_⟩,?_⟩
 ·have hx':=List.mem_append.1 ((t1.mem hw).1 hx)
  have hy':=List.mem_append.1 ((t2.mem hw).1 hy)
  rcases hx' with hx'|hx'
  ·rcases hy' with hy'|hy'
   ·exact ZF x hx' y hy'
   ·exact h2 x hx' y hy'
  ·rcases hy' with hy'|hy'
   ·exact hw.Ey _ _ (h1 y hy' x hx')
   ·exact ZI x hx' y hy'
 ·have e:(L1++U)++(V++R2)=L1++((U++V)++R2):=by simp
  have sw:gK lt (V++U) (U++V):=(gK.swap (us:=U) (vs:=V) (fun u hu v hv=>by simp [tie,h1 u hu v hv]) hw).symm
  have e2:(L1++V)++(U++R2)=L1++((V++U)++R2):=by simp
  rw [e]
  refine (t1.app t2).trans ?_
  rw [e2]
  exact (gK.refl L1).app (sw.app (gK.refl R2))
theorem OB (hw:Wk lt) {x:α} {P Q:List α} (hs:gG lt (P++Q)) (h1:∀ y ∈ P,lt x y=false) (h2:∀ y ∈ Q,lt x y=true):gG lt (P++x :: Q)∧gK lt (P++x :: Q) (P++Q++[x]):=by
 obtain ⟨a1,a2,a3⟩:=gG.app.1 hs
 refine ⟨gG.app.2 ⟨a1,gG.cons.2 ⟨fun y hy=>hw.Ey _ _ (h2 y hy),a2⟩,fun p hp y hy=>?_⟩,?_⟩
 ·rcases List.mem_cons.1 hy with rfl|hy
  ·exact h1 p hp
  ·exact a3 p hp y hy
 ·have sw:gK lt ([x]++Q) (Q++[x]):=gK.swap (fun u hu v hv=>by rw [List.mem_singleton] at hu;subst hu;simp [tie,h2 v hv]) hw
  rw [List.append_assoc]
  exact (gK.refl P).app sw
theorem aaV (hw:Wk lt) {x:α} {P Q:List α} (hs:gG lt (P++Q)) (h1:∀ y ∈ P,lt y x=true) (h2:∀ y ∈ Q,lt y x=false):gG lt (P++x :: Q)∧gK lt (P++x :: Q) (x :: (P++Q)):=by
 obtain ⟨a1,a2,a3⟩:=gG.app.1 hs
 refine ⟨gG.app.2 ⟨a1,gG.cons.2 ⟨h2,a2⟩,fun p hp y hy=>?_⟩,?_⟩
 ·rcases List.mem_cons.1 hy with rfl|hy
  ·exact hw.Ey _ _ (h1 p hp)
  ·exact a3 p hp y hy
 ·have sw:gK lt (P++[x]) ([x]++P):=gK.swap (fun u hu v hv=>by rw [List.mem_singleton] at hv;subst hv;simp [tie,h1 u hu]) hw
  have e:P++x :: Q=(P++[x])++Q:=by simp
  rw [e]
  exact sw.app (gK.refl Q)
theorem acJ {xs:List α} (h:gG lt xs) {i j:Nat} (hij:i < j) (hj:j < xs.length):lt xs[j] xs[i]=false:=List.pairwise_iff_getElem.1 h i j (by omega) hj hij
theorem BI (hw:Wk lt) {xs:List α} (h:gG lt xs) {i j:Nat} (hij:i≤j) (hj:j < xs.length):lt xs[j] xs[i]=false:=by
 rcases Nat.lt_or_eq_of_le hij with h1|h1
 ·exact acJ h h1 hj
 ·subst h1;exact hw.Dv _
theorem Kw {xs:List α} (h:gG lt xs) (n:Nat):gG lt (xs.take n):=by
 have:=List.take_append_drop n xs
 rw [← this] at h
 exact (gG.app.1 h).1
theorem Kv {xs:List α} (h:gG lt xs) (n:Nat):gG lt (xs.drop n):=by
 have:=List.take_append_drop n xs
 rw [← this] at h
 exact (gG.app.1 h).2.1
theorem Ze (hw:Wk lt) {L R:List α} (hL:gG lt L) (hR:gG lt R) (s e:Nat) (hs:s≤L.length) (he:e≤R.length)
  (c1:∀ (h1:s < L.length) (h2:0 < e),lt (R[e - 1]'(by omega)) L[s]=true) (c2:∀ (h1:0 < s) (h2:e < R.length),lt R[e] (L[s - 1]'(by omega))=false) :
  (∀ u ∈ L.drop s,∀ v ∈ R.take e,lt v u=true)∧(∀ x ∈ L.take s,∀ y ∈ R.drop e,lt y x=false):=by
 constructor
 ·intro u hu v hv
  obtain ⟨i,hi,rfl⟩:=List.mem_iff_getElem.1 hu
  obtain ⟨j,hj,rfl⟩:=List.mem_iff_getElem.1 hv
  rw [List.length_drop] at hi
  rw [List.length_take] at hj
  rw [List.getElem_drop,List.getElem_take]
  have k:=c1 (by omega) (by omega)
  have a:=BI hw hL (i:=s) (j:=s+i) (by omega) (by omega)
  have b:=BI hw hR (i:=j) (j:=e - 1) (by omega) (by omega)
  by_cases hn:lt R[j] L[s+i]=true
  ·exact hn
  ·have hn':lt R[j] L[s+i]=false:=by simpa using hn
   have q1:=hw.neg L[s] L[s+i] R[j] a hn'
   have q2:=hw.neg L[s] R[j] (R[e - 1]'(by omega)) q1 b
   rw [q2] at k
   cases k
 ·intro x hx y hy
  obtain ⟨i,hi,rfl⟩:=List.mem_iff_getElem.1 hx
  obtain ⟨j,hj,rfl⟩:=List.mem_iff_getElem.1 hy
  rw [List.length_take] at hi
  rw [List.length_drop] at hj
  rw [List.getElem_drop,List.getElem_take]
  have k:=c2 (by omega) (by omega)
  have a:=BI hw hL (i:=i) (j:=s - 1) (by omega) (by omega)
  have b:=BI hw hR (i:=e) (j:=e+j) (by omega) (by omega)
  exact hw.neg L[i] R[e] R[e+j] (hw.neg L[i] (L[s - 1]'(by omega)) R[e] a k) b
end

theorem YG (a b:UInt8) (x y:List UInt8):Op.bytesLess (a :: x) (b :: y)=false ↔ b.toNat < a.toNat∨(a.toNat=b.toNat∧Op.bytesLess x y=false):=by
 simp only [Op.bytesLess]
 rcases Nat.lt_trichotomy a.toNat b.toNat with h|h|h
 ·have h1:a < b:=UInt8.lt_iff_toNat_lt.2 h
  simp [h1];omega
 ·have h1:a=b:=UInt8.toNat_inj.1 h
  subst h1
  have h2:¬ a < a:=fun c=>by have:=UInt8.lt_iff_toNat_lt.1 c;omega
  simp [h2]
 ·have h2:¬ a < b:=fun c=>by have:=UInt8.lt_iff_toNat_lt.1 c;omega
  have h3:¬ a=b:=fun c=>by subst c;omega
  simp [h2,h3];omega
theorem YH:∀ (a b c:List UInt8),Op.bytesLess b a=false→Op.bytesLess c b=false→Op.bytesLess c a=false:=by
 intro a
 induction a with
 | nil=>intro b c _ _;cases c <;> simp [Op.bytesLess]
 | cons x r ih =>
  intro b c h1 h2
  cases b with
  | nil=>simp [Op.bytesLess] at h1
  | cons y s =>
   cases c with
   | nil=>simp [Op.bytesLess] at h2
   | cons z t =>
    rw [YG] at h1 h2 ⊢
    rcases h1 with h1|⟨h1,k1⟩ <;> rcases h2 with h2|⟨h2,k2⟩
    ·left;omega
    ·left;omega
    ·left;omega
    ·right;exact ⟨by omega,ih s t k1 k2⟩

theorem ML (x:List UInt8):Op.bytesLess x x=false:=by
 have h:=uz x x
 cases hb:Op.bytesLess x x with
 | false=>rfl
 | true=>rw [hb] at h;simp at h
theorem MN {x y:List UInt8} (h:¬ y=x):Op.bytesLess y x=!Op.bytesLess x y:=by
 have e:=uz y x
 rw [beq_false_of_ne h,Bool.or_false] at e
 exact e

def dZ (x y:aC):Bool:=Op.bytesLess x.f0.toList y.f0.toList
theorem nU:Wk dZ:=⟨fun a=>ML _,fun a b h=>by
 have e:=uz a.f0.toList b.f0.toList
 unfold dZ at h ⊢
 rw [h,Bool.true_or] at e
 simpa using e.symm,fun a b c h1 h2=>YH _ _ _ h1 h2⟩
def cO {α:Type} (g:Nat→Option α) (Q:α→Prop):Prop:=∃ r,Ev g r∧Q r
section
variable {α β:Type}
theorem cO.now {a:α} {Q:α→Prop} (h:Q a):cO (fun _=>some a) Q:=⟨a,dY rfl,h⟩
theorem cO.pos {c:Prop} [Decidable c] {f g:Nat→Option α} {Q:α→Prop} (h:c) (e:cO f Q):cO (fun k=>if c then f k else g k) Q:=by obtain ⟨r,e,q⟩:=e;exact ⟨r,aV h e,q⟩
theorem cO.neg {c:Prop} [Decidable c] {f g:Nat→Option α} {Q:α→Prop} (h:¬ c) (e:cO g Q):cO (fun k=>if c then f k else g k) Q:=by obtain ⟨r,e,q⟩:=e;exact ⟨r,dn h e,q⟩
theorem cO.bind {f:Nat→Option α} {g:α→Nat→Option β} {P:α→Prop} {Q:β→Prop} (h:cO f P) (k:∀ r,P r→cO (g r) Q):cO (fun n=>(f n).bind fun r=>g r n) Q:=by
 obtain ⟨r,e,p⟩:=h
 obtain ⟨s,e2,q⟩:=k r p
 exact ⟨s,Ev.bind e e2,q⟩
theorem cO.step {g h:Nat→Option α} {Q:α→Prop} (e:∀ k,g (k+1)=h k) (w:cO h Q):cO g Q:=by obtain ⟨r,e2,q⟩:=w;exact ⟨r,Ev.step e e2,q⟩
theorem cO.imp {g:Nat→Option α} {P Q:α→Prop} (w:cO g P) (h:∀ r,P r→Q r):cO g Q:=by obtain ⟨r,e,q⟩:=w;exact ⟨r,e,h r q⟩
theorem cO.of {g:Nat→Option α} {r:α} {Q:α→Prop} (e:Ev g r) (h:Q r):cO g Q:=⟨r,e,h⟩
end
theorem Fj (U:List aC) (x:aC) (V:List aC) {i:Int} (h:i=(U.length:Int)):au (U++x :: V) i=x:=by
 subst h
 unfold au
 rw [Int.toNat_natCast,List.getD_eq_getElem?_getD,List.getElem?_append_right (Nat.le_refl _),Nat.sub_self]
 rfl
theorem set_mid (U:List aC) (x y:aC) (V:List aC) {i:Int} (h:i=(U.length:Int)):(U++x :: V).set i.toNat y=U++y :: V:=by
 subst h
 rw [Int.toNat_natCast,List.set_append_right _ _ (Nat.le_refl _),Nat.sub_self]
 rfl
theorem Ky (U:List aC) (x:aC) (C:List aC) (y:aC) (V:List aC) {i j:Int} (h:i=(U.length:Int)) (h2:j=((U.length+1+C.length:Nat):Int)) :
  ((U++x :: (C++y :: V)).set i.toNat y).set j.toNat x=U++y :: (C++x :: V)∧((U++x :: (C++y :: V)).set j.toNat x).set i.toNat y=U++y :: (C++x :: V):=by
 have e1:∀ z,U++z :: (C++y :: V)=(U++z :: C)++y :: V:=fun z=>by simp
 have e2:∀ z,(U++z :: C)++x :: V=U++z :: (C++x :: V):=fun z=>by simp
 have l:∀ z,j=((U++z :: C).length:Int):=fun z=>by rw [h2];simp;omega
 constructor
 ·rw [set_mid U x y _ h,e1,set_mid _ y x V (l y),e2]
 ·rw [e1,set_mid _ y x V (l x),e2,set_mid U x y _ h]
theorem J_ (U:List aC) (x:aC) (C:List aC) (y:aC) (V:List aC) {j:Int} (h2:j=((U.length+1+C.length:Nat):Int)):au (U++x :: (C++y :: V)) j=y:=by
 have e1:U++x :: (C++y :: V)=(U++x :: C)++y :: V:=by simp
 rw [e1]
 exact Fj _ y V (by rw [h2];simp;omega)
theorem Zb (x y:aC):∃ c:Int,sQ.f x.f0 x.f1 x.f2 y.f0 y.f1 y.f2=some c∧(c < 0 ↔ dZ x y=true):=by
 unfold sQ.f EL.f cmp_isNaN_string.f dZ
 have n:∀ z:List UInt8,(z != z)=false:=fun z=>by simp
 rw [n,n]
 simp only [Option.bind_some]
 rw [if_neg (by decide),if_neg (by decide)]
 by_cases h:Op.bytesLess x.f0.toList y.f0.toList=true
 ·rw [if_pos h];exact ⟨-1,rfl,by simp [h]⟩
 ·rw [if_neg h]
  by_cases h2:Op.bytesLess y.f0.toList x.f0.toList=true
  ·rw [if_pos h2];exact ⟨1,rfl,by simp [h]⟩
  ·rw [if_neg h2];exact ⟨0,rfl,by simp [h]⟩
theorem Jy {γ:Type} {f g:Nat→Option γ} {Q:γ→Prop} (x y:aC) (h1:dZ x y=true→cO f Q) (h2:dZ x y=false→cO g Q) :
  cO (fun k=>(sQ.f x.f0 x.f1 x.f2 y.f0 y.f1 y.f2).bind fun t=>if t < 0 then f k else g k) Q:=by
 obtain ⟨c,e,h⟩:=Zb x y
 rw [e]
 refine cO.bind (P:=fun r=>r=c) ⟨c,dY rfl,rfl⟩ (fun r hr=>?_)
 subst hr
 by_cases hc:r < 0
 ·exact cO.pos hc (h1 (h.1 hc))
 ·exact cO.neg hc (h2 (by cases hl:dZ x y with|false=>rfl|true=>exact absurd (h.2 hl) hc))
theorem JF (i j:Nat) (hi:i≤1000000000) (hj:j≤1000000000):wrap64 ((IntKind.u64.wrap (wrap64 ((i:Int)+(j:Int)))) / 2)=(((i+j) / 2:Nat):Int):=by
 rw [mO (x:=(i:Int)+j) (by omega) (by omega)]
 have:IntKind.u64.wrap ((i:Int)+j)=(i:Int)+j:=by
  unfold IntKind.wrap
  simp [IntKind.bits,IntKind.signed]
  omega
 rw [this,mO (by omega) (by omega)]
 omega
theorem pK {x:Int} (n:Nat) (h:x=(n:Int)) (hn:n≤9000000000000000000):wrap64 x=(n:Int):=by rw [h];exact mO (by omega) (by omega)
/-! insertion -/
theorem Uz (A B:List aC) (x:aC) (b i:Nat) (hb:b≤1000000000) (hi:i≤1000000000) (Q:List aC→Prop):∀ (m:Nat) (P R:List aC),P.length=m→A.length+P.length+R.length≤1000000000→gG dZ (P++R)→(∀ y ∈ R,dZ x y=true) →
  (∀ M',gG dZ M'→gK dZ M' (P++R++[x])→cO (fun k=>jX.l0 k (A++M'++B) A.length b ((i+1:Nat):Int)) Q) →
  cO (fun k=>jX.l1 k (A++(P++x :: R)++B) A.length b i ((A.length+P.length:Nat):Int)) Q
 | m,P,R,hm,hl,hs,hr,hk=>by
  refine cO.step (jX.l1.eq_2 _ _ _ _ _) ?_
  have fin:(∀ y ∈ P,dZ x y=false)→cO (fun k=>jX.l0 k (A++(P++x :: R)++B) A.length b (wrap64 ((i:Int)+1))) Q:=fun h=>by
   obtain ⟨s1,s2⟩:=OB nU hs h hr
   rw [lV i (by omega)]
   exact hk _ s1 s2
  rcases List.eq_nil_or_concat P with rfl|⟨P',y,rfl⟩
  ·exact cO.neg (by simp) (fin (fun y hy=>by cases hy))
  ·rw [List.concat_eq_append] at *
   have lp:(P'++[y]).length=P'.length+1:=by simp
   rw [lp] at hm hl
   refine cO.pos (by rw [lp];omega) (cO.pos (by omega) (cO.pos (by simp;omega) ?_))
   rw [pK (x:=((A.length+(P'++[y]).length:Nat):Int) - 1) (A.length+P'.length) (by rw [lp];omega) (by omega)]
   refine cO.pos (by omega) (cO.pos (by simp;omega) ?_)
   have e:A++(P'++[y]++x :: R)++B=(A++P')++y :: ([]++x :: (R++B)):=by simp
   rw [e]
   have r1:au ((A++P')++y :: ([]++x :: (R++B))) ((A.length+(P'++[y]).length:Nat):Int)=x:=J_ _ _ _ _ _ (by simp;omega)
   have r2:au ((A++P')++y :: ([]++x :: (R++B))) ((A.length+P'.length:Nat):Int)=y:=Fj _ _ _ (by simp)
   rw [r1,r2]
   refine Jy x y (fun h=>?_) (fun h=>?_)
   ·rw [(Ky (A++P') y [] x (R++B) (i:=((A.length+P'.length:Nat):Int)) (j:=((A.length+(P'++[y]).length:Nat):Int)) (by simp) (by simp;omega)).2]
    have e2:A++P'++x :: ([]++y :: (R++B))=A++(P'++x :: (y :: R))++B:=by simp
    rw [e2]
    exact Uz A B x b i hb hi Q P'.length P' (y :: R) rfl (by simp;omega) (by simpa using hs) (fun z hz=>by
     rcases List.mem_cons.1 hz with rfl|hz
     ·exact h
     ·exact hr z hz) (fun M' h1 h2=>hk M' h1 (by simpa using h2))
   ·rw [← e]
    refine fin (fun z hz=>?_)
    rcases List.mem_append.1 hz with hz|hz
    ·have:=(gG.app.1 (gG.app.1 hs).1).2.2 z hz y (by simp)
     exact nU.neg z y x this h
    ·rw [List.mem_singleton] at hz;rw [hz];exact h
 termination_by m=>m
theorem Uy (A B:List aC):∀ (m:Nat) (D E:List aC),E.length=m→A.length+D.length+E.length≤1000000000→gG dZ D →
  cO (fun k=>jX.l0 k (A++(D++E)++B) A.length ((A.length+D.length+E.length:Nat):Int) ((A.length+D.length:Nat):Int)) (fun r=>∃ M',r=A++M'++B∧gG dZ M'∧gK dZ M' (D++E))
 | m,D,[],hm,hl,hs=>by
  refine cO.step (jX.l0.eq_2 _ _ _ _) ?_
  exact cO.neg (by simp) (cO.now ⟨D,by simp,hs,by rw [List.append_nil];exact gK.refl _⟩)
 | m,D,x :: E,hm,hl,hs=>by
  refine cO.step (jX.l0.eq_2 _ _ _ _) ?_
  have lx:(x :: E).length=E.length+1:=by simp
  rw [lx] at hl hm ⊢
  refine cO.pos (by omega) ?_
  have e:A++(D++x :: E)++B=A++(D++x :: [])++(E++B):=by simp
  rw [e]
  refine Uz A (E++B) x (A.length+D.length+(E.length+1)) (A.length+D.length) (by omega) (by omega) _ D.length D [] rfl (by simp;omega) (by simpa using hs) (fun y hy=>by cases hy) (fun M' h1 h2=>?_)
  have ln:=gK.len nU _ M' (D++[]++[x]) rfl h2
  have Fb:(D++[]++[x]).length=D.length+1:=by simp
  rw [Fb] at ln
  have ih:=Uy A B E.length M' E rfl (by omega) h1
  rw [show A.length+D.length+1=A.length+M'.length by omega,show A.length+D.length+(E.length+1)=A.length+M'.length+E.length by omega,show A++M'++(E++B)=A++(M'++E)++B by simp]
  refine ih.imp (fun r hr=>?_)
  obtain ⟨M2,e2,s2,t2⟩:=hr
  refine ⟨M2,e2,s2,t2.trans ?_⟩
  have:=h2.app (gK.refl (lt:=dZ) E)
  simpa using this
 termination_by m=>m
theorem UA (A M B:List aC) (hl:A.length+M.length≤1000000000) {a b:Int} (ha:a=(A.length:Int)) (hb:b=((A.length+M.length:Nat):Int)) :
  cO (fun k=>jX.f k (A++M++B) a b ()) (fun r=>∃ M',r=A++M'++B∧gG dZ M'∧gK dZ M' M):=by
 subst ha hb
 unfold jX.f
 rw [lV A.length (by omega)]
 cases M with
 | nil =>
  refine cO.step (jX.l0.eq_2 _ _ _ _) ?_
  exact cO.neg (by simp;omega) (cO.now ⟨[],rfl,List.Pairwise.nil,gK.refl _⟩)
 | cons x E =>
  have:=Uy A B E.length [x] E rfl (by simp at hl ⊢;omega) (by simp [gG])
  have e1:A.length+(x :: E).length=A.length+[x].length+E.length:=by simp;omega
  rw [e1]
  exact this

/-! two pieces change places -/
theorem Wx (A C D:List aC) (n:Nat) (hl:A.length+C.length+D.length+2 * n≤1000000000):∀ (m:Nat) (V1 vk uT V2:List aC),vk.length=m→V2.length=m→uT.length=V1.length→V1.length+m=n →
  cO (fun k=>pq.l0 k (A++(V1++vk)++C++(uT++V2)++D) (A.length:Int) ((A.length+n+C.length:Nat):Int) n (V1.length:Int)) (fun r=>r=A++(V1++V2)++C++(uT++vk)++D)
 | m,V1,[],uT,[],h1,h2,h3,h4=>by
  refine cO.step (pq.l0.eq_2 _ _ _ _ _) ?_
  simp at h1
  exact cO.neg (by omega) (cO.now rfl)
 | m,V1,[],uT,v :: V2,h1,h2,h3,h4=>by simp at h1 h2;omega
 | m,V1,u :: vk,uT,[],h1,h2,h3,h4=>by simp at h1 h2;omega
 | m,V1,u :: vk,uT,v :: V2,h1,h2,h3,h4=>by
  refine cO.step (pq.l0.eq_2 _ _ _ _ _) ?_
  rw [List.length_cons] at h1 h2
  have l1:(V1++u :: vk).length=n:=by simp;omega
  have l2:(uT++v :: V2).length=n:=by simp;omega
  rw [pK (x:=((A.length+n+C.length:Nat):Int)+(V1.length:Int)) (A.length+n+C.length+V1.length) (by omega) (by omega),pK (x:=(A.length:Int)+(V1.length:Int)) (A.length+V1.length) (by omega) (by omega),lV V1.length (by omega)]
  have lt:(A++(V1++u :: vk)++C++(uT++v :: V2)++D).length=A.length+n+C.length+n+D.length:=by simp only [List.length_append,l1,l2]
  refine cO.pos (by omega) (cO.pos (by omega) (cO.pos (by rw [lt];omega) (cO.pos (by omega) (cO.pos (by rw [lt];omega) ?_))))
  have e:A++(V1++u :: vk)++C++(uT++v :: V2)++D=(A++V1)++u :: ((vk++C++uT)++v :: (V2++D)):=by simp
  have q2:((A.length+n+C.length+V1.length:Nat):Int)=(((A++V1).length+1+(vk++C++uT).length:Nat):Int):=by simp;omega
  have q1:((A.length+V1.length:Nat):Int)=((A++V1).length:Int):=by simp
  rw [e,J_ _ _ _ _ _ q2,Fj _ _ _ q1,(Ky (A++V1) u (vk++C++uT) v (V2++D) q1 q2).1]
  have e2:(A++V1)++v :: ((vk++C++uT)++u :: (V2++D))=A++((V1++[v])++vk)++C++((uT++[u])++V2)++D:=by simp
  rw [e2]
  have ih:=Wx A C D n hl vk.length (V1++[v]) vk (uT++[u]) V2 rfl (by omega) (by simp [h3]) (by simp;omega)
  rw [show (V1++[v]).length=V1.length+1 by simp] at ih
  exact ih.imp (fun r hr=>by rw [hr];simp)
 termination_by m=>m
theorem Pv (A U C V D:List aC) (n:Nat) (hu:U.length=n) (hv:V.length=n) (hl:A.length+C.length+D.length+2 * n≤1000000000) {a b c:Int} (ha:a=(A.length:Int)) (hb:b=((A.length+n+C.length:Nat):Int)) (hc:c=(n:Int)) :
  cO (fun k=>pq.f k (A++U++C++V++D) a b c ()) (fun r=>r=A++V++C++U++D):=by
 subst ha hb hc
 unfold pq.f
 have:=Wx A C D n hl n [] U [] V hu hv rfl (by simp)
 simpa using this
theorem acn (n:Nat):∀ (A U V D:List aC),U.length+V.length=n→0 < U.length→0 < V.length→A.length+U.length+V.length+D.length≤400000000 →
  cO (fun k=>uZ.l0 k (A++(U++V)++D) ((A.length+U.length:Nat):Int) () (U.length:Int) (V.length:Int)) (fun r=>r=A++(V++U)++D):=by
 induction n using Nat.strongRecOn with
 | _ n ih =>
  intro A U V D hn hu hv hl
  refine cO.step (uZ.l0.eq_2 _ _ _ _ _) ?_
  rw [pK (x:=((A.length+U.length:Nat):Int) - (U.length:Int)) A.length (by omega) (by omega)]
  by_cases h:U.length=V.length
  ·refine cO.pos (by omega) (cO.bind (P:=fun r=>r=A++(V++U)++D) ?_ (fun r hr=>cO.now hr))
   have:=Pv A U [] V D U.length rfl h.symm (by simp;omega) (a:=(A.length:Int)) (b:=((A.length+U.length:Nat):Int)) (c:=(U.length:Int)) rfl (by simp) rfl
   simpa using this
  ·refine cO.neg (by omega) ?_
   by_cases h2:V.length < U.length
   ·refine cO.pos (by omega) (cO.bind (P:=fun r=>r=A++V++U.drop V.length++U.take V.length++D) ?_ (fun r hr=>?_))
    ·have:=Pv A (U.take V.length) (U.drop V.length) V D V.length (by simp;omega) rfl (by simp;omega) (a:=(A.length:Int)) (b:=((A.length+U.length:Nat):Int)) (c:=(V.length:Int)) rfl (by simp;omega) rfl
     have e:A++(U++V)++D=A++U.take V.length++U.drop V.length++V++D:=by
      rw [List.append_assoc A (U.take _),List.take_append_drop];simp
     rw [e]
     exact this
    ·subst hr
     rw [pK (x:=(U.length:Int) - (V.length:Int)) (U.length - V.length) (by omega) (by omega)]
     have:=ih U.length (by omega) (A++V) (U.drop V.length) (U.take V.length) D (by simp;omega) (by simp;omega) (by simp;omega) (by simp;omega)
     rw [List.length_drop,List.length_take,Nat.min_eq_left (by omega),show (A++V).length+(U.length - V.length)=A.length+U.length by simp;omega] at this
     have e:A++V++U.drop V.length++U.take V.length++D=A++V++(U.drop V.length++U.take V.length)++D:=by simp
     rw [e]
     refine this.imp (fun r hr=>?_)
     rw [hr,List.take_append_drop];simp
   ·refine cO.neg (by omega) (cO.bind (P:=fun r=>r=A++V.drop (V.length - U.length)++V.take (V.length - U.length)++U++D) ?_ (fun r hr=>?_))
    ·rw [pK (x:=((A.length+U.length:Nat):Int)+(V.length:Int)) (A.length+U.length+V.length) (by omega) (by omega),pK (x:=((A.length+U.length+V.length:Nat):Int) - (U.length:Int)) (A.length+V.length) (by omega) (by omega)]
     have:=Pv A U (V.take (V.length - U.length)) (V.drop (V.length - U.length)) D U.length rfl (by simp;omega) (by simp;omega) (a:=(A.length:Int)) (b:=((A.length+V.length:Nat):Int)) (c:=(U.length:Int)) rfl (by simp;omega) rfl
     have e:A++(U++V)++D=A++U++V.take (V.length - U.length)++V.drop (V.length - U.length)++D:=by
      rw [List.append_assoc (A++U) (V.take _),List.take_append_drop];simp
     rw [e]
     exact this
    ·subst hr
     rw [pK (x:=(V.length:Int) - (U.length:Int)) (V.length - U.length) (by omega) (by omega)]
     have:=ih V.length (by omega) A (V.drop (V.length - U.length)) (V.take (V.length - U.length)) (U++D) (by simp <;> omega) (by simp;omega) (by simp;omega) (by simp;omega)
     rw [List.length_drop,List.length_take,Nat.min_eq_left (by omega),show V.length - (V.length - U.length)=U.length by omega] at this
     have e:A++V.drop (V.length - U.length)++V.take (V.length - U.length)++U++D=A++(V.drop (V.length - U.length)++V.take (V.length - U.length))++(U++D):=by simp
     rw [e]
     refine this.imp (fun r hr=>?_)
     rw [hr,List.take_append_drop];simp
theorem aco (A U V D:List aC) (hu:0 < U.length) (hv:0 < V.length) (hl:A.length+U.length+V.length+D.length≤400000000) {a m b:Int} (ha:a=(A.length:Int)) (hm:m=((A.length+U.length:Nat):Int)) (hb:b=((A.length+U.length+V.length:Nat):Int)) :
  cO (fun k=>uZ.f k (A++(U++V)++D) a m b ()) (fun r=>r=A++(V++U)++D):=by
 subst ha hm hb
 unfold uZ.f
 rw [pK (x:=((A.length+U.length:Nat):Int) - (A.length:Int)) U.length (by omega) (by omega),pK (x:=((A.length+U.length+V.length:Nat):Int) - ((A.length+U.length:Nat):Int)) V.length (by omega) (by omega)]
 exact acn _ A U V D rfl hu hv hl

theorem OT (X:List aC) (i:Nat) (h:i < X.length) {j:Int} (hj:j=(i:Int)):au X j=X[i]:=by
 subst hj
 unfold au
 rw [Int.toNat_natCast,List.getD_eq_getElem?_getD,List.getElem?_eq_getElem h]
 rfl
theorem Ph (X:List aC) (a lo hi:Nat) (ha:a < X.length) (hh:hi≤X.length) (hx:X.length≤400000000) (Q:List aC→Prop)
  (hk:∀ i:Nat,lo≤i→i≤hi→(lo < i→dZ (au X ((i - 1:Nat):Int)) (au X (a:Int))=true)→(i < hi→dZ (au X (i:Int)) (au X (a:Int))=false)→cO (fun k=>d_.l1 k X i a) Q) :
  ∀ (m i j:Nat),j - i=m→lo≤i→i≤j→j≤hi→(lo < i→dZ (au X ((i - 1:Nat):Int)) (au X (a:Int))=true)→(j < hi→dZ (au X (j:Int)) (au X (a:Int))=false)→cO (fun k=>d_.l0 k X a i j) Q
 | m,i,j,hm,h1,h2,h3,h4,h5=>by
  refine cO.step (d_.l0.eq_2 _ _ _ _) ?_
  by_cases h:i < j
  ·rw [JF i j (by omega) (by omega)]
   refine cO.pos (by omega) (cO.pos (by omega) (cO.pos (by omega) (cO.pos (by omega) (cO.pos (by omega) ?_))))
   refine Jy _ _ (fun hc=>?_) (fun hc=>?_)
   ·rw [lV _ (by omega)]
    exact Ph X a lo hi ha hh hx Q hk (j - ((i+j) / 2+1)) _ j rfl (by omega) (by omega) h3 (fun _=>hc) h5
   ·exact Ph X a lo hi ha hh hx Q hk ((i+j) / 2 - i) i _ rfl h1 (by omega) (by omega) h4 (fun _=>hc)
  ·have:i=j:=by omega
   subst this
   exact cO.neg (by omega) (hk i h1 h3 h4 h5)
 termination_by m=>m
 decreasing_by all_goals omega
theorem Pj (X:List aC) (a lo hi:Nat) (ha:a < X.length) (hh:hi≤X.length) (hx:X.length≤400000000) (Q:List aC→Prop)
  (hk:∀ i:Nat,lo≤i→i≤hi→(lo < i→dZ (au X (a:Int)) (au X ((i - 1:Nat):Int))=false)→(i < hi→dZ (au X (a:Int)) (au X (i:Int))=true)→cO (fun k=>d_.l3 k X i a) Q) :
  ∀ (m i j:Nat),j - i=m→lo≤i→i≤j→j≤hi→(lo < i→dZ (au X (a:Int)) (au X ((i - 1:Nat):Int))=false)→(j < hi→dZ (au X (a:Int)) (au X (j:Int))=true)→cO (fun k=>d_.l2 k X a i j) Q
 | m,i,j,hm,h1,h2,h3,h4,h5=>by
  refine cO.step (d_.l2.eq_2 _ _ _ _) ?_
  by_cases h:i < j
  ·rw [JF i j (by omega) (by omega)]
   refine cO.pos (by omega) (cO.pos (by omega) (cO.pos (by omega) (cO.pos (by omega) (cO.pos (by omega) ?_))))
   refine Jy _ _ (fun hc=>?_) (fun hc=>?_)
   ·exact Pj X a lo hi ha hh hx Q hk ((i+j) / 2 - i) i _ rfl h1 (by omega) (by omega) h4 (fun _=>hc)
   ·rw [lV _ (by omega)]
    exact Pj X a lo hi ha hh hx Q hk (j - ((i+j) / 2+1)) _ j rfl (by omega) (by omega) h3 (fun _=>hc) h5
  ·have:i=j:=by omega
   subst this
   exact cO.neg (by omega) (hk i h1 h3 h4 h5)
 termination_by m=>m
 decreasing_by all_goals omega
theorem V5 (A B:List aC) (x:aC):∀ (P2 P1:List aC) (i kk:Int),A.length+P1.length+P2.length+B.length+1≤400000000→i=((A.length+P1.length+P2.length+1:Nat):Int)→kk=((A.length+P1.length:Nat):Int) →
  cO (fun k=>d_.l1 k (A++(P1++x :: P2)++B) i kk) (fun r=>r=A++(P1++P2++[x])++B)
 | [],P1,i,kk,hl,hi,hk=>by
  refine cO.step (d_.l1.eq_2 _ _ _) ?_
  subst hi hk
  rw [List.length_nil]
  rw [pK (x:=((A.length+P1.length+0+1:Nat):Int) - 1) (A.length+P1.length) (by omega) (by simp at hl;omega)]
  exact cO.neg (by omega) (cO.now (by simp))
 | y :: P2,P1,i,kk,hl,hi,hk=>by
  refine cO.step (d_.l1.eq_2 _ _ _) ?_
  subst hi hk
  rw [List.length_cons] at hl ⊢
  rw [pK (x:=((A.length+P1.length+(P2.length+1)+1:Nat):Int) - 1) (A.length+P1.length+(P2.length+1)) (by omega) (by omega),lV _ (by omega)]
  have lt:(A++(P1++x :: y :: P2)++B).length=A.length+P1.length+P2.length+2+B.length:=by simp;omega
  refine cO.pos (by omega) (cO.pos (by omega) (cO.pos (by rw [lt];omega) (cO.pos (by omega) (cO.pos (by rw [lt];omega) ?_))))
  have e:A++(P1++x :: y :: P2)++B=(A++P1)++x :: ([]++y :: (P2++B)):=by simp
  have q1:((A.length+P1.length:Nat):Int)=((A++P1).length:Int):=by simp
  have q2:((A.length+P1.length+1:Nat):Int)=(((A++P1).length+1+([]:List aC).length:Nat):Int):=by simp
  rw [e,J_ _ _ _ _ _ q2,Fj _ _ _ q1,(Ky (A++P1) x [] y (P2++B) q1 q2).1]
  have e2:(A++P1)++y :: ([]++x :: (P2++B))=A++((P1++[y])++x :: P2)++B:=by simp
  rw [e2]
  exact (V5 A B x P2 (P1++[y]) _ _ (by simp;omega) (by simp;omega) (by simp;omega)).imp (fun r hr=>by rw [hr];simp)
theorem acA (A B:List aC) (x:aC) (n:Nat):∀ (P1 P2:List aC) (i kk:Int),P1.length=n→A.length+P1.length+P2.length+B.length+1≤400000000→i=(A.length:Int)→kk=((A.length+P1.length:Nat):Int) →
  cO (fun k=>d_.l3 k (A++(P1++x :: P2)++B) i kk) (fun r=>r=A++(x :: (P1++P2))++B):=by
 induction n with
 | zero =>
  intro P1 P2 i kk hn hl hi hk
  refine cO.step (d_.l3.eq_2 _ _ _) ?_
  subst hi hk
  have:P1=[]:=List.length_eq_zero_iff.1 hn
  subst this
  exact cO.neg (by simp) (cO.now (by simp))
 | succ n ih =>
  intro P1 P2 i kk hn hl hi hk
  refine cO.step (d_.l3.eq_2 _ _ _) ?_
  subst hi hk
  rcases List.eq_nil_or_concat P1 with rfl|⟨P,y,rfl⟩
  ·simp at hn
  ·rw [List.concat_eq_append] at *
   have lp:(P++[y]).length=P.length+1:=by simp
   rw [lp] at hn hl ⊢
   rw [pK (x:=((A.length+(P.length+1):Nat):Int) - 1) (A.length+P.length) (by omega) (by omega)]
   have lt:(A++(P++[y]++x :: P2)++B).length=A.length+P.length+P2.length+2+B.length:=by simp;omega
   refine cO.pos (by omega) (cO.pos (by omega) (cO.pos (by rw [lt];omega) (cO.pos (by omega) (cO.pos (by rw [lt];omega) ?_))))
   have e:A++(P++[y]++x :: P2)++B=(A++P)++y :: ([]++x :: (P2++B)):=by simp
   have q1:((A.length+P.length:Nat):Int)=((A++P).length:Int):=by simp
   have q2:((A.length+(P.length+1):Nat):Int)=(((A++P).length+1+([]:List aC).length:Nat):Int):=by simp;omega
   rw [e,J_ _ _ _ _ _ q2,Fj _ _ _ q1,(Ky (A++P) y [] x (P2++B) q1 q2).2]
   have e2:(A++P)++x :: ([]++y :: (P2++B))=A++(P++x :: (y :: P2))++B:=by simp
   rw [e2]
   exact (ih P (y :: P2) _ _ (by omega) (by simp;omega) rfl rfl).imp (fun r hr=>by rw [hr];simp)

theorem Pm (X:List aC) (x1 x2 x3 x18:Int) (n p lo hi:Nat) (hx:X.length≤400000000) (hp:p < X.length+lo) (hp2:p≤1000000000) (hh:hi≤X.length) (hhi:hi≤p+1) (Q:List aC→Prop)
  (hk:∀ i:Nat,lo≤i→i≤hi→(lo < i→dZ (au X ((p - (i - 1):Nat):Int)) (au X ((i - 1:Nat):Int))=false)→(i < hi→dZ (au X ((p - i:Nat):Int)) (au X (i:Int))=true) →
   cO (fun k=>if (i:Int) < x2 then d_.j6 k X x1 x2 x3 () x18 i (wrap64 ((n:Int) - i)) (decide (x2 < wrap64 ((n:Int) - i))) else d_.j6 k X x1 x2 x3 () x18 i (wrap64 ((n:Int) - i)) false) Q) :
  ∀ (m i j:Nat),j - i=m→lo≤i→i≤j→j≤hi→(lo < i→dZ (au X ((p - (i - 1):Nat):Int)) (au X ((i - 1:Nat):Int))=false)→(j < hi→dZ (au X ((p - j:Nat):Int)) (au X (j:Int))=true) →
   cO (fun k=>d_.l4 k X x1 x2 x3 () x18 n i j p) Q
 | m,i,j,hm,h1,h2,h3,h4,h5=>by
  refine cO.step (d_.l4.eq_2 _ _ _ _ _ _ _ _ _ _) ?_
  by_cases h:i < j
  ·rw [JF i j (by omega) (by omega),pK (x:=(p:Int) - (((i+j) / 2:Nat):Int)) (p - (i+j) / 2) (by omega) (by omega)]
   refine cO.pos (by omega) (cO.pos (by omega) (cO.pos (by omega) (cO.pos (by omega) (cO.pos (by omega) ?_))))
   refine Jy _ _ (fun hc=>?_) (fun hc=>?_)
   ·exact Pm X x1 x2 x3 x18 n p lo hi hx hp hp2 hh hhi Q hk ((i+j) / 2 - i) i _ rfl h1 (by omega) (by omega) h4 (fun _=>hc)
   ·rw [lV _ (by omega)]
    exact Pm X x1 x2 x3 x18 n p lo hi hx hp hp2 hh hhi Q hk (j - ((i+j) / 2+1)) _ j rfl (by omega) (by omega) h3 (fun _=>hc) h5
  ·have:i=j:=by omega
   subst this
   exact cO.neg (by omega) (hk i h1 h3 h4 h5)
 termination_by m=>m
 decreasing_by all_goals omega
theorem Fh (A M B:List aC) (i:Nat) (h:i < M.length) {j:Int} (hj:j=((A.length+i:Nat):Int)):au (A++M++B) j=M[i]:=by
 rw [OT _ (A.length+i) (by simp <;> omega) hj]
 rw [List.getElem_append_left (by simp <;> omega),List.getElem_append_right (by omega)]
 congr 1
 omega
theorem acC (A:List aC) (x:aC) (R B:List aC) (hl:A.length+1+R.length+B.length≤400000000) (hR:gG dZ R) :
  cO (fun k=>d_.l0 k (A++(x :: R)++B) (A.length:Int) ((A.length+1:Nat):Int) ((A.length+1+R.length:Nat):Int)) (fun r=>∃ M',r=A++M'++B∧gG dZ M'∧gK dZ M' (x :: R)):=by
 refine Ph (A++(x :: R)++B) A.length (A.length+1) (A.length+1+R.length) (by simp <;> omega) (by simp <;> omega) (by simp <;> omega) _ (fun i h1 h2 h3 h4=>?_) _ (A.length+1) _ rfl (by omega) (by omega) (by omega) (fun h=>by omega) (fun h=>by omega)
 obtain ⟨s,rfl⟩:∃ s,i=A.length+1+s:=⟨i - (A.length+1),by omega⟩
 have hx:au (A++(x :: R)++B) (A.length:Int)=x:=Fh A (x :: R) B 0 (by simp) (by simp)
 rw [hx] at h3 h4
 have hr:∀ q (h:q < R.length),au (A++(x :: R)++B) ((A.length+1+q:Nat):Int)=R[q]:=fun q h=>by
  rw [Fh A (x :: R) B (q+1) (by simp <;> omega) (by omega)];rfl
 have hP:∀ y ∈ R.take s,dZ y x=true:=fun y hy=>by
  obtain ⟨q,hq,rfl⟩:=List.mem_iff_getElem.1 hy
  rw [List.length_take] at hq
  rw [List.getElem_take]
  have k:=h3 (by omega)
  rw [show A.length+1+s - 1=A.length+1+(s - 1) by omega,hr (s - 1) (by omega)] at k
  have l:=BI nU hR (i:=q) (j:=s - 1) (by omega) (by omega)
  by_cases hn:dZ R[q] x=true
  ·exact hn
  ·have:=nU.neg x R[q] (R[s - 1]'(by omega)) (by simpa using hn) l
   rw [this] at k;cases k
 have hQ:∀ y ∈ R.drop s,dZ y x=false:=fun y hy=>by
  obtain ⟨q,hq,rfl⟩:=List.mem_iff_getElem.1 hy
  rw [List.length_drop] at hq
  rw [List.getElem_drop]
  have k:=h4 (by omega)
  rw [hr s (by omega)] at k
  exact nU.neg x (R[s]'(by omega)) _ k (BI nU hR (i:=s) (j:=s+q) (by omega) (by omega))
 have hs:gG dZ (R.take s++R.drop s):=by rw [List.take_append_drop];exact hR
 obtain ⟨z1,z2⟩:=aaV nU hs hP hQ
 rw [List.take_append_drop] at z2
 have e:A++(x :: R)++B=A++([]++x :: R.take s)++(R.drop s++B):=by
  have:=List.take_append_drop s R
  simp only [List.nil_append,List.append_assoc,List.cons_append,List.append_cancel_left_eq,List.cons.injEq,true_and]
  rw [← List.append_assoc,this]
 rw [e]
 refine (V5 A (R.drop s++B) x (R.take s) [] _ _ (by simp <;> omega) (by simp <;> omega) (by simp)).imp (fun r hr=>⟨R.take s++x :: R.drop s,by rw [hr];simp,z1,z2⟩)
theorem acB (A L:List aC) (x:aC) (B:List aC) (hl:A.length+1+L.length+B.length≤400000000) (hL:gG dZ L) :
  cO (fun k=>d_.l2 k (A++(L++[x])++B) ((A.length+L.length:Nat):Int) (A.length:Int) ((A.length+L.length:Nat):Int)) (fun r=>∃ M',r=A++M'++B∧gG dZ M'∧gK dZ M' (L++[x])):=by
 refine Pj (A++(L++[x])++B) (A.length+L.length) A.length (A.length+L.length) (by simp <;> omega) (by simp <;> omega) (by simp <;> omega) _ (fun i h1 h2 h3 h4=>?_) _ A.length _ rfl (by omega) (by omega) (by omega) (fun h=>by omega) (fun h=>by omega)
 obtain ⟨s,rfl⟩:∃ s,i=A.length+s:=⟨i - A.length,by omega⟩
 have hx:au (A++(L++[x])++B) ((A.length+L.length:Nat):Int)=x:=by
  rw [Fh A (L++[x]) B L.length (by simp) rfl];simp
 rw [hx] at h3 h4
 have hr:∀ q (h:q < L.length),au (A++(L++[x])++B) ((A.length+q:Nat):Int)=L[q]:=fun q h=>by
  rw [Fh A (L++[x]) B q (by simp <;> omega) rfl,List.getElem_append_left h]
 have hP:∀ y ∈ L.take s,dZ x y=false:=fun y hy=>by
  obtain ⟨q,hq,rfl⟩:=List.mem_iff_getElem.1 hy
  rw [List.length_take] at hq
  rw [List.getElem_take]
  have k:=h3 (by omega)
  rw [show A.length+s - 1=A.length+(s - 1) by omega,hr (s - 1) (by omega)] at k
  exact nU.neg _ (L[s - 1]'(by omega)) x (BI nU hL (i:=q) (j:=s - 1) (by omega) (by omega)) k
 have hQ:∀ y ∈ L.drop s,dZ x y=true:=fun y hy=>by
  obtain ⟨q,hq,rfl⟩:=List.mem_iff_getElem.1 hy
  rw [List.length_drop] at hq
  rw [List.getElem_drop]
  have k:=h4 (by omega)
  rw [hr s (by omega)] at k
  have l:=BI nU hL (i:=s) (j:=s+q) (by omega) (by omega)
  by_cases hn:dZ x (L[s+q]'(by omega))=true
  ·exact hn
  ·have:=nU.neg (L[s]'(by omega)) (L[s+q]'(by omega)) x l (by simpa using hn)
   rw [this] at k;cases k
 have hs:gG dZ (L.take s++L.drop s):=by rw [List.take_append_drop];exact hL
 obtain ⟨z1,z2⟩:=OB nU hs hP hQ
 rw [List.take_append_drop] at z2
 have e:A++(L++[x])++B=(A++L.take s)++(L.drop s++x :: [])++B:=by
  have:=List.take_append_drop s L
  simp only [List.append_assoc,List.append_cancel_left_eq]
  rw [← List.append_assoc (L.take s),this]
 rw [e]
 refine (acA (A++L.take s) B x _ (L.drop s) [] _ _ rfl (by simp <;> omega) (by simp <;> omega) (by simp <;> omega)).imp (fun r hr=>⟨L.take s++x :: L.drop s,by rw [hr];simp,z1,z2⟩)

theorem V6 (n:Nat):∀ (A L R B:List aC),L.length+R.length=n→0 < L.length→0 < R.length→A.length+L.length+R.length+B.length≤100000000→gG dZ L→gG dZ R →
  cO (fun k=>d_.f k (A++(L++R)++B) (A.length:Int) ((A.length+L.length:Nat):Int) ((A.length+L.length+R.length:Nat):Int) ()) (fun r=>∃ M',r=A++M'++B∧gG dZ M'∧gK dZ M' (L++R)):=by
 induction n using Nat.strongRecOn with
 | _ n ih =>
  intro A L R B hn hL hR hl sL sR
  refine cO.step (d_.f.eq_2 _ _ _ _ _) ?_
  rw [pK (x:=((A.length+L.length:Nat):Int) - (A.length:Int)) L.length (by omega) (by omega),pK (x:=((A.length+L.length+R.length:Nat):Int) - ((A.length+L.length:Nat):Int)) R.length (by omega) (by omega)]
  by_cases c1:L.length=1
  ·refine cO.pos (by omega) ?_
   obtain ⟨x,rfl⟩:=List.length_eq_one_iff.1 c1
   exact acC A x R B (by simp at hl;omega) sR
  refine cO.neg (by omega) ?_
  by_cases c2:R.length=1
  ·refine cO.pos (by omega) ?_
   obtain ⟨x,rfl⟩:=List.length_eq_one_iff.1 c2
   exact acB A L x B (by simp at hl;omega) sL
  refine cO.neg (by omega) ?_
  obtain ⟨md,hmd⟩:∃ md:Nat,(A.length+(A.length+L.length+R.length)) / 2=md:=⟨_,rfl⟩
  have e0:wrap64 ((IntKind.u64.wrap (wrap64 ((A.length:Int)+((A.length+L.length+R.length:Nat):Int)))) / 2)=(md:Int):=by rw [JF _ _ (by omega) (by omega),hmd]
  rw [e0,pK (x:=(md:Int)+((A.length+L.length:Nat):Int)) (md+(A.length+L.length)) (by omega) (by omega)]
  -- what is done behind the search
  have rest:∀ (lo hi:Nat),A.length≤lo→hi≤A.length+L.length→hi≤md→lo≤hi→md≤lo+R.length→(hi=md∨hi=A.length+L.length)→(lo=A.length∨md=lo+R.length) →
    cO (fun k=>d_.l4 k (A++(L++R)++B) (A.length:Int) ((A.length+L.length:Nat):Int) ((A.length+L.length+R.length:Nat):Int) () (md:Int) ((md+(A.length+L.length):Nat):Int) (lo:Int) (hi:Int) (wrap64 (((md+(A.length+L.length):Nat):Int) - 1)))
     (fun r=>∃ M',r=A++M'++B∧gG dZ M'∧gK dZ M' (L++R)):=by
   intro lo hi g1 g2 g3 g4 g5 g6 g7
   rw [pK (x:=((md+(A.length+L.length):Nat):Int) - 1) (md+(A.length+L.length) - 1) (by omega) (by omega)]
   refine Pm (A++(L++R)++B) _ _ _ _ (md+(A.length+L.length)) (md+(A.length+L.length) - 1) lo hi (by simp;omega) (by simp;omega) (by omega) (by simp;omega) (by omega) _ (fun i h1 h2 h3 h4=>?_) _ lo hi rfl (by omega) g4 (by omega) (fun h=>by omega) (fun h=>by omega)
   have rL:∀ q (h:q < L.length),au (A++(L++R)++B) ((A.length+q:Nat):Int)=L[q]:=fun q h=>by
    rw [Fh A (L++R) B q (by simp;omega) rfl,List.getElem_append_left h]
   have rR:∀ q (h:q < R.length),au (A++(L++R)++B) ((A.length+L.length+q:Nat):Int)=R[q]:=fun q h=>by
    rw [Fh A (L++R) B (L.length+q) (by simp;omega) (by omega),List.getElem_append_right (by omega)]
    congr 1;omega
   obtain ⟨s,rfl⟩:∃ s,i=A.length+s:=⟨i - A.length,by omega⟩
   obtain ⟨e,he⟩:∃ e,md=A.length+s+e:=⟨md - (A.length+s),by omega⟩
   have hsL:s≤L.length:=by omega
   have ZP:e≤R.length:=by omega
   have ck:=Ze nU sL sR s e hsL ZP (fun q1 q2=>by
    have k:=h4 (by omega)
    rw [show md+(A.length+L.length) - 1 - (A.length+s)=A.length+L.length+(e - 1) by omega,rR (e - 1) (by omega),rL s q1] at k
    exact k) (fun q1 q2=>by
    have k:=h3 (by omega)
    rw [show md+(A.length+L.length) - 1 - (A.length+s - 1)=A.length+L.length+e by omega,rR e q2,show A.length+s - 1=A.length+(s - 1) by omega,rL (s - 1) (by omega)] at k
    exact k)
   rw [pK (x:=((md+(A.length+L.length):Nat):Int) - ((A.length+s:Nat):Int)) (A.length+L.length+e) (by omega) (by omega)]
   have UQ:(L.take s).length=s:=by rw [List.length_take];omega
   have aa_:(L.drop s).length=L.length - s:=List.length_drop
   have UR:(R.take e).length=e:=by rw [List.length_take];omega
   have aa':(R.drop e).length=R.length - e:=List.length_drop
   have JA:A++(L++R)++B=(A++L.take s)++(L.drop s++R.take e)++(R.drop e++B):=by
    have a1:=List.take_append_drop s L
    have a2:=List.take_append_drop e R
    calc A++(L++R)++B=A++((L.take s++L.drop s)++(R.take e++R.drop e))++B:=by rw [a1,a2]
     _=_:=by simp only [List.append_assoc]
   -- both halves are merged
   have two:cO (fun k=>d_.j7 k ((A++L.take s)++(R.take e++L.drop s)++(R.drop e++B)) (A.length:Int) ((A.length+L.length+R.length:Nat):Int) () (md:Int) ((A.length+s:Nat):Int) ((A.length+L.length+e:Nat):Int)) (fun r=>∃ M',r=A++M'++B∧gG dZ M'∧gK dZ M' (L++R)):=by
    refine cO.step (d_.j7.eq_2 _ _ _ _ _ _ _) ?_
    have fin:∀ M1 M2,gG dZ M1→gK dZ M1 (L.take s++R.take e)→gG dZ M2→gK dZ M2 (L.drop s++R.drop e)→gG dZ (M1++M2)∧gK dZ (M1++M2) (L++R):=fun M1 M2 z1 z2 z3 z4=>by
     have:=abq nU (L1:=L.take s) (U:=L.drop s) (V:=R.take e) (R2:=R.drop e) (by rw [List.take_append_drop];exact sL) (by rw [List.take_append_drop];exact sR) ck.1 ck.2 z1 z2 z3 z4
     rw [List.take_append_drop,List.take_append_drop] at this
     exact this
    -- the second half
    have right:∀ M1,M1.length=s+e→gG dZ M1→gK dZ M1 (L.take s++R.take e)→cO (fun k=>if (md:Int) < ((A.length+L.length+e:Nat):Int) then (if ((A.length+L.length+e:Nat):Int) < ((A.length+L.length+R.length:Nat):Int) then ((d_.f k (A++M1++(L.drop s++R.drop e)++B) (md:Int) ((A.length+L.length+e:Nat):Int) ((A.length+L.length+R.length:Nat):Int) ()).bind fun t=>(some t)) else (some (A++M1++(L.drop s++R.drop e)++B))) else (some (A++M1++(L.drop s++R.drop e)++B)))
      (fun r=>∃ M',r=A++M'++B∧gG dZ M'∧gK dZ M' (L++R)):=by
     intro M1 l1 z1 z2
     by_cases k1:s < L.length
     ·refine cO.pos (by omega) ?_
      by_cases k2:e < R.length
      ·refine cO.pos (by omega) ?_
       have q:=ih (L.drop s++R.drop e).length (by simp;omega) (A++M1) (L.drop s) (R.drop e) B (by simp) (by omega) (by omega) (by simp;omega) (Kv sL s) (Kv sR e)
       rw [aa_,aa',show (A++M1).length=md by simp;omega,show md+(L.length - s)=A.length+L.length+e by omega,show A.length+L.length+e+(R.length - e)=A.length+L.length+R.length by omega] at q
       refine cO.bind q (fun r hr=>?_)
       obtain ⟨M2,rfl,z3,z4⟩:=hr
       obtain ⟨y1,y2⟩:=fin M1 M2 z1 z2 z3 z4
       exact cO.now ⟨M1++M2,by simp,y1,y2⟩
      ·refine cO.neg (by omega) ?_
       have en:R.drop e=[]:=List.drop_of_length_le (by omega)
       obtain ⟨y1,y2⟩:=fin M1 (L.drop s++R.drop e) z1 z2 (by rw [en,List.append_nil];exact Kv sL s) (gK.refl _)
       exact cO.now ⟨M1++(L.drop s++R.drop e),by simp,y1,y2⟩
     ·refine cO.neg (by omega) ?_
      have en:L.drop s=[]:=List.drop_of_length_le (by omega)
      obtain ⟨y1,y2⟩:=fin M1 (L.drop s++R.drop e) z1 z2 (by rw [en,List.nil_append];exact Kv sR e) (gK.refl _)
      exact cO.now ⟨M1++(L.drop s++R.drop e),by simp,y1,y2⟩
    have Zk:(A++L.take s)++(R.take e++L.drop s)++(R.drop e++B)=A++(L.take s++R.take e)++(L.drop s++R.drop e++B):=by simp
    have eZ:∀ M1:List aC,A++M1++(L.drop s++R.drop e++B)=A++M1++(L.drop s++R.drop e)++B:=fun M1=>by simp
    have Vf:gG dZ (L.take s++R.take e)→cO (fun k=>d_.j8 k (A++(L.take s++R.take e)++(L.drop s++R.drop e)++B) (A.length:Int) ((A.length+L.length+R.length:Nat):Int) () (md:Int) ((A.length+s:Nat):Int) ((A.length+L.length+e:Nat):Int) false) (fun r=>∃ M',r=A++M'++B∧gG dZ M'∧gK dZ M' (L++R)):=fun z=>by
     refine cO.step (d_.j8.eq_2 _ _ _ _ _ _ _ _) ?_
     exact cO.neg (by simp) (right _ (by simp;omega) z (gK.refl _))
    rw [Zk]
    by_cases k1:0 < s
    ·refine cO.pos (by omega) ?_
     by_cases k2:0 < e
     ·rw [decide_eq_true (by omega:((A.length+s:Nat):Int) < (md:Int))]
      refine cO.step (d_.j8.eq_2 _ _ _ _ _ _ _ _) ?_
      refine cO.pos rfl ?_
      have q:=ih (L.take s++R.take e).length (by simp;omega) A (L.take s) (R.take e) (L.drop s++R.drop e++B) (by simp) (by omega) (by omega) (by simp;omega) (Kw sL s) (Kw sR e)
      rw [UQ,UR,show A.length+s+e=md by omega] at q
      refine cO.bind q (fun r hr=>?_)
      obtain ⟨M1,rfl,z1,z2⟩:=hr
      have ll:=gK.len nU _ M1 _ rfl z2
      rw [List.length_append,UQ,UR] at ll
      rw [eZ]
      exact right M1 ll z1 z2
     ·rw [decide_eq_false (by omega:¬ ((A.length+s:Nat):Int) < (md:Int)),eZ]
      refine Vf ?_
      have:R.take e=[]:=by rw [show e=0 by omega,List.take_zero]
      rw [this,List.append_nil];exact Kw sL s
    ·refine cO.neg (by omega) ?_
     rw [eZ]
     refine Vf ?_
     have:L.take s=[]:=by rw [show s=0 by omega,List.take_zero]
     rw [this,List.nil_append];exact Kw sR e
   have UD:(L.drop s=[]∨R.take e=[])→cO (fun k=>d_.j6 k (A++(L++R)++B) (A.length:Int) ((A.length+L.length:Nat):Int) ((A.length+L.length+R.length:Nat):Int) () (md:Int) ((A.length+s:Nat):Int) ((A.length+L.length+e:Nat):Int) false) (fun r=>∃ M',r=A++M'++B∧gG dZ M'∧gK dZ M' (L++R)):=fun hz=>by
    refine cO.step (d_.j6.eq_2 _ _ _ _ _ _ _ _ _) ?_
    refine cO.neg (by simp) ?_
    rw [JA,show L.drop s++R.take e=R.take e++L.drop s by rcases hz with h|h <;> rw [h] <;> simp]
    exact two
   by_cases k1:s < L.length
   ·refine cO.pos (by omega) ?_
    by_cases k2:0 < e
    ·rw [decide_eq_true (by omega:((A.length+L.length:Nat):Int) < ((A.length+L.length+e:Nat):Int))]
     refine cO.step (d_.j6.eq_2 _ _ _ _ _ _ _ _ _) ?_
     refine cO.pos rfl (cO.bind (P:=fun r=>r=(A++L.take s)++(R.take e++L.drop s)++(R.drop e++B)) ?_ (fun r hr=>by rw [hr];exact two))
     rw [JA]
     exact aco (A++L.take s) (L.drop s) (R.take e) (R.drop e++B) (by omega) (by omega) (by simp;omega) (by simp;omega) (by simp;omega) (by simp;omega)
    ·rw [decide_eq_false (by omega:¬ ((A.length+L.length:Nat):Int) < ((A.length+L.length+e:Nat):Int))]
     exact UD (.inr (by rw [show e=0 by omega,List.take_zero]))
   ·exact cO.neg (by omega) (UD (.inl (List.drop_of_length_le (by omega))))
  by_cases c3:md < A.length+L.length
  ·refine cO.pos (by omega) ?_
   refine cO.step (d_.j4.eq_2 _ _ _ _ _ _ _ _ _) ?_
   rw [pK (x:=((md+(A.length+L.length):Nat):Int) - ((A.length+L.length+R.length:Nat):Int)) (md - R.length) (by omega) (by omega)]
   exact rest (md - R.length) md (by omega) (by omega) (by omega) (by omega) (by omega) (.inl rfl) (.inr (by omega))
  ·refine cO.neg (by omega) ?_
   refine cO.step (d_.j4.eq_2 _ _ _ _ _ _ _ _ _) ?_
   exact rest A.length (A.length+L.length) (by omega) (by omega) (by omega) (by omega) (by omega) (.inr rfl) (.inl rfl)

def x9 (n:Nat) (xs:List aC):Prop:=∀ i,gG dZ ((xs.drop (i * n)).take n)
theorem Gn {n q:Nat} {A M:List aC} (hA:x9 n A) (hl:A.length=q * n) (hM:gG dZ M) (hm:M.length≤n):x9 n (A++M):=by
 intro i
 rcases Nat.lt_trichotomy i q with h|h|h
 ·have:(i+1) * n≤q * n:=Nat.mul_le_mul_right n h
  rw [Nat.add_mul,Nat.one_mul] at this
  rw [List.drop_append_of_le_length (by omega),List.take_append_of_le_length (by rw [List.length_drop];omega)]
  exact hA i
 ·subst h
  rw [← hl,List.drop_left,List.take_of_length_le hm]
  exact hM
 ·have:(q+1) * n≤i * n:=Nat.mul_le_mul_right n h
  rw [Nat.add_mul,Nat.one_mul] at this
  rw [List.drop_of_length_le (by rw [List.length_append];omega)]
  simp [gG]
theorem Rl (n:Nat):x9 n []:=fun i=>by simp [gG]
theorem YJ {n:Nat} {B:List aC} (h:x9 n B) (j:Nat):x9 n (B.drop (j * n)):=fun i=>by
 have:=h (j+i)
 rw [Nat.add_mul] at this
 rw [List.drop_drop]
 exact this
theorem Rj {n:Nat} {B:List aC} (h:x9 n B) (hl:B.length≤n):gG dZ B:=by
 have:=h 0
 rw [Nat.zero_mul,List.drop_zero,List.take_of_length_le hl] at this
 exact this
theorem acM (n b:Nat) (hb:1≤b) (hbn:b < n) (hn:n≤10000000) (Q:List aC→Prop):∀ (m:Nat) (A B O:List aC) (q:Nat),B.length=m→A.length=q * (2 * b)→A.length+B.length=n→x9 (2 * b) A→x9 b B→gK dZ (A++B) O →
  (∀ X,X.length=n→x9 (2 * b) X→gK dZ X O→cO (fun k=>nN.l1 k X n () ((b * 2:Nat):Int)) Q) →
  cO (fun k=>nN.l2 k (A++B) n () b (A.length:Int) ((A.length+2 * b:Nat):Int)) Q:=by
 intro m
 induction m using Nat.strongRecOn with
 | _ m ih =>
  intro A B O q hm hA hl bA bB hS hk
  refine cO.step (nN.l2.eq_2 _ _ _ _ _ _) ?_
  have w1:wrap64 ((A.length:Int)+(b:Int))=((A.length+b:Nat):Int):=pK _ (by omega) (by omega)
  have w2:wrap64 (2 * (b:Int))=((2 * b:Nat):Int):=pK _ (by omega) (by omega)
  have w3:wrap64 ((b:Int) * 2)=((b * 2:Nat):Int):=pK _ (by omega) (by omega)
  have sL:gG dZ (B.take b):=by have:=bB 0;rwa [Nat.zero_mul,List.drop_zero] at this
  by_cases h:A.length+2 * b≤n
  ·refine cO.pos (by omega) ?_
   have sR:gG dZ ((B.drop b).take b):=by have:=bB 1;rwa [Nat.one_mul] at this
   have lL:(B.take b).length=b:=by rw [List.length_take];omega
   have lR:((B.drop b).take b).length=b:=by rw [List.length_take,List.length_drop];omega
   have eB:A++B=A++(B.take b++(B.drop b).take b)++(B.drop b).drop b:=by
    rw [List.append_assoc,List.append_assoc,List.take_append_drop,List.take_append_drop]
   have g:=V6 _ A (B.take b) ((B.drop b).take b) ((B.drop b).drop b) rfl (by omega) (by omega) (by simp;omega) sL sR
   rw [lL,lR,← eB,show A.length+b+b=A.length+2 * b by omega] at g
   rw [w1,w2,pK (x:=((A.length+2 * b:Nat):Int)+((2 * b:Nat):Int)) (A.length+2 * b+2 * b) (by omega) (by omega)]
   refine cO.bind g (fun r hr=>?_)
   obtain ⟨M,rfl,z1,z2⟩:=hr
   have J6:=gK.len nU _ M _ rfl z2
   rw [List.length_append,lL,lR] at J6
   have DK:(A++M).length=A.length+2 * b:=by rw [List.length_append];omega
   rw [← DK]
   refine ih ((B.drop b).drop b).length (by simp;omega) (A++M) ((B.drop b).drop b) O (q+1) rfl (by rw [DK,Nat.add_mul,Nat.one_mul];omega) (by rw [DK];simp;omega) (Gn bA hA z1 (by omega)) (by rw [List.drop_drop];have:=YJ bB 2;rwa [show 2 * b=b+b by omega] at this) ?_ hk
   refine gK.trans ?_ hS
   rw [eB]
   exact ((gK.refl A).app z2).app (gK.refl _)
  ·refine cO.neg (by omega) ?_
   rw [w1,w3]
   by_cases h2:A.length+b < n
   ·refine cO.pos (by omega) ?_
    have lL:(B.take b).length=b:=by rw [List.length_take];omega
    have sR:gG dZ (B.drop b):=by
     have:=bB 1
     rwa [Nat.one_mul,List.take_of_length_le (by rw [List.length_drop];omega)] at this
    have g:=V6 _ A (B.take b) (B.drop b) [] rfl (by omega) (by rw [List.length_drop];omega) (by simp;omega) sL sR
    rw [List.take_append_drop,List.append_nil,lL,List.length_drop,show A.length+b+(B.length - b)=n by omega] at g
    refine cO.bind g (fun r hr=>?_)
    obtain ⟨M,rfl,z1,z2⟩:=hr
    have J6:=gK.len nU _ M _ rfl z2
    rw [List.append_nil]
    exact hk (A++M) (by rw [List.length_append];omega) (Gn bA hA z1 (by omega)) (((gK.refl A).app z2).trans hS)
   ·refine cO.neg (by omega) ?_
    exact hk (A++B) (by rw [List.length_append];omega) (Gn bA hA (Rj bB (by omega)) (by omega)) hS
theorem acL (n:Nat) (hn:n≤10000000) (O:List aC):∀ (m b:Nat) (X:List aC),n - b=m→1≤b→X.length=n→x9 b X→gK dZ X O →
  cO (fun k=>nN.l1 k X n () b) (fun r=>gG dZ r∧gK dZ r O):=by
 intro m
 induction m using Nat.strongRecOn with
 | _ m ih =>
  intro b X hm hb hX bX hS
  refine cO.step (nN.l1.eq_2 _ _ _ _) ?_
  by_cases h:b < n
  ·refine cO.pos (by omega) ?_
   rw [pK (x:=2 * (b:Int)) (2 * b) (by omega) (by omega)]
   have:=acM n b hb h hn (fun r=>gG dZ r∧gK dZ r O) X.length [] X O 0 rfl (by simp) (by simpa using hX) (Rl _) bX hS (fun Y y1 y2 y3=>ih (n - b * 2) (by omega) (b * 2) Y rfl (by omega) y1 (by rwa [Nat.mul_comm] at y2) y3)
   simpa using this
  ·exact cO.neg (by omega) (cO.now ⟨Rj bX (by omega),hS⟩)
theorem acK (n:Nat) (hn:n≤10000000) (O:List aC):∀ (m:Nat) (A B:List aC) (q:Nat),B.length=m→A.length=q * 20→A.length+B.length=n→x9 20 A→gK dZ (A++B) O →
  cO (fun k=>nN.l0 k (A++B) n () 20 (A.length:Int) ((A.length+20:Nat):Int)) (fun r=>gG dZ r∧gK dZ r O):=by
 intro m
 induction m using Nat.strongRecOn with
 | _ m ih =>
  intro A B q hm hA hl bA hS
  refine cO.step (nN.l0.eq_2 _ _ _ _ _ _) ?_
  by_cases h:A.length+20≤n
  ·refine cO.pos (by omega) ?_
   have lL:(B.take 20).length=20:=by rw [List.length_take];omega
   have eB:A++B=A++B.take 20++B.drop 20:=by rw [List.append_assoc,List.take_append_drop]
   have g:=UA A (B.take 20) (B.drop 20) (by omega) (a:=(A.length:Int)) (b:=((A.length+20:Nat):Int)) rfl (by rw [lL])
   rw [← eB] at g
   rw [pK (x:=((A.length+20:Nat):Int)+20) (A.length+20+20) (by omega) (by omega)]
   refine cO.bind g (fun r hr=>?_)
   obtain ⟨M,rfl,z1,z2⟩:=hr
   have J6:=gK.len nU _ M _ rfl z2
   have DK:(A++M).length=A.length+20:=by rw [List.length_append];omega
   rw [← DK]
   refine ih (B.drop 20).length (by rw [List.length_drop];omega) (A++M) (B.drop 20) (q+1) rfl (by rw [DK];omega) (by rw [DK,List.length_drop];omega) (Gn bA hA z1 (by omega)) (gK.trans ?_ hS)
   rw [eB]
   exact ((gK.refl A).app z2).app (gK.refl _)
  ·refine cO.neg (by omega) ?_
   have g:=UA A B [] (by omega) (a:=(A.length:Int)) (b:=(n:Int)) rfl (by rw [hl])
   rw [List.append_nil] at g
   refine cO.bind g (fun r hr=>?_)
   obtain ⟨M,rfl,z1,z2⟩:=hr
   have J6:=gK.len nU _ M _ rfl z2
   rw [List.append_nil]
   exact acL n hn O (n - 20) 20 (A++M) rfl (by omega) (by rw [List.length_append];omega) (Gn bA hA z1 (by omega)) (((gK.refl A).app z2).trans hS)
theorem acD (X:List aC) (hn:X.length≤10000000):cO (fun k=>DV.f k X ()) (fun r=>gG dZ r∧gK dZ r X):=by
 unfold DV.f nN.f
 refine cO.bind (P:=fun r=>gG dZ r∧gK dZ r X) ?_ (fun r hr=>cO.now hr)
 have:=acK X.length hn X X.length [] X 0 rfl rfl (by simp) (Rl _) (gK.refl _)
 simpa using this

theorem rH (xs:List aC) (i:Nat) (h:i < xs.length):au xs (i:Int)=xs[i]:=getD_at _ xs i h
def jI:List UInt8→List (List UInt8)
 | []=>[[]]
 | b :: l=>if b=47 then [] :: jI l else match jI l with
  | []=>[[b]]
  | p :: r=>(b :: p) :: r
theorem zq (l:List UInt8):jI l≠[]:=by
 cases l with
 | nil=>simp [jI]
 | cons b l =>
  unfold jI
  split
  ·simp
  split <;> simp
theorem Pn (l:List UInt8):(jI l).length≤l.length+1:=by
 induction l with
 | nil=>simp [jI]
 | cons b l ih =>
  unfold jI
  split
  ·simp;omega
  ·split
   ·simp
   ·rename_i p r h;rw [h] at ih;simp at ih ⊢;omega
theorem DW (l:List UInt8):jI (47 :: l)=[] :: jI l:=by simp [jI]
theorem zu (b:UInt8) (l:List UInt8) (hb:b≠47) (p:List UInt8) (r:List (List UInt8)) (h:jI l=p :: r):jI (b :: l)=(b :: p) :: r:=by simp [jI,hb,h]
def xQ (cur l:List UInt8):List (List UInt8):=match jI l with
 | []=>[cur]
 | p :: r=>(cur++p) :: r
theorem DN (l:List UInt8):xQ [] l=jI l:=by
 unfold xQ
 split
 ·rename_i h;exact absurd h (zq l)
 ·rename_i h;simp [h]
theorem Vq (cur:List UInt8):xQ cur []=[cur]:=by simp [xQ,jI]
theorem Vr (cur l:List UInt8):xQ cur (47 :: l)=cur :: jI l:=by simp [xQ,jI]
theorem abV (cur:List UInt8) (b:UInt8) (l:List UInt8) (hb:b≠47):xQ cur (b :: l)=xQ (cur++[b]) l:=by
 unfold xQ
 obtain ⟨p,r,h⟩:=List.exists_cons_of_ne_nil (zq l)
 rw [zu b l hb p r h,h]
 simp
theorem Uw (b:UInt8) (l:List UInt8):Lib.index (b :: l) [47]=if b=47 then 0 else if Lib.index l [47] == -1 then -1 else Lib.index l [47]+1:=by
 rw [Lib.index]
 by_cases h:b=47
 ·subst h;simp [List.isPrefixOf]
 ·have:([47]:List UInt8).isPrefixOf (b :: l)=false:=by simp [List.isPrefixOf];exact fun e=>h e.symm
  rw [this,if_neg h];rfl
theorem Wn:∀ (l:List UInt8),Lib.splitK [47] 0 (l.count 47) l=jI l
 | []=>rfl
 | b :: l=>by
  have ih:=Wn l
  by_cases h:b=47
  ·subst h
   have e:Lib.index (47 :: l) [47]=0:=by rw [Uw];simp
   rw [List.count_cons_self,Lib.splitK,e]
   simp [jI,ih]
  ·rw [List.count_cons_of_ne (by simpa using h)]
   obtain ⟨p,r,hs⟩:=List.exists_cons_of_ne_nil (zq l)
   rw [zu b l h p r hs]
   rw [hs] at ih
   cases hc:l.count 47 with
   | zero =>
    rw [hc] at ih
    simp only [Lib.splitK] at ih ⊢
    simp at ih
    obtain ⟨rfl,rfl⟩:=ih
    rfl
   | succ n =>
    rw [hc] at ih
    have hi:=Uw b l
    rw [if_neg h] at hi
    have hg:=Lib.index_ge l [47]
    by_cases hm:Lib.index l [47] = -1
    ·rw [hm] at hi
     simp at hi
     rw [Lib.splitK,hm] at ih
     rw [Lib.splitK,hi]
     simp at ih ⊢
     exact ⟨ih.1,ih.2⟩
    ·rw [if_neg (by simpa using hm)] at hi
     obtain ⟨j,hj⟩:∃ j:Nat,Lib.index l [47]=j:=⟨(Lib.index l [47]).toNat,by omega⟩
     rw [hj] at hi hm
     rw [Lib.splitK,hj,if_neg (by simp)] at ih
     have e2:((j:Int)+1).toNat=j+1:=by omega
     rw [Lib.splitK,hi,if_neg (by simp;omega),e2]
     simp at ih ⊢
     exact ⟨by rw [← ih.1],by rw [← ih.2]⟩
theorem acH (s:ByteArray):(Lib.splitB ⟨#[47]⟩ 0 (Lib.countB s ⟨#[47]⟩) s).map (·.data.toList)=jI s.data.toList:=by
 rw [Lib.splitB_data]
 have:Lib.countB s ⟨#[47]⟩=s.data.toList.count 47:=by unfold Lib.countB;exact Lib.count_one 47 _
 rw [this]
 exact Wn _
def wS:List UInt8→Bool
 | []=>false
 | [b]=>b == 47
 | _ :: b :: l=>wS (b :: l)
def xA:List UInt8→Bool
 | []=>false
 | [_]=>false
 | a :: b :: l=>(a == 47 && b == 47) || xA (b :: l)
theorem SY:∀ l:List UInt8,Lib.contains l [47,47]=xA l
 | []=>rfl
 | [b]=>by simp [Lib.contains,Lib.index,xA,List.isPrefixOf]
 | a :: b :: l=>by
  have ih:=SY (b :: l)
  have hg:=Lib.index_ge (b :: l) [47,47]
  unfold Lib.contains at ih ⊢
  rw [Lib.index,xA]
  by_cases h:a=47∧b=47
  ·obtain ⟨rfl,rfl⟩:=h;simp [List.isPrefixOf]
  ·have e:([47,47]:List UInt8).isPrefixOf (a :: b :: l)=false:=by
    simp [List.isPrefixOf];intro h1 h2;exact h ⟨h1.symm,h2.symm⟩
   have e2:(a == 47 && b == 47)=false:=by simp;intro h1;exact fun h2=>h ⟨h1,h2⟩
   rw [e,e2,Bool.false_or,← ih]
   by_cases hm:Lib.index (b :: l) [47,47] = -1
   ·rw [hm];rfl
   ·rw [if_neg (by simp),if_neg (by simpa using hm)]
    rw [decide_eq_decide];omega
theorem Ws:∀ l:List UInt8,Lib.hasSuffix l [47]=wS l
 | []=>rfl
 | [b]=>by
  unfold Lib.hasSuffix
  simp [wS,List.isSuffixOf,List.isPrefixOf]
  rw [Bool.eq_iff_iff,beq_iff_eq,beq_iff_eq];exact eq_comm
 | a :: b :: l=>by
  rw [wS,← Ws (b :: l)]
  unfold Lib.hasSuffix
  rw [Bool.eq_iff_iff,List.isSuffixOf_iff_suffix,List.isSuffixOf_iff_suffix]
  constructor
  ·rintro ⟨t,ht⟩
   cases t with
   | nil=>simp at ht
   | cons c t=>simp at ht;exact ⟨t,ht.2⟩
  ·rintro ⟨t,ht⟩;exact ⟨a :: t,by simp [ht]⟩
def emp (l:List (List UInt8)):Bool:=l.any (·.isEmpty)
theorem Td:∀ (l:List UInt8),(∀ b,b≠47→(xA (b :: l) || wS (b :: l))=emp (jI l).tail)∧(xA (47 :: l) || wS (47 :: l))=emp (jI l)
 | []=>by
  refine ⟨fun b hb=>?_,rfl⟩
  simp [xA,wS,emp,jI,hb]
 | c :: l=>by
  obtain ⟨h1,h2⟩:=Td l
  by_cases hc:c=47
  ·subst hc
   refine ⟨fun b hb=>?_,?_⟩
   ·rw [DW,List.tail_cons,← h2,xA,wS]
    simp [show (b == 47)=false from beq_eq_false_iff_ne.2 hb]
   ·simp [xA,DW,emp]
  ·obtain ⟨p,r,hs⟩:=List.exists_cons_of_ne_nil (zq l)
   have:=h1 c hc
   rw [hs,List.tail_cons] at this
   refine ⟨fun b hb=>?_,?_⟩
   ·rw [zu c l hc p r hs,List.tail_cons,← this,xA,wS];simp [show (b == 47)=false from beq_eq_false_iff_ne.2 hb]
   ·rw [zu c l hc p r hs,show emp ((c :: p) :: r)=emp r by simp [emp],← this,xA,wS];simp [show (c == 47)=false from beq_eq_false_iff_ne.2 hc]
def nb (b:UInt8):Bool:=(decide (97≤b.toNat) && decide (b.toNat≤122)) || (decide (48≤b.toNat) && decide (b.toNat≤57))
def rE (b:UInt8):Bool:=!(nb b || b == 47)
theorem Zf (s:ByteArray) (i:Nat) (h:(s.get! i).toNat < 128):Utf8.decode s i=((s.get! i).toNat,1):=by
 unfold Utf8.decode
 simp only [Nat.add_zero]
 rw [if_pos h]
theorem decode_high (s:ByteArray) (i:Nat) (h:¬ (s.get! i).toNat < 128):128≤(Utf8.decode s i).1:=by
 unfold Utf8.decode
 simp only [Nat.add_zero]
 rw [if_neg h]
 have hr:128≤Utf8.runeError:=by decide
 repeat' (first|exact hr|(split))
 all_goals first|exact hr|assumption|(simp only [ge_iff_le,Bool.and_eq_true,decide_eq_true_eq] at *;omega)
theorem Us (p:Nat→Bool) (hp:∀ r,p r=!((97≤r && r≤122) || (48≤r && r≤57) || r == 47)) (s:ByteArray):∀ (f pos:Nat),s.size≤pos+f →
  decide (0≤Lib.idxFuncFrom p true s f pos)=(s.data.toList.drop pos).any rE
 | 0,pos,h=>by
  rw [List.drop_of_length_le (by rw [Array.length_toList];exact h)]
  simp [Lib.idxFuncFrom]
 | f+1,pos,h=>by
  unfold Lib.idxFuncFrom
  by_cases hlt:pos < s.size
  ·rw [if_pos hlt]
   have hg:s.get! pos=s.data.toList[pos]'(by rw [Array.length_toList];exact hlt):=by
    show s.data[pos]! = _
    rw [getElem!_pos s.data pos hlt];simp
   rw [List.drop_eq_getElem_cons (by rw [Array.length_toList];exact hlt),List.any_cons,← hg]
   by_cases hb:(s.get! pos).toNat < 128
   ·rw [Zf s pos hb,hp]
    have e:(!((decide (97≤(s.get! pos).toNat) && decide ((s.get! pos).toNat≤122)) || (decide (48≤(s.get! pos).toNat) && decide ((s.get! pos).toNat≤57)) || (s.get! pos).toNat == 47))=rE (s.get! pos):=by
     unfold rE nb
     congr 2
     rw [Bool.eq_iff_iff,beq_iff_eq,beq_iff_eq,← UInt8.toNat_inj];rfl
    rw [e]
    cases hq:rE (s.get! pos) with
    | true=>rw [if_pos rfl];simp
    | false=>rw [if_neg (by simp),Bool.false_or];exact Us p hp s f (pos+1) (by omega)
   ·have hd:=decode_high s pos hb
    have e1:p (Utf8.decode s pos).1=true:=by
     rw [hp];simp;omega
    have e2:rE (s.get! pos)=true:=by
     unfold rE nb
     have:(s.get! pos == 47)=false:=by
      rw [beq_eq_false_iff_ne];intro e;rw [e] at hb;exact hb (by decide)
     rw [this];simp;omega
    rw [if_pos e1,e2];simp
  ·rw [if_neg hlt,List.drop_of_length_le (by rw [Array.length_toList];exact Nat.le_of_not_lt hlt)];simp

theorem zl (a b c:Int):mZ.f a b c=some (decide (b≤a∧a≤c)):=by
 unfold mZ.f
 by_cases h:a ≥ b
 ·rw [if_pos h];congr 1;simp;omega
 ·rw [if_neg h];congr 1;simp;omega

theorem SK (a:ByteArray) (i:Nat) (h:i < a.data.toList.length):bt a (i:Int)=((a.data.toList[i]).toNat:Int):=by
 have h2:i < a.size:=by rw [uy] at h;exact h
 rw [← EH a (i:Int) (by simpa using h2)]
 simp only [Int.toNat_natCast];rfl

def sW (l:List UInt8):ByteArray:=⟨l.toArray⟩
theorem Bq (l:List UInt8):(sW l).data.toList=l:=rfl
theorem abt (l:List UInt8):(sW l).size=l.length:=EC l
theorem abr (b:ByteArray):sW b.data.toList=b:=wL rfl
theorem U2 {xs:List ByteArray} {l:List (List UInt8)} (h:xs.map (·.data.toList)=l):xs=l.map sW:=by
 rw [← h,List.map_map]
 have:(sW ∘ fun x:ByteArray=>x.data.toList)=id:=by funext b;exact abr b
 rw [this,List.map_id]
def ql (out:List ByteArray) (long:Bool) (cur rest:List UInt8):List ByteArray × Int :=
 if rest.any rE then ([],1) else if emp (xQ cur rest) then ([],1) else if long || (xQ cur rest).any (fun p=>decide (7 < p.length)) then ([],2) else (out++(xQ cur rest).map sW,0)
theorem abw (x:UInt8):(decide ((97:Int)≤(x.toNat:Int)∧(x.toNat:Int)≤122) || decide ((48:Int)≤(x.toNat:Int)∧(x.toNat:Int)≤57))=nb x:=by
 unfold nb
 rw [Bool.eq_iff_iff]
 simp
 omega
theorem Zt (out:List ByteArray) (long:Bool) (cur rest:List UInt8) (x:UInt8) (h:rE x=true):ql out long cur (x :: rest)=([],1):=by
 unfold ql
 rw [if_pos (by simp [h])]
theorem Zx (out:List ByteArray) (long:Bool) (cur rest:List UInt8) (x:UInt8) (h:nb x=true) (h47:x≠47):ql out long cur (x :: rest)=ql out long (cur++[x]) rest:=by
 unfold ql
 rw [abV cur x rest h47,List.any_cons,show rE x=false by simp [rE,h],Bool.false_or]
theorem MH:rE 47=false:=by decide
theorem Zu (out:List ByteArray) (long:Bool) (rest:List UInt8):ql out long [] (47 :: rest)=([],1):=by
 unfold ql
 rw [Vr,show emp ([] :: jI rest)=true by simp [emp]]
 split <;> rfl
theorem Zy (out:List ByteArray) (long:Bool) (cur rest:List UInt8) (hc:cur≠[]):ql out long cur (47 :: rest)=ql (out++[sW cur]) (long || decide (7 < cur.length)) [] rest:=by
 unfold ql
 rw [Vr,DN,List.any_cons,MH,Bool.false_or]
 rw [show emp (cur :: jI rest)=emp (jI rest) by simp [emp,hc]]
 simp only [List.any_cons,List.map_cons,List.append_assoc,List.singleton_append,Bool.or_assoc]
theorem Zw (out:List ByteArray) (long:Bool):ql out long [] []=([],1):=by
 unfold ql
 rw [Vq];rfl
theorem Zv (out:List ByteArray) (long:Bool) (cur:List UInt8) (hc:cur≠[]):ql out long cur []=if (long || decide (7 < cur.length)) then ([],2) else (out++[sW cur],0):=by
 unfold ql
 rw [Vq]
 simp [emp,hc]
theorem O7 (a:ByteArray) (hn:a.size≤60):∀ (i dM:Nat) (out:List ByteArray) (long:Bool),dM≤i→i≤a.size→out.length≤i→Ev (fun k=>jm.l0 k a [] out long (dM:Int) (i:Int)) (ql out long ((a.data.toList.take i).drop dM) (a.data.toList.drop i))
 | i,dM,out,long,hb,hi,ho=>by
  refine Ev.step (jm.l0.eq_2 _ _ _ _ _ _) ?_
  have hl:=uy a
  have hcl:((a.data.toList.take i).drop dM).length=i - dM:=by rw [List.length_drop,List.length_take];omega
  have hE:a.extract (dM:Int).toNat (i:Int).toNat=sW ((a.data.toList.take i).drop dM):=wL (by rw [Ez,Bq];rfl)
  have hw:wrap64 ((i:Int) - (dM:Int))=(i:Int) - dM:=mO (by omega) (by omega)
  have hlim:out.length < 8796093022208:=by omega
  by_cases h:i < a.size
  ·have h':i < a.data.toList.length:=by omega
   rw [drop_at a.data.toList i h']
   refine aV (by omega) (aV (by omega) (aV (by omega) ?_))
   refine Ev.step (jm.j2.eq_2 _ _ _ _ _ _ _) ?_
   rw [SK a i h']
   have htk:(a.data.toList.take (i+1)).drop dM=(a.data.toList.take i).drop dM++[a.data.toList[i]]:=by
    rw [List.take_succ_eq_append_getElem h',List.drop_append_of_le_length (by rw [List.length_take];omega)]
   have aaw:(a.data.toList.take (i+1)).drop (i+1)=[]:=List.drop_of_length_le (by rw [List.length_take];omega)
   generalize hx:a.data.toList[i]=x at htk
   by_cases h47:x=47
   ·subst h47
    refine dn (by decide) ?_
    by_cases hbi:dM=i
    ·subst hbi
     refine aV rfl (dY ?_)
     rw [show (a.data.toList.take dM).drop dM=[] from List.eq_nil_of_length_eq_zero (by omega),Zu]
    ·refine dn (by omega) ?_
     rw [Zy _ _ _ _ (by intro e;rw [e] at hcl;simp at hcl;omega),hcl]
     have ih:=fun xP=>O7 a hn (i+1) (i+1) (out++[sW ((a.data.toList.take i).drop dM)]) xP (Nat.le_refl _) (by omega) (by simp;omega)
     rw [aaw] at ih
     cases long with
     | true =>
      refine aV rfl (aV (by omega) (aV (by omega) (aV (by omega) (aV hlim ?_))))
      rw [hE,lV i (by omega)]
      exact ih true
     | false =>
      refine dn (by simp) (aV (by omega) (aV (by omega) (aV (by omega) (aV hlim ?_))))
      rw [hE,lV i (by omega),hw]
      have e:decide ((i:Int) - (dM:Int) > 7)=decide (7 < i - dM):=by rw [decide_eq_decide];omega
      rw [e,Bool.false_or]
      exact ih _
   ·have hne:(((x.toNat:Int)) != 47)=true:=by
     rw [bne_iff_ne];intro e;exact h47 (UInt8.toNat_inj.1 (show x.toNat=(47:UInt8).toNat from (show x.toNat=47 by omega)))
    have hxl:x.toNat < 256:=UInt8.toNat_lt x
    refine aV hne (aV (by omega) (aV (by omega) ?_))
    rw [mO (by omega) (by omega)]
    have hj:∀ v,v=!nb x→Ev (fun k=>jm.j3 k a [] out long (dM:Int) (i:Int) v) (ql out long ((a.data.toList.take i).drop dM) (x :: a.data.toList.drop (i+1))):=by
     intro v hv
     refine Ev.step (jm.j3.eq_2 _ _ _ _ _ _ _) ?_
     cases hq:nb x with
     | false=>
      rw [hq] at hv
      exact aV hv (dY (Zt _ _ _ _ _ (by simp [rE,hq,h47])).symm)
     | true =>
      rw [hq] at hv
      subst hv
      refine dn (by simp) ?_
      rw [Zx _ _ _ _ _ hq h47,lV i (by omega),← htk]
      exact O7 a hn (i+1) dM out long (by omega) (by omega) (by omega)
    have hnb:=abw x
    refine Ev.bind (iU (zl _ _ _)) ?_
    by_cases q1:(97:Int)≤(x.toNat:Int)∧(x.toNat:Int)≤122
    ·refine aV (by simpa using q1) (hj _ ?_)
     rw [← hnb,decide_eq_true q1];rfl
    ·refine dn (by simpa using q1) (Ev.bind (iU (zl _ _ _)) (hj _ ?_))
     rw [← hnb,decide_eq_false q1,Bool.false_or]
  ·have he:i=a.size:=by omega
   refine aV (by omega) (dn (by omega) ?_)
   refine Ev.step (jm.j2.eq_2 _ _ _ _ _ _ _) ?_
   refine dn (by simp) ?_
   rw [List.drop_of_length_le (by omega:a.data.toList.length≤i)]
   by_cases hbi:dM=i
   ·subst hbi
    refine aV rfl (dY ?_)
    rw [show (a.data.toList.take dM).drop dM=[] from List.eq_nil_of_length_eq_zero (by omega),Zw]
   ·refine dn (by omega) ?_
    rw [Zv _ _ _ (by intro e;rw [e] at hcl;simp at hcl;omega),hcl]
    have last:∀ (o:List ByteArray) (xP:Bool),Ev (fun k=>jm.l0 k a [] o xP ((i+1:Nat):Int) ((i+1:Nat):Int)) (if xP then ([],2) else (o,0)):=by
     intro o xP
     refine Ev.step (jm.l0.eq_2 _ _ _ _ _ _) ?_
     refine dn (by omega) ?_
     cases xP with
     | true=>exact aV rfl (dY rfl)
     | false=>exact dn (by simp) (dY rfl)
    cases long with
    | true =>
     refine aV rfl (aV (by omega) (aV (by omega) (aV (by omega) (aV hlim ?_))))
     rw [hE,lV i (by omega)]
     exact jT (last _ _) (by simp)
    | false =>
     refine dn (by simp) (aV (by omega) (aV (by omega) (aV (by omega) (aV hlim ?_))))
     rw [hE,lV i (by omega),hw]
     have e:decide ((i:Int) - (dM:Int) > 7)=decide (7 < i - dM):=by rw [decide_eq_decide];omega
     rw [e,Bool.false_or]
     exact last _ _
 termination_by i=>a.size+1 - i
def fA (a:ByteArray):List ByteArray × Int :=
 if 60 < a.size then ([],1) else match a.data.toList with
  | []=>([],1)
  | c :: t=>if c≠47 then ([],1) else if t=[] then ([],0) else ql [] false [] t
theorem Fz (a:ByteArray):Ev (fun k=>jm.f k a) (fA a):=by
 unfold jm.f fA
 simp only [Option.bind_some]
 have hl:=uy a
 have j1:Ev (fun k=>jm.j0 k a [] true) ([],1):=by
  refine Ev.step (jm.j0.eq_2 _ _ _) ?_
  exact aV rfl (dY rfl)
 by_cases h:60 < a.size
 ·rw [if_pos h];exact aV (by omega) j1
 ·rw [if_neg h]
  refine dn (by omega) ?_
  rcases hq:a.data.toList with _|⟨c,t⟩
  ·rw [hq] at hl;simp at hl
   exact aV (by omega) j1
  ·have hl':=hl
   rw [hq] at hl';simp at hl'
   refine dn (by omega) (aV (by omega) ?_)
   have hb:=SK a 0 (by omega)
   have e0:a.data.toList[0]'(by omega)=c:=by simp [hq]
   rw [e0] at hb
   rw [show bt a 0=(c.toNat:Int) from hb]
   refine Ev.step (jm.j0.eq_2 _ _ _) ?_
   by_cases h47:c=47
   ·subst h47
    refine dn (by decide) ?_
    rw [tX,hq]
    simp only [ne_eq,not_true,if_false]
    by_cases ht:t=[]
    ·subst ht;exact aV rfl (dY rfl)
    ·rw [if_neg ht]
     refine dn (by simp [ht]) (jT (O7 a (by omega) 1 1 [] false (Nat.le_refl _) (by omega) (by simp)) ?_)
     rw [hq];simp
   ·refine aV ?_ (dY (by simp [h47]))
    rw [bne_iff_ne];intro e;exact h47 (UInt8.toNat_inj.1 (show c.toNat=(47:UInt8).toNat from (show c.toNat=47 by omega)))
def Bo (xs:List ByteArray):Bool:=xs.any (fun p=>decide (7 < p.size))
theorem Uh (xs:List ByteArray) (hn:xs.length≤1000000):∀ i:Nat,i≤xs.length→∃ r:Int,Ev (fun k=>uY.l0 k xs (xs.length:Int) (i:Int)) r∧decide (r ≥ 0)=Bo (xs.drop i)
 | i,hi=>by
  by_cases h:i < xs.length
  ·rw [drop_at xs i h]
   by_cases hs:7 < xs[i].size
   ·refine ⟨i,?_,?_⟩
    ·refine Ev.step (uY.l0.eq_2 _ _ _) ?_
     refine aV (by omega) (aV (by omega) (aV (by omega) (Ev.bind (iU rfl) (aV ?_ (dY rfl)))))
     rw [Ak _ xs i h];exact decide_eq_true (by omega)
    ·rw [show Bo (xs[i] :: xs.drop (i+1))=(decide (7 < xs[i].size) || Bo (xs.drop (i+1))) from rfl,decide_eq_true hs];simp
   ·obtain ⟨r,hr,he⟩:=Uh xs hn (i+1) (by omega)
    refine ⟨r,?_,?_⟩
    ·refine Ev.step (uY.l0.eq_2 _ _ _) ?_
     refine aV (by omega) (aV (by omega) (aV (by omega) (Ev.bind (iU rfl) (dn ?_ ?_))))
     ·rw [Ak _ xs i h];simp;omega
     ·rw [lV i (by omega)];exact hr
    ·rw [he,show Bo (xs[i] :: xs.drop (i+1))=(decide (7 < xs[i].size) || Bo (xs.drop (i+1))) from rfl,decide_eq_false hs];simp
  ·refine ⟨-1,?_,?_⟩
   ·refine Ev.step (uY.l0.eq_2 _ _ _) ?_
    exact dn (by omega) (dY rfl)
   ·rw [List.drop_of_length_le (by omega)];rfl
 termination_by i=>xs.length - i
theorem aaG (xs:List ByteArray) (hn:xs.length≤1000000):Ev (fun k=>DU.f k xs ()) (Bo xs):=by
 unfold DU.f uY.f
 obtain ⟨r,hr,he⟩:=Uh xs hn 0 (by omega)
 exact Ev.bind hr (dY (by rw [he,List.drop_zero]))
theorem Uf (a:ByteArray):strings_ContainsFunc.f a ()=some (a.data.toList.any rE):=by
 unfold strings_ContainsFunc.f
 congr 1
 have:=Us (fun r=>(yR.f (r:Int)).getD false) (fun r=>by
  unfold yR.f Du.f
  by_cases h1:(r:Int) ≥ 97 <;> by_cases h2:(r:Int)≤122 <;> by_cases h3:(r:Int) ≥ 48 <;> by_cases h4:(r:Int)≤57 <;> simp only [h1,h2,h3,h4,if_true,if_false,Option.bind_some,Option.getD_some] <;> rw [Bool.eq_iff_iff] <;> simp <;> omega) a a.size 0 (by omega)
 rw [List.drop_zero] at this
 exact this
theorem abh (l:List (List UInt8)):Bo (l.map sW)=l.any (fun p=>decide (7 < p.length)):=by
 unfold Bo
 rw [List.any_map]
 rfl
theorem HY (a:ByteArray) (ha:a.size≤140737488351232):Ev (fun k=>mF.f k a) (fA a):=by
 unfold mF.f fA
 have hl:=uy a
 have j1:Ev (fun k=>mF.j0 k a true) ([],1):=by
  refine Ev.step (mF.j0.eq_2 _ _) ?_
  exact aV rfl (dY rfl)
 by_cases h:60 < a.size
 ·rw [if_pos h];exact aV (by omega) j1
 ·rw [if_neg h]
  refine dn (by omega) ?_
  have hC:strings_Contains.f a ⟨#[47,47]⟩=some (xA a.data.toList):=by
   unfold strings_Contains.f
   rw [if_pos (by omega)]
   congr 1
   exact SY _
  have hS:strings_HasSuffix.f a ⟨#[47]⟩=some (wS a.data.toList):=by
   unfold strings_HasSuffix.f
   rw [if_pos (by omega)]
   congr 1
   exact Ws _
  rcases hq:a.data.toList with _|⟨c,t⟩
  ·refine Ev.bind (iU (show strings_HasPrefix.f a ⟨#[47]⟩=some false by unfold strings_HasPrefix.f;rw [hq];rfl)) ?_
   exact dn (by simp) j1
  ·have hP:strings_HasPrefix.f a ⟨#[47]⟩=some (c == 47):=by
    unfold strings_HasPrefix.f
    rw [hq]
    congr 1
    show ([47]:List UInt8).isPrefixOf (c :: t)=_
    simp [List.isPrefixOf]
    rw [Bool.eq_iff_iff,beq_iff_eq,beq_iff_eq];exact ⟨fun h=>h.symm,fun h=>h.symm⟩
   refine Ev.bind (iU hP) ?_
   by_cases h47:c=47
   ·subst h47
    refine aV (by simp) ?_
    rw [tX,hC,hS,hq]
    simp only [ne_eq,not_true,if_false]
    have h1:(1:Int)≤(a.size:Int):=by rw [hq] at hl;simp at hl;omega
    by_cases ht:t=[]
    ·subst ht
     rw [if_pos rfl]
     refine aV rfl (Ev.bind (iU rfl) ?_)
     refine Ev.step (mF.j0.eq_2 _ _) ?_
     refine dn (by decide) (Ev.bind (iU (Uf a)) ?_)
     rw [hq]
     refine dn (by decide) ?_
     rw [tX,hq]
     exact aV rfl (dY rfl)
    ·rw [if_neg ht]
     refine dn (by simp [ht]) (Ev.bind (iU rfl) ?_)
     have hemp:=(Td t).2
     have main:∀ v,v=xA (47 :: t)→wS (47 :: t)=false→Ev (fun k=>mF.j0 k a v) (ql [] false [] t):=by
      intro v hv he
      rw [he,Bool.or_false] at hemp
      refine Ev.step (mF.j0.eq_2 _ _) ?_
      unfold ql
      rw [DN]
      cases hv2:v with
      | true =>
       refine aV rfl (dY ?_)
       rw [← hemp,← hv,hv2]
       split <;> rfl
      | false =>
       refine dn (by simp) (Ev.bind (iU (Uf a)) ?_)
       rw [hq,List.any_cons,MH,Bool.false_or,← hemp,← hv,hv2]
       cases hb:t.any rE with
       | true=>exact aV rfl (dY (by simp))
       | false =>
        refine dn (by simp) ?_
        rw [tX,hq]
        refine dn (by simp [ht]) (aV h1 ?_)
        have hsz:(a.extract 1 a.size).data.toList=t:=by
         rw [Ez,← hl,List.take_length,hq];rfl
        have hsp:strings_Split.f (a.extract 1 a.size) ⟨#[47]⟩=some ((jI t).map sW):=by
         unfold strings_Split.f
         have hs2:(a.extract 1 a.size).size < 4294967281:=by
          rw [← uy,hsz];rw [hq] at hl;simp at hl;omega
         rw [if_pos ⟨hs2,by decide⟩]
         congr 1
         refine U2 ?_
         rw [acH,hsz]
        refine Ev.bind (iU hsp) ?_
        have hln:((jI t).map sW).length≤1000000:=by
         have:=Pn t
         rw [List.length_map];rw [hq] at hl;simp at hl;omega
        refine Ev.bind (aaG _ hln) ?_
        rw [abh]
        cases hg:(jI t).any (fun p=>decide (7 < p.length)) with
        | true=>exact aV rfl (dY (by simp))
        | false=>exact dn (by simp) (dY (by simp))
     cases he:wS (47 :: t) with
     | true =>
      refine aV rfl (jT j1 ?_)
      rw [he,Bool.or_true] at hemp
      unfold ql
      rw [DN,← hemp]
      split <;> rfl
     | false =>
      refine dn (by simp) (Ev.bind (iU rfl) ?_)
      exact main _ rfl he
   ·refine dn (by simp [h47]) (jT j1 ?_)
    simp [h47]

theorem FH (a:ByteArray):(fA a).1.length≤1000:=by
 unfold fA
 split
 ·simp
 ·rename_i h
  have hl:=uy a
  split
  ·simp
  ·rename_i c t hq
   split
   ·simp
   ·split
    ·simp
    ·unfold ql
     have:=Pn t
     rw [hq] at hl;simp at hl
     repeat' (first|(split)|(simp;done))
     rw [DN];simp;omega
theorem Wu {α:Type} (f:α→Nat) (xs:List α) (n:Nat):pF f (xs.take n)≤pF f xs:=by
 induction xs generalizing n with
 | nil=>simp
 | cons x r ih =>
  cases n with
  | zero=>simp [pF]
  | succ n=>rw [List.take_succ_cons,Aw,Aw];have:=ih n;omega
theorem Wi:∀ l:List UInt8,pF (fun p:List UInt8=>p.length) (jI l)≤l.length
 | []=>by simp [jI,pF]
 | b :: l=>by
  have ih:=Wi l
  by_cases h:b=47
  ·subst h;rw [DW,Aw];simp;omega
  ·obtain ⟨p,r,hs⟩:=List.exists_cons_of_ne_nil (zq l)
   rw [zu b l h p r hs,Aw]
   rw [hs,Aw] at ih
   simp;omega
theorem acP (l:List (List UInt8)):pF (fun b:ByteArray=>b.size) (l.map sW)=pF (fun p:List UInt8=>p.length) l:=by
 induction l with
 | nil=>rfl
 | cons p r ih=>rw [List.map_cons,Aw,Aw,ih,abt]
theorem IC (a:ByteArray) (h:(fA a).2=0):a.size≤60∧((a.data.toList=[47]∧(fA a).1=[])∨∃ t,a.data.toList=47 :: t∧t≠[]∧t.any rE=false∧emp (jI t)=false∧(jI t).any (fun p=>decide (7 < p.length))=false∧(fA a).1=(jI t).map sW):=by
 unfold fA at h ⊢
 split at h
 ·cases h
 rename_i h60
 rw [if_neg h60]
 refine ⟨by omega,?_⟩
 split at h
 ·cases h
 ·rename_i c t hq
  rw [hq]
  split at h
  ·cases h
  ·rename_i h47
   simp only [ne_eq,Decidable.not_not] at h47
   subst h47
   split at h
   ·rename_i ht
    subst ht
    exact Or.inl ⟨rfl,by simp⟩
   ·rename_i ht
    right
    refine ⟨t,rfl,ht,?_⟩
    simp only [ne_eq,not_true,if_false,if_neg ht]
    unfold ql at h ⊢
    rw [DN] at h ⊢
    cases hb:t.any rE with
    | true=>rw [hb] at h;cases h
    | false =>
     cases he:emp (jI t) with
     | true=>rw [hb,he] at h;cases h
     | false =>
      cases hl:(jI t).any (fun p=>decide (7 < p.length)) with
      | true=>rw [hb,he,hl] at h;cases h
      | false=>simp
theorem acF (a:ByteArray):(fA a).1.length+pF (fun b:ByteArray=>b.size) (fA a).1≤1000000:=by
 unfold fA
 split
 ·simp [pF]
 ·rename_i h
  have hl:=uy a
  split
  ·simp [pF]
  ·rename_i c t hq
   rw [hq] at hl;simp at hl
   split
   ·simp [pF]
   ·split
    ·simp [pF]
    ·unfold ql
     have h1:=Pn t
     have h2:=Wi t
     repeat' (first|(simp [pF];done)|split)
     rw [DN,List.nil_append,acP,List.length_map];omega

def jn:List ByteArray→List UInt8
 | []=>[]
 | x :: r=>47 :: (x.data.toList++jn r)
theorem OC (xs:List ByteArray):(jn xs).length=xs.length+pF (fun s:ByteArray=>s.size) xs:=by
 induction xs with
 | nil=>rfl
 | cons x r ih=>rw [Aw];simp [jn,ih];omega
def jp (xs:List ByteArray):ByteArray:=if xs=[] then ⟨#[47]⟩ else ⟨(jn xs).toArray⟩
theorem aa1 (x:ByteArray) (r:List ByteArray):jn (x :: r)=47 :: Lib.join ((x :: r).map (·.data.toList)) [47]:=by
 unfold Lib.join
 induction r generalizing x with
 | nil=>simp [jn,List.intercalate]
 | cons y s ih =>
  have:=ih y
  simp only [jn] at this ⊢
  rw [List.map_cons,List.map_cons,List.intercalate_cons_cons]
  simp only [List.map_cons] at this
  rw [this]
  simp
theorem VK (xs:List ByteArray) (hn:xs.length+pF (fun s:ByteArray=>s.size) xs≤100000000000000):∀ (i:Nat) (o:ByteArray),i≤xs.length→o.size+(jn (xs.drop i)).length≤100000000000000→Ev (fun k=>tu.l0 k xs o i) (⟨(o.data.toList++jn (xs.drop i)).toArray⟩)
 | i,o,hi,ho=>by
  refine Ev.step (tu.l0.eq_2 _ _ _) ?_
  by_cases h:i < xs.length
  ·rw [drop_at xs i h] at ho ⊢
   have hl:(jn (xs[i] :: xs.drop (i+1))).length=1+xs[i].size+(jn (xs.drop (i+1))).length:=by simp [jn];omega
   have e1:(⟨#[47]⟩:ByteArray).size=1:=rfl
   refine aV (by omega) (aV (by omega) (aV (by omega) ?_))
   rw [Ak _ xs i h,lV i (by omega)]
   refine aV (by rw [ByteArray.size_append,e1];omega) (jT (VK xs hn (i+1) _ (by omega) (by rw [ByteArray.size_append,ByteArray.size_append,e1];omega)) ?_)
   rw [zM,zM]
   simp [jn]
  ·refine dn (by omega) (dY (wL ?_))
   rw [sJ,List.drop_of_length_le (by omega)];simp [jn]
 termination_by i=>xs.length - i
theorem VJ (xs:List ByteArray) (hn:xs.length+pF (fun s:ByteArray=>s.size) xs≤100000000000000):Ev (fun k=>tu.f k xs) (jp xs):=by
 unfold tu.f jp
 by_cases h:xs=[]
 ·subst h
  exact aV rfl (dY rfl)
 ·rw [if_neg h]
  refine dn (by have:=List.length_pos_iff.2 h;omega) (jT (VK xs hn 0 _ (by omega) (by rw [List.drop_zero,OC];have:(⟨#[]⟩:ByteArray).size=0:=rfl;omega)) ?_)
  rfl

theorem aaH (xs:List ByteArray) (hn:xs.length+pF (fun s:ByteArray=>s.size) xs≤100000000000000):Ac.f xs=some (jp xs):=by
 unfold Ac.f jp
 match xs with
 | []=>rfl
 | x :: r =>
  have hj:=aa1 x r
  have hl:=OC (x :: r)
  have hl2:(Lib.join ((x :: r).map (·.data.toList)) (⟨#[47]⟩:ByteArray).data.toList).length+1=(jn (x :: r)).length:=by rw [hj];rfl
  rw [if_neg (by simp;omega),if_neg (by simp)]
  unfold strings_Join.f
  rw [if_pos ⟨by omega,by omega⟩,Option.bind_some,if_pos (by rw [EC];omega)]
  congr 1
  refine wL ?_
  rw [zM,sJ,sJ,hj];rfl

theorem Jz {α:Type} (xs ys:List α) (i:Nat) (h1:i < xs.length) (h2:i < ys.length):xs.drop i=ys.drop i ↔ xs[i]=ys[i]∧xs.drop (i+1)=ys.drop (i+1):=by
 rw [drop_at xs i h1,drop_at ys i h2,List.cons.injEq]
open Classical in
noncomputable def wU (xs ys:List ByteArray):Bool:=decide (xs=ys)
open Classical in
theorem Ug (xs ys:List ByteArray) (hl:xs.length=ys.length) (hn:xs.length≤4000000):∀ i:Nat,i≤xs.length→Ev (fun k=>slices_Equal_string.l0 k xs ys (xs.length:Int) i) (wU (xs.drop i) (ys.drop i))
 | i,hi=>by
  refine Ev.step (slices_Equal_string.l0.eq_2 _ _ _ _) ?_
  by_cases h:i < xs.length
  ·refine aV (by omega) (aV (by omega) (aV (by omega) (aV (by omega) ?_)))
   rw [Ak _ xs i h,Ak _ ys i (by omega),lV i (by omega)]
   by_cases he:xs[i]=ys[i]'(by omega)
   ·refine aV (by rw [he]) (jT (Ug xs ys hl hn (i+1) (by omega)) ?_)
    unfold wU
    simp only [Jz xs ys i h (by omega),he,true_and]
   ·refine dn (fun hc=>he (toList_inj hc)) (dY ?_)
    unfold wU
    simp only [Jz xs ys i h (by omega),he,false_and,decide_false]
  ·refine dn (by omega) (dY ?_)
   rw [List.drop_of_length_le (by omega),List.drop_of_length_le (by omega)]
   unfold wU;simp
 termination_by i=>xs.length - i
theorem aaE (xs ys:List ByteArray) (hn:xs.length≤4000000):Ev (fun k=>slices_Equal_string.f k xs ys) (wU xs ys):=by
 unfold slices_Equal_string.f
 by_cases h:xs.length=ys.length
 ·have:=Ug xs ys h hn 0 (by omega)
  rw [List.drop_zero,List.drop_zero] at this
  exact aV (by omega) this
 ·refine dn (by omega) (dY ?_)
  unfold wU
  rw [decide_eq_false];intro e;exact h (by rw [e])

noncomputable def uO (a b:ByteArray):Bool:=decide ((fA a).2=0) && (decide ((fA b).2=0) && (decide ((fA b).1.length < (fA a).1.length) && wU ((fA a).1.take (fA b).1.length) (fA b).1))
open Classical in
theorem VY (xs ys:List ByteArray) (hl:ys.length < xs.length) (hn:xs.length≤4000000):∀ i:Nat,i≤ys.length→Ev (fun k=>oH.l0 k xs ys i) (wU ((xs.take ys.length).drop i) (ys.drop i))
 | i,hi=>by
  refine Ev.step (oH.l0.eq_2 _ _ _) ?_
  have ht:(xs.take ys.length).length=ys.length:=by rw [List.length_take];omega
  by_cases h:i < ys.length
  ·refine aV (by omega) (aV (by omega) (aV (by omega) ?_))
   rw [Ak _ xs i (by omega),Ak _ ys i h,lV i (by omega)]
   have hx:(xs.take ys.length)[i]'(by omega)=xs[i]'(by omega):=List.getElem_take
   by_cases he:xs[i]'(by omega)=ys[i]
   ·refine aV (by rw [he]) (jT (VY xs ys hl hn (i+1) (by omega)) ?_)
    unfold wU
    simp only [Jz (xs.take ys.length) ys i (by omega) h,hx,he,true_and]
   ·refine dn (fun hc=>he (toList_inj hc)) (dY ?_)
    unfold wU
    simp only [Jz (xs.take ys.length) ys i (by omega) h,hx,he,false_and,decide_false]
  ·refine dn (by omega) (dY ?_)
   rw [List.drop_of_length_le (by omega),List.drop_of_length_le (by omega)]
   unfold wU;simp
 termination_by i=>ys.length - i
theorem O8 (a b:ByteArray):Ev (fun k=>oH.f k a b) (uO a b):=by
 unfold oH.f uO
 have hn:=FH a
 refine Ev.bind (Fz a) (Ev.bind (Fz b) ?_)
 have no:∀ v:Bool,v=true→Ev (fun k=>oH.j0 k (fA a).1 (fA b).1 v) false:=by
  intro v hv
  refine Ev.step (oH.j0.eq_2 _ _ _) ?_
  exact aV hv (dY rfl)
 by_cases h1:(fA a).2=0
 ·by_cases h2:(fA b).2=0
  ·refine aV h1 (aV h2 ?_)
   by_cases h3:(fA b).1.length < (fA a).1.length
   ·rw [decide_eq_false (by omega:¬ ((fA a).1.length:Int)≤((fA b).1.length:Int))]
    refine Ev.step (oH.j0.eq_2 _ _ _) ?_
    refine dn (by simp) (jT (VY _ _ h3 (by omega) 0 (by omega)) ?_)
    simp [h1,h2,h3]
   ·exact jT (no _ (decide_eq_true (by omega))) (by simp [h3])
  ·exact aV h1 (dn h2 (jT (no _ rfl) (by simp [h2])))
 ·exact dn h1 (jT (no _ rfl) (by simp [h1]))

theorem aaM (a b:ByteArray) (ha:a.size≤140737488351232) (hb:b.size≤140737488351232):Ev (fun k=>Dp.f k a b) (uO a b):=by
 unfold Dp.f uO
 have hn:=FH a
 refine Ev.bind (HY a ha) (Ev.bind (HY b hb) ?_)
 by_cases h1:(fA a).2=0
 ·by_cases h2:(fA b).2=0
  ·refine aV h1 (aV h2 ?_)
   by_cases h3:(fA b).1.length < (fA a).1.length
   ·refine aV (by omega) (aV (by omega) (aV (by omega) ?_))
    rw [Int.toNat_natCast]
    refine Ev.bind (aaE _ _ (by rw [List.length_take];omega)) (dY ?_)
    simp [h1,h2,h3]
   ·exact dn (by omega) (dY (by simp [h3]))
  ·exact aV h1 (dn h2 (dY (by simp [h2])))
 ·exact dn h1 (dY (by simp [h1]))

theorem UE (a b:List ByteArray):jn (a++b)=jn a++jn b:=by
 induction a with
 | nil=>rfl
 | cons x r ih=>simp [jn,ih]
theorem UF:∀ t:List UInt8,jn ((jI t).map sW)=47 :: t
 | []=>by simp [jI,jn,sW]
 | b :: l=>by
  have ih:=UF l
  by_cases h:b=47
  ·subst h;rw [DW];simp [jn,Bq,ih]
  ·obtain ⟨p,r,hs⟩:=List.exists_cons_of_ne_nil (zq l)
   rw [zu b l h p r hs]
   rw [hs] at ih
   simp [jn,Bq] at ih ⊢
   exact ih
theorem Ko (a:ByteArray) (h:(fA a).2=0):jp (fA a).1=a:=by
 obtain ⟨_,⟨h0,h1⟩|⟨t,ht,_,_,_,_,hs⟩⟩:=IC a h
 ·rw [h1];exact wL h0.symm
 ·rw [hs]
  refine wL ?_
  unfold jp
  rw [if_neg (by simp [zq t]),sJ,UF,ht]
theorem Ia (xs:List ByteArray) (h:xs≠[]):(jp xs).size=xs.length+pF (fun s:ByteArray=>s.size) xs:=by
 unfold jp
 rw [if_neg h,EC,OC]
theorem Wv (xs:List ByteArray) (n:Nat):pF (fun s:ByteArray=>s.size) (xs.take n)≤pF (fun s:ByteArray=>s.size) xs:=Wu _ xs n
theorem Xt (a b:ByteArray) (h:uO a b=true):b.size≤a.size:=by
 unfold uO at h
 simp only [Bool.and_eq_true,decide_eq_true_eq] at h
 obtain ⟨ha,hb,hl,he⟩:=h
 have e:(fA a).1.take (fA b).1.length=(fA b).1:=by
  unfold wU at he
  simpa using he
 have ea:=Ko a ha
 have eb:=Ko b hb
 have na:(fA a).1≠[]:=by intro c;rw [c] at hl;simp at hl
 have sa:=Ia _ na
 rw [ea] at sa
 by_cases nb:(fA b).1=[]
 ·rw [nb] at eb
  have:b.size=1:=by rw [← eb];rfl
  omega
 ·have sb:=Ia _ nb
  rw [eb] at sb
  have:=Wv (fA a).1 (fA b).1.length
  rw [e] at this
  omega

noncomputable def jF (fr bJ:ByteArray) (x:aC):aC:=open Classical in if x.f0.toList=fr.toList∨uO x.f0 fr=true then ⟨bJ++x.f0.extract fr.size x.f0.size,x.f1,x.f2⟩ else x
def uh (x y:aC):Bool:=!(Op.bytesLess x.f0.toList y.f0.toList)
def uV (x:aC) (out:List aC):List aC:=out.takeWhile (uh x)++[x]++out.dropWhile (uh x)
noncomputable def kX (fr bJ:ByteArray):List aC→List aC→List aC
 | [],out=>out
 | x :: r,out=>kX fr bJ r (uV (jF fr bJ x) out)
theorem OA (x:aC) (out:List aC):(uV x out).length=out.length+1:=by
 have e:=congrArg List.length (List.takeWhile_append_dropWhile (p:=uh x) (l:=out))
 unfold uV
 simp only [List.length_append,List.length_singleton] at e ⊢
 omega
theorem aaT (x y:aC) (out:List aC):y ∈ uV x out ↔ y=x∨y ∈ out:=by
 have e:y ∈ out ↔ y ∈ out.takeWhile (uh x)++out.dropWhile (uh x):=by rw [List.takeWhile_append_dropWhile]
 rw [e]
 unfold uV
 simp only [List.mem_append,List.mem_singleton]
 exact ⟨fun h=>h.elim (fun h=>h.elim (fun h=>.inr (.inl h)) .inl) (fun h=>.inr (.inr h)),fun h=>h.elim (fun h=>.inl (.inr h)) (fun h=>h.elim (fun h=>.inl (.inl h)) .inr)⟩
theorem P9 {α:Type} (p:α→Bool):∀ (l:List α) (i:Nat),(∀ y ∈ l.take i,p y=true)→(∀ h:i < l.length,p l[i]=false)→l.takeWhile p=l.take i∧l.dropWhile p=l.drop i
 | [],i,_,_=>by simp
 | x :: r,0,_,h=>by
  have:=h (by simp)
  rw [List.getElem_cons_zero] at this
  simp [List.takeWhile,List.dropWhile,this]
 | x :: r,i+1,h,h2=>by
  have hx:p x=true:=h x (by simp)
  have:=P9 p r i (fun y hy=>h y (by simp [hy])) (fun hh=>by have q:=h2 (by simp;omega);rw [List.getElem_cons_succ] at q;exact q)
  simp [List.takeWhile,List.dropWhile,hx,this.1,this.2]
theorem VR (fr bJ:ByteArray) (xs:List aC) (j:Nat) (p:ByteArray) (b:Bool) (t:ByteArray) (out r:List aC) (hn:out.length≤2000000) (hj:j≤2000000)
  (hr:Ev (fun k=>iV.l0 k fr bJ ((j+1:Nat):Int) xs (uV ⟨p,b,t⟩ out)) r):∀ i:Nat,i≤out.length→(∀ y ∈ out.take i,uh ⟨p,b,t⟩ y=true)→Ev (fun k=>iV.l1 k fr bJ (j:Int) (i:Int) xs out p b t) r
 | i,hi,ha=>by
  refine Ev.step (iV.l1.eq_2 _ _ _ _ _ _ _ _ _) ?_
  by_cases h:i < out.length
  ·refine aV (by omega) (aV (by omega) ?_)
   rw [rH out i h]
   by_cases hl:Op.bytesLess p.toList out[i].f0.toList=true
   ·have ht:=P9 (uh ⟨p,b,t⟩) out i ha (fun _=>by show (!(Op.bytesLess p.toList out[i].f0.toList))=false;rw [hl];rfl)
    refine aV hl ?_
    refine Ev.bind (dY rfl) (aV (by omega) (Ev.bind (dY rfl) (aV (by simp;omega) (Ev.bind (dY rfl) (Ev.bind (dY rfl) (aV (by simp;omega) (Ev.bind (dY rfl) (Ev.bind (dY rfl) (aV (by simp;omega) ?_)))))))))
    rw [lV j (by omega),Int.toNat_natCast,List.nil_append]
    unfold uV at hr
    rw [ht.1,ht.2] at hr
    exact hr
   ·refine dn hl ?_
    rw [lV i (by omega)]
    refine VR fr bJ xs j p b t out r hn hj hr (i+1) (by omega) (fun y hy=>?_)
    rw [List.take_succ_eq_append_getElem h,List.mem_append,List.mem_singleton] at hy
    rcases hy with hy|rfl
    ·exact ha y hy
    ·show (!(Op.bytesLess p.toList out[i].f0.toList))=true
     rw [Bool.not_eq_true] at hl
     rw [hl];rfl
  ·have ht:=P9 (uh ⟨p,b,t⟩) out i ha (fun h'=>absurd h' h)
   refine dn (by omega) ?_
   refine Ev.bind (dY rfl) (aV (by omega) (aV (by omega) (Ev.bind (dY rfl) (aV (by simp;omega) (Ev.bind (dY rfl) (Ev.bind (dY rfl) (aV (by simp;omega) (Ev.bind (dY rfl) (Ev.bind (dY rfl) (aV (by simp;omega) ?_))))))))))
   rw [lV j (by omega),Int.toNat_natCast,List.nil_append]
   unfold uV at hr
   rw [ht.1,ht.2] at hr
   exact hr
 termination_by i=>out.length - i
theorem VQ (fr bJ:ByteArray) (xs:List aC) (hn:xs.length≤1048577) (ht:bJ.size≤4000000) (hs:∀ y ∈ xs,y.f0.size≤4000000):∀ (j:Nat) (out:List aC),j≤xs.length→out.length≤j→Ev (fun k=>iV.l0 k fr bJ (j:Int) xs out) (kX fr bJ (xs.drop j) out)
 | j,out,hj,ho=>by
  refine Ev.step (iV.l0.eq_2 _ _ _ _ _) ?_
  by_cases h:j < xs.length
  ·have hm:=hs _ (List.getElem_mem h)
   rw [drop_at xs j h]
   have ih:=VQ fr bJ xs hn ht hs (j+1) (uV (jF fr bJ xs[j]) out) (by omega) (by rw [OA];omega)
   have j2:∀ (p:ByteArray) (b:Bool) (t:ByteArray),(⟨p,b,t⟩:aC)=jF fr bJ xs[j]→Ev (fun k=>iV.j2 k fr bJ (j:Int) xs out p b t) (kX fr bJ (xs[j] :: xs.drop (j+1)) out):=by
    intro p b t e
    refine Ev.step (iV.j2.eq_2 _ _ _ _ _ _ _ _) ?_
    refine VR fr bJ xs j p b t out _ (by omega) (by omega) ?_ 0 (by omega) (by simp)
    rw [e];exact ih
   have j1:∀ z:Bool,(z=true ↔ (xs[j].f0.toList=fr.toList∨uO xs[j].f0 fr=true))→Ev (fun k=>iV.j1 k fr bJ (j:Int) z xs out xs[j].f0 xs[j].f1 xs[j].f2) (kX fr bJ (xs[j] :: xs.drop (j+1)) out):=by
    intro z hz
    refine Ev.step (iV.j1.eq_2 _ _ _ _ _ _ _ _ _) ?_
    by_cases c:z=true
    ·have hc:=hz.1 c
     have hl:fr.size≤xs[j].f0.size:=by
      rcases hc with hc|hc
      ·rw [toList_inj hc];exact Nat.le_refl _
      ·exact Xt _ _ hc
     refine aV c (aV (by omega) (aV (by omega) ?_))
     rw [Int.toNat_natCast]
     refine aV (by rw [ByteArray.size_extract];omega) (j2 _ _ _ ?_)
     unfold jF
     rw [if_pos hc]
    ·refine dn c (j2 _ _ _ ?_)
     unfold jF
     rw [if_neg (fun hh=>c (hz.2 hh))]
   refine aV (by omega) (aV (by omega) ?_)
   rw [rH xs j h]
   by_cases he:xs[j].f0.toList=fr.toList
   ·exact aV he (j1 true ⟨fun _=>.inl he,fun _=>rfl⟩)
   ·exact dn he (Ev.bind (O8 _ _) (j1 _ ⟨fun hh=>.inr hh,fun hh=>hh.resolve_left he⟩))
  ·refine dn (by omega) (dY ?_)
   rw [List.drop_of_length_le (by omega)];rfl
 termination_by j=>xs.length - j
theorem VP (fr bJ:ByteArray) (xs:List aC) (hn:xs.length≤1048577) (ht:bJ.size≤4000000) (hs:∀ y ∈ xs,y.f0.size≤4000000):Ev (fun k=>iV.f k xs fr bJ) (kX fr bJ xs []):=by
 unfold iV.f
 exact VQ fr bJ xs hn ht hs 0 [] (by omega) (by simp)
theorem U5 (fr bJ:ByteArray):∀ (xs out:List aC),(kX fr bJ xs out).length=xs.length+out.length
 | [],out=>by simp [kX]
 | x :: r,out=>by
  unfold kX
  rw [U5 fr bJ r,OA,List.length_cons];omega
def vB (n s:Nat) (xs:List aC):Prop:=xs.length≤n∧∀ y ∈ xs,y.f0.size≤s∧y.f2.size≤s
theorem zB {n s m z:Nat} {xs:List aC} (h:vB n s xs) (h1:n≤m) (h2:s≤z):vB m z xs:=⟨by have:=h.1;omega,fun y hy=>by have:=h.2 y hy;omega⟩
theorem abv (fr bJ:ByteArray) (x:aC):(jF fr bJ x).f0.size≤bJ.size+x.f0.size∧(jF fr bJ x).f2=x.f2:=by
 unfold jF
 split
 ·refine ⟨?_,rfl⟩
  show (bJ++x.f0.extract fr.size x.f0.size).size≤_
  rw [ByteArray.size_append,ByteArray.size_extract];omega
 ·exact ⟨by omega,rfl⟩
theorem U4 (fr bJ:ByteArray) (s:Nat):∀ (xs out:List aC),(∀ y ∈ xs,y.f0.size≤s∧y.f2.size≤s)→(∀ y ∈ out,y.f0.size≤s+bJ.size∧y.f2.size≤s+bJ.size)→(kX fr bJ xs out).length=xs.length+out.length∧∀ y ∈ kX fr bJ xs out,y.f0.size≤s+bJ.size∧y.f2.size≤s+bJ.size
 | [],out,_,ho=>⟨by simp [kX],ho⟩
 | x :: r,out,hx,ho=>by
  unfold kX
  have hz:=abv fr bJ x
  have hq:=hx x (by simp)
  have ih:=U4 fr bJ s r (uV (jF fr bJ x) out) (fun y hy=>hx y (by simp [hy])) (fun y hy=>by
   rcases (aaT _ _ _).1 hy with rfl|hy
   ·rw [hz.2];omega
   ·exact ho y hy)
  exact ⟨by rw [ih.1,OA,List.length_cons];omega,ih.2⟩

theorem S_ {x:aC}:∀ out:List aC,gG dZ out→∀ y ∈ out.dropWhile (uh x),dZ x y=true
 | [],_,y,hy=>by cases hy
 | z :: r,h,y,hy=>by
  obtain ⟨h1,h2⟩:=gG.cons.1 h
  rw [List.dropWhile_cons] at hy
  by_cases hz:uh x z=true
  ·rw [if_pos hz] at hy
   exact S_ r h2 y hy
  ·rw [if_neg hz] at hy
   have hxz:dZ x z=true:=by unfold uh at hz;unfold dZ;simpa using hz
   rcases List.mem_cons.1 hy with rfl|hy
   ·exact hxz
   ·by_cases hn:dZ x y=true
    ·exact hn
    ·have:=nU.neg z y x (h1 y hy) (by simpa using hn)
     rw [this] at hxz
     cases hxz
theorem WE {x:aC}:∀ out:List aC,∀ y ∈ out.takeWhile (uh x),dZ x y=false
 | [],y,hy=>by cases hy
 | z :: r,y,hy=>by
  rw [List.takeWhile_cons] at hy
  by_cases hz:uh x z=true
  ·rw [if_pos hz] at hy
   rcases List.mem_cons.1 hy with rfl|hy
   ·unfold uh at hz;unfold dZ;simpa using hz
   ·exact WE r y hy
  ·rw [if_neg hz] at hy
   cases hy
theorem aaU {x:aC} {out:List aC} (h:gG dZ out):gG dZ (uV x out)∧gK dZ (uV x out) (out++[x]):=by
 have e:=List.takeWhile_append_dropWhile (p:=uh x) (l:=out)
 have hs:gG dZ (out.takeWhile (uh x)++out.dropWhile (uh x)):=by rw [e];exact h
 have:=OB nU hs (WE out) (S_ out h)
 unfold uV
 rw [List.append_assoc,List.singleton_append]
 rw [e] at this
 exact this
theorem OI (fr bJ:ByteArray):∀ (xs out:List aC),gG dZ out→gG dZ (kX fr bJ xs out)∧gK dZ (kX fr bJ xs out) (out++xs.map (jF fr bJ))
 | [],out,h=>⟨h,by rw [List.map_nil,List.append_nil];exact gK.refl _⟩
 | x :: r,out,h=>by
  have h1:=aaU (x:=jF fr bJ x) h
  have h2:=OI fr bJ r (uV (jF fr bJ x) out) h1.1
  refine ⟨h2.1,h2.2.trans ?_⟩
  rw [List.map_cons,show out++jF fr bJ x :: r.map (jF fr bJ)=(out++[jF fr bJ x])++r.map (jF fr bJ) by simp]
  exact h1.2.app (gK.refl _)
theorem U_ (fr bJ:ByteArray) (xs ys:List aC) (h1:gG dZ ys) (h2:gK dZ ys (xs.map (jF fr bJ))):ys=kX fr bJ xs []:=by
 have h:=OI fr bJ xs [] (by unfold gG;exact List.Pairwise.nil)
 rw [List.nil_append] at h
 exact Wq nU _ _ h1 h.1 (h2.trans h.2.symm)

theorem Oy (fr bJ:ByteArray) (xs:List aC) (n:Nat) (hn:xs.length=n) (hm:n≤1048577) (ht:bJ.size≤4000000) (hf:fr.size≤4000000) (hs:∀ y ∈ xs,y.f0.size≤4000000):∀ (m:Nat) (i:Nat) (X:List aC),n - i=m→i≤n→X=(xs.take i).map (jF fr bJ)++xs.drop i →
  Ev (fun k=>l7.l0 k fr bJ (n:Int) (i:Int) X) (kX fr bJ xs [])
 | m,i,X,hi,hle,hX=>by
  refine Ev.step (l7.l0.eq_2 _ _ _ _ _) ?_
  have ah':X.length=n:=by rw [hX];simp;omega
  by_cases h:i < n
  ·have hix:i < xs.length:=by omega
   have hxi:X[i]'(by omega)=xs[i]'hix:=by
    subst hX
    rw [List.getElem_append_right (by simp;omega)]
    simp [Nat.min_eq_left (by omega:i≤xs.length)]
   have hme:=hs _ (List.getElem_mem hix)
   have nx:X.set i (jF fr bJ (xs[i]'hix))=(xs.take (i+1)).map (jF fr bJ)++xs.drop (i+1):=by
    subst hX
    have l1:((xs.take i).map (jF fr bJ)).length=i:=by simp;omega
    rw [drop_at xs i hix,List.set_append_right _ _ (by omega),l1,Nat.sub_self,List.set_cons_zero,List.take_succ_eq_append_getElem hix,List.map_append]
    simp
   have same:¬ (xs[i]'hix).f0.toList=fr.toList→¬ uO (xs[i]'hix).f0 fr=true→X=(xs.take (i+1)).map (jF fr bJ)++xs.drop (i+1):=fun h1 h2=>by
    rw [← nx]
    have e:jF fr bJ (xs[i]'hix)=X[i]'(by omega):=by
     rw [hxi];unfold jF;rw [if_neg (fun c=>c.elim h1 h2)]
    rw [e,List.set_getElem_self]
   have go:(xs[i]'hix).f0.toList=fr.toList∨uO (xs[i]'hix).f0 fr=true→Ev (fun k=>if 0≤(fr.size:Int) then (if (fr.size:Int)≤((xs[i]'hix).f0.size:Int) then ((some ((xs[i]'hix).f0.extract ((fr.size:Int):Int).toNat (xs[i]'hix).f0.size:ByteArray)).bind fun y=>(if bJ.size+y.size≤9223372036854775807 then ((some (bJ++y:ByteArray)).bind fun z=>(l7.l0 k fr bJ (n:Int) (wrap64 ((i:Int)+1)) (X.set (i:Int).toNat (⟨z,(xs[i]'hix).f1,(xs[i]'hix).f2⟩:aC)))) else none)) else none) else none) (kX fr bJ xs []):=fun hc=>by
    have hl:fr.size≤(xs[i]'hix).f0.size:=by
     rcases hc with hc|hc
     ·rw [toList_inj hc];exact Nat.le_refl _
     ·exact Xt _ _ hc
    refine aV (by omega) (aV (by omega) (Ev.bind (dY rfl) (aV (by rw [ByteArray.size_extract];omega) (Ev.bind (dY rfl) ?_))))
    rw [lV i (by omega),Int.toNat_natCast,Int.toNat_natCast]
    refine Oy fr bJ xs n hn hm ht hf hs (n - (i+1)) (i+1) _ rfl (by omega) ?_
    rw [← nx]
    unfold jF
    rw [if_pos hc]
   refine aV (by omega) (aV (by omega) (aV (by omega) ?_))
   rw [rH X i (by omega),hxi]
   by_cases he:(xs[i]'hix).f0.toList=fr.toList
   ·exact aV he (go (.inl he))
   ·refine dn he (Ev.bind (aaM _ _ (by omega) (by omega)) ?_)
    by_cases hu:uO (xs[i]'hix).f0 fr=true
    ·exact aV hu (go (.inr hu))
    ·refine dn hu ?_
     rw [lV i (by omega)]
     exact Oy fr bJ xs n hn hm ht hf hs (n - (i+1)) (i+1) _ rfl (by omega) (same he hu)
  ·refine dn (by omega) ?_
   have JA:X=xs.map (jF fr bJ):=by rw [hX,List.take_of_length_le (by omega),List.drop_of_length_le (by omega),List.append_nil]
   obtain ⟨r,er,s1,s2⟩:=acD X (by omega)
   refine Ev.bind er (dY ?_)
   rw [JA] at s2
   exact U_ fr bJ xs r s1 s2
 termination_by m=>m
 decreasing_by all_goals omega
theorem Uj (fr bJ:ByteArray) (xs:List aC) (hn:xs.length≤1048577) (ht:bJ.size≤4000000) (hf:fr.size≤4000000) (hs:∀ y ∈ xs,y.f0.size≤4000000):Ev (fun k=>l7.f k xs fr bJ) (kX fr bJ xs []):=by
 unfold l7.f E5.f Ap.f
 rw [if_pos (by omega),Option.bind_some]
 refine Ev.bind (dY rfl) ?_
 exact Oy fr bJ xs xs.length rfl hn ht hf hs xs.length 0 xs (by omega) (by omega) (by simp)

theorem KX (a b c:Int):sU.f a b c=some (decide (b≤a∧a≤c)):=by
 unfold sU.f
 by_cases h:a ≥ b
 ·rw [if_pos h];congr 1;simp;omega
 ·rw [if_neg h];congr 1;simp;omega

def yL (t p i q:Int):Bool:=decide ((1≤t∧t≤3)∧(5≤p∧p≤12)∧(2≤i∧i≤6)∧(1≤q∧q≤p - 4))
theorem ZA {t p i q:Int} (h:yL t p i q=true):(1≤t∧t≤3)∧(5≤p∧p≤12)∧(2≤i∧i≤6)∧(1≤q∧q≤p - 4):=by simpa [yL] using h
theorem acr (t p i q:Int):Ar.f t p i q=some (yL t p i q):=by
 unfold Ar.f yL
 rw [zl,Option.bind_some]
 by_cases h1:1≤t∧t≤3
 ·rw [if_pos (by simpa using h1),zl,Option.bind_some]
  by_cases h2:5≤p∧p≤12
  ·rw [if_pos (by simpa using h2),zl,Option.bind_some]
   by_cases h3:2≤i∧i≤6
   ·rw [if_pos (by simpa using h3),mO (x:=p - 4) (by omega) (by omega),zl,Option.bind_some]
    congr 1
    simp [h1,h2,h3]
   ·rw [if_neg (by simpa using h3)];congr 1;symm;rw [decide_eq_false_iff_not];exact fun h=>h3 h.2.2.1
  ·rw [if_neg (by simpa using h2)];congr 1;symm;rw [decide_eq_false_iff_not];exact fun h=>h2 h.2.1
 ·rw [if_neg (by simpa using h1)];congr 1;symm;rw [decide_eq_false_iff_not];exact fun h=>h1 h.1
theorem aaF (t p i q:Int):zk.f t p i q=some (yL t p i q):=by
 unfold zk.f yL
 rw [KX,Option.bind_some]
 by_cases h1:1≤t∧t≤3
 ·rw [if_pos (by simpa using h1),KX,Option.bind_some]
  by_cases h2:5≤p∧p≤12
  ·rw [if_pos (by simpa using h2),KX,Option.bind_some]
   by_cases h3:2≤i∧i≤6
   ·rw [if_pos (by simpa using h3),mO (x:=p - 4) (by omega) (by omega),KX,Option.bind_some]
    congr 1
    simp [h1,h2,h3]
   ·rw [if_neg (by simpa using h3)];congr 1;symm;rw [decide_eq_false_iff_not];exact fun h=>h3 h.2.2.1
  ·rw [if_neg (by simpa using h2)];congr 1;symm;rw [decide_eq_false_iff_not];exact fun h=>h2 h.2.1
 ·rw [if_neg (by simpa using h1)];congr 1;symm;rw [decide_eq_false_iff_not];exact fun h=>h1 h.1
def kP (a:ByteArray):ByteArray:=if (fA a).2=0 then (if (fA a).1=[] then ⟨#[]⟩ else jp ((fA a).1.take ((fA a).1.length - 1))) else ⟨#[]⟩
theorem OM (a:ByteArray) (n:Nat):((fA a).1.take n).length+pF (fun b:ByteArray=>b.size) ((fA a).1.take n)≤100000000000000:=by
 have h1:=acF a
 have h2:=Wu (fun b:ByteArray=>b.size) (fA a).1 n
 have h3:((fA a).1.take n).length≤(fA a).1.length:=by rw [List.length_take];omega
 omega
theorem Vo (a:ByteArray) (J:Nat→List ByteArray→Option ByteArray) (hJ:∀ n,Ev (fun k=>J k ((fA a).1.take n)) (jp ((fA a).1.take n))) :
  Ev (fun k=>if ((fA a).1.length:Int)=0 then some (⟨#[]⟩:ByteArray) else if 0≤wrap64 (((fA a).1.length:Int) - 1) then (if wrap64 (((fA a).1.length:Int) - 1)≤((fA a).1.length:Int) then (J k ((fA a).1.take (wrap64 (((fA a).1.length:Int) - 1)).toNat)).bind fun t=>some t else none) else none) (if (fA a).1=[] then ⟨#[]⟩ else jp ((fA a).1.take ((fA a).1.length - 1))):=by
 have hn:=FH a
 by_cases h:(fA a).1=[]
 ·exact aV (by rw [h];rfl) (dY (if_pos h).symm)
 ·have hp:=List.length_pos_iff.2 h
  refine dn (by omega) ?_
  rw [mO (by omega) (by omega)]
  refine aV (by omega) (aV (by omega) ?_)
  rw [show (((fA a).1.length:Int) - 1).toNat=(fA a).1.length - 1 by omega]
  exact Ev.bind (hJ _) (dY (if_neg h).symm)
theorem Ir (a:ByteArray):Ev (fun k=>uK.f k a) (kP a):=by
 unfold uK.f kP
 refine Ev.bind (Fz a) ?_
 by_cases h:(fA a).2=0
 ·exact aV h (jT (Vo a (fun k xs=>tu.f k xs) (fun n=>VJ _ (OM a n))) (if_pos h).symm)
 ·exact dn h (dY (if_neg h).symm)

theorem Uk (a:ByteArray) (ha:a.size≤140737488351232):Ev (fun k=>yQ.f k a) (kP a):=by
 unfold yQ.f kP
 refine Ev.bind (HY a ha) ?_
 by_cases h:(fA a).2=0
 ·exact aV h (jT (Vo a (fun k xs=>Ac.f xs) (fun n=>iU (aaH _ (OM a n)))) (if_pos h).symm)
 ·exact dn h (dY (if_neg h).symm)

def Ii (a:ByteArray):ByteArray:=if (fA a).2=0 then (fA a).1.getLastD ⟨#[]⟩ else ⟨#[]⟩
theorem last_at (xs:List ByteArray) (hn:xs.length≤1000):Ev (fun _:Nat=>if (xs.length:Int)=0 then some (⟨#[]⟩:ByteArray) else if 0≤wrap64 ((xs.length:Int) - 1) then (if wrap64 ((xs.length:Int) - 1) < (xs.length:Int) then some (pW ByteArray.empty xs (wrap64 ((xs.length:Int) - 1))) else none) else none) (xs.getLastD ⟨#[]⟩):=by
 by_cases h:xs.length=0
 ·refine aV (by omega) (dY ?_)
  rw [List.eq_nil_of_length_eq_zero h];rfl
 ·refine dn (by omega) ?_
  rw [mO (by omega) (by omega)]
  refine aV (by omega) (aV (by omega) (dY ?_))
  rw [show (xs.length:Int) - 1=((xs.length - 1:Nat):Int) by omega,Ak _ xs (xs.length - 1) (by omega)]
  rw [List.getLastD_eq_getLast?,List.getLast?_eq_getElem?,List.getElem?_eq_getElem (by omega)];rfl
theorem acs (a:ByteArray):Ev (fun k=>DY.f k a) (Ii a):=by
 unfold DY.f Ii
 refine Ev.bind (Fz a) ?_
 by_cases h:(fA a).2=0
 ·exact aV h (jT (last_at _ (FH a)) (if_pos h).symm)
 ·exact dn h (dY (if_neg h).symm)

theorem aaI (a:ByteArray) (ha:a.size≤140737488351232):Ev (fun k=>Dq.f k a) (Ii a):=by
 unfold Dq.f Ii
 refine Ev.bind (HY a ha) ?_
 by_cases h:(fA a).2=0
 ·exact aV h (jT (last_at _ (FH a)) (if_pos h).symm)
 ·exact dn h (dY (if_neg h).symm)

def yS (xs:List aC) (a:ByteArray):List ByteArray:=(xs.filter (fun y=>(kP y.f0).toList == a.toList)).map (fun y=>Ii y.f0)
def o_ (xs:List aC) (a:ByteArray):List ByteArray:=if a.toList=([]:List UInt8) then [] else yS xs a
theorem aa4 (xs:List aC) (a:ByteArray):(yS xs a).length≤xs.length:=by unfold yS;rw [List.length_map];exact List.length_filter_le _ _
theorem aa5 (xs:List aC) (a:ByteArray):(o_ xs a).length≤xs.length:=by
 unfold o_;split
 ·simp
 ·exact aa4 xs a
theorem VL (xs:List aC) (hn:xs.length≤4000000) (a:ByteArray):∀ (i:Nat) (out:List ByteArray),i≤xs.length→out.length≤i→Ev (fun k=>nS.l0 k a out (i:Int) xs) (out++o_ (xs.drop i) a)
 | i,out,hi,ho=>by
  refine Ev.step (nS.l0.eq_2 _ _ _ _) ?_
  by_cases h:i < xs.length
  ·refine aV (by omega) (aV (by omega) ?_)
   rw [rH xs i h,lV i (by omega),drop_at xs i h]
   refine Ev.bind (Ir _) ?_
   have ih:=fun o ho2=>VL xs hn a (i+1) o (by omega) ho2
   unfold o_ at ih ⊢
   by_cases he:(kP xs[i].f0).toList=a.toList
   ·refine aV he ?_
    by_cases hz:a.toList=([]:List UInt8)
    ·refine aV hz (jT (ih out (by omega)) ?_)
     rw [if_pos hz,if_pos hz]
    ·refine dn hz (Ev.bind (acs _) (aV (by omega) (jT (ih _ (by simp;omega)) ?_)))
     rw [if_neg hz,if_neg hz]
     unfold yS
     rw [List.filter_cons_of_pos (by simpa using he)];simp
   ·refine dn he (jT (ih out (by omega)) ?_)
    congr 1
    by_cases hz:a.toList=([]:List UInt8)
    ·rw [if_pos hz,if_pos hz]
    ·rw [if_neg hz,if_neg hz]
     unfold yS
     rw [List.filter_cons_of_neg (by simpa using he)]
  ·refine dn (by omega) (dY ?_)
   rw [List.drop_of_length_le (by omega)]
   simp [o_,yS]
 termination_by i=>xs.length - i
theorem Fv (xs:List aC) (hn:xs.length≤4000000) (a:ByteArray):Ev (fun k=>nS.f k xs a) (o_ xs a):=by
 unfold nS.f
 exact jT (VL xs hn a 0 [] (by omega) (by simp)) (by simp)
theorem Ui (xs:List aC) (hn:xs.length≤4000000) (hs:∀ y ∈ xs,y.f0.size≤140737488351232) (a:ByteArray):∀ (i:Nat) (out:List ByteArray),i≤xs.length→out.length≤i→Ev (fun k=>qG.l0 k a out xs (xs.length:Int) (i:Int)) (out++yS (xs.drop i) a)
 | i,out,hi,ho=>by
  refine Ev.step (qG.l0.eq_2 _ _ _ _ _) ?_
  by_cases h:i < xs.length
  ·refine aV (by omega) (aV (by omega) (aV (by omega) ?_))
   rw [rH xs i h,lV i (by omega),drop_at xs i h]
   have hz:=hs xs[i] (List.getElem_mem h)
   refine Ev.bind (Uk _ hz) ?_
   have ih:=fun o ho2=>Ui xs hn hs a (i+1) o (by omega) ho2
   by_cases he:(kP xs[i].f0).toList=a.toList
   ·refine aV he (Ev.bind (aaI _ hz) (aV (by omega) (jT (ih _ (by simp;omega)) ?_)))
    unfold yS
    rw [List.filter_cons_of_pos (by simpa using he)];simp
   ·refine dn he (jT (ih out (by omega)) ?_)
    unfold yS
    rw [List.filter_cons_of_neg (by simpa using he)]
  ·refine dn (by omega) (dY ?_)
   rw [List.drop_of_length_le (by omega)]
   simp [yS]
 termination_by i=>xs.length - i
theorem Ox (xs:List aC) (hn:xs.length≤4000000) (hs:∀ y ∈ xs,y.f0.size≤140737488351232) (a:ByteArray):Ev (fun k=>qG.f k xs a) (o_ xs a):=by
 unfold qG.f o_
 by_cases h:a.toList=([]:List UInt8)
 ·exact aV h (dY (if_pos h).symm)
 ·rw [if_neg h]
  exact dn h (jT (Ui xs hn hs a 0 [] (by omega) (by simp)) (by simp))
theorem Un {α:Type} (p:α→α→Bool) (z:α):∀ (xs:List α) (i:Nat),0≤Lib.idxByFrom p z xs i→Lib.idxByFrom p z xs i < ((i+xs.length:Nat):Int)
 | [],i,h=>by simp [Lib.idxByFrom] at h
 | x :: r,i,h=>by
  unfold Lib.idxByFrom at h ⊢
  by_cases hp:p z x=true
  ·rw [if_pos hp];simp;omega
  ·rw [if_neg hp] at h ⊢
   have:=Un p z r (i+1) h
   simp at this ⊢;omega
theorem JQ {α:Type} (p:α→α→Bool) (z:α) (xs:List α) (h:¬ Lib.idxBy p xs z < 0):0≤Lib.idxBy p xs z∧Lib.idxBy p xs z < (xs.length:Int):=by
 have h0:0≤Lib.idxBy p xs z:=by omega
 refine ⟨h0,?_⟩
 have:=Un p z xs 0 h0
 rw [Nat.zero_add] at this
 exact this

def lH (p:ByteArray):aC→aC→Bool:=fun _ y=>y.f0.toList == p.toList
theorem VI (xs:List aC) (p:ByteArray) (hn:xs.length≤4000000):∀ i:Nat,i≤xs.length→Ev (fun k=>nR.l0 k p i xs) (Lib.idxByFrom (lH p) z43 (xs.drop i) i)
 | i,hi=>by
  refine Ev.step (nR.l0.eq_2 _ _ _) ?_
  by_cases h:i < xs.length
  ·refine aV (by omega) (aV (by omega) ?_)
   rw [rH xs i h,lV i (by omega),drop_at xs i h]
   by_cases he:(xs[i].f0).toList=p.toList
   ·exact aV he (dY (by simp [Lib.idxByFrom,lH,he]))
   ·refine dn he (jT (VI xs p hn (i+1) (by omega)) ?_)
    simp [Lib.idxByFrom,lH,he]
  ·refine dn (by omega) (dY ?_)
   rw [List.drop_of_length_le (by omega)];rfl
 termination_by i=>xs.length - i
theorem DR (xs:List aC) (p:ByteArray) (hn:xs.length≤4000000):Ev (fun k=>nR.f k xs p) (Lib.idxBy (lH p) xs z43):=by
 unfold nR.f
 have:=VI xs p hn 0 (by omega)
 rw [List.drop_zero] at this
 exact this
theorem JM (xs:List aC) (p:ByteArray) (hn:xs.length≤4000000):ug.f xs p=some (Lib.idxBy (lH p) xs z43):=by
 unfold ug.f
 first
  | (rw [if_pos (by omega)];rfl)
  | (unfold FC.f;rw [if_pos (by omega)];rfl)

theorem acG (a:ByteArray) (h:(fA a).2=0):∀ x ∈ (fA a).1,x.data.toList≠[]:=by
 intro x hx
 obtain ⟨_,⟨_,h1⟩|⟨t,ht,h0,hb,he,hl,hs⟩⟩:=IC a h
 ·rw [h1] at hx;cases hx
 ·rw [hs] at hx
  obtain ⟨p,hp,rfl⟩:=List.mem_map.1 hx
  rw [Bq]
  intro hc
  subst hc
  have:emp (jI t)=true:=by unfold emp;exact List.any_eq_true.2 ⟨[],hp,rfl⟩
  rw [this] at he;cases he
theorem aa3 (a:ByteArray) (h:(fA a).2=0) (n:Nat) (h1:1≤n) (h2:n≤(fA a).1.length):(jp ((fA a).1.take n)).toList≠([47]:List UInt8):=by
 have hs:=acG a h
 rw [tX]
 revert hs h2
 generalize (fA a).1=ps
 intro h2 hs
 match ps,n,h1,h2 with
 | [],n+1,_,h2=>simp at h2
 | x :: r,n+1,_,_ =>
  rw [List.take_succ_cons]
  unfold jp
  rw [if_neg (by simp),sJ]
  unfold jn
  intro hc
  have:=hs x (by simp)
  simp at hc
  exact this (by simpa using hc.1)
def o7 (xs:List aC) (p:ByteArray):Bool:=if p.toList=([47]:List UInt8) then true else if Lib.idxBy (lH p) xs z43 ≥ 0 then (au xs (Lib.idxBy (lH p) xs z43)).f1 else false
theorem OX (xs:List aC) (p:ByteArray) (hn:xs.length≤4000000):Ev (fun k=>xW.f k xs p) (o7 xs p):=by
 unfold xW.f o7
 by_cases h:p.toList=([47]:List UInt8)
 ·exact aV h (dY (if_pos h).symm)
 ·rw [if_neg h]
  refine dn h (Ev.bind (DR xs p hn) ?_)
  by_cases hc:Lib.idxBy (lH p) xs z43 ≥ 0
  ·have:=JQ (lH p) z43 xs (by omega)
   exact aV hc (aV this.1 (aV this.2 (dY (if_pos hc).symm)))
  ·exact dn hc (dY (if_neg hc).symm)

theorem Wj (a:ByteArray) (h0:(fA a).2=0) (hr:a.toList≠([47]:List UInt8)):1≤(fA a).1.length:=by
 obtain ⟨_,⟨h,_⟩|⟨t,ht,_,hb,he,hl,hs⟩⟩:=IC a h0
 ·exact absurd (by rw [tX];exact h) hr
 ·rw [hs,List.length_map]
  exact List.length_pos_iff.2 (zq t)

theorem aaC (xs:List aC) (p:ByteArray) (hn:xs.length≤4000000):Ad.f xs p=some (o7 xs p):=by
 unfold Ad.f o7
 rw [JM xs p hn,Option.bind_some]
 by_cases h:p.toList=([47]:List UInt8)
 ·rw [if_pos h,if_pos h]
 ·rw [if_neg h,if_neg h]
  by_cases hc:Lib.idxBy (lH p) xs z43 ≥ 0
  ·have:=JQ (lH p) z43 xs (by omega)
   rw [if_pos hc,if_pos this.1,if_pos this.2,if_pos hc]
  ·rw [if_neg hc,if_neg hc]
def yU (n:Int):Int:=if n≤0 then 0 else (n - 1) / 32+1
theorem acu (n:Int) (h:0≤n) (h1:n≤1048576):BG.f n=some (yU n):=by
 unfold BG.f yU
 split
 ·rfl
 ·rw [mO (x:=n - 1) (by omega) (by omega),Int.tdiv_eq_ediv_of_nonneg (by omega),mO (x:=(n - 1) / 32) (by omega) (by omega),mO (by omega) (by omega)]
theorem aaJ (n:Int) (h:0≤n) (h1:n≤1048576):Bf.f n=some (yU n):=by
 unfold Bf.f yU
 rw [if_neg (by omega),Int.tdiv_eq_ediv_of_nonneg h,Int.tmod_eq_emod_of_nonneg h,mO (x:=n / 32) (by omega) (by omega),mO (x:=n / 32+1) (by omega) (by omega)]
 split <;> split <;> congr 1 <;> omega

theorem Vs (n:Int) (h1:n≤1048576):0≤yU n∧yU n≤32768:=by
 unfold yU
 split <;> omega

def oG:List aC→Int→Int
 | [],a=>a
 | x :: r,a=>if x.f1=true then oG r a else oG r (a+yU x.f2.size)
theorem O1 (xs:List aC) (hn:xs.length≤1048576) (hs:∀ y ∈ xs,y.f2.size≤1048576):∀ (i:Nat) (a:Int),i≤xs.length→0≤a→a≤32768 * i→Ev (fun k=>rX.l0 k a i xs) (oG (xs.drop i) a)
 | i,a,hi,h0,h1=>by
  refine Ev.step (rX.l0.eq_2 _ _ _) ?_
  by_cases h:i < xs.length
  ·refine aV (by omega) (aV (by omega) ?_)
   rw [rH xs i h,lV i (by omega),drop_at xs i h]
   simp only [oG]
   have hz:=hs _ (List.getElem_mem h)
   by_cases hd:xs[i].f1=true
   ·rw [if_pos hd]
    exact aV hd (O1 xs hn hs (i+1) a (by omega) h0 (by omega))
   ·rw [if_neg hd]
    have hb:=Vs (xs[i].f2.size:Int) (by omega)
    refine dn hd (Ev.bind (iU (acu _ (by omega) (by omega))) ?_)
    rw [mO (by omega) (by omega)]
    exact O1 xs hn hs (i+1) _ (by omega) (by omega) (by omega)
  ·refine dn (by omega) (dY ?_)
   rw [List.drop_of_length_le (by omega)];rfl
 termination_by i=>xs.length - i
theorem Oz (xs:List aC) (hn:xs.length≤1048576) (hs:∀ y ∈ xs,y.f2.size≤1048576):∀ (i:Nat) (a:Int),i≤xs.length→0≤a→a≤32768 * i→Ev (fun k=>sS.l0 k a xs xs.length i) (oG (xs.drop i) a)
 | i,a,hi,h0,h1=>by
  refine Ev.step (sS.l0.eq_2 _ _ _ _) ?_
  by_cases h:i < xs.length
  ·refine aV (by omega) (aV (by omega) (aV (by omega) ?_))
   rw [rH xs i h,lV i (by omega),drop_at xs i h]
   simp only [oG]
   have hz:=hs _ (List.getElem_mem h)
   by_cases hd:xs[i].f1=true
   ·rw [if_pos hd]
    exact aV hd (Oz xs hn hs (i+1) a (by omega) h0 (by omega))
   ·rw [if_neg hd]
    have hb:=Vs (xs[i].f2.size:Int) (by omega)
    refine dn hd (Ev.bind (iU (aaJ _ (by omega) (by omega))) ?_)
    rw [mO (by omega) (by omega)]
    exact Oz xs hn hs (i+1) _ (by omega) (by omega) (by omega)
  ·refine dn (by omega) (dY ?_)
   rw [List.drop_of_length_le (by omega)];rfl
 termination_by i=>xs.length - i
theorem VT (xs:List aC) (hn:xs.length≤1048576) (hs:∀ y ∈ xs,y.f2.size≤1048576):Ev (fun k=>rX.f k xs) (oG xs 0):=by
 unfold rX.f
 exact O1 xs hn hs 0 0 (by omega) (by omega) (by omega)
theorem aaK (xs:List aC) (hn:xs.length≤1048576) (hs:∀ y ∈ xs,y.f2.size≤1048576):Ev (fun k=>sS.f k xs) (oG xs 0):=by
 unfold sS.f
 exact Oz xs hn hs 0 0 (by omega) (by omega) (by omega)

theorem OO (a:ByteArray):(kP a).toList=([]:List UInt8) ↔ ¬ ((fA a).2=0∧a.toList≠([47]:List UInt8)):=by
 have hj:∀ ps:List ByteArray,(jp ps).toList≠([]:List UInt8):=by
  intro ps
  rw [tX]
  unfold jp
  split
  ·simp
  ·rename_i h
   match ps,h with
   | x :: r,_=>rw [sJ];simp [jn]
 constructor
 ·intro h ⟨h0,h1⟩
  have hp:=Wj a h0 h1
  unfold kP at h
  rw [if_pos h0,if_neg (by intro c;rw [c] at hp;simp at hp)] at h
  exact hj _ h
 ·intro h
  unfold kP
  by_cases h0:(fA a).2=0
  ·rw [if_pos h0]
   by_cases h1:(fA a).1=[]
   ·rw [if_pos h1,tX]
   ·exfalso
    apply h
    refine ⟨h0,fun hr=>h1 ?_⟩
    rw [tX] at hr
    obtain ⟨_,⟨_,h2⟩|⟨t,ht,hne,_⟩⟩:=IC a h0
    ·exact h2
    ·rw [hr] at ht;simp at ht;exact absurd ht (fun c=>hne c)
  ·rw [if_neg h0,tX]
def Il (xs:List aC) (i:Nat):Bool:=if (i:Int) > 0 then !(Op.bytesLess ((au xs ((i:Int) - 1)).f0).toList ((au xs (i:Int)).f0).toList) else false
def Ba (xs:List aC) (i:Nat):Bool:=if (kP (au xs (i:Int)).f0).toList=([]:List UInt8) then true else if o7 xs (kP (au xs (i:Int)).f0)=true then Il xs i else true
def yH (xs:List aC) (x:aC):Bool:=if x.f1=true then (if x.f2.toList=([]:List UInt8) then (if ((o_ xs x.f0).length:Int) > 6 then false else if (x.f2.size:Int) > 128 then false else true) else false) else (if (x.f2.size:Int) > 128 then false else true)
def vw (xs:List aC) (z:Bool):Nat→Nat→Bool
 | 0,_=>z
 | f+1,i=>if Ba xs i=true then false else if yH xs (au xs (i:Int))=true then vw xs z f (i+1) else false
theorem QX (xs:List aC) (z:Bool):∀ f i:Nat,vw xs z f i=(vw xs true f i && z)
 | 0,i=>by simp [vw]
 | f+1,i=>by
  have ih:=QX xs z f (i+1)
  unfold vw
  rw [ih]
  split
  ·rfl
  ·split <;> rfl
theorem Vk (xs:List aC) (i:Nat) (hi:i < xs.length) (hn:xs.length≤1048576) (J:Bool→Nat→Option Bool) (V:Bool→Bool) (hJ:∀ b,Ev (J b) (V b)) :
  Ev (fun k=>if (i:Int) > 0 then (if 0≤wrap64 ((i:Int) - 1) then (if wrap64 ((i:Int) - 1) < (xs.length:Int) then J (!(Op.bytesLess (((au xs (wrap64 ((i:Int) - 1))).f0).toList) (((au xs (i:Int)).f0).toList))) k else none) else none) else J false k) (V (Il xs i)):=by
 unfold Il
 by_cases h:(i:Int) > 0
 ·rw [if_pos h,mO (x:=(i:Int) - 1) (by omega) (by omega)]
  exact aV h (aV (by omega) (aV (by omega) (hJ _)))
 ·rw [if_neg h]
  exact dn h (hJ _)
theorem Tj (xs:List aC) (x:aC) (K:Nat→Option (List ByteArray)) (hK:Ev K (o_ xs x.f0)) (L:Nat→Option Bool) (N:Bool) (hL:Ev L N) (b:Bool) :
  Ev (fun k=>if b=true then (some false) else (if x.f1=true then (if x.f2.toList=([]:List UInt8) then ((K k).bind fun t196=>(if (t196.length:Int) > 6 then (some false) else (if (x.f2.size:Int) > 128 then (some false) else L k))) else (some false)) else (if (x.f2.size:Int) > 128 then (some false) else L k))) (if b=true then false else if yH xs x=true then N else false):=by
 cases b with
 | true=>exact aV rfl (dY rfl)
 | false =>
  refine dn (by simp) (jT (a:=if yH xs x=true then N else false) ?_ (by simp))
  unfold yH
  by_cases h1:x.f1=true
  ·refine aV h1 ?_
   rw [if_pos h1]
   by_cases h2:x.f2.toList=([]:List UInt8)
   ·rw [if_pos h2]
    refine aV h2 (Ev.bind hK ?_)
    by_cases h3:((o_ xs x.f0).length:Int) > 6
    ·exact aV h3 (dY (by rw [if_pos h3];rfl))
    ·refine dn h3 ?_
     by_cases h4:(x.f2.size:Int) > 128
     ·exact aV h4 (dY (by rw [if_neg h3,if_pos h4];rfl))
     ·exact dn h4 (jT hL (by rw [if_neg h3,if_neg h4];rfl))
   ·rw [if_neg h2]
    exact dn h2 (dY rfl)
  ·refine dn h1 ?_
   rw [if_neg h1]
   by_cases h4:(x.f2.size:Int) > 128
   ·exact aV h4 (dY (by rw [if_pos h4];rfl))
   ·exact dn h4 (jT hL (by rw [if_neg h4];rfl))
theorem V3 (g0 g1 g2 g3:Int) (xs:List aC) (hn:xs.length≤1048576) (hs:∀ y ∈ xs,y.f2.size≤1048576):∀ (f i:Nat),i+f=xs.length→Ev (fun k=>iP.l0 k (i:Int) g0 g1 g2 g3 xs) (vw xs (decide (oG xs 0≤g3)) f i)
 | f,i,hf=>by
  refine Ev.step (iP.l0.eq_2 _ _ _ _ _ _) ?_
  cases f with
  | zero=>exact dn (by omega) (Ev.bind (VT xs hn hs) (dY rfl))
  | succ f =>
   refine aV (by omega) (aV (by omega) (Ev.bind (Ir _) (Ev.bind (DR xs _ (by omega)) ?_)))
   have ih:=V3 g0 g1 g2 g3 xs hn hs f (i+1) (by omega)
   have hJ:∀ b,Ev (fun k=>iP.j2 k (i:Int) b g0 g1 g2 g3 xs (au xs (i:Int)).f0 (au xs (i:Int)).f1 (au xs (i:Int)).f2) (if b=true then false else if yH xs (au xs (i:Int))=true then vw xs (decide (oG xs 0≤g3)) f (i+1) else false):=by
    intro b
    refine Ev.step (iP.j2.eq_2 _ _ _ _ _ _ _ _ _ _) ?_
    rw [lV i (by omega)]
    exact Tj xs (au xs (i:Int)) _ (Fv xs (by omega) _) _ _ ih b
   have hO:=Vk xs i (by omega) hn _ _ hJ
   unfold vw Ba
   by_cases h1:(kP (au xs (i:Int)).f0).toList=([]:List UInt8)
   ·rw [if_pos h1];exact aV h1 (hJ true)
   ·rw [if_neg h1]
    refine dn h1 ?_
    unfold o7
    by_cases h2:(kP (au xs (i:Int)).f0).toList=([47]:List UInt8)
    ·rw [if_pos h2,if_pos rfl];exact aV h2 hO
    ·rw [if_neg h2]
     refine dn h2 ?_
     by_cases h3:Lib.idxBy (lH (kP (au xs (i:Int)).f0)) xs z43 < 0
     ·rw [if_neg (show ¬ Lib.idxBy (lH (kP (au xs (i:Int)).f0)) xs z43 ≥ 0 by omega),if_neg Bool.false_ne_true];exact aV h3 (hJ true)
     ·rw [if_pos (show Lib.idxBy (lH (kP (au xs (i:Int)).f0)) xs z43 ≥ 0 by omega)]
      have hr:=JQ _ z43 xs h3
      refine dn h3 (aV hr.1 (aV hr.2 ?_))
      by_cases h4:(au xs (Lib.idxBy (lH (kP (au xs (i:Int)).f0)) xs z43)).f1=true
      ·rw [if_pos h4];exact aV h4 hO
      ·rw [if_neg h4];exact dn h4 (hJ true)
theorem Um (xs:List aC) (hn:xs.length≤1048576) (hs:∀ y ∈ xs,y.f0.size≤140737488351232):∀ (f i:Nat),i+f=xs.length→Ev (fun k=>iy.l0 k xs (xs.length:Int) (i:Int) xs) (vw xs true f i)
 | f,i,hf=>by
  refine Ev.step (iy.l0.eq_2 _ _ _ _) ?_
  cases f with
  | zero=>exact dn (by omega) (dY rfl)
  | succ f =>
   have hz:(au xs (i:Int)).f0.size≤140737488351232:=by rw [rH xs i (by omega)];exact hs _ (List.getElem_mem _)
   refine aV (by omega) (aV (by omega) (aV (by omega) (Ev.bind (HY _ hz) ?_)))
   have ih:=Um xs hn hs f (i+1) (by omega)
   have hJ:∀ b,Ev (fun k=>iy.j2 k xs (xs.length:Int) (i:Int) b xs (au xs (i:Int)).f0 (au xs (i:Int)).f1 (au xs (i:Int)).f2) (if b=true then false else if yH xs (au xs (i:Int))=true then vw xs true f (i+1) else false):=by
    intro b
    refine Ev.step (iy.j2.eq_2 _ _ _ _ _ _ _ _) ?_
    rw [lV i (by omega)]
    exact Tj xs (au xs (i:Int)) _ (Ox xs (by omega) hs _) _ _ ih b
   have hO:=Vk xs i (by omega) hn _ _ hJ
   unfold vw Ba
   by_cases h1:(kP (au xs (i:Int)).f0).toList=([]:List UInt8)
   ·rw [if_pos h1]
    have h2:=(OO _).1 h1
    by_cases h3:(fA (au xs (i:Int)).f0).2=0
    ·exact aV h3 (aV (Classical.byContradiction fun h4=>h2 ⟨h3,h4⟩) (hJ true))
    ·exact dn h3 (hJ true)
   ·rw [if_neg h1]
    have h2:=Classical.byContradiction fun hc=>h1 ((OO _).2 hc)
    refine aV h2.1 (dn h2.2 (Ev.bind (Uk _ hz) (Ev.bind (iU (aaC xs _ (by omega))) ?_)))
    by_cases h3:o7 xs (kP (au xs (i:Int)).f0)=true
    ·rw [if_pos h3];exact aV h3 hO
    ·rw [if_neg h3];exact dn h3 (hJ true)
noncomputable def zD (g0 g1 g2 g3:Int) (xs:List aC):Bool:=yL g0 g1 g2 g3 && (decide ((xs.length:Int) < g2) && (decide (((o_ xs (⟨#[47]⟩:ByteArray)).length:Int)≤6) && (vw xs true xs.length 0 && decide (oG xs 0≤g3))))
theorem VZ (g0 g1 g2 g3:Int) (xs:List aC) (hn:xs.length≤1048576) (hs:∀ y ∈ xs,y.f2.size≤1048576):Ev (fun k=>iP.f k g0 g1 g2 g3 xs) (zD g0 g1 g2 g3 xs):=by
 unfold iP.f zD
 rw [acr]
 refine Ev.bind (Ev.now _) ?_
 have hno:∀ b:Bool,b=true→Ev (fun k=>iP.j0 k b g0 g1 g2 g3 xs) false:=by
  intro b hb
  refine Ev.step (iP.j0.eq_2 _ _ _ _ _ _) ?_
  exact aV hb (dY rfl)
 by_cases h1:yL g0 g1 g2 g3=true
 ·refine aV h1 ?_
  by_cases h2:(xs.length:Int) ≥ g2
  ·exact aV h2 (jT (hno _ rfl) (by rw [decide_eq_false (by omega:¬ (xs.length:Int) < g2)];simp))
  ·refine dn h2 (Ev.bind (Fv xs (by omega) _) ?_)
   by_cases h3:((o_ xs (⟨#[47]⟩:ByteArray)).length:Int) > 6
   ·exact jT (hno _ (decide_eq_true h3)) (by rw [decide_eq_false (by omega:¬ ((o_ xs (⟨#[47]⟩:ByteArray)).length:Int)≤6)];simp)
   ·refine Ev.step (iP.j0.eq_2 _ _ _ _ _ _) ?_
    refine dn (by rw [decide_eq_true_eq];exact h3) (jT (V3 g0 g1 g2 g3 xs hn hs xs.length 0 (by omega)) ?_)
    rw [QX,h1,decide_eq_true (by omega:(xs.length:Int) < g2),decide_eq_true (by omega:((o_ xs (⟨#[47]⟩:ByteArray)).length:Int)≤6)]
    simp
 ·exact dn h1 (jT (hno _ rfl) (by simp [h1]))
theorem Ul (g0 g1 g2 g3:Int) (xs:List aC) (hn:xs.length≤1048576) (hs:∀ y ∈ xs,y.f2.size≤1048576) (hs0:∀ y ∈ xs,y.f0.size≤140737488351232):Ev (fun k=>iy.f k g0 g1 g2 g3 xs) (zD g0 g1 g2 g3 xs):=by
 unfold iy.f zD
 rw [aaF]
 refine Ev.bind (Ev.now _) ?_
 have hno:∀ b:Bool,b=true→Ev (fun k=>iy.j0 k b xs) false:=by
  intro b hb
  refine Ev.step (iy.j0.eq_2 _ _) ?_
  exact aV hb (dY rfl)
 by_cases h1:yL g0 g1 g2 g3=true
 ·refine aV h1 ?_
  by_cases h2:(xs.length:Int) ≥ g2
  ·exact aV h2 (jT (hno _ rfl) (by rw [decide_eq_false (by omega:¬ (xs.length:Int) < g2)];simp))
  ·refine dn h2 (Ev.bind (aaK xs hn hs) ?_)
   by_cases h4:oG xs 0 > g3
   ·exact aV h4 (jT (hno _ rfl) (by rw [decide_eq_false (by omega:¬ oG xs 0≤g3)];simp))
   ·refine dn h4 (Ev.bind (Ox xs (by omega) hs0 _) ?_)
    by_cases h3:((o_ xs (⟨#[47]⟩:ByteArray)).length:Int) > 6
    ·exact jT (hno _ (decide_eq_true h3)) (by rw [decide_eq_false (by omega:¬ ((o_ xs (⟨#[47]⟩:ByteArray)).length:Int)≤6)];simp)
    ·refine Ev.step (iy.j0.eq_2 _ _) ?_
     refine dn (by rw [decide_eq_true_eq];exact h3) (jT (Um xs hn hs0 xs.length 0 (by omega)) ?_)
     rw [h1,decide_eq_true (by omega:(xs.length:Int) < g2),decide_eq_true (by omega:((o_ xs (⟨#[47]⟩:ByteArray)).length:Int)≤6),decide_eq_true (by omega:oG xs 0≤g3)]
     simp
 ·exact dn h1 (jT (hno _ rfl) (by simp [h1]))

theorem V8:∀ (q t:List UInt8),47 ∉ q→jI (q++47 :: t)=q :: jI t
 | [],t,_=>DW t
 | b :: q,t,h=>by
  have hb:b≠47:=fun c=>h (by simp [c])
  have hq:47 ∉ q:=fun c=>h (by simp [c])
  exact zu b (q++47 :: t) hb q (jI t) (V8 q t hq)
theorem Wh:∀ q:List UInt8,47 ∉ q→jI q=[q]
 | [],_=>rfl
 | b :: q,h=>by
  have hb:b≠47:=fun c=>h (by simp [c])
  have hq:47 ∉ q:=fun c=>h (by simp [c])
  exact zu b q hb q [] (Wh q hq)
theorem V9:∀ (t p:List UInt8),p ∈ jI t→47 ∉ p
 | [],p,h=>by simp [jI] at h;subst h;simp
 | b :: l,p,h=>by
  have ih:=V9 l
  by_cases hb:b=47
  ·subst hb;rw [DW] at h
   rcases List.mem_cons.1 h with rfl|h
   ·simp
   ·exact ih p h
  ·obtain ⟨p0,r,hs⟩:=List.exists_cons_of_ne_nil (zq l)
   rw [zu b l hb p0 r hs] at h
   rw [hs] at ih
   rcases List.mem_cons.1 h with rfl|h
   ·intro hc
    rcases List.mem_cons.1 hc with hc|hc
    ·exact hb hc.symm
    ·exact ih p0 (by simp) hc
   ·exact ih p (by simp [h])
theorem V_:∀ qs:List (List UInt8),qs≠[]→(∀ p ∈ qs,47 ∉ p)→∃ t,jn (qs.map sW)=47 :: t∧jI t=qs
 | [],h,_=>absurd rfl h
 | [q],_,h=>⟨q,by simp [jn,Bq],Wh q (h q (by simp))⟩
 | q :: q2 :: r,_,h=>by
  obtain ⟨t2,e,s⟩:=V_ (q2 :: r) (by simp) (fun p hp=>h p (by simp at hp ⊢;exact Or.inr hp))
  refine ⟨q++47 :: t2,?_,?_⟩
  ·rw [List.map_cons,jn,e,Bq]
  ·rw [V8 q t2 (h q (by simp)),s]
def Zz (p:ByteArray):Prop:=p.data.toList≠[]∧p.data.toList.length≤7∧p.data.toList.any rE=false∧(47:UInt8) ∉ p.data.toList
def gN (ps:List ByteArray):Prop:=∀ p ∈ ps,Zz p
theorem Nw {a b:List ByteArray}:gN (a++b) ↔ gN a∧gN b:=by
 unfold gN
 constructor
 ·exact fun h=>⟨fun p hp=>h p (List.mem_append_left _ hp),fun p hp=>h p (List.mem_append_right _ hp)⟩
 ·exact fun h p hp=>(List.mem_append.1 hp).elim (h.1 p) (h.2 p)
theorem Q7:∀ ps:List ByteArray,gN ps→(jn ps).any rE=false
 | [],_=>rfl
 | x :: r,h=>by
  have ih:=Q7 r (fun p hp=>h p (by simp [hp]))
  rw [jn,List.any_cons,List.any_append,ih,(h x (by simp)).2.2.1,MH];rfl
theorem Po (ps:List ByteArray) (g:gN ps) (hz:(jp ps).size≤60):fA (jp ps)=(ps,0):=by
 by_cases hn:ps=[]
 ·subst hn;rfl
 ·have hm:ps=(ps.map (·.data.toList)).map sW:=U2 rfl
  obtain ⟨u,hu,hsu⟩:=V_ (ps.map (·.data.toList)) (by simpa using hn) (fun p hp=>by
   obtain ⟨q,hq,rfl⟩:=List.mem_map.1 hp
   exact (g q hq).2.2.2)
  rw [← hm] at hu
  have hd:(jp ps).data.toList=47 :: u:=by
   unfold jp
   rw [if_neg hn,sJ,hu]
  have hbu:u.any rE=false:=by
   have:=Q7 ps g
   rw [hu,List.any_cons] at this
   exact (Bool.or_eq_false_iff.1 this).2
  have heu:emp (jI u)=false:=by
   rw [hsu]
   unfold emp
   rw [List.any_eq_false]
   intro x hx
   obtain ⟨q,hq,rfl⟩:=List.mem_map.1 hx
   have:=(g q hq).1
   simpa using this
  have aaf:(jI u).any (fun p=>decide (7 < p.length))=false:=by
   rw [hsu,List.any_eq_false]
   intro x hx
   obtain ⟨q,hq,rfl⟩:=List.mem_map.1 hx
   have:=(g q hq).2.1
   have h2:=uy q
   simp;omega
  have hue:u≠[]:=by
   intro c
   rw [c] at heu
   simp [emp,jI] at heu
  unfold fA
  rw [if_neg (by omega),hd]
  simp only [ne_eq,not_true,if_false,if_neg hue]
  unfold ql
  rw [DN,hbu,heu,aaf,hsu,← hm]
  simp
theorem V7:∀ (t p:List UInt8),t.any rE=false→p ∈ jI t→p.any rE=false
 | [],p,_,h=>by simp [jI] at h;subst h;rfl
 | b :: l,p,hb,h=>by
  rw [List.any_cons,Bool.or_eq_false_iff] at hb
  have ih:=V7 l
  by_cases h47:b=47
  ·subst h47;rw [DW] at h
   rcases List.mem_cons.1 h with rfl|h
   ·rfl
   ·exact ih p hb.2 h
  ·obtain ⟨p0,r,hs⟩:=List.exists_cons_of_ne_nil (zq l)
   rw [zu b l h47 p0 r hs] at h
   rw [hs] at ih
   rcases List.mem_cons.1 h with rfl|h
   ·rw [List.any_cons,hb.1,ih p0 hb.2 (by simp)];rfl
   ·exact ih p hb.2 (by simp [h])
theorem acE (a:ByteArray) (h:(fA a).2=0):gN (fA a).1∧a.size≤60∧jp (fA a).1=a:=by
 obtain ⟨h60,⟨_,h1⟩|⟨t,ht,hne,hb,he,hl,hs⟩⟩:=IC a h
 ·refine ⟨?_,h60,Ko a h⟩
  rw [h1];intro p hp;cases hp
 ·refine ⟨?_,h60,Ko a h⟩
  rw [hs]
  intro p hp
  obtain ⟨q,hq,rfl⟩:=List.mem_map.1 hp
  unfold emp at he
  rw [List.any_eq_false] at he hl
  have e1:=he q hq
  have e2:=hl q hq
  refine ⟨?_,?_,V7 t q hb hq,V9 t q hq⟩
  ·rw [Bq];simpa using e1
  ·rw [Bq];simp at e2;omega
theorem UH {a b:List ByteArray} (ga:gN a) (gb:gN b) (h:jp a=jp b) (hz:(jp a).size≤60):a=b:=by
 have e1:=Po a ga hz
 have e2:=Po b gb (h ▸ hz)
 rw [h,e2] at e1
 exact (Prod.mk.inj e1).1.symm
structure kK (a:ByteArray) (ps:List ByteArray):Prop where
 g:gN ps
 z:a.size≤60
 e:a=jp ps
theorem kK.sp {a:ByteArray} {ps:List ByteArray} (h:kK a ps):fA a=(ps,0):=by rw [h.e];exact Po ps h.g (h.e ▸ h.z)
theorem kK.of {a:ByteArray} (h:(fA a).2=0):kK a (fA a).1:=by
 obtain ⟨g,z,e⟩:=acE a h
 exact ⟨g,z,e.symm⟩
theorem kK.und {a b:ByteArray} {ps qs:List ByteArray} (ha:kK a ps) (hb:kK b qs):uO a b=true ↔ ∃ r,r≠[]∧ps=qs++r:=by
 unfold uO
 rw [ha.sp,hb.sp]
 simp only [decide_true,Bool.true_and,Bool.and_eq_true,decide_eq_true_eq,wU]
 constructor
 ·rintro ⟨hl,he⟩
  refine ⟨ps.drop qs.length,by intro c;have:=congrArg List.length c;simp at this;omega,?_⟩
  rw [← he]
  simp [Nat.min_eq_left (Nat.le_of_lt hl)]
 ·rintro ⟨r,hr,rfl⟩
  have:0 < r.length:=List.length_pos_iff.2 hr
  exact ⟨by simp;omega,by simp⟩
theorem kK.par {a:ByteArray} {ps:List ByteArray} (ha:kK a ps) (hn:ps≠[]):kP a=jp ps.dropLast:=by
 unfold kP
 rw [ha.sp]
 simp only [if_true,if_neg hn,List.dropLast_eq_take]
theorem UG (a b:List ByteArray) (ha:a≠[]):jp (a++b)=jp a++(⟨(jn b).toArray⟩:ByteArray):=by
 refine wL ?_
 unfold jp
 rw [if_neg (by simp [ha]),if_neg ha,zM,sJ,sJ,sJ,UE]
theorem U9 {a fr bJ:ByteArray} {F R T:List ByteArray} (ha:kK a (F++R)) (hf:kK fr F) (ht:kK bJ T) (nF:F≠[]) (uj:T≠[]):bJ++a.extract fr.size a.size=jp (T++R):=by
 rw [UG T R uj,← ht.e]
 congr 1
 have e:a=fr++(⟨(jn R).toArray⟩:ByteArray):=by rw [ha.e,UG F R nF,← hf.e]
 refine wL ?_
 rw [e,sJ]
 have:(fr++(⟨(jn R).toArray⟩:ByteArray)).extract fr.size (fr++(⟨(jn R).toArray⟩:ByteArray)).size=(⟨(jn R).toArray⟩:ByteArray):=by
  rw [ByteArray.size_append]
  exact ByteArray.extract_append_eq_right rfl rfl
 rw [this,sJ]

theorem Uo (P:aC→Bool) (z:aC):∀ (l:List aC) (i:Nat),(Lib.idxByFrom (fun _ y=>P y) z l i = -1∧∀ y ∈ l,P y=false)∨∃ A x B,l=A++x :: B∧P x=true∧(∀ y ∈ A,P y=false)∧Lib.idxByFrom (fun _ y=>P y) z l i=((i+A.length:Nat):Int)
 | [],i=>.inl ⟨rfl,fun y hy=>by cases hy⟩
 | y :: r,i=>by
  cases h:P y with
  | true=>exact .inr ⟨[],y,r,rfl,h,fun y hy=>(by cases hy),by simp [Lib.idxByFrom,h]⟩
  | false =>
   have e0:Lib.idxByFrom (fun _ y=>P y) z (y :: r) i=Lib.idxByFrom (fun _ y=>P y) z r (i+1):=by simp [Lib.idxByFrom,h]
   rcases Uo P z r (i+1) with ⟨e,h1⟩|⟨A,x,B,e1,e2,e3,e4⟩
   ·refine .inl ⟨by rw [e0,e],fun q hq=>?_⟩
    rcases List.mem_cons.1 hq with rfl|hq
    ·exact h
    ·exact h1 q hq
   ·refine .inr ⟨y :: A,x,B,by rw [e1];rfl,e2,fun q hq=>?_,by rw [e0,e4,List.length_cons];congr 1;omega⟩
    rcases List.mem_cons.1 hq with rfl|hq
    ·exact h
    ·exact e3 q hq
theorem H6 (p:ByteArray) (xs:List aC):(Lib.idxBy (lH p) xs z43 = -1∧∀ y ∈ xs,y.f0≠p)∨∃ A x B,xs=A++x :: B∧x.f0=p∧Lib.idxBy (lH p) xs z43=(A.length:Int):=by
 rcases Uo (fun y=>y.f0.toList == p.toList) z43 xs 0 with ⟨e,h⟩|⟨A,x,B,e1,e2,_,e4⟩
 ·exact .inl ⟨e,fun y hy c=>by have:=h y hy;rw [c] at this;simp at this⟩
 ·exact .inr ⟨A,x,B,e1,toList_inj (by simpa using e2),by rw [Nat.zero_add] at e4;exact e4⟩
def nm (y:aC):List ByteArray:=(fA y.f0).1
def sV (xs:List aC) (D:List ByteArray):Nat:=(xs.filter (fun y=>decide ((nm y).dropLast=D))).length
def vY (xs:List aC):Prop:=xs.Pairwise (fun a b=>dZ a b=true)
theorem abp {a b c:aC} (h1:dZ a b=true) (h2:dZ b c=true):dZ a c=true:=by
 by_cases h:dZ a c=true
 ·exact h
 ·have:=nU.neg b c a (nU.Ey _ _ h2) (by simpa using h)
  rw [this] at h1;cases h1
theorem vY.acI {xs:List aC} (h:vY xs):gG dZ xs:=List.Pairwise.imp (fun h=>nU.Ey _ _ h) h
theorem Wp:∀ xs:List aC,(∀ i (h:i+1 < xs.length),dZ (xs[i]'(by omega)) xs[i+1]=true)→vY xs
 | [],_=>List.Pairwise.nil
 | [x],_=>List.pairwise_singleton _ _
 | x :: y :: r,h=>by
  have ih:vY (y :: r):=Wp (y :: r) (fun i hi=>h (i+1) (by simp at hi ⊢;omega))
  have hxy:dZ x y=true:=h 0 (by simp)
  refine List.pairwise_cons.2 ⟨fun z hz=>?_,ih⟩
  rcases List.mem_cons.1 hz with rfl|hz
  ·exact hxy
  ·exact abp hxy ((List.pairwise_cons.1 ih).1 z hz)
theorem vY.adj {xs:List aC} (h:vY xs) (i:Nat) (hi:i+1 < xs.length):dZ (xs[i]'(by omega)) xs[i+1]=true:=List.pairwise_iff_getElem.1 h i (i+1) (by omega) hi (by omega)
theorem U0 {a b:aC} (h:dZ a b=true):a.f0≠b.f0:=fun c=>by
 unfold dZ at h;rw [c,ML] at h;cases h
theorem vY.uniq {xs:List aC} (h:vY xs) {a b:aC} (ha:a ∈ xs) (hb:b ∈ xs) (e:a.f0=b.f0):a=b:=by
 obtain ⟨i,hi,rfl⟩:=List.mem_iff_getElem.1 ha
 obtain ⟨j,hj,rfl⟩:=List.mem_iff_getElem.1 hb
 rcases Nat.lt_trichotomy i j with k|k|k
 ·exact absurd e (U0 (List.pairwise_iff_getElem.1 h i j hi hj k))
 ·subst k;rfl
 ·exact absurd e.symm (U0 (List.pairwise_iff_getElem.1 h j i hj hi k))
structure xI (xs:List aC):Prop where
 tq:∀ y ∈ xs,kK y.f0 (nm y)∧nm y≠[]
 up:∀ y ∈ xs,(nm y).dropLast=[]∨∃ z ∈ xs,nm z=(nm y).dropLast∧z.f1=true
 ss:vY xs
 dir:∀ y ∈ xs,y.f1=true→y.f2.toList=([]:List UInt8)∧sV xs (nm y)≤6
 sz:∀ y ∈ xs,y.f2.size≤128
 rt:sV xs []≤6
theorem MF (xs:List aC):∀ f i:Nat,vw xs true f i=true ↔ ∀ j,i≤j→j < i+f→Ba xs j=false∧yH xs (au xs (j:Int))=true
 | 0,i=>by simp [vw];omega
 | f+1,i=>by
  have ih:=MF xs f (i+1)
  unfold vw
  by_cases h1:Ba xs i=true
  ·rw [if_pos h1]
   simp only [Bool.false_eq_true,false_iff]
   exact fun c=>by have:=(c i (by omega) (by omega)).1;rw [h1] at this;cases this
  ·rw [if_neg h1]
   by_cases h2:yH xs (au xs (i:Int))=true
   ·rw [if_pos h2,ih]
    constructor
    ·intro h j h3 h4
     by_cases hj:j=i
     ·subst hj;exact ⟨by simpa using h1,h2⟩
     ·exact h j (by omega) (by omega)
    ·exact fun h j h3 h4=>h j (by omega) (by omega)
   ·rw [if_neg h2]
    simp only [Bool.false_eq_true,false_iff]
    exact fun c=>h2 (c i (by omega) (by omega)).2
theorem UJ (D:List ByteArray):(jp D).toList≠([]:List UInt8):=by
 rw [tX]
 unfold jp
 split
 ·simp
 ·rename_i h
  match D,h with
  | x :: r,_=>rw [sJ];simp [jn]
theorem kK.up {a:ByteArray} {ps:List ByteArray} (h:kK a ps) (n:ps≠[]):kK (jp ps.dropLast) ps.dropLast:=by
 have g:=h.g
 rw [← List.dropLast_concat_getLast n,Nw] at g
 refine ⟨g.1,?_,rfl⟩
 have hz:=h.z
 rw [h.e,Ia ps n] at hz
 by_cases hd:ps.dropLast=[]
 ·rw [hd];show (1:Nat)≤60;omega
 ·rw [Ia _ hd,List.dropLast_eq_take]
  have:=Wv ps (ps.length - 1)
  rw [List.length_take];omega
theorem kK.uniq {a:ByteArray} {ps qs:List ByteArray} (h:kK a ps) (k:kK a qs):ps=qs:=by
 have e:=h.sp
 rw [k.sp] at e
 exact (Prod.mk.inj e).1.symm
theorem kK.root {D:List ByteArray} (h:kK (jp D) D) (e:(jp D).toList=([47]:List UInt8)):D=[]:=by
 have:jp D=jp []:=toList_inj (by rw [e,tX];rfl)
 exact UH h.g (fun p hp=>by cases hp) this h.z

theorem JW {xs:List aC} (hp:∀ y ∈ xs,kK y.f0 (nm y)∧nm y≠[]) {D:List ByteArray} (hD:kK (jp D) D):(o_ xs (jp D)).length=sV xs D:=by
 unfold o_ yS sV
 rw [if_neg (UJ D),List.length_map]
 congr 1
 refine List.filter_congr (fun y hy=>?_)
 obtain ⟨h1,h2⟩:=hp y hy
 rw [h1.par h2]
 have hu:=h1.up h2
 rw [Bool.eq_iff_iff,beq_iff_eq,decide_eq_true_eq]
 constructor
 ·exact fun h=>UH hu.g hD.g (toList_inj h) hu.z
 ·exact fun h=>by rw [h]
theorem kK.nil:kK (jp []) []:=⟨(fun p hp=>nomatch hp),(by show (1:Nat)≤60;omega),rfl⟩
theorem Nl {xs:List aC} (hp:∀ y ∈ xs,kK y.f0 (nm y)∧nm y≠[]) (hs:∀ a ∈ xs,∀ b ∈ xs,a.f0=b.f0→a=b) {D:List ByteArray} (hD:kK (jp D) D):o7 xs (jp D)=true ↔ D=[]∨∃ z ∈ xs,nm z=D∧z.f1=true:=by
 unfold o7
 by_cases h0:(jp D).toList=([47]:List UInt8)
 ·rw [if_pos h0]
  exact ⟨fun _=>.inl (hD.root h0),fun _=>rfl⟩
 ·rw [if_neg h0]
  have hn:D≠[]:=fun c=>h0 (by rw [c,tX];rfl)
  rcases H6 (jp D) xs with ⟨e,h⟩|⟨A,x,B,e1,e2,e3⟩
  ·rw [e,if_neg (by omega)]
   constructor
   ·intro c;cases c
   ·rintro (c|⟨z,hz,hz2,_⟩)
    ·exact absurd c hn
    ·have:=(hp z hz).1.e
     rw [hz2] at this
     exact absurd this (h z hz)
  ·rw [e3,if_pos (by omega)]
   have hx:x ∈ xs:=by rw [e1];simp
   rw [show au xs (A.length:Int)=x by rw [e1];exact Fj A x B rfl]
   have hnx:nm x=D:=by
    have:=(hp x hx).1.sp
    rw [e2,hD.sp] at this
    exact (Prod.mk.inj this).1.symm
   constructor
   ·exact fun h=>.inr ⟨x,hx,hnx,h⟩
   ·rintro (c|⟨z,hz,hz2,hz3⟩)
    ·exact absurd c hn
    ·have:z=x:=hs z hz x hx (by rw [(hp z hz).1.e,hz2,e2])
     rw [← this];exact hz3
theorem Nr {xs:List aC} (hp:∀ y ∈ xs,kK y.f0 (nm y)∧nm y≠[]) {y:aC} (hy:y ∈ xs):yH xs y=true ↔ (y.f1=true→y.f2.toList=([]:List UInt8)∧sV xs (nm y)≤6)∧y.f2.size≤128:=by
 have e:=(hp y hy).1.e
 have hk:(o_ xs y.f0).length=sV xs (nm y):=by
  have:=(hp y hy).1
  rw [e] at this
  rw [e];exact JW hp this
 unfold yH
 rw [hk]
 by_cases h1:y.f1=true
 ·rw [if_pos h1]
  by_cases h2:y.f2.toList=([]:List UInt8)
  ·rw [if_pos h2]
   by_cases h3:((sV xs (nm y):Nat):Int) > 6
   ·rw [if_pos h3];simp only [Bool.false_eq_true,false_iff];exact fun c=>by have:=(c.1 h1).2;omega
   ·rw [if_neg h3]
    by_cases h4:(y.f2.size:Int) > 128
    ·rw [if_pos h4];simp only [Bool.false_eq_true,false_iff];exact fun c=>by have:=c.2;omega
    ·rw [if_neg h4];exact ⟨fun _=>⟨fun _=>⟨h2,by omega⟩,by omega⟩,fun _=>rfl⟩
  ·rw [if_neg h2];simp only [Bool.false_eq_true,false_iff];exact fun c=>h2 (c.1 h1).1
 ·rw [if_neg h1]
  by_cases h4:(y.f2.size:Int) > 128
  ·rw [if_pos h4];simp only [Bool.false_eq_true,false_iff];exact fun c=>by have:=c.2;omega
  ·rw [if_neg h4];exact ⟨fun _=>⟨fun c=>absurd c h1,by omega⟩,fun _=>rfl⟩
theorem MI {xs:List aC} {j:Nat} (hj:j < xs.length) (h:Ba xs j=false):kK xs[j].f0 (nm xs[j])∧nm xs[j]≠[]∧o7 xs (kP xs[j].f0)=true∧(0 < j→dZ (xs[j - 1]'(by omega)) xs[j]=true):=by
 unfold Ba at h
 rw [rH xs j hj] at h
 by_cases h1:(kP xs[j].f0).toList=([]:List UInt8)
 ·rw [if_pos h1] at h;cases h
 rw [if_neg h1] at h
 have h2:=Classical.byContradiction fun hc=>h1 ((OO _).2 hc)
 have hP:=kK.of h2.1
 by_cases h3:o7 xs (kP xs[j].f0)=true
 ·rw [if_pos h3] at h
  refine ⟨hP,fun c=>h2.2 ?_,h3,fun h0=>?_⟩
  ·have e:=hP.e
   unfold nm at c
   rw [c] at e
   rw [e,tX];rfl
  ·unfold Il at h
   rw [if_pos (by omega),rH xs j hj,OT xs (j - 1) (by omega) (by omega)] at h
   unfold dZ
   simpa using h
 ·rw [if_neg h3] at h;cases h
theorem Xx {g0 g1 g2 g3:Int} {xs:List aC} (h:zD g0 g1 g2 g3 xs=true):yL g0 g1 g2 g3=true∧(xs.length:Int) < g2∧xI xs∧oG xs 0≤g3:=by
 unfold zD at h
 simp only [Bool.and_eq_true,decide_eq_true_eq] at h
 obtain ⟨hg,hl,hr,ha,hq⟩:=h
 have ha2:=(MF xs xs.length 0).1 ha
 have hp:∀ y ∈ xs,kK y.f0 (nm y)∧nm y≠[]:=fun y hy=>by
  obtain ⟨j,hj,rfl⟩:=List.mem_iff_getElem.1 hy
  have:=MI hj (ha2 j (by omega) (by omega)).1
  exact ⟨this.1,this.2.1⟩
 have ss:vY xs:=Wp xs (fun i hi=>by
  have:=(MI hi (ha2 (i+1) (by omega) (by omega)).1).2.2.2 (by omega)
  simpa using this)
 have hs:∀ a ∈ xs,∀ b ∈ xs,a.f0=b.f0→a=b:=fun a ha b hb e=>ss.uniq ha hb e
 have he:∀ y ∈ xs,yH xs y=true:=fun y hy=>by
  obtain ⟨j,hj,rfl⟩:=List.mem_iff_getElem.1 hy
  have:=(ha2 j (by omega) (by omega)).2
  rw [rH xs j hj] at this
  exact this
 refine ⟨hg,hl,⟨hp,fun y hy=>?_,ss,fun y hy=>((Nr hp hy).1 (he y hy)).1,fun y hy=>((Nr hp hy).1 (he y hy)).2,?_⟩,hq⟩
 ·obtain ⟨j,hj,rfl⟩:=List.mem_iff_getElem.1 hy
  have hb:=MI hj (ha2 j (by omega) (by omega)).1
  have:=hb.2.2.1
  rw [hb.1.par hb.2.1] at this
  exact (Nl hp hs (hb.1.up hb.2.1)).1 this
 ·have:=JW hp kK.nil
  have e:jp []=(⟨#[47]⟩:ByteArray):=rfl
  rw [e] at this
  omega
theorem ac_ {g0 g1 g2 g3:Int} {xs:List aC} (hg:yL g0 g1 g2 g3=true) (hl:(xs.length:Int) < g2) (h:xI xs) (hq:oG xs 0≤g3):zD g0 g1 g2 g3 xs=true:=by
 unfold zD
 simp only [Bool.and_eq_true,decide_eq_true_eq]
 refine ⟨hg,hl,?_,(MF xs xs.length 0).2 (fun j _ h2=>?_),hq⟩
 ·have:=JW h.tq kK.nil
  have e:jp []=(⟨#[47]⟩:ByteArray):=rfl
  rw [e] at this
  have:=h.rt
  omega
 ·have hj:j < xs.length:=by omega
  have hy:=List.getElem_mem hj
  have hP:=h.tq _ hy
  refine ⟨?_,by rw [rH xs j hj];exact (Nr h.tq hy).2 ⟨h.dir _ hy,h.sz _ hy⟩⟩
  unfold Ba
  rw [rH xs j hj]
  have h1:¬ (kP xs[j].f0).toList=([]:List UInt8):=by rw [hP.1.par hP.2];exact UJ _
  have h3:o7 xs (kP xs[j].f0)=true:=by
   rw [hP.1.par hP.2]
   exact (Nl h.tq (fun a ha b hb e=>h.ss.uniq ha hb e) (hP.1.up hP.2)).2 (h.up _ hy)
  rw [if_neg h1,if_pos h3]
  unfold Il
  by_cases h0:(j:Int) > 0
  ·rw [if_pos h0,rH xs j hj,OT xs (j - 1) (by omega) (by omega)]
   have:=h.ss.adj (j - 1) (by omega)
   have e:j - 1+1=j:=by omega
   simp only [e] at this
   unfold dZ at this
   rw [this];rfl
  ·rw [if_neg h0]

theorem aaX (x:aC) (out:List aC):(uV x out).Perm (x :: out):=by
 have e:=List.takeWhile_append_dropWhile (p:=uh x) (l:=out)
 unfold uV
 rw [List.append_assoc,List.singleton_append]
 refine (List.perm_middle).trans ?_
 rw [e]
theorem U6 (fr bJ:ByteArray):∀ (xs out:List aC),(kX fr bJ xs out).Perm (xs.map (jF fr bJ)++out)
 | [],out=>List.Perm.refl _
 | x :: r,out=>by
  unfold kX
  refine (U6 fr bJ r _).trans ?_
  refine ((aaX _ _).append_left _).trans ?_
  exact List.perm_middle
theorem Ri:∀ (a:List UInt8) (b:UInt8) (c:List UInt8),Op.bytesLess a (a++b :: c)=true
 | [],b,c=>by simp [Op.bytesLess]
 | x :: r,b,c=>by
  have ih:=Ri r b c
  have h:¬ x < x:=fun c=>by have:=UInt8.lt_iff_toNat_lt.1 c;omega
  simp only [List.cons_append,Op.bytesLess]
  simp [ih,h]
theorem aa0 (x:ByteArray) (r:List ByteArray):jn (x :: r)=47 :: (x.data.toList++jn r):=by simp [jn]
section
variable {xs:List aC} (h:xI xs)
include h
theorem xI.QY {n:Nat} (hn:0 < n):∀ (k:Nat) (y:aC),y ∈ xs→(nm y).length=n+k→∃ z ∈ xs,nm z=(nm y).take n
 | 0,y,hy,hl=>⟨y,hy,by rw [List.take_of_length_le (by omega)]⟩
 | k+1,y,hy,hl=>by
  rcases h.up y hy with e|⟨z,hz,e,_⟩
  ·have:=congrArg List.length e
   simp at this;omega
  ·obtain ⟨w,hw,ew⟩:=xI.QY hn k z hz (by rw [e];simp;omega)
   refine ⟨w,hw,?_⟩
   rw [ew,e,List.dropLast_eq_take,List.take_take]
   congr 1;omega
theorem xI.pre {y:aC} (hy:y ∈ xs) {T R:List ByteArray} (uj:T≠[]) (e:nm y=T++R):∃ z ∈ xs,nm z=T:=by
 have:0 < T.length:=List.length_pos_iff.2 uj
 obtain ⟨z,hz,ez⟩:=h.QY this R.length y hy (by rw [e,List.length_append])
 exact ⟨z,hz,by rw [ez,e,List.take_left]⟩
theorem xI.inj {y z:aC} (hy:y ∈ xs) (hz:z ∈ xs) (e:nm y=nm z):y=z :=
 h.ss.uniq hy hz (by rw [(h.tq y hy).1.e,(h.tq z hz).1.e,e])
theorem xI.deep:∀ (i:Nat) (hi:i < xs.length),(nm xs[i]).length≤i+1:=by
 intro i
 induction i using Nat.strongRecOn with
 | _ i ih =>
  intro hi
  have hy:=List.getElem_mem hi
  have hP:=h.tq _ hy
  rcases h.up _ hy with e|⟨z,hz,e,_⟩
  ·have:=congrArg List.length e
   simp at this;omega
  ·obtain ⟨j,hj,rfl⟩:=List.mem_iff_getElem.1 hz
   have hl:dZ xs[j] xs[i]=true:=by
    have hZ:=h.tq _ hz
    unfold dZ
    rw [tX,tX,hZ.1.e,hP.1.e]
    unfold jp
    rw [if_neg hZ.2,if_neg hP.2,sJ,sJ]
    have:nm xs[i]=nm xs[j]++[(nm xs[i]).getLast hP.2]:=by rw [e];exact (List.dropLast_concat_getLast hP.2).symm
    rw [this,UE,aa0]
    exact Ri _ _ _
   have hji:j < i:=by
    rcases Nat.lt_trichotomy j i with k|k|k
    ·exact k
    ·subst k;rw [nU.Dv] at hl;cases hl
    ·have:=List.pairwise_iff_getElem.1 h.ss i j hi hj k
     rw [nU.Ey _ _ this] at hl;cases hl
   have:=ih j hji hj
   have l:=congrArg List.length e
   simp at l;omega
theorem xI.size {n:Nat} (hn:xs.length≤n) {y:aC} (hy:y ∈ xs):y.f0.size≤8 * n:=by
 obtain ⟨i,hi,rfl⟩:=List.mem_iff_getElem.1 hy
 have hd:=h.deep i hi
 have hP:=h.tq _ hy
 have hs:∀ ps:List ByteArray,gN ps→pF (fun s:ByteArray=>s.size) ps≤7 * ps.length:=by
  intro ps
  induction ps with
  | nil=>intro _;simp [pF]
  | cons p r ih =>
   intro g
   have:=ih (fun q hq=>g q (by simp [hq]))
   have h2:=(g p (by simp)).2.1
   have h3:=uy p
   rw [Aw,List.length_cons];omega
 have:=hs _ hP.1.g
 rw [hP.1.e,Ia _ hP.2]
 omega
end
structure tV (xs:List aC) (fr bJ:ByteArray) (F T:List ByteArray):Prop where
 ok:xI xs
 pf:kK fr F
 pt:kK bJ T
 nF:F≠[]
 uj:T≠[]
 no:∀ y ∈ xs,nm y≠T
 und:∀ R,T≠F++R
 sz:bJ.size≤20
 len:xs.length≤5
section
variable {xs:List aC} {fr bJ:ByteArray} {F T:List ByteArray}
theorem U7 {y:aC} {R:List ByteArray} (hf:kK fr F) (ht:kK bJ T) (nF:F≠[]) (uj:T≠[]) (hy:kK y.f0 (F++R)):jF fr bJ y=⟨jp (T++R),y.f1,y.f2⟩:=by
 unfold jF
 have hc:y.f0.toList=fr.toList∨uO y.f0 fr=true:=by
  by_cases hR:R=[]
  ·subst hR
   left
   rw [hy.e,hf.e,List.append_nil]
  ·exact .inr ((hy.und hf).2 ⟨R,hR,rfl⟩)
 rw [if_pos hc,U9 hy hf ht nF uj]
theorem U8 {y:aC} {N:List ByteArray} (hf:kK fr F) (hy:kK y.f0 N) (hn:∀ R,N≠F++R):jF fr bJ y=y:=by
 unfold jF
 rw [if_neg]
 rintro (e|e)
 ·have e:=toList_inj e
  rw [e] at hy
  exact hn [] (by rw [List.append_nil];exact hy.uniq hf)
 ·obtain ⟨r,_,e⟩:=(hy.und hf).1 e
  exact hn r e
variable (h:tV xs fr bJ F T)
include h
theorem tV.noT {y:aC} (hy:y ∈ xs) (R:List ByteArray):nm y≠T++R:=fun e=>by
 obtain ⟨z,hz,ez⟩:=h.ok.pre hy h.uj e
 exact h.no z hz ez
theorem tV.item {y:aC} (hy:y ∈ xs):(∃ R,nm y=F++R∧kK (jp (T++R)) (T++R)∧jF fr bJ y=⟨jp (T++R),y.f1,y.f2⟩∧nm (jF fr bJ y)=T++R)∨((∀ R,nm y≠F++R)∧jF fr bJ y=y):=by
 have hP:=h.ok.tq y hy
 by_cases hc:∃ R,nm y=F++R
 ·obtain ⟨R,e⟩:=hc
  have hp:=hP.1
  rw [e] at hp
  have g:=hp.g
  rw [Nw] at g
  have hQ:kK (jp (T++R)) (T++R):=by
   refine ⟨Nw.2 ⟨h.pt.g,g.2⟩,?_,rfl⟩
   rw [← U9 hp h.pf h.pt h.nF h.uj,ByteArray.size_append,ByteArray.size_extract]
   have:=h.ok.size h.len hy
   have:=h.sz
   omega
  have em:=U7 h.pf h.pt h.nF h.uj hp
  refine .inl ⟨R,e,hQ,em,?_⟩
  rw [em]
  unfold nm
  show (fA (jp (T++R))).1=_
  rw [hQ.sp]
 ·have hc2:∀ R,nm y≠F++R:=fun R e=>hc ⟨R,e⟩
  exact .inr ⟨hc2,U8 h.pf hP.1 hc2⟩
theorem tV.fields {y:aC} (hy:y ∈ xs):(jF fr bJ y).f1=y.f1∧(jF fr bJ y).f2=y.f2∧kK (jF fr bJ y).f0 (nm (jF fr bJ y))∧nm (jF fr bJ y)≠[]:=by
 rcases h.item hy with ⟨R,e,hQ,em,en⟩|⟨_,em⟩
 ·rw [en,em];exact ⟨rfl,rfl,hQ,by simp [h.uj]⟩
 ·rw [em];exact ⟨rfl,rfl,h.ok.tq y hy⟩
theorem tV.inj {y z:aC} (hy:y ∈ xs) (hz:z ∈ xs) (e:(jF fr bJ y).f0=(jF fr bJ z).f0):y=z:=by
 have e2:nm (jF fr bJ y)=nm (jF fr bJ z):=by unfold nm;rw [e]
 rcases h.item hy with ⟨R,e3,_,_,en⟩|⟨h3,em⟩ <;> rcases h.item hz with ⟨R2,e4,_,_,Tf⟩|⟨h4,Tc⟩
 ·rw [en,Tf] at e2
  have:=List.append_cancel_left e2
  exact h.ok.inj hy hz (by rw [e3,e4,this])
 ·rw [en,Tc] at e2;exact absurd e2.symm (h.noT hz R)
 ·rw [em,Tf] at e2;exact absurd e2 (h.noT hy R2)
 ·rw [em,Tc] at e2;exact h.ok.inj hy hz e2
end

theorem acN {xs ys:List aC} (h:vY xs) (hp:ys.Perm xs):gK dZ xs ys:=by
 intro a
 have h1:((xs.filter (tie dZ a)).length≤1):=by
  rcases hl:xs.filter (tie dZ a) with _|⟨x,_|⟨y,r⟩⟩
  ·simp
  ·simp
  ·exfalso
   have hs:vY (xs.filter (tie dZ a)):=List.Pairwise.sublist List.filter_sublist h
   have hx:x ∈ xs.filter (tie dZ a):=by rw [hl];simp
   have hy:y ∈ xs.filter (tie dZ a):=by rw [hl];simp
   rw [hl] at hs
   have hxy:=(List.pairwise_cons.1 hs).1 y (by simp)
   have t1:=IG.1 (List.mem_filter.1 hx).2
   have t2:=IG.1 (List.mem_filter.1 hy).2
   have:=nU.neg y a x t2.1 t1.2
   rw [this] at hxy;cases hxy
 have h2:=(hp.filter (tie dZ a)).symm
 rcases hl:xs.filter (tie dZ a) with _|⟨x,_|⟨y,r⟩⟩
 ·rw [hl] at h2;exact (List.nil_perm.1 h2).symm
 ·rw [hl] at h2;exact List.singleton_perm.1 h2
 ·rw [hl] at h1;simp at h1
theorem abo {a b:aC} (h:dZ b a=false) (hn:a.f0≠b.f0):dZ a b=true:=by
 have:=MN (x:=b.f0.toList) (y:=a.f0.toList) (fun c=>hn (toList_inj c))
 unfold dZ at h ⊢
 rw [this,h];rfl
theorem OQ:∀ (xs:List aC) (a b:Int),oG xs (a+b)=oG xs a+b
 | [],a,b=>rfl
 | x :: r,a,b=>by
  unfold oG
  split
  ·exact OQ r a b
  ·rw [show a+b+yU x.f2.size=a+yU x.f2.size+b by omega];exact OQ r _ b
theorem Bz (x:aC) (r:List aC):oG (x :: r) 0=(if x.f1=true then 0 else yU x.f2.size)+oG r 0:=by
 rw [oG]
 split
 ·omega
 ·rw [OQ];omega
theorem abW {xs ys:List aC} (h:xs.Perm ys):oG xs 0=oG ys 0:=by
 induction h with
 | nil=>rfl
 | cons x _ ih=>rw [Bz,Bz,ih]
 | swap x y r=>rw [Bz,Bz,Bz,Bz];omega
 | trans _ _ ih1 ih2=>exact ih1.trans ih2
theorem Vt (m:aC→aC):∀ xs:List aC,(∀ y ∈ xs,(m y).f1=y.f1∧(m y).f2=y.f2)→oG (xs.map m) 0=oG xs 0
 | [],_=>rfl
 | x :: r,h=>by
  rw [List.map_cons,Bz,Bz,Vt m r (fun y hy=>h y (by simp [hy])),(h x (by simp)).1,(h x (by simp)).2]
theorem filter_le {α:Type} (p q r:α→Bool):∀ xs:List α,(∀ x ∈ xs,p x=true→q x=true∨r x=true)→(xs.filter p).length≤(xs.filter q).length+(xs.filter r).length
 | [],_=>by simp
 | x :: xs,h=>by
  have ih:=filter_le p q r xs (fun y hy=>h y (by simp [hy]))
  have hx:=h x (by simp)
  simp only [List.filter_cons]
  cases hp:p x <;> cases hq:q x <;> cases hr:r x <;> simp only [hp,hq,hr,if_true,if_false,List.length_cons,Bool.false_eq_true] at hx ⊢ <;> first|omega|simp at hx
theorem Vg {α:Type} (xs:List α):(xs.filter (fun _=>false)).length=0:=by rw [List.filter_eq_nil_iff.2 (fun _ _=>by simp)];rfl
theorem abB {xs:List aC} (h:xI xs) (F:List ByteArray):(xs.filter (fun y=>decide (nm y=F))).length≤1:=by
 rcases hl:xs.filter (fun y=>decide (nm y=F)) with _|⟨x,_|⟨y,r⟩⟩
 ·simp
 ·simp
 ·exfalso
  have hs:vY (xs.filter (fun y=>decide (nm y=F))):=List.Pairwise.sublist List.filter_sublist h.ss
  have hx:x ∈ xs.filter (fun y=>decide (nm y=F)):=by rw [hl];simp
  have hy:y ∈ xs.filter (fun y=>decide (nm y=F)):=by rw [hl];simp
  have e1:=List.mem_filter.1 hx
  have e2:=List.mem_filter.1 hy
  simp only [decide_eq_true_eq] at e1 e2
  have:=h.inj e1.1 e2.1 (by rw [e1.2,e2.2])
  rw [hl,this] at hs
  have:=(List.pairwise_cons.1 hs).1 y (by simp)
  rw [nU.Dv] at this;cases this
theorem tV.perm {xs:List aC} {fr bJ:ByteArray} {F T:List ByteArray} (h:tV xs fr bJ F T):(kX fr bJ xs []).Perm (xs.map (jF fr bJ)):=by
 have:=U6 fr bJ xs []
 rwa [List.append_nil] at this
section
variable {xs:List aC} {fr bJ:ByteArray} {F T:List ByteArray} (h:tV xs fr bJ F T)
include h
theorem tV.mem {w:aC}:w ∈ kX fr bJ xs [] ↔ ∃ y ∈ xs,jF fr bJ y=w:=by
 rw [h.perm.mem_iff,List.mem_map]
theorem tV.sorted:vY (kX fr bJ xs []):=by
 have s:=(OI fr bJ xs [] (by unfold gG;exact List.Pairwise.nil)).1
 have nd:(xs.map (jF fr bJ)).Pairwise (fun a b=>a.f0≠b.f0):=by
  rw [List.pairwise_map]
  refine List.Pairwise.imp_of_mem (fun {a b} ha hb hl e=>?_) h.ok.ss
  have:=h.inj ha hb e
  rw [this,nU.Dv] at hl;cases hl
 have abx:(kX fr bJ xs []).Pairwise (fun a b=>a.f0≠b.f0):=h.perm.symm.pairwise nd (fun {a b} (k:a.f0≠b.f0)=>k.symm)
 exact List.Pairwise.imp (fun k=>abo k.1 k.2) (List.Pairwise.and s abx)
theorem tV.count (D:List ByteArray):sV (kX fr bJ xs []) D=(xs.filter (fun y=>decide ((nm (jF fr bJ y)).dropLast=D))).length:=by
 unfold sV
 rw [(h.perm.filter _).length_eq,List.filter_map,List.length_map]
 rfl
theorem tV.aa6 (R:List ByteArray):sV (kX fr bJ xs []) (T++R)≤sV xs (F++R):=by
 rw [h.count]
 unfold sV
 have:=filter_le (fun y=>decide ((nm (jF fr bJ y)).dropLast=T++R)) (fun y=>decide ((nm y).dropLast=F++R)) (fun _=>false) xs (fun y hy hp=>by
  simp only [decide_eq_true_eq] at hp
  left
  simp only [decide_eq_true_eq]
  rcases h.item hy with ⟨R2,e,_,_,en⟩|⟨_,em⟩
  ·rw [en] at hp
   have xq:R2≠[]:=fun c=>by
    rw [c,List.append_nil] at hp
    have:=congrArg List.length hp
    have l0:0 < T.length:=List.length_pos_iff.2 h.uj
    simp at this;omega
   rw [List.dropLast_append_of_ne_nil xq] at hp
   rw [e,List.dropLast_append_of_ne_nil xq,List.append_cancel_left hp]
  ·rw [em] at hp
   have hn:=(h.ok.tq y hy).2
   have e:=List.dropLast_concat_getLast hn
   rw [hp,List.append_assoc] at e
   exact absurd e.symm (h.noT hy _))
 rw [Vg,Nat.add_zero] at this
 exact this
theorem tV.UL (D:List ByteArray) (hD:∀ R,D≠T++R) (hk:sV xs T.dropLast < 6) (h6:sV xs D≤6):sV (kX fr bJ xs []) D≤6:=by
 rw [h.count]
 by_cases hd:D=T.dropLast
 ·have:=filter_le (fun y=>decide ((nm (jF fr bJ y)).dropLast=D)) (fun y=>decide ((nm y).dropLast=D)) (fun y=>decide (nm y=F)) xs (fun y hy hp=>by
   simp only [decide_eq_true_eq] at hp ⊢
   rcases h.item hy with ⟨R2,e,_,_,en⟩|⟨_,em⟩
   ·right
    rw [en] at hp
    by_cases xq:R2=[]
    ·rw [e,xq,List.append_nil]
    ·rw [List.dropLast_append_of_ne_nil xq] at hp
     exact absurd hp.symm (hD _)
   ·left;rw [em] at hp;exact hp)
  have h1:=abB h.ok F
  unfold sV at hk
  rw [← hd] at hk
  omega
 ·have:=filter_le (fun y=>decide ((nm (jF fr bJ y)).dropLast=D)) (fun y=>decide ((nm y).dropLast=D)) (fun _=>false) xs (fun y hy hp=>by
   simp only [decide_eq_true_eq] at hp ⊢
   rcases h.item hy with ⟨R2,e,_,_,en⟩|⟨_,em⟩
   ·rw [en] at hp
    by_cases xq:R2=[]
    ·rw [xq,List.append_nil] at hp;exact absurd hp.symm hd
    ·rw [List.dropLast_append_of_ne_nil xq] at hp
     exact absurd hp.symm (hD _)
   ·left;rw [em] at hp;exact hp)
  unfold sV at h6
  rw [Vg] at this
  omega
theorem tV.ac9 (hup:T.dropLast=[]∨∃ z ∈ xs,nm z=T.dropLast∧z.f1=true) (hk:sV xs T.dropLast < 6):xI (kX fr bJ xs []):=by
 refine ⟨fun w hw=>?_,fun w hw=>?_,h.sorted,fun w hw hd=>?_,fun w hw=>?_,?_⟩
 ·obtain ⟨y,hy,rfl⟩:=h.mem.1 hw
  exact (h.fields hy).2.2
 ·obtain ⟨y,hy,rfl⟩:=h.mem.1 hw
  -- a folder that is no part of what moves stays
  have stay:∀ {D:List ByteArray},(∃ z ∈ xs,nm z=D∧z.f1=true)→(∀ R,D≠F++R)→∃ z ∈ kX fr bJ xs [],nm z=D∧z.f1=true:=by
   rintro D ⟨z,hz,e,e1⟩ hn
   rcases h.item hz with ⟨R,e2,_⟩|⟨_,em⟩
   ·exact absurd (e.symm.trans e2) (hn R)
   ·exact ⟨z,h.mem.2 ⟨z,hz,em⟩,e,e1⟩
  rcases h.item hy with ⟨R,e,_,em,en⟩|⟨hn,em⟩
  ·rw [en]
   by_cases xq:R=[]
   ·rw [xq,List.append_nil]
    rcases hup with c|c
    ·exact .inl c
    ·exact .inr (stay c (fun R c2=>by
      have:=List.dropLast_concat_getLast h.uj
      rw [c2,List.append_assoc] at this
      exact h.und _ this.symm))
   ·right
    rw [List.dropLast_append_of_ne_nil xq]
    rcases h.ok.up y hy with c|⟨z,hz,e1,e2⟩
    ·rw [e,List.dropLast_append_of_ne_nil xq] at c
     exact absurd (List.append_eq_nil_iff.1 c).1 h.nF
    ·rw [e,List.dropLast_append_of_ne_nil xq] at e1
     rcases h.item hz with ⟨R2,e3,_,Zl,Zm⟩|⟨hn,_⟩
     ·rw [e1] at e3
      have:=List.append_cancel_left e3
      exact ⟨_,h.mem.2 ⟨z,hz,rfl⟩,by rw [Zm,this],by rw [Zl];exact e2⟩
     ·exact absurd e1 (hn _)
  ·rw [em]
   rcases h.ok.up y hy with c|c
   ·exact .inl c
   ·exact .inr (stay c (fun R c2=>by
     have hn2:=(h.ok.tq y hy).2
     have:=List.dropLast_concat_getLast hn2
     rw [c2,List.append_assoc] at this
     exact hn _ this.symm))
 ·obtain ⟨y,hy,rfl⟩:=h.mem.1 hw
  rw [(h.fields hy).1] at hd
  have:=h.ok.dir y hy hd
  rw [(h.fields hy).2.1]
  refine ⟨this.1,?_⟩
  rcases h.item hy with ⟨R,e,_,_,en⟩|⟨hn,em⟩
  ·rw [en]
   have:=h.aa6 R
   rw [← e] at this
   omega
  ·rw [em]
   exact h.UL _ (fun R=>h.noT hy R) hk this.2
 ·obtain ⟨y,hy,rfl⟩:=h.mem.1 hw
  rw [(h.fields hy).2.1]
  exact h.ok.sz y hy
 ·exact h.UL [] (fun R c=>h.uj (List.append_eq_nil_iff.1 c.symm).1) hk h.ok.rt
theorem tV.pages:oG (kX fr bJ xs []) 0=oG xs 0:=by
 rw [abW h.perm]
 exact Vt _ xs (fun y hy=>⟨(h.fields hy).1,(h.fields hy).2.1⟩)
theorem tV.gone:∀ w ∈ kX fr bJ xs [],(∃ y ∈ xs,nm y=F)→w.f0≠fr:=fun w hw hF e=>by
 obtain ⟨y,hy,rfl⟩:=h.mem.1 hw
 have e2:nm (jF fr bJ y)=F:=by unfold nm;rw [e,h.pf.sp]
 rcases h.item hy with ⟨R,_,_,_,en⟩|⟨hn,em⟩
 ·rw [en] at e2
  obtain ⟨z,hz,ez⟩:=hF
  rw [← e2] at ez
  exact h.noT hz R ez
 ·rw [em] at e2;exact hn [] (by rw [List.append_nil];exact e2)
theorem tV.here (hF:∃ y ∈ xs,nm y=F):∃ w ∈ kX fr bJ xs [],w.f0=bJ:=by
 obtain ⟨y,hy,e⟩:=hF
 refine ⟨_,h.mem.2 ⟨y,hy,rfl⟩,?_⟩
 rcases h.item hy with ⟨R,e2,_,em,_⟩|⟨hn,_⟩
 ·rw [e] at e2
  have:R=[]:=by
   have:=congrArg List.length e2
   simp at this;exact this
  rw [em,this,List.append_nil];exact h.pt.e.symm
 ·exact absurd (by rw [List.append_nil];exact e) (hn [])
theorem tV.back:kX bJ fr (kX fr bJ xs []) []=xs:=by
 refine (U_ bJ fr (kX fr bJ xs []) xs h.ok.ss.acI (acN h.ok.ss ?_)).symm
 refine (h.perm.map _).trans ?_
 rw [List.map_map]
 have:xs.map (jF bJ fr ∘ jF fr bJ)=xs.map id:=List.map_congr_left (fun y hy=>by
  show jF bJ fr (jF fr bJ y)=y
  have hP:=h.ok.tq y hy
  rcases h.item hy with ⟨R,e,hQ,em,en⟩|⟨hn,em⟩
  ·rw [em,U7 (y:=⟨jp (T++R),y.f1,y.f2⟩) h.pt h.pf h.uj h.nF hQ,← e,← hP.1.e]
  ·rw [em]
   exact U8 h.pt hP.1 (fun R=>h.noT hy R))
 rw [this,List.map_id]
end

def DL (xs:List aC) (ps:List ByteArray):Nat→Nat→Int
 | 0,_=>3
 | f+1,i=>if Lib.idxBy (lH (jp (ps.take i))) xs z43 < 0 then 3 else if (au xs (Lib.idxBy (lH (jp (ps.take i))) xs z43)).f1=true then DL xs ps f (i+1) else 4
def zn (xs:List aC) (a:ByteArray):Int:=if a.toList=([47]:List UInt8) then 0 else if Lib.idxBy (lH a) xs z43 ≥ 0 then 0 else if (fA a).2=0 then DL xs (fA a).1 ((fA a).1.length - 1) 1 else (fA a).2
theorem VO (xs:List aC) (hx:xs.length≤4000000) (a:ByteArray) (h0:(fA a).2=0):∀ (f i:Nat),1≤i→i+f=(fA a).1.length→Ev (fun k=>pz.l0 k (fA a).1 (i:Int) xs) (DL xs (fA a).1 f i)
 | f,i,h1,hf=>by
  have hp:=FH a
  refine Ev.step (pz.l0.eq_2 _ _ _) ?_
  cases f with
  | zero=>exact dn (by omega) (dY rfl)
  | succ f =>
   refine aV (by omega) (aV (by omega) (aV (by omega) ?_))
   rw [Int.toNat_natCast]
   refine Ev.bind (VJ _ (OM a i)) (Ev.bind (DR xs _ hx) ?_)
   unfold DL
   by_cases hc:Lib.idxBy (lH (jp ((fA a).1.take i))) xs z43 < 0
   ·rw [if_pos hc];exact aV hc (dY rfl)
   ·rw [if_neg hc]
    refine dn hc (Ev.bind (OX xs _ hx) ?_)
    unfold o7
    rw [if_neg (aa3 a h0 i h1 (by omega)),if_pos (show Lib.idxBy (lH (jp ((fA a).1.take i))) xs z43 ≥ 0 by omega)]
    by_cases hd:(au xs (Lib.idxBy (lH (jp ((fA a).1.take i))) xs z43)).f1=true
    ·rw [lV i (by omega)]
     exact aV hd (jT (VO xs hx a h0 f (i+1) (by omega) (by omega)) (if_pos hd).symm)
    ·exact dn hd (dY (if_neg hd).symm)
theorem VN (xs:List aC) (hx:xs.length≤4000000) (a:ByteArray):Ev (fun k=>pz.f k xs a) (zn xs a):=by
 unfold pz.f zn
 refine Ev.bind (Fz a) ?_
 by_cases h:a.toList=([47]:List UInt8)
 ·rw [if_pos h]
  refine aV h ?_
  refine Ev.step (pz.j0.eq_2 _ _ _ _) ?_
  exact aV rfl (dY rfl)
 ·rw [if_neg h]
  refine dn h (Ev.bind (DR xs a hx) ?_)
  refine Ev.step (pz.j0.eq_2 _ _ _ _) ?_
  by_cases hc:Lib.idxBy (lH a) xs z43 ≥ 0
  ·rw [if_pos hc];exact aV (decide_eq_true hc) (dY rfl)
  ·rw [if_neg hc]
   refine dn (by simpa using hc) ?_
   by_cases h0:(fA a).2=0
   ·rw [if_pos h0]
    have:=Wj a h0 h
    exact aV h0 (VO xs hx a h0 _ 1 (by omega) (by omega))
   ·rw [if_neg h0];exact dn h0 (dY rfl)
def Ai (xs:List aC) (a:ByteArray):Int:=if (fA a).2=0 then (if a.toList=([47]:List UInt8) then 6 else if zn xs (kP a)=0 then (if o7 xs (kP a)=true then (if Lib.idxBy (lH a) xs z43 ≥ 0 then 6 else if ((o_ xs (kP a)).length:Int) ≥ 6 then 7 else 0) else 4) else zn xs (kP a)) else (fA a).2
theorem abY (xs:List aC) (a:ByteArray) (P:Nat→Option ByteArray) (L:Nat→ByteArray→Option Int) (D:Nat→ByteArray→Option Bool) (I:Nat→Option Int) (K:Nat→ByteArray→Option (List ByteArray)) (hP:Ev P (kP a)) (hL:Ev (fun k=>L k (kP a)) (zn xs (kP a))) (hD:Ev (fun k=>D k (kP a)) (o7 xs (kP a))) (hI:Ev I (Lib.idxBy (lH a) xs z43)) (hK:Ev (fun k=>K k (kP a)) (o_ xs (kP a))) :
  Ev (fun k=>if (fA a).2=0 then (if a.toList=([47]:List UInt8) then (some (6:Int)) else ((P k).bind fun t194=>((L k t194).bind fun Wy=>(if Wy=(0:Int) then ((D k t194).bind fun t196=>(if t196=true then ((I k).bind fun acQ=>(if acQ ≥ (0:Int) then (some 6) else ((K k t194).bind fun t198=>(if ((t198:List ByteArray).length:Int) ≥ 6 then (some 7) else (some 0))))) else (some 4))) else (some Wy))))) else (some (fA a).2)) (Ai xs a):=by
 unfold Ai
 by_cases h0:(fA a).2=0
 ·rw [if_pos h0]
  refine aV h0 ?_
  by_cases h1:a.toList=([47]:List UInt8)
  ·rw [if_pos h1];exact aV h1 (dY rfl)
  ·rw [if_neg h1]
   refine dn h1 (Ev.bind hP (Ev.bind hL ?_))
   by_cases h2:zn xs (kP a)=0
   ·rw [if_pos h2]
    refine aV h2 (Ev.bind hD ?_)
    by_cases h3:o7 xs (kP a)=true
    ·rw [if_pos h3]
     refine aV h3 (Ev.bind hI ?_)
     by_cases h4:Lib.idxBy (lH a) xs z43 ≥ 0
     ·rw [if_pos h4];exact aV h4 (dY rfl)
     ·rw [if_neg h4]
      refine dn h4 (Ev.bind hK ?_)
      by_cases h5:((o_ xs (kP a)).length:Int) ≥ 6
      ·exact jT (aV h5 (dY rfl)) (if_pos h5).symm
      ·exact jT (dn h5 (dY rfl)) (if_neg h5).symm
    ·rw [if_neg h3];exact dn h3 (dY rfl)
   ·rw [if_neg h2];exact dn h2 (dY rfl)
 ·rw [if_neg h0];exact dn h0 (dY rfl)
theorem O4 (xs:List aC) (hx:xs.length≤4000000) (a:ByteArray):Ev (fun k=>xU.f k xs a) (Ai xs a):=by
 unfold xU.f
 refine Ev.bind (Fz a) ?_
 exact abY xs a (fun k=>uK.f k a) (fun k t=>pz.f k xs t) (fun k t=>xW.f k xs t) (fun k=>nR.f k xs a) (fun k t=>nS.f k xs t) (Ir a) (VN xs hx _) (OX xs _ hx) (DR xs a hx) (Fv xs hx _)
def kN (p:ByteArray) (xs:List aC):List aC:=xs.filter (fun y=>!(y.f0.toList == p.toList))
theorem OZ (p:ByteArray) (xs:List aC) (hn:xs.length≤1048577):∀ (i:Nat) (out:List aC),i≤xs.length→out.length≤i→Ev (fun k=>qo.l0 k p i xs out) (out++kN p (xs.drop i))
 | i,out,hi,ho=>by
  refine Ev.step (qo.l0.eq_2 _ _ _ _) ?_
  by_cases h:i < xs.length
  ·refine aV (by omega) (aV (by omega) ?_)
   rw [rH xs i h,lV i (by omega),drop_at xs i h]
   unfold kN
   by_cases he:xs[i].f0.toList=p.toList
   ·refine aV he (jT (OZ p xs hn (i+1) out (by omega) (by omega)) ?_)
    rw [List.filter_cons,he];simp [kN]
   ·refine dn he (aV (by omega) (jT (OZ p xs hn (i+1) (out++[xs[i]]) (by omega) (by simp;omega)) ?_))
    rw [List.filter_cons,beq_false_of_ne he];simp [kN]
  ·refine dn (by omega) (dY ?_)
   rw [List.drop_of_length_le (by omega)];simp [kN]
 termination_by i=>xs.length - i
theorem OY (p:ByteArray) (xs:List aC) (hn:xs.length≤1048577):Ev (fun k=>qo.f k xs p) (kN p xs):=by
 unfold qo.f
 exact jT (OZ p xs hn 0 [] (by omega) (by simp)) (by rw [List.drop_zero,List.nil_append])

theorem aaD (p:ByteArray) (xs:List aC) (hn:xs.length≤1048577):Dn.f xs p=some (kN p xs):=by
 unfold Dn.f Ap.f
 rw [if_pos (by omega),Option.bind_some]
 unfold FB.f
 rw [if_pos (by omega),Option.bind_some]
 rfl
theorem Np (p:ByteArray) (xs:List aC):(kN p xs).length≤xs.length:=List.length_filter_le _ _

theorem UC {α:Type} (p:α→Bool) (z:α):∀ (l:List α) (i:Nat),(Lib.idxByFrom (fun _ y=>p y) z l i = -1∧l.takeWhile (fun y=>!p y)=l∧l.dropWhile (fun y=>!p y)=[])∨(Lib.idxByFrom (fun _ y=>p y) z l i=((i+(l.takeWhile (fun y=>!p y)).length:Nat):Int))
 | [],i=>.inl ⟨rfl,rfl,rfl⟩
 | y :: r,i=>by
  cases h:p y with
  | true=>exact .inr (by simp [Lib.idxByFrom,h])
  | false =>
   have e0:Lib.idxByFrom (fun _ y=>p y) z (y :: r) i=Lib.idxByFrom (fun _ y=>p y) z r (i+1):=by simp [Lib.idxByFrom,h]
   rcases UC p z r (i+1) with ⟨e,h1,h2⟩|e
   ·exact .inl ⟨by rw [e0,e],by rw [List.takeWhile_cons];simp [h,h1],by rw [List.dropWhile_cons];simp [h,h2]⟩
   ·refine .inr ?_
    rw [e0,e,List.takeWhile_cons]
    simp [h]
    omega
theorem WG {α:Type} (q:α→Bool):∀ l:List α,l.take (l.takeWhile q).length=l.takeWhile q∧l.drop (l.takeWhile q).length=l.dropWhile q
 | []=>⟨rfl,rfl⟩
 | y :: r=>by
  rw [List.takeWhile_cons,List.dropWhile_cons]
  cases h:q y with
  | true=>simp [WG q r]
  | false=>simp

def insL (x:aC) (d:List aC):List aC:=d.takeWhile (fun y=>Op.bytesLess y.f0.toList x.f0.toList)++[x]++d.dropWhile (fun y=>Op.bytesLess y.f0.toList x.f0.toList)
def qQ (x:aC) (xs:List aC):List aC:=insL x (kN x.f0 xs)
theorem Vy (x:aC) (xs:List aC):(qQ x xs).length≤xs.length+1:=by
 have h:=Np x.f0 xs
 have e:=congrArg List.length (List.takeWhile_append_dropWhile (p:=fun y:aC=>Op.bytesLess y.f0.toList x.f0.toList) (l:=kN x.f0 xs))
 rw [List.length_append] at e
 unfold qQ insL
 simp only [List.length_append,List.length_singleton]
 omega
theorem abZ (x y:aC) (r:List aC) (h:y.f0.toList=x.f0.toList):qQ x (y :: r)=qQ x r:=by
 unfold qQ kN
 rw [List.filter_cons,h];simp
theorem ab1 (x y:aC) (r:List aC) (h:¬ y.f0.toList=x.f0.toList) (hl:Op.bytesLess x.f0.toList y.f0.toList=true):qQ x (y :: r)=x :: y :: kN x.f0 r:=by
 have h2:=MN h
 rw [hl] at h2
 unfold qQ insL kN
 rw [List.filter_cons,beq_false_of_ne h]
 simp [h2]
theorem ab2 (x y:aC) (r:List aC) (h:¬ y.f0.toList=x.f0.toList) (hl:Op.bytesLess x.f0.toList y.f0.toList=false):qQ x (y :: r)=y :: qQ x r:=by
 have h2:=MN h
 rw [hl] at h2
 unfold qQ insL kN
 rw [List.filter_cons,beq_false_of_ne h]
 simp [h2]
theorem O6 (p:ByteArray) (b:Bool) (t:ByteArray) (xs:List aC) (hn:xs.length≤1048577):∀ (i:Nat) (out:List aC),i≤xs.length→out.length≤i+1→Ev (fun k=>ji.l0 k true i xs p b t out) (out++kN p (xs.drop i))
 | i,out,hi,ho=>by
  refine Ev.step (ji.l0.eq_2 _ _ _ _ _ _ _) ?_
  by_cases h:i < xs.length
  ·refine aV (by omega) (aV rfl ?_)
   refine Ev.step (ji.j1.eq_2 _ _ _ _ _ _ _ _) ?_
   refine dn (by simp) (aV (by omega) (aV (by omega) ?_))
   rw [rH xs i h,lV i (by omega),drop_at xs i h]
   unfold kN
   by_cases he:xs[i].f0.toList=p.toList
   ·refine aV he (jT (O6 p b t xs hn (i+1) out (by omega) (by omega)) ?_)
    rw [List.filter_cons,he];simp [kN]
   ·refine dn he (aV (by omega) (jT (O6 p b t xs hn (i+1) (out++[xs[i]]) (by omega) (by simp;omega)) ?_))
    rw [List.filter_cons,beq_false_of_ne he];simp [kN]
  ·refine dn (by omega) (aV rfl (dY ?_))
   rw [List.drop_of_length_le (by omega)];simp [kN]
 termination_by i=>xs.length - i
theorem O5 (p:ByteArray) (b:Bool) (t:ByteArray) (xs:List aC) (hn:xs.length≤1048577):∀ (i:Nat) (out:List aC),i≤xs.length→out.length≤i→Ev (fun k=>ji.l0 k false i xs p b t out) (out++qQ ⟨p,b,t⟩ (xs.drop i))
 | i,out,hi,ho=>by
  refine Ev.step (ji.l0.eq_2 _ _ _ _ _ _ _) ?_
  by_cases h:i < xs.length
  ·refine aV (by omega) (dn (by simp) (aV (by omega) ?_))
   refine Ev.step (ji.j1.eq_2 _ _ _ _ _ _ _ _) ?_
   rw [rH xs i h,lV i (by omega),drop_at xs i h]
   cases hl:Op.bytesLess p.toList xs[i].f0.toList with
   | true =>
    refine aV rfl (aV (by omega) (Ev.bind (Ev.now _) (aV (by omega) (aV (by omega) ?_))))
    by_cases he:xs[i].f0.toList=p.toList
    ·rw [he,ML] at hl;cases hl
    ·refine dn he (aV (by simp;omega) (jT (O6 p b t xs hn (i+1) _ (by omega) (by simp;omega)) ?_))
     rw [ab1 ⟨p,b,t⟩ xs[i] _ he hl]
     simp
   | false =>
    refine dn (by simp) (aV (by omega) (aV (by omega) ?_))
    by_cases he:xs[i].f0.toList=p.toList
    ·refine aV he (jT (O5 p b t xs hn (i+1) out (by omega) (by omega)) ?_)
     rw [abZ ⟨p,b,t⟩ xs[i] _ he]
    ·refine dn he (aV (by omega) (jT (O5 p b t xs hn (i+1) (out++[xs[i]]) (by omega) (by simp;omega)) ?_))
     rw [ab2 ⟨p,b,t⟩ xs[i] _ he hl]
     simp
  ·refine dn (by omega) (dn (by simp) (aV (by omega) (dY ?_)))
   rw [List.drop_of_length_le (by omega)];rfl
 termination_by i=>xs.length - i
theorem VU (p:ByteArray) (b:Bool) (t:ByteArray) (xs:List aC) (hn:xs.length≤1048577):Ev (fun k=>ji.f k xs p b t) (qQ ⟨p,b,t⟩ xs):=by
 unfold ji.f
 exact jT (O5 p b t xs hn 0 [] (by omega) (by simp)) (by rw [List.drop_zero,List.nil_append])
theorem aaL (p:ByteArray) (b:Bool) (t:ByteArray) (xs:List aC) (hn:xs.length≤1048577):Dt.f xs p b t=some (qQ ⟨p,b,t⟩ xs):=by
 have hd:=Np p xs
 unfold Dt.f
 rw [aaD p xs hn,Option.bind_some]
 unfold FD.f
 rw [if_pos (by omega),Option.bind_some]
 have hi:∀ a:Int,0≤a∧a≤((kN p xs).length:Int)→Aq.f (kN p xs) a [⟨p,b,t⟩]=some ((kN p xs).take a.toNat++[⟨p,b,t⟩]++(kN p xs).drop a.toNat):=fun a ha=>by
  unfold Aq.f
  exact if_pos ⟨ha,rfl,by omega⟩
 have hq:(fun y:aC=>!(!Op.bytesLess y.f0.toList p.toList))=fun y=>Op.bytesLess y.f0.toList p.toList:=by funext y;rw [Bool.not_not]
 have hx:=UC (fun y:aC=>!Op.bytesLess y.f0.toList p.toList) z43 (kN p xs) 0
 rw [hq] at hx
 have ht:=WG (fun y:aC=>Op.bytesLess y.f0.toList p.toList) (kN p xs)
 have hle:((kN p xs).takeWhile (fun y:aC=>Op.bytesLess y.f0.toList p.toList)).length≤(kN p xs).length:=List.Sublist.length_le (List.takeWhile_sublist _)
 rcases hx with ⟨e,h1,h2⟩|e
 ·rw [if_pos (by show Lib.idxByFrom _ _ _ 0 < 0;rw [show Lib.idxByFrom (fun _ y=>Bd.p p b t y) z43 (kN p xs) 0 = -1 from e];omega),hi _ (by omega),Option.bind_some]
  unfold qQ insL
  show some ((kN p xs).take ((kN p xs).length:Int).toNat++[⟨p,b,t⟩]++(kN p xs).drop ((kN p xs).length:Int).toNat)=some ((kN p xs).takeWhile (fun y:aC=>Op.bytesLess y.f0.toList p.toList)++[⟨p,b,t⟩]++(kN p xs).dropWhile (fun y:aC=>Op.bytesLess y.f0.toList p.toList))
  rw [h1,h2,Int.toNat_natCast,List.take_length,List.drop_length]
 ·have e2:Lib.idxBy (fun _ y=>Bd.p p b t y) (kN p xs) z43=(((kN p xs).takeWhile (fun y:aC=>Op.bytesLess y.f0.toList p.toList)).length:Int):=e.trans (by rw [Nat.zero_add])
  rw [e2,if_neg (by omega),hi _ (by omega),Option.bind_some,Int.toNat_natCast,ht.1,ht.2]
  rfl

theorem UY (n:Nat) (hn:n≤1048576):∀ (i:Nat) (ys:List Int),i≤n→ys.length=n→(∀ y ∈ ys,y=0)→Ev (fun k=>qZ.l0 k n 0 ys i) (strOfNums ys)
 | i,ys,hi,hl,hz=>by
  refine Ev.step (qZ.l0.eq_2 _ _ _ _) ?_
  by_cases h:i < n
  ·refine aV (by omega) (aV (by omega) (aV (by omega) ?_))
   rw [lV i (by omega),Int.toNat_natCast]
   have e:ys.set i 0=ys:=by
    apply List.ext_getElem (by simp)
    intro j h1 h2
    rw [List.getElem_set]
    split
    ·exact (hz _ (List.getElem_mem h2)).symm
    ·rfl
   rw [e]
   exact UY n hn (i+1) ys (by omega) hl hz
  ·exact dn (by omega) (dY rfl)
 termination_by i=>n - i
theorem abj (n:Nat) (hn:n≤1048576):Ev (fun k=>qZ.f k n 0) (zb n):=by
 unfold qZ.f
 refine aV (by omega) (aV (by omega) (jT (UY n hn 0 _ (by omega) (by simp) (by simp)) ?_))
 simp [strOfNums,zb]
theorem XF (n:Nat) (hn:n≤20000):Ev (fun k=>yX.f k (n:Int)) (zb n):=by
 unfold yX.f
 exact Ev.bind (iU (zl _ _ _)) (aV (by simp;omega) (Ev.bind (abj n (by omega)) (dY rfl)))

def lay (b:ByteArray) (off:Nat) (t:ByteArray):ByteArray:=⟨(b.data.toList.take off++t.data.toList++b.data.toList.drop (off+t.size)).toArray⟩
def P8 (s:ByteArray) (off:Int) (t:ByteArray):Prop:=t.size≠0∧0≤off∧off+t.size≤128∧s.size≤128
open Classical in
noncomputable def tw (s:ByteArray) (off:Int) (t:ByteArray):ByteArray:=if P8 s off t then lay (s++zb (off - s.size).toNat) off.toNat t else s
theorem Ve (t:ByteArray):t.toList=[] ↔ t.size=0:=by
 rw [tX,← uy]
 exact ⟨fun h=>by rw [h];rfl,fun h=>List.eq_nil_of_length_eq_zero h⟩
theorem abe (b:ByteArray) (off:Nat) (t:ByteArray) (h:b.size≤off+t.size):b.extract 0 off++t=lay b off t:=by
 apply wL
 unfold lay
 have hd:b.data.toList.drop (off+t.size)=[]:=List.drop_of_length_le (by rw [uy];exact h)
 rw [zM,Ez,sJ,hd]
 simp
theorem abd (b:ByteArray) (off:Nat) (t:ByteArray):b.extract 0 off++t++b.extract (off+t.size) b.size=lay b off t:=by
 apply wL
 unfold lay
 have hd:b.data.toList.take b.size=b.data.toList:=List.take_of_length_le (by rw [uy];exact Nat.le_refl _)
 rw [zM,zM,Ez,Ez,sJ,hd]
 simp
theorem WC (b:ByteArray) (off:Int) (t:ByteArray) (h0:0≤off) (h1:off≤b.size) (h2:off+t.size≤128) (h3:b.size≤1000):Ev (fun _=>if (wrap64 (off+(t.size:Int))) > (b.size:Int) then (if 0≤off then (if off≤(b.size:Int) then ((some (b.extract 0 (off:Int).toNat:ByteArray)).bind fun y=>(if y.size+t.size≤9223372036854775807 then ((some (y++t:ByteArray)).bind fun z=>(some z)) else (none))) else (none)) else (none)) else (if 0≤off then (if off≤(b.size:Int) then ((some (b.extract 0 (off:Int).toNat:ByteArray)).bind fun y=>(if y.size+t.size≤9223372036854775807 then ((some (y++t:ByteArray)).bind fun z=>(if 0≤(wrap64 (off+(t.size:Int))) then (if (wrap64 (off+(t.size:Int)))≤(b.size:Int) then ((some (b.extract ((wrap64 (off+(t.size:Int))):Int).toNat b.size:ByteArray)).bind fun u=>(if z.size+u.size≤9223372036854775807 then ((some (z++u:ByteArray)).bind fun v=>(some v)) else (none))) else (none)) else (none))) else (none))) else (none)) else (none))) (lay b off.toNat t):=by
 rw [mO (by omega) (by omega)]
 obtain ⟨o,rfl⟩:=Int.eq_ofNat_of_zero_le h0
 have e:((o:Int)+(t.size:Int)).toNat=o+t.size:=by omega
 rw [e,Int.toNat_natCast]
 have z1:(b.extract 0 o).size≤1000:=by rw [ByteArray.size_extract];omega
 have z2:(b.extract (o+t.size) b.size).size≤1000:=by rw [ByteArray.size_extract];omega
 by_cases h:(o:Int)+(t.size:Int) > (b.size:Int)
 ·exact aV h (aV h0 (aV h1 (Ev.bind (Ev.now _) (aV (by omega) (Ev.bind (Ev.now _) (dY (abe b o t (by omega))))))))
 ·refine dn h (aV h0 (aV h1 (Ev.bind (Ev.now _) (aV (by omega) (Ev.bind (Ev.now _) (aV (by omega) (aV (by omega) (Ev.bind (Ev.now _) (aV ?_ (Ev.bind (Ev.now _) (dY (abd b o t))))))))))))
  rw [ByteArray.size_append];omega
theorem acw (s:ByteArray) (off:Int) (t:ByteArray) (hs:s.size≤4000000) (ht:t.size≤4000000) (ho:(Lit.int .i64 off).wf=true):Ev (fun k=>tC.f k s off t) (tw s off t):=by
 unfold tC.f
 rw [mO (x:=128 - (t.size:Int)) (by omega) (by omega)]
 have out:¬ P8 s off t→Ev (fun k=>tC.j0 k s off t true) (tw s off t):=by
  intro h
  unfold tw
  rw [if_neg h]
  refine Ev.step (tC.j0.eq_2 _ _ _ _) ?_
  exact aV rfl (dY rfl)
 by_cases h1:t.size=0
 ·exact aV ((Ve t).2 h1) (out (fun h=>h.1 h1))
 refine dn (fun h=>h1 ((Ve t).1 h)) ?_
 by_cases h2:off < 0
 ·exact aV h2 (out (fun h=>by have:=h.2.1;omega))
 refine dn h2 ?_
 by_cases h3:off > 128 - (t.size:Int)
 ·exact aV h3 (out (fun h=>by have:=h.2.2.1;omega))
 refine dn h3 ?_
 by_cases h4:(s.size:Int) > 128
 ·rw [decide_eq_true h4]
  exact out (fun h=>by have:=h.2.2.2;omega)
 rw [decide_eq_false h4]
 have ok:P8 s off t:=⟨h1,by omega,by omega,by omega⟩
 unfold tw
 rw [if_pos ok]
 refine Ev.step (tC.j0.eq_2 _ _ _ _) ?_
 refine dn (by simp) ?_
 by_cases h5:(s.size:Int) < off
 ·refine aV h5 ?_
  rw [mO (x:=off - (s.size:Int)) (by omega) (by omega),show off - (s.size:Int)=(((off - s.size).toNat:Nat):Int) by omega]
  refine Ev.bind (XF _ (by omega)) (aV (by rw [Ld];omega) (Ev.bind (Ev.now _) ?_))
  rw [← show off - (s.size:Int)=(((off - s.size).toNat:Nat):Int) by omega]
  have hz:(s++zb (off - (s.size:Int)).toNat).size=off.toNat:=by rw [ByteArray.size_append,Ld];omega
  exact WC _ off t (by omega) (by omega) (by omega) (by omega)
 ·refine dn h5 ?_
  have e:s++zb (off - (s.size:Int)).toNat=s:=by
   apply wL
   rw [zM,XE,show (off - (s.size:Int)).toNat=0 by omega];simp
  rw [e]
  exact WC s off t (by omega) (by omega) (by omega) (by omega)


def GI (s:ByteArray) (n:Int):ByteArray:=if 0≤n∧n≤128 then ⟨((s.data.toList++List.replicate (n - s.size).toNat 0).take n.toNat).toArray⟩ else s
theorem acv (s:ByteArray) (n:Int) (hs:s.size≤4000000):Ev (fun k=>BH.f k s n) (GI s n):=by
 unfold BH.f GI
 refine Ev.bind (iU (zl _ _ _)) ?_
 by_cases h:0≤n∧n≤128
 ·rw [if_pos h]
  refine aV (by simpa using h) ?_
  by_cases h2:n≤(s.size:Int)
  ·refine aV h2 (aV h.1 (dY (wL ?_)))
   rw [Ez,sJ,List.take_append_of_le_length (by rw [uy];omega)];simp
  ·refine dn h2 ?_
   rw [mO (by omega) (by omega),show n - (s.size:Int)=(((n - s.size).toNat:Nat):Int) by omega]
   refine Ev.bind (XF _ (by omega)) (aV (by rw [Ld];omega) (dY (wL ?_)))
   rw [zM,sJ,XE,List.take_of_length_le]
   ·congr 2
   ·simp only [List.length_append,uy,List.length_replicate];omega
 ·rw [if_neg h]
  exact dn (by simpa using h) (dY rfl)



theorem Jk (x:Int):0≤Go.bits .and .i64 x 255∧Go.bits .and .i64 x 255≤255:=by
 have h:(BitVec.ofInt IntKind.i64.bits x &&& BitVec.ofInt IntKind.i64.bits 255).toNat≤255:=by
  rw [BitVec.toNat_and]
  exact Nat.le_trans Nat.and_le_right (by decide)
 show 0≤IntKind.i64.wrap (((BitVec.ofInt IntKind.i64.bits x &&& BitVec.ofInt IntKind.i64.bits 255).toNat:Nat):Int)∧IntKind.i64.wrap (((BitVec.ofInt IntKind.i64.bits x &&& BitVec.ofInt IntKind.i64.bits 255).toNat:Nat):Int)≤255
 generalize (BitVec.ofInt IntKind.i64.bits x &&& BitVec.ofInt IntKind.i64.bits 255).toNat=m at h
 rw [IntKind.wrap_i64]
 omega
theorem Vd (xs:List Int) (hn:xs.length≤4000000):∀ (i:Nat) (h:Int),i≤xs.length→∃ r,Ev (fun k=>tH.l0 k xs h i) (xs,0,r)
 | i,h,hi=>by
  by_cases c:i < xs.length
  ·by_cases c2:(i:Int) < 4000
   ·obtain ⟨r,hr⟩:=Vd xs hn (i+1) (Go.bits .and .i64 (wrap64 ((wrap64 ((wrap64 (h * 131))+(wrap64 (rd xs i))))+7)) 1073741823) (by omega)
    refine ⟨r,?_⟩
    refine Ev.step (tH.l0.eq_2 _ _ _) ?_
    refine aV (by omega) (aV c2 (aV (by omega) ?_))
    rw [lV i (by omega)]
    exact hr
   ·refine ⟨h,?_⟩
    refine Ev.step (tH.l0.eq_2 _ _ _) ?_
    exact aV (by omega) (dn c2 (dY rfl))
  ·refine ⟨h,?_⟩
   refine Ev.step (tH.l0.eq_2 _ _ _) ?_
   exact dn (by omega) (dY rfl)
 termination_by i=>xs.length - i
theorem Vb (xs:List Int) (hn:xs.length≤4000000):∃ r,Ev (fun k=>tH.f k xs) (xs,0,r):=by
 unfold tH.f
 exact Vd xs hn 0 _ (by omega)
def mD (n i:Int):Prop:=0≤i∧i≤n
theorem SL (xs:List Int) (hn:xs.length≤4000000) (i h:Int) (hi:mD 4000000 i):∃ b i' h',uM.f xs i h=some (b,i',h')∧0≤b∧b≤255∧mD 4000000 i':=by
 unfold uM.f
 obtain ⟨h0,h1⟩:=hi
 by_cases c:i < (xs.length:Int)
 ·refine ⟨_,_,_,by rw [if_pos c,if_pos h0],(Jk _).1,(Jk _).2,?_⟩
  rw [mO (by omega) (by omega)]
  exact ⟨by omega,by omega⟩
 ·exact ⟨_,_,_,by rw [if_neg c],(Jk _).1,(Jk _).2,h0,h1⟩
theorem yx (xs:List Int) (hn:xs.length≤4000000) (i h:Int) (hi:mD 4000000 i) (n:Int) (h0:0 < n) (h1:n≤256):∃ b i' h',nG.f xs i h n=some (b,i',h')∧0≤b∧b < n∧mD 4000000 i':=by
 unfold nG.f
 obtain ⟨b,i',h',e,b0,b1,hi'⟩:=SL xs hn i h hi
 refine ⟨Int.tmod b n,i',h',?_,?_,?_,hi'⟩
 ·rw [if_neg (by omega),if_pos h1,e,Option.bind_some,if_neg (by omega)]
 ·rw [Int.tmod_eq_emod_of_nonneg b0];exact Int.emod_nonneg _ (by omega)
 ·rw [Int.tmod_eq_emod_of_nonneg b0];exact Int.emod_lt_of_pos _ h0
theorem BA (xs:List Int) (hn:xs.length≤4000000) (i h:Int) (hi:mD 4000000 i) (l:List Int) (h0:0 < l.length) (h1:l.length≤256):∃ x i' h',oM.f xs i h l=some (x,i',h')∧x ∈ l∧mD 4000000 i':=by
 unfold oM.f
 obtain ⟨b,i',h',e,b0,b1,hi'⟩:=yx xs hn i h hi (l.length:Int) (by omega) (by omega)
 obtain ⟨m,rfl⟩:=Int.eq_ofNat_of_zero_le b0
 refine ⟨l[m]'(by omega),i',h',?_,List.getElem_mem _,hi'⟩
 rw [e,Option.bind_some,if_pos b0,if_pos b1,ab6 l m (by omega)]


theorem WH (xs:List Int) (hn:xs.length≤4000000) (n:Nat) (hb:n≤5000):∀ (j:Nat) (o:List Int) (i h:Int),j≤n→o.length=j→mD 4000000 i→∃ t i' h',Ev (fun k=>qR.l0 k n o j xs i h) (t,i',h')∧t.size=n∧mD 4000000 i'
 | j,o,i,h,hj,ho,hi=>by
  by_cases c:j < n
  ·obtain ⟨b,i1,h1,e,b0,b1,hi1⟩:=SL xs hn i h hi
   obtain ⟨t,i2,h2,e2,t2,hi2⟩:=WH xs hn n hb (j+1) (o++[b % 256]) i1 h1 (by omega) (by simp [ho]) hi1
   refine ⟨t,i2,h2,?_,t2,hi2⟩
   refine Ev.step (qR.l0.eq_2 _ _ _ _ _ _) ?_
   refine aV (by omega) (Ev.bind (iU e) (aV (by omega) ?_))
   rw [lV j (by omega)]
   exact e2
  ·refine ⟨strOfNums o,i,h,?_,by rw [strOfNums_size];omega,hi⟩
   refine Ev.step (qR.l0.eq_2 _ _ _ _ _ _) ?_
   exact dn (by omega) (dY rfl)
 termination_by j=>n - j
theorem acS (xs:List Int) (hn:xs.length≤4000000) (i h:Int) (hi:mD 4000000 i) (n:Int) (h0:0≤n) (h1:n≤5000):∃ t i' h',Ev (fun k=>qR.f k xs i h n) (t,i',h')∧t.size=n.toNat∧mD 4000000 i':=by
 obtain ⟨m,rfl⟩:=Int.eq_ofNat_of_zero_le h0
 obtain ⟨t,i2,h2,e2,t2,hi2⟩:=WH xs hn m (by omega) 0 [] i h (by omega) rfl hi
 refine ⟨t,i2,h2,?_,by omega,hi2⟩
 unfold qR.f
 refine dn (by omega) ?_
 refine Ev.step (qR.j0.eq_2 _ _ _ _) ?_
 exact e2

theorem J7 (xs:List Int) (hn:xs.length≤4000000) (i h:Int) (hi:mD 4000000 i) (n:Int) (h0:0 < n) (h1:n≤256):∃ x i' h',wE.f xs i h n=some (x,i',h')∧mD 4000000 i':=by
 unfold wE.f
 obtain ⟨b,i',h',e,b0,b1,hi'⟩:=yx xs hn i h hi n h0 h1
 exact ⟨_,i',h',by rw [e,Option.bind_some],hi'⟩
theorem UZ (n:Nat) (hn:n≤1048576) (x:Int):∀ (i:Nat) (ys:List Int),i≤n→ys.length=n→∃ t,Ev (fun k=>qZ.l0 k n x ys i) t∧t.size=n
 | i,ys,hi,hl=>by
  by_cases h:i < n
  ·obtain ⟨t,e,z⟩:=UZ n hn x (i+1) (ys.set i x) (by omega) (by simp [hl])
   refine ⟨t,?_,z⟩
   refine Ev.step (qZ.l0.eq_2 _ _ _ _) ?_
   refine aV (by omega) (aV (by omega) (aV (by omega) ?_))
   rw [lV i (by omega),Int.toNat_natCast]
   exact e
  ·refine ⟨strOfNums ys,?_,by rw [strOfNums_size,hl]⟩
   refine Ev.step (qZ.l0.eq_2 _ _ _ _) ?_
   exact dn (by omega) (dY rfl)
 termination_by i=>n - i
theorem abk (n:Int) (h0:0≤n) (h1:n≤1048576) (x:Int):∃ t,Ev (fun k=>qZ.f k n x) t∧t.size=n.toNat:=by
 obtain ⟨m,rfl⟩:=Int.eq_ofNat_of_zero_le h0
 obtain ⟨t,e,z⟩:=UZ m (by omega) x 0 (List.replicate m 0) (by omega) (by simp)
 refine ⟨t,?_,by rw [z,Int.toNat_natCast]⟩
 unfold qZ.f
 refine aV (by omega) (aV (by omega) ?_)
 rw [Int.toNat_natCast]
 exact e
def Jm (off len:Int) (t:ByteArray):Prop:=(-1≤off∧off≤9223372036854775807)∧(-1≤len∧len≤9223372036854775807)∧t.size≤1000
theorem same_eq (xs:List aC) (hn:xs.length≤4000000):pY.f xs=some xs:=by
 unfold pY.f
 rw [Option.bind_some,if_pos (by simp;omega),List.nil_append]
theorem Vz {n s:Nat} {xs:List aC} (h:vB n s xs) (p:ByteArray) (b:Bool) (t:ByteArray) (hp:p.size≤s) (ht:t.size≤s):vB (n+1) s (qQ ⟨p,b,t⟩ xs):=by
 have hl:=Vy ⟨p,b,t⟩ xs
 refine ⟨by have:=h.1;omega,fun y hy=>?_⟩
 unfold qQ insL at hy
 simp only [List.mem_append,List.mem_singleton] at hy
 have hd:∀ z ∈ kN p xs,z.f0.size≤s∧z.f2.size≤s:=fun z hz=>h.2 z (List.mem_filter.1 hz).1
 rcases hy with (hy|rfl)|hy
 ·exact hd y ((List.takeWhile_sublist _).subset hy)
 ·exact ⟨hp,ht⟩
 ·exact hd y ((List.dropWhile_sublist _).subset hy)
theorem Nq {n s:Nat} {xs:List aC} (h:vB n s xs) (p:ByteArray):vB n s (kN p xs) :=
 ⟨by have:=h.1;have:=Np p xs;omega,fun z hz=>h.2 z (List.mem_filter.1 hz).1⟩
theorem acz {n s:Nat} {xs:List aC} (h:vB n s xs) (i:Nat) (hi:i < xs.length) (t:ByteArray) (ht:t.size≤s):vB n s (xs.set i ⟨xs[i].f0,xs[i].f1,t⟩):=by
 refine ⟨by rw [List.length_set];exact h.1,fun y hy=>?_⟩
 rcases List.mem_or_eq_of_mem_set hy with hy|rfl
 ·exact h.2 y hy
 ·exact ⟨(h.2 _ (List.getElem_mem hi)).1,ht⟩
theorem acT (s:ByteArray) (off:Int) (t:ByteArray):(tw s off t).size≤s.size+1000:=by
 unfold tw
 split
 ·rename_i h
  obtain ⟨_,h0,h1,h2⟩:=h
  unfold lay
  rw [EC]
  simp only [List.length_append,List.length_take,List.length_drop,uy,ByteArray.size_append,Ld]
  omega
 ·omega
theorem Zd (s:ByteArray) (n:Int):(GI s n).size≤s.size+1000:=by
 unfold GI
 split
 ·rename_i h
  rw [EC]
  simp only [List.length_take,List.length_append,uy,List.length_replicate]
  omega
 ·omega
theorem Ur (p:ByteArray) (xs:List aC) (h:Lib.idxBy (lH p) xs z43 ≥ 0):∃ i:Nat,i < xs.length∧Lib.idxBy (lH p) xs z43=i:=by
 obtain ⟨m,e⟩:=Int.eq_ofNat_of_zero_le h
 have:=(JQ (lH p) z43 xs (by omega)).2
 exact ⟨m,by omega,e⟩
theorem WI (t p ins q:Int) (n s:Nat) (xs:List aC) (h:vB n s xs) (hn:n≤1000000) (hs:s≤1000000) (i:Nat) (hi:i < xs.length) (u:ByteArray) (hu:u.size≤s):∃ ys c,Ev (fun k=>xu.f k t p ins q xs (i:Int) u) (ys,c)∧vB n s ys:=by
 have hx:=h.1
 have hb:=acz h i hi u hu
 unfold xu.f
 have e:=VT (xs.set i ⟨xs[i].f0,xs[i].f1,u⟩) (by rw [List.length_set];omega) (fun y hy=>by have:=hb.2 y hy;omega)
 by_cases c:oG (xs.set i ⟨xs[i].f0,xs[i].f1,u⟩) 0 > q
 ·refine ⟨xs,13,aV (by omega) (aV (by omega) (Ev.bind (iU (same_eq xs (by omega))) (aV (by omega) (Ev.bind (dY rfl) ?_)))),h⟩
  rw [rH xs i hi,Int.toNat_natCast]
  exact Ev.bind e (aV c (Ev.bind (iU (same_eq xs (by omega))) (dY rfl)))
 ·refine ⟨xs.set i ⟨xs[i].f0,xs[i].f1,u⟩,0,aV (by omega) (aV (by omega) (Ev.bind (iU (same_eq xs (by omega))) (aV (by omega) (Ev.bind (dY rfl) ?_)))),hb⟩
  rw [rH xs i hi,Int.toNat_natCast]
  exact Ev.bind e (dn c (dY rfl))
def pR (g:Nat→Option (List aC × Int × ByteArray × Int × Bool × List ByteArray)) (n s:Nat):Prop:=∃ r,Ev g r∧vB n s r.1
theorem a_pos {c:Prop} [Decidable c] {f g:Nat→Option (List aC × Int × ByteArray × Int × Bool × List ByteArray)} {n s:Nat} (h:c) (e:pR f n s):pR (fun k=>if c then f k else g k) n s:=by
 obtain ⟨r,e,b⟩:=e
 exact ⟨r,aV h e,b⟩
theorem a_neg {c:Prop} [Decidable c] {f g:Nat→Option (List aC × Int × ByteArray × Int × Bool × List ByteArray)} {n s:Nat} (h:¬ c) (e:pR g n s):pR (fun k=>if c then f k else g k) n s:=by
 obtain ⟨r,e,b⟩:=e
 exact ⟨r,dn h e,b⟩
theorem n_ {β:Type} {g:Nat→Option β} {y:β} {f:Nat→β→Option (List aC × Int × ByteArray × Int × Bool × List ByteArray)} {n s:Nat} (h:Ev g y) (e:pR (fun k=>f k y) n s):pR (fun k=>(g k).bind (f k)) n s:=by
 obtain ⟨r,e,b⟩:=e
 exact ⟨r,Ev.bind h e,b⟩
theorem xJ {n s:Nat} {r:List aC × Int × ByteArray × Int × Bool × List ByteArray} (h:vB n s r.1):pR (fun _=>some r) n s:=⟨r,dY rfl,h⟩
theorem CU {f g:Nat→Option (List aC × Int × ByteArray × Int × Bool × List ByteArray)} {n s:Nat} (h:∀ k,f (k+1)=g k) (e:pR g n s):pR f n s:=by
 obtain ⟨r,e,b⟩:=e
 exact ⟨r,Ev.step h e,b⟩
theorem QV {f:Nat→Option (List aC × Int × ByteArray × Int × Bool × List ByteArray)} {n s m z:Nat} (e:pR f n s) (h1:n≤m) (h2:s≤z):pR f m z:=by
 obtain ⟨r,e,b⟩:=e
 exact ⟨r,e,zB b h1 h2⟩
theorem MC {g:Nat→Option (List aC × Int × ByteArray × Int × Bool × List ByteArray)} {n s:Nat} (e:pR g n s):pR (fun k=>(g k).bind fun b=>some (b.1,b.2.1,b.2.2.1,b.2.2.2.1,b.2.2.2.2.1,b.2.2.2.2.2)) n s:=by
 obtain ⟨r,e,b⟩:=e
 exact ⟨_,Ev.bind e (dY rfl),b⟩
theorem uH (ys:List aC) (c:Int) {n s:Nat} (h:vB n s ys):pR (fun _=>(lU.f c).bind fun b=>some (ys,b.1,b.2.1,b.2.2.1,b.2.2.2.1,b.2.2.2.2)) n s:=by
 unfold lU.f
 exact n_ (dY rfl) (xJ h)
theorem ada {x:Int} (h0:-9223372036854775808≤x) (h1:x≤9223372036854775807):(Lit.int .i64 x).wf=true:=by
 simp only [Lit.wf,Bool.and_eq_true,decide_eq_true_eq]
 exact ⟨h0,h1⟩
theorem Y6 (x:Int) (n:Nat):∃ b:Int,Ev (fun k=>u_.f k x 0 (n:Int)) b∧0≤b∧b≤n:=by
 unfold u_.f
 by_cases h:x < 0
 ·refine ⟨0,dn (by omega) ?_,by omega,by omega⟩
  refine Ev.step (u_.j0.eq_2 _ _ _ _) ?_
  exact aV (by simpa using h) (dY rfl)
 ·by_cases h2:x > (n:Int)
  ·refine ⟨n,dn (by omega) ?_,by omega,by omega⟩
   refine Ev.step (u_.j0.eq_2 _ _ _ _) ?_
   exact dn (by simpa using h) (aV h2 (dY rfl))
  ·refine ⟨x,dn (by omega) ?_,by omega,by omega⟩
   refine Ev.step (u_.j0.eq_2 _ _ _ _) ?_
   exact dn (by simpa using h) (dn h2 (dY rfl))
theorem Zr (t p ins q:Int) (n s:Nat) (xs:List aC) (h:vB n s xs) (hn:n≤100000) (hs:s≤100000) (i:Nat) (hi:i < xs.length) (kd:Int) (pa bJ:ByteArray) (off len:Int) (tx:ByteArray) (hk:Jm off len tx):pR (fun k=>lq.f k t p ins q xs (i:Int) kd pa bJ off len tx) n (s+1000):=by
 have hx:=h.1
 have hm:=(h.2 _ (List.getElem_mem hi)).2
 have hB:=zB (m:=n) (z:=s+1000) h (Nat.le_refl _) (by omega)
 have es:=same_eq xs (by omega)
 obtain ⟨⟨o0,o1⟩,⟨l0,l1⟩,ht⟩:=hk
 unfold lq.f
 refine a_pos (by omega) (a_pos (by omega) ?_)
 rw [rH xs i hi]
 by_cases k6:kd=6
 ·refine a_pos k6 ?_
  have j0:∀ z:Bool,(z=false→0≤len)→pR (fun k=>lq.j0 k xs[i].f2 z xs kd pa bJ off len tx) n (s+1000):=by
   intro z hz
   refine CU (lq.j0.eq_2 _ _ _ _ _ _ _ _ _) ?_
   by_cases c:z=true
   ·exact a_pos c (n_ (iU es) (uH xs 12 hB))
   ·have hz:=hz (by simpa using c)
    obtain ⟨b,eb,b0,b1⟩:=Y6 off xs[i].f2.size
    refine a_neg c (n_ eb ?_)
    by_cases c2:len < wrap64 ((xs[i].f2.size:Int) - b)
    ·have e1:=mO (x:=(xs[i].f2.size:Int) - b) (by omega) (by omega)
     rw [e1] at c2
     have e2:=mO (x:=b+len) (by omega) (by omega)
     rw [e1,e2]
     exact a_pos c2 (n_ (iU es) (a_pos b0 (a_pos (by omega) (a_pos (by omega) (xJ hB)))))
    ·exact a_neg c2 (n_ (iU es) (a_pos b0 (a_pos b1 (a_pos (by omega) (xJ hB)))))
  by_cases c:off < 0
  ·exact a_pos c (j0 true (by simp))
  ·exact a_neg c (j0 _ (by simp))
 refine a_neg k6 ?_
 by_cases k7:kd=7
 ·refine a_pos k7 ?_
  have j1:∀ z:Bool,pR (fun k=>lq.j1 k (i:Int) xs[i].f2 z t p ins q xs kd pa bJ off len tx) n (s+1000):=by
   intro z
   refine CU (lq.j1.eq_2 _ _ _ _ _ _ _ _ _ _ _ _ _ _) ?_
   by_cases c:z=true
   ·exact a_pos c (n_ (iU es) (uH xs 12 hB))
   ·obtain ⟨ys,cd,e,b⟩:=WI t p ins q n (s+1000) xs hB (by omega) (by omega) i hi (tw xs[i].f2 off tx) (by have:=acT xs[i].f2 off tx;omega)
    refine a_neg c (n_ (acw _ _ _ (by omega) (by omega) (ada (by omega) o1)) (n_ e ?_))
    by_cases c0:cd=0
    ·exact a_pos c0 (xJ b)
    ·exact a_neg c0 (uH ys cd b)
  by_cases c:off < 0
  ·exact a_pos c (j1 true)
  ·exact a_neg c (j1 _)
 refine a_neg k7 (n_ (iU (zl _ _ _)) ?_)
 by_cases c:decide ((0:Int)≤len∧len≤128)=true
 ·obtain ⟨ys,cd,e,b⟩:=WI t p ins q n (s+1000) xs hB (by omega) (by omega) i hi (GI xs[i].f2 len) (by have:=Zd xs[i].f2 len;omega)
  exact a_pos c (n_ (acv _ _ (by omega)) (n_ e (uH ys cd b)))
 ·exact a_neg c (n_ (iU es) (uH xs 12 hB))
theorem ab_ (n s:Nat) (xs:List aC) (h:vB n s xs) (hn:n≤100000) (hs:s≤100000) (kd:Int) (pa bJ:ByteArray) (off len:Int) (tx:ByteArray) (hu:bJ.size≤1000):pR (fun k=>oI.f k xs kd pa bJ off len tx) n (s+1000):=by
 have hx:=h.1
 have hB:=zB (m:=n) (z:=s+1000) h (Nat.le_refl _) (by omega)
 have es:=same_eq xs (by omega)
 have j0:∀ (c:Int) (z:Bool),pR (fun k=>oI.j0 k c z xs kd pa bJ off len tx xs) n (s+1000):=by
  intro c z
  refine CU (oI.j0.eq_2 _ _ _ _ _ _ _ _ _ _) ?_
  by_cases hz:z=true
  ·exact a_pos hz (uH xs c hB)
  ·have hl:=U4 pa bJ s xs [] h.2 (by simp)
   refine a_neg hz (n_ (VP pa bJ xs (by omega) (by omega) (fun y hy=>by have:=h.2 y hy;omega)) (xJ ⟨?_,fun y hy=>?_⟩))
   ·show (kX pa bJ xs []).length≤n
    rw [hl.1];simp;omega
   ·have:=hl.2 y hy;omega
 unfold oI.f
 refine n_ (iU es) ?_
 by_cases c1:pa.toList=([47]:List UInt8)
 ·exact a_pos c1 (uH xs 9 hB)
 refine a_neg c1 (n_ (O8 _ _) ?_)
 by_cases c2:uO bJ pa=true
 ·exact a_pos c2 (uH xs 11 hB)
 refine a_neg c2 (n_ (O4 xs (by omega) bJ) ?_)
 by_cases c3:Ai xs bJ=0
 ·exact a_pos c3 (j0 _ _)
 refine a_neg c3 ?_
 by_cases c4:Ai xs bJ=7
 ·exact a_pos c4 (n_ (Ir _) (n_ (Ir _) (j0 _ _)))
 ·exact a_neg c4 (j0 _ _)
theorem abA (t p ins q:Int) (n s:Nat) (xs:List aC) (h:vB n s xs) (hn:n≤100000) (kd:Int) (pa bJ:ByteArray) (off len:Int) (tx:ByteArray) (hu:pa.size≤s):pR (fun k=>qU.f k t p ins q xs kd pa bJ off len tx) (n+1) s:=by
 have hx:=h.1
 have hB:=zB (m:=n+1) (z:=s) h (by omega) (Nat.le_refl _)
 have j1:∀ c:Int,pR (fun k=>qU.j1 k c xs kd pa bJ off len tx) (n+1) s:=by
  intro c
  refine CU (qU.j1.eq_2 _ _ _ _ _ _ _ _) ?_
  by_cases hc:c=0
  ·exact a_pos hc (n_ (VU _ _ _ xs (by omega)) (xJ (Vz h _ _ _ hu (Nat.zero_le _))))
  ·exact a_neg hc (n_ (iU (same_eq xs (by omega))) (uH xs c hB))
 have j0:∀ (c:Int) (z:Bool),pR (fun k=>qU.j0 k c z xs kd pa bJ off len tx) (n+1) s:=by
  intro c z
  refine CU (qU.j0.eq_2 _ _ _ _ _ _ _ _ _) ?_
  by_cases hz:z=true
  ·exact a_pos hz (j1 8)
  ·exact a_neg hz (j1 c)
 unfold qU.f
 refine n_ (O4 xs (by omega) pa) ?_
 by_cases c3:Ai xs pa=0
 ·exact a_pos c3 (j0 _ _)
 ·exact a_neg c3 (j0 _ _)
theorem UW (xs:List aC) (ps:List ByteArray):∀ f i:Nat,DL xs ps f i≠0
 | 0,i=>by simp [DL]
 | f+1,i=>by
  have ih:=UW xs ps f (i+1)
  unfold DL
  repeat' split
  all_goals first|exact ih|decide
theorem abg (xs:List aC) (a:ByteArray) (h:zn xs a=0):a.toList=([47]:List UInt8)∨Lib.idxBy (lH a) xs z43 ≥ 0:=by
 unfold zn at h
 by_cases c1:a.toList=([47]:List UInt8)
 ·exact .inl c1
 rw [if_neg c1] at h
 by_cases c2:Lib.idxBy (lH a) xs z43 ≥ 0
 ·exact .inr c2
 rw [if_neg c2] at h
 by_cases c3:(fA a).2=0
 ·rw [if_pos c3] at h;exact absurd h (UW _ _ _ _)
 ·rw [if_neg c3] at h;exact absurd h c3
theorem YD (t p ins q:Int) (n s:Nat) (xs:List aC) (h:vB n s xs) (hn:n≤100000) (hs:s≤100000) (kd:Int) (pa bJ:ByteArray) (off len:Int) (tx:ByteArray) (hk:Jm off len tx) (hp:pa.size≤1000) (hu:bJ.size≤1000):pR (fun k=>nO.f k t p ins q xs kd pa bJ off len tx) (n+1) (s+1000):=by
 have hx:=h.1
 have hB:=zB (m:=n+1) (z:=s+1000) h (by omega) (by omega)
 have hB2:=zB (m:=n) (z:=s+1000) h (by omega) (by omega)
 have es:=same_eq xs (by omega)
 have j1:∀ z:Bool,(o7 xs pa=false→0≤Lib.idxBy (lH pa) xs z43)→pR (fun k=>nO.j1 k (o7 xs pa) (Lib.idxBy (lH pa) xs z43) kd z t p ins q xs kd pa bJ off len tx xs) (n+1) (s+1000):=by
  intro z hd
  refine CU (nO.j1.eq_2 _ _ _ _ _ _ _ _ _ _ _ _ _ _ _ _) ?_
  by_cases hz:z=true
  ·refine a_pos hz ?_
   by_cases c:o7 xs pa=true
   ·exact a_pos c (uH xs 5 hB)
   ·obtain ⟨i,hi,ei⟩:=Ur pa xs (hd (by simpa using c))
    rw [ei]
    exact a_neg c (MC (QV (Zr t p ins q n s xs h (by omega) (by omega) i hi kd pa bJ off len tx hk) (by omega) (by omega)))
  refine a_neg hz ?_
  by_cases k9:kd=9
  ·refine a_pos k9 ?_
   by_cases c:o7 xs pa=true
   ·exact a_pos c (xJ hB)
   ·obtain ⟨i,hi,ei⟩:=Ur pa xs (hd (by simpa using c))
    rw [ei]
    exact a_neg c (a_pos (by omega) (a_pos (by omega) (xJ hB)))
  refine a_neg k9 ?_
  by_cases k10:kd=10
  ·refine a_pos k10 ?_
   by_cases c:o7 xs pa=true
   ·exact a_pos c (n_ (Fv xs (by omega) pa) (xJ hB))
   ·exact a_neg c (uH xs 4 hB)
  ·exact a_neg k10 (xJ hB)
 have j0:∀ z:Bool,pR (fun k=>nO.j0 k z t p ins q xs kd pa bJ off len tx xs) (n+1) (s+1000):=by
  intro z
  refine CU (nO.j0.eq_2 _ _ _ _ _ _ _ _ _ _ _ _ _) ?_
  by_cases hz:z=true
  ·exact a_pos hz (MC (abA t p ins q n (s+1000) xs hB2 hn kd pa bJ off len tx (by omega)))
  refine a_neg hz (n_ (VN xs (by omega) pa) ?_)
  by_cases c0:zn xs pa=0
  ·have hd:o7 xs pa=false→0≤Lib.idxBy (lH pa) xs z43:=by
    intro hf
    rcases abg xs pa c0 with hr|hi
    ·unfold o7 at hf
     rw [if_pos hr] at hf
     simp at hf
    ·exact hi
   refine a_pos c0 (n_ (OX xs pa (by omega)) (n_ (DR xs pa (by omega)) ?_))
   by_cases k3:kd=3
   ·refine a_pos k3 ?_
    by_cases c:o7 xs pa=true
    ·exact a_pos c (uH xs 5 hB)
    ·exact a_neg c (n_ (OY pa xs (by omega)) (xJ (Nq hB pa)))
   refine a_neg k3 ?_
   by_cases k4:kd=4
   ·refine a_pos k4 ?_
    by_cases c1:pa.toList=([47]:List UInt8)
    ·exact a_pos c1 (uH xs 9 hB)
    refine a_neg c1 ?_
    by_cases c:o7 xs pa=true
    ·refine a_pos c (n_ (Fv xs (by omega) pa) ?_)
     by_cases c2:((o_ xs pa).length:Int) > 0
     ·exact a_pos c2 (uH xs 10 hB)
     ·exact a_neg c2 (n_ (OY pa xs (by omega)) (xJ (Nq hB pa)))
    ·exact a_neg c (uH xs 4 hB)
   refine a_neg k4 ?_
   by_cases k5:kd=5
   ·exact a_pos k5 (MC (QV (ab_ n s xs h (by omega) (by omega) kd pa bJ off len tx hu) (by omega) (by omega)))
   refine a_neg k5 ?_
   by_cases k6:kd=6
   ·exact a_pos k6 (j1 _ hd)
   refine a_neg k6 ?_
   by_cases k7:kd=7
   ·exact a_pos k7 (j1 _ hd)
   ·exact a_neg k7 (j1 _ hd)
  ·exact a_neg c0 (uH xs _ hB)
 unfold nO.f
 refine n_ (iU es) ?_
 unfold FI.f
 have hask:∃ b:Bool,(mZ.f kd 1 11).bind (fun t=>if t=true then some (decide ((tx.size:Int)≤200)) else some false)=some b:=by
  rw [zl,Option.bind_some]
  split
  ·exact ⟨_,rfl⟩
  ·exact ⟨_,rfl⟩
 obtain ⟨b,eb⟩:=hask
 refine n_ (iU eb) ?_
 by_cases hb:b=true
 ·refine a_pos hb ?_
  by_cases k1:kd=1
  ·exact a_pos k1 (j0 _)
  ·exact a_neg k1 (j0 _)
 ·exact a_neg hb (uH xs 16 hB)

theorem Vw (xs:List Int) (hn:xs.length≤4000000) (i h:Int) (hi:mD 4000000 i) (l:List ByteArray) (h0:0 < l.length) (h1:l.length≤256):∃ x i' h',yY.f xs i h l=some (x,i',h')∧x ∈ l∧mD 4000000 i':=by
 unfold yY.f
 obtain ⟨b,i',h',e,b0,b1,hi'⟩:=yx xs hn i h hi (l.length:Int) (by omega) (by omega)
 obtain ⟨m,rfl⟩:=Int.eq_ofNat_of_zero_le b0
 refine ⟨l[m]'(by omega),i',h',?_,List.getElem_mem _,hi'⟩
 rw [e,Option.bind_some,if_pos b0,if_pos b1,Ak _ l m (by omega)]
theorem YA (l:List ByteArray) (h:l.all (fun x=>decide (x.size≤100))=true) {x:ByteArray} (hx:x ∈ l):x.size≤100:=by
 have:=List.all_eq_true.1 h x hx
 simpa using this
theorem Vu (xs:List Int) (hn:xs.length≤4000000) (i h:Int) (hi:mD 4000000 i) (l:List ByteArray) (h0:0 < l.length) (h1:l.length≤256) (ha:l.all (fun x=>decide (x.size≤100))=true):∃ x i' h',((yY.f xs i h l).bind fun b=>some (b.1,b.2.1,b.2.2))=some (x,i',h')∧x.size≤100∧mD 4000000 i':=by
 obtain ⟨x,i',h',e,m,hi'⟩:=Vw xs hn i h hi l h0 h1
 exact ⟨x,i',h',by rw [e,Option.bind_some],YA l ha m,hi'⟩
theorem J9 (xs:List Int) (hn:xs.length≤4000000) (i h:Int) (hi:mD 4000000 i):∃ x i' h',rY.f xs i h=some (x,i',h')∧x.size≤100∧mD 4000000 i':=by
 unfold rY.f
 exact Vu xs hn i h hi _ (by decide) (by decide) (by decide)
theorem Q5 (xs:List Int) (hn:xs.length≤4000000) (i h:Int) (hi:mD 4000000 i):∃ x i' h',Au.f xs i h=some (x,i',h')∧x.size≤100∧mD 4000000 i':=by
 unfold Au.f
 obtain ⟨b,i1,h1,e,hi1⟩:=J7 xs hn i h hi 5 (by omega) (by omega)
 rw [e,Option.bind_some]
 cases b with
 | true =>
  rw [if_pos rfl]
  exact Vu xs hn i1 h1 hi1 _ (by decide) (by decide) (by decide)
 | false =>
  obtain ⟨x,i',h',e,hs,hi'⟩:=J9 xs hn i1 h1 hi1
  exact ⟨x,i',h',by rw [if_neg (by simp),e,Option.bind_some],hs,hi'⟩
theorem Q8 (xs:List Int) (hn:xs.length≤4000000) (i h:Int) (hi:mD 4000000 i) (kd:Int) (p:ByteArray) (hp:p.size≤100):∃ kd' p' bJ off len t i' h',Ev (fun k=>tJ.j0 k xs i h kd p (⟨#[]⟩:ByteArray) 0 0 (⟨#[]⟩:ByteArray)) (kd',p',bJ,off,len,t,i',h')∧Jm off len t∧p'.size≤100∧bJ.size≤100∧mD 4000000 i':=by
 have z0:(⟨#[]⟩:ByteArray).size≤1000:=Nat.zero_le _
 have z1:(⟨#[]⟩:ByteArray).size≤100:=Nat.zero_le _
 by_cases k5:kd=5
 ·obtain ⟨x,i',h',e,hs,hi'⟩:=J9 xs hn i h hi
  refine ⟨kd,p,x,0,0,⟨#[]⟩,i',h',?_,⟨⟨by omega,by omega⟩,⟨by omega,by omega⟩,z0⟩,hp,hs,hi'⟩
  refine Ev.step (tJ.j0.eq_2 _ _ _ _ _ _ _ _ _) ?_
  exact aV k5 (Ev.bind (iU e) (dY rfl))
 by_cases k6:kd=6
 ·obtain ⟨x,i1,h1,e1,m1,hi1⟩:=BA xs hn i h hi [0,1,5,32,100,200] (by decide) (by decide)
  obtain ⟨y,i2,h2,e2,m2,hi2⟩:=BA xs hn i1 h1 hi1 [0,1,10,40,128,1000] (by decide) (by decide)
  simp only [List.mem_cons,List.not_mem_nil,or_false] at m1 m2
  refine ⟨kd,p,⟨#[]⟩,x,y,⟨#[]⟩,i2,h2,?_,⟨⟨by omega,by omega⟩,⟨by omega,by omega⟩,z0⟩,hp,z1,hi2⟩
  refine Ev.step (tJ.j0.eq_2 _ _ _ _ _ _ _ _ _) ?_
  exact dn k5 (aV k6 (Ev.bind (iU e1) (Ev.bind (iU e2) (dY rfl))))
 by_cases k7:kd=7
 ·obtain ⟨x,i1,h1,e1,m1,hi1⟩:=BA xs hn i h hi [0,0,0,1,5,30,32,33,64,100] (by decide) (by decide)
  obtain ⟨y,i2,h2,e2,m2,hi2⟩:=BA xs hn i1 h1 hi1 [0,1,2,5,20,32,40] (by decide) (by decide)
  simp only [List.mem_cons,List.not_mem_nil,or_false] at m1 m2
  obtain ⟨t,i3,h3,e3,z3,hi3⟩:=acS xs hn i2 h2 hi2 y (by omega) (by omega)
  refine ⟨kd,p,⟨#[]⟩,x,0,t,i3,h3,?_,⟨⟨by omega,by omega⟩,⟨by omega,by omega⟩,by omega⟩,hp,z1,hi3⟩
  refine Ev.step (tJ.j0.eq_2 _ _ _ _ _ _ _ _ _) ?_
  exact dn k5 (dn k6 (aV k7 (Ev.bind (iU e1) (Ev.bind (iU e2) (Ev.bind e3 (dY rfl))))))
 by_cases k8:kd=8
 ·obtain ⟨x,i1,h1,e1,m1,hi1⟩:=BA xs hn i h hi [0,1,5,31,32,33,64,70,128,129] (by decide) (by decide)
  simp only [List.mem_cons,List.not_mem_nil,or_false] at m1
  refine ⟨kd,p,⟨#[]⟩,0,x,⟨#[]⟩,i1,h1,?_,⟨⟨by omega,by omega⟩,⟨by omega,by omega⟩,z0⟩,hp,z1,hi1⟩
  refine Ev.step (tJ.j0.eq_2 _ _ _ _ _ _ _ _ _) ?_
  exact dn k5 (dn k6 (dn k7 (aV k8 (Ev.bind (iU e1) (dY rfl)))))
 ·refine ⟨kd,p,⟨#[]⟩,0,0,⟨#[]⟩,i,h,?_,⟨⟨by omega,by omega⟩,⟨by omega,by omega⟩,z0⟩,hp,z1,hi⟩
  refine Ev.step (tJ.j0.eq_2 _ _ _ _ _ _ _ _ _) ?_
  exact dn k5 (dn k6 (dn k7 (dn k8 (dY rfl))))
theorem YC (xs:List Int) (hn:xs.length≤4000000) (i h:Int) (hi:mD 4000000 i):∃ kd p bJ off len t i' h',Ev (fun k=>tJ.f k xs i h) (kd,p,bJ,off,len,t,i',h')∧Jm off len t∧p.size≤100∧bJ.size≤100∧mD 4000000 i':=by
 unfold tJ.f
 obtain ⟨kd,i1,h1,e1,m1,hi1⟩:=BA xs hn i h hi [1,1,1,2,2,3,4,5,5,6,7,7,7,7,7,8,8,9,10,11] (by decide) (by decide)
 obtain ⟨p,i2,h2,e2,s2,hi2⟩:=J9 xs hn i1 h1 hi1
 obtain ⟨b,i3,h3,e3,hi3⟩:=J7 xs hn i2 h2 hi2 12 (by omega) (by omega)
 cases b with
 | true =>
  obtain ⟨q,i4,h4,e4,s4,hi4⟩:=Q5 xs hn i3 h3 hi3
  obtain ⟨kd',p',bJ,off,len,t,i',h',e5,ok,hi'⟩:=Q8 xs hn i4 h4 hi4 kd q s4
  exact ⟨_,_,_,_,_,_,_,_,Ev.bind (iU e1) (Ev.bind (iU e2) (Ev.bind (iU e3) (aV rfl (Ev.bind (iU e4) e5)))),ok,hi'⟩
 | false =>
  obtain ⟨kd',p',bJ,off,len,t,i',h',e5,ok,hi'⟩:=Q8 xs hn i3 h3 hi3 kd p s2
  exact ⟨_,_,_,_,_,_,_,_,Ev.bind (iU e1) (Ev.bind (iU e2) (Ev.bind (iU e3) (dn (by simp) e5))),ok,hi'⟩
theorem NG (xs:List Int) (hn:xs.length≤4000000) (i h:Int) (hi:mD 4000000 i):∃ t p ins q i' h',vO.f xs i h=some (t,p,ins,q,i',h')∧mD 4000000 i'∧(1≤t∧t≤3)∧(6≤p∧p≤12)∧(3≤ins∧ins≤6)∧1≤q∧q≤p - 4:=by
 unfold vO.f
 obtain ⟨a,i1,h1,e1,a0,a1,hi1⟩:=yx xs hn i h hi 3 (by omega) (by omega)
 obtain ⟨b,i2,h2,e2,b0,b1,hi2⟩:=yx xs hn i1 h1 hi1 7 (by omega) (by omega)
 obtain ⟨c,i3,h3,e3,c0,c1,hi3⟩:=yx xs hn i2 h2 hi2 4 (by omega) (by omega)
 obtain ⟨d,i4,h4,e4,d0,d1,hi4⟩:=yx xs hn i3 h3 hi3 (wrap64 ((wrap64 (6+b)) - 4)) (by rw [mO (x:=6+b) (by omega) (by omega),mO (by omega) (by omega)];omega) (by rw [mO (x:=6+b) (by omega) (by omega),mO (by omega) (by omega)];omega)
 rw [mO (x:=6+b) (by omega) (by omega),mO (x:=6+b - 4) (by omega) (by omega)] at d1
 refine ⟨_,_,_,_,_,_,by rw [e1,Option.bind_some,e2,Option.bind_some,e3,Option.bind_some,e4,Option.bind_some],hi4,?_,?_,?_,?_⟩
 all_goals dsimp only
 ·rw [mO (by omega) (by omega)];omega
 ·rw [mO (by omega) (by omega)];omega
 ·rw [mO (by omega) (by omega)];omega
 ·rw [mO (by omega) (by omega),mO (by omega) (by omega)];omega
theorem Xy (xs:List Int) (hn:xs.length≤4000000) (t p ins q:Int):∀ (f i:Nat) (c h:Int) (vs:List aC),i+f=12→mD 4000000 c→vB i (1000 * i+100) vs→∃ ys c' h',Ev (fun k=>qp.l0 k (i:Int) xs c h t p ins q vs) (ys,c',h')∧vB 12 12100 ys∧mD 4000000 c'
 | 0,i,c,h,vs,hf,hc,hv=>by
  obtain ⟨b,c1,h1,e,b0,b1,hc1⟩:=yx xs hn c h hc 12 (by omega) (by omega)
  refine ⟨vs,c1,h1,?_,zB hv (by omega) (by omega),hc1⟩
  refine Ev.step (qp.l0.eq_2 _ _ _ _ _ _ _ _ _) ?_
  exact Ev.bind (iU e) (dn (by dsimp only;omega) (dY rfl))
 | f+1,i,c,h,vs,hf,hc,hv=>by
  obtain ⟨b,c1,h1,e,b0,b1,hc1⟩:=yx xs hn c h hc 12 (by omega) (by omega)
  by_cases hb:(i:Int) < b
  ·obtain ⟨kd,pa,bJ,off,len,tx,c2,h2,e2,ok,s1,s2,hc2⟩:=YC xs hn c1 h1 hc1
   obtain ⟨r,e3,hr⟩:=YD t p ins q i (1000 * i+100) vs hv (by omega) (by omega) kd pa bJ off len tx ok (by omega) (by omega)
   obtain ⟨ys,c',h',e4,hy,hc'⟩:=Xy xs hn t p ins q f (i+1) c2 h2 r.1 (by omega) hc2 (zB hr (by omega) (by omega))
   refine ⟨ys,c',h',?_,hy,hc'⟩
   refine Ev.step (qp.l0.eq_2 _ _ _ _ _ _ _ _ _) ?_
   refine Ev.bind (iU e) (aV hb (Ev.bind e2 (Ev.bind e3 ?_)))
   dsimp only
   rw [lV i (by omega)]
   exact e4
  ·refine ⟨vs,c1,h1,?_,zB hv (by omega) (by omega),hc1⟩
   refine Ev.step (qp.l0.eq_2 _ _ _ _ _ _ _ _ _) ?_
   exact Ev.bind (iU e) (dn hb (dY rfl))
theorem ac' (xs:List Int) (hn:xs.length≤4000000) (c h:Int) (hc:mD 4000000 c) (t p ins q:Int):∃ ys c' h',Ev (fun k=>qp.f k xs c h t p ins q) (ys,c',h')∧vB 12 12100 ys∧mD 4000000 c':=by
 unfold qp.f
 exact Xy xs hn t p ins q 12 0 c h [] (by omega) hc ⟨by simp,by simp⟩
theorem QZ (xs:List Int) (hn:xs.length≤4000000) (c h:Int) (hc:mD 4000000 c) (t p ins q:Int):∃ ys c' h',Ev (fun k=>uN.f k xs c h t p ins q) (ys,c',h')∧vB 13 12100 ys∧mD 4000000 c':=by
 unfold uN.f
 obtain ⟨ys,c1,h1,e1,hy,hc1⟩:=ac' xs hn c h hc t p ins q
 obtain ⟨b,c2,h2,e2,b0,b1,hc2⟩:=yx xs hn c1 h1 hc1 10 (by omega) (by omega)
 have hB:=zB (m:=13) (z:=12100) hy (by omega) (by omega)
 have hl:=hy.1
 by_cases k0:b=0
 ·obtain ⟨pa,c3,h3,e3,s3,hc3⟩:=Q5 xs hn c2 h2 hc2
  obtain ⟨d,c4,h4,e4,hc4⟩:=J7 xs hn c3 h3 hc3 2 (by omega) (by omega)
  refine ⟨_,_,_,Ev.bind e1 (Ev.bind (iU e2) (aV k0 (Ev.bind (iU e3) (Ev.bind (iU e4) (aV (by dsimp only;omega) (dY rfl)))))),⟨?_,fun y hy'=>?_⟩,hc4⟩
  ·simp;omega
  ·rcases List.mem_append.1 hy' with hy'|hy'
   ·exact hB.2 y hy'
   ·rw [List.mem_singleton] at hy'
    subst hy'
    exact ⟨by dsimp only;omega,Nat.zero_le _⟩
 by_cases k1:b=1
 ·obtain ⟨pa,c3,h3,e3,s3,hc3⟩:=J9 xs hn c2 h2 hc2
  obtain ⟨x,c4,h4,e4,m4,hc4⟩:=BA xs hn c3 h3 hc3 [128,129,33] (by decide) (by decide)
  simp only [List.mem_cons,List.not_mem_nil,or_false] at m4
  obtain ⟨u,e5,z5⟩:=abk x (by omega) (by omega) 97
  exact ⟨_,_,_,Ev.bind e1 (Ev.bind (iU e2) (dn k0 (aV k1 (Ev.bind (iU e3) (Ev.bind (iU e4) (Ev.bind e5 (Ev.bind (VU _ _ _ ys (by omega)) (dY rfl)))))))),Vz hy pa false u (by omega) (by omega),hc4⟩
 by_cases k2:b=2
 ·exact ⟨_,_,_,Ev.bind e1 (Ev.bind (iU e2) (dn k0 (dn k1 (aV k2 (Ev.bind (OY _ ys (by omega)) (dY rfl)))))),Nq hB _,hc2⟩
 ·exact ⟨_,_,_,Ev.bind e1 (Ev.bind (iU e2) (dn k0 (dn k1 (dn k2 (dY rfl))))),hB,hc2⟩

theorem VX (xs:List aC) (hn:xs.length≤1048577):∀ (i:Nat),i≤xs.length→Ev (fun k=>um.l0 k i xs xs) true
 | i,hi=>by
  refine Ev.step (um.l0.eq_2 _ _ _) ?_
  by_cases h:i < xs.length
  ·refine aV (by omega) (aV (by omega) (aV (by omega) (dn (by simp) ?_)))
   rw [lV i (by omega)]
   exact VX xs hn (i+1) (by omega)
  ·exact dn (by omega) (dY rfl)
 termination_by i=>xs.length - i
theorem VW (xs:List aC) (hn:xs.length≤1048577):Ev (fun k=>um.f k xs xs) true:=by
 unfold um.f
 exact aV rfl (VX xs hn 0 (by omega))
theorem V4 (ps:List ByteArray) (hn:ps.length≤1000):∀ i:Nat,i≤ps.length→Ev (fun k=>uJ.l0 k ps ps i) true
 | i,hi=>by
  refine Ev.step (uJ.l0.eq_2 _ _ _) ?_
  by_cases h:i < ps.length
  ·refine aV (by omega) (aV (by omega) (aV (by omega) (aV rfl ?_)))
   rw [lV i (by omega)]
   exact V4 ps hn (i+1) (by omega)
  ·exact dn (by omega) (dY rfl)
 termination_by i=>ps.length - i
theorem acy (ps:List ByteArray) (hn:ps.length≤1000):Ev (fun k=>uJ.f k ps ps) true:=by
 unfold uJ.f
 exact aV rfl (V4 ps hn 0 (by omega))

theorem Uu (P:aC→Bool) (x:aC) (B:List aC) (hx:P x=true):∀ (A:List aC) (i:Nat),(∀ y ∈ A,P y=false)→Lib.idxByFrom (fun _ y=>P y) z43 (A++x :: B) i=((i+A.length:Nat):Int)
 | [],i,_=>by simp [Lib.idxByFrom,hx]
 | y :: A,i,h=>by
  have h1:=h y (by simp)
  have ih:=Uu P x B hx A (i+1) (fun z hz=>h z (by simp [hz]))
  rw [List.cons_append]
  unfold Lib.idxByFrom
  rw [if_neg (by rw [h1];simp),ih,List.length_cons]
  congr 1;omega
theorem Zi (p:ByteArray) (xs:List aC):∀ y ∈ kN p xs,(y.f0.toList == p.toList)=false:=by
 intro y hy
 have:=(List.mem_filter.1 hy).2
 simpa using this
theorem aaO (x:aC) (xs:List aC):∃ (m:Nat) (h:m < (qQ x xs).length),Lib.idxBy (lH x.f0) (qQ x xs) z43=(m:Int)∧(qQ x xs)[m]=x:=by
 have e:qQ x xs=(kN x.f0 xs).takeWhile (fun y=>Op.bytesLess y.f0.toList x.f0.toList)++x :: (kN x.f0 xs).dropWhile (fun y=>Op.bytesLess y.f0.toList x.f0.toList):=by
  unfold qQ insL
  rw [List.append_assoc];rfl
 have hs:=Uu (fun y=>y.f0.toList == x.f0.toList) x ((kN x.f0 xs).dropWhile (fun y=>Op.bytesLess y.f0.toList x.f0.toList)) (by simp) ((kN x.f0 xs).takeWhile (fun y=>Op.bytesLess y.f0.toList x.f0.toList)) 0 (fun y hy=>Zi _ _ y ((List.takeWhile_sublist _).subset hy))
 rw [← e,Nat.zero_add] at hs
 have hl:((kN x.f0 xs).takeWhile (fun y=>Op.bytesLess y.f0.toList x.f0.toList)).length < (qQ x xs).length:=by rw [e];simp
 refine ⟨_,hl,hs,?_⟩
 simp only [e]
 rw [List.getElem_append_right (Nat.le_refl _)]
 simp

theorem YB (l:List ByteArray) (h:l.all (fun x=>decide (x.size≤20))=true) {x:ByteArray} (hx:x ∈ l):x.size≤20:=by
 have:=List.all_eq_true.1 h x hx
 simpa using this
theorem abX (xs:List Int) (hn:xs.length≤4000000) (i h:Int) (hi:mD 4000000 i) (l:List ByteArray) (h0:0 < l.length) (h1:l.length≤256) (ha:l.all (fun x=>decide (x.size≤20))=true):∃ x i' h',((yY.f xs i h l).bind fun b=>some (b.1,b.2.1,b.2.2))=some (x,i',h')∧x.size≤20∧mD 4000000 i':=by
 obtain ⟨x,i',h',e,hx,hc⟩:=Vw xs hn i h hi l h0 h1
 exact ⟨x,i',h',by rw [e];rfl,YB l ha hx,hc⟩
theorem Vp (xs:List Int) (hn:xs.length≤4000000) (i h:Int) (hi:mD 4000000 i):∃ x i' h',rY.f xs i h=some (x,i',h')∧x.size≤20∧mD 4000000 i':=by
 unfold rY.f
 exact abX xs hn i h hi _ (by decide) (by decide) (by decide)
theorem ZB (xs:List Int) (hn:xs.length≤4000000) (i h:Int) (hi:mD 4000000 i):∃ t p ins q i' h',DZ.f xs i h=some (t,p,ins,q,i',h'):=by
 unfold DZ.f
 obtain ⟨t,p,ins,q,i1,h1,e1,c1,_⟩:=NG xs hn i h hi
 obtain ⟨b,i2,h2,e2,_,_,c2⟩:=yx xs hn i1 h1 c1 12 (by omega) (by omega)
 rw [e1,Option.bind_some,e2,Option.bind_some]
 have pk:∀ l:List Int,0 < l.length→l.length≤256→∃ x i' h',oM.f xs i2 h2 l=some (x,i',h'):=fun l h0 h1=>by
  obtain ⟨x,i',h',e,_⟩:=BA xs hn i2 h2 c2 l h0 h1
  exact ⟨x,i',h',e⟩
 by_cases k0:b=0
 ·rw [if_pos k0]
  obtain ⟨x,i',h',e⟩:=pk [0,4,(-1),9223372036854775807] (by simp) (by simp)
  rw [e];exact ⟨_,_,_,_,_,_,rfl⟩
 rw [if_neg k0]
 by_cases k1:b=1
 ·rw [if_pos k1]
  obtain ⟨x,i',h',e⟩:=pk [4,5,12,13,(-1)] (by simp) (by simp)
  rw [e];exact ⟨_,_,_,_,_,_,rfl⟩
 rw [if_neg k1]
 by_cases k2:b=2
 ·rw [if_pos k2]
  obtain ⟨x,i',h',e⟩:=pk [1,2,6,7] (by simp) (by simp)
  rw [e];exact ⟨_,_,_,_,_,_,rfl⟩
 rw [if_neg k2]
 by_cases k3:b=3
 ·rw [if_pos k3]
  obtain ⟨x,i',h',e⟩:=pk [0,8,9,wrap64 (p - 4),wrap64 (p - 3)] (by simp) (by simp)
  rw [e];exact ⟨_,_,_,_,_,_,rfl⟩
 rw [if_neg k3]
 exact ⟨_,_,_,_,_,_,rfl⟩
theorem Zj (xs:List Int) (hn:xs.length≤4000000):∃ t p ins q ys,Ev (fun k=>DX.f k xs) (t,p,ins,q,ys)∧vB 13 12100 ys:=by
 unfold DX.f
 obtain ⟨r,hr⟩:=Vb xs hn
 obtain ⟨gt,gp,gi,yM,c1,h1,e1,hc1,_⟩:=NG xs hn 0 r ⟨by omega,by omega⟩
 obtain ⟨ys,c2,h2,e2,hy,hc2⟩:=QZ xs hn c1 h1 hc1 gt gp gi yM
 obtain ⟨o,c3,h3,e3,hc3⟩:=J7 xs hn c2 h2 hc2 6 (by omega) (by omega)
 by_cases ho:o=true
 ·obtain ⟨t,p,ins,q,i',h',e4⟩:=ZB xs hn c3 h3 hc3
  exact ⟨t,p,ins,q,ys,Ev.bind hr (Ev.bind (iU e1) (Ev.bind e2 (Ev.bind (iU e3) (aV ho (Ev.bind (iU e4) (dY rfl)))))),hy⟩
 ·exact ⟨gt,gp,gi,yM,ys,Ev.bind hr (Ev.bind (iU e1) (Ev.bind e2 (Ev.bind (iU e3) (dn ho (dY rfl))))),hy⟩
theorem Zh (xs:List Int) (hn:xs.length≤4000000):∃ ys fr bJ,Ev (fun k=>yV.f k xs) (ys,fr,bJ)∧fr.size≤20∧bJ.size≤20:=by
 unfold yV.f
 obtain ⟨r,hr⟩:=Vb xs hn
 obtain ⟨gt,gp,gi,yM,c1,h1,e1,hc1,_⟩:=NG xs hn 0 r ⟨by omega,by omega⟩
 obtain ⟨ys,c2,h2,e2,hy,hc2⟩:=QZ xs hn c1 h1 hc1 gt gp gi yM
 obtain ⟨fr,c3,h3,e3,s3,hc3⟩:=Vp xs hn c2 h2 hc2
 obtain ⟨bJ,c4,h4,e4,s4,hc4⟩:=Vp xs hn c3 h3 hc3
 exact ⟨ys,fr,bJ,Ev.bind hr (Ev.bind (iU e1) (Ev.bind e2 (Ev.bind (iU e3) (Ev.bind (iU e4) (dY rfl))))),s3,s4⟩
theorem abu {g0 g1 g2 g3:Int} {ys:List aC} {fr bJ:ByteArray} (hv:zD g0 g1 g2 g3 ys=true) (hi:Lib.idxBy (lH fr) ys z43 ≥ 0) (hp:Ai ys bJ=0) (hu:uO bJ fr=false) (hz:bJ.size≤20) :
  ∃ F T,tV ys fr bJ F T∧(∃ y ∈ ys,nm y=F)∧(T.dropLast=[]∨∃ z ∈ ys,nm z=T.dropLast∧z.f1=true)∧sV ys T.dropLast < 6:=by
 obtain ⟨hg,hl,ok,_⟩:=Xx hv
 have hg2:=(ZA hg).2.2.1
 rcases H6 fr ys with ⟨e,_⟩|⟨A,x0,B,e1,e2,_⟩
 ·omega
 have hx0:x0 ∈ ys:=by rw [e1];simp
 have hP:=ok.tq x0 hx0
 rw [e2] at hP
 unfold Ai at hp
 by_cases c1:(fA bJ).2=0
 rotate_left
 ·rw [if_neg c1] at hp;exact absurd hp c1
 rw [if_pos c1] at hp
 by_cases c2:bJ.toList=([47]:List UInt8)
 ·rw [if_pos c2] at hp;cases hp
 rw [if_neg c2] at hp
 by_cases c3:zn ys (kP bJ)=0
 rotate_left
 ·rw [if_neg c3] at hp;exact absurd hp c3
 rw [if_pos c3] at hp
 by_cases c4:o7 ys (kP bJ)=true
 rotate_left
 ·rw [if_neg c4] at hp;cases hp
 rw [if_pos c4] at hp
 by_cases c5:Lib.idxBy (lH bJ) ys z43 ≥ 0
 ·rw [if_pos c5] at hp;cases hp
 rw [if_neg c5] at hp
 by_cases c6:((o_ ys (kP bJ)).length:Int) ≥ 6
 ·rw [if_pos c6] at hp;cases hp
 have hT:=kK.of c1
 have uj:(fA bJ).1≠[]:=fun c=>c2 (by
  have:=hT.e
  rw [c] at this
  rw [this,tX];rfl)
 have hD:=hT.up uj
 rw [hT.par uj] at c4 c6
 rw [JW ok.tq hD] at c6
 have no:∀ y ∈ ys,nm y≠(fA bJ).1:=fun y hy e=>by
  rcases H6 bJ ys with ⟨_,h2⟩|⟨A2,x2,B2,_,_,e5⟩
  ·exact h2 y hy (by rw [(ok.tq y hy).1.e,e,← hT.e])
  ·rw [e5] at c5;omega
 refine ⟨nm x0,(fA bJ).1,⟨ok,hP.1,hT,hP.2,uj,no,fun R e=>?_,hz,by omega⟩,⟨x0,hx0,rfl⟩,(Nl ok.tq (fun a ha b hb e=>ok.ss.uniq ha hb e) hD).1 c4,by omega⟩
 by_cases hR:R=[]
 ·rw [hR,List.append_nil] at e
  exact no x0 hx0 e.symm
 ·have:=(hT.und hP.1).2 ⟨R,hR,e⟩
  rw [hu] at this;cases this
theorem FnMoves:jR.Ya:=by
 intro xs hx
 apply Ev.rounds
 unfold jR.f Fa.f
 refine Ev.bind (dY rfl) ?_
 by_cases hb:(xs.length:Int) > 1048576
 ·exact aV (by simpa using hb) (dY rfl)
 refine dn (by simpa using hb) ?_
 obtain ⟨g0,g1,g2,g3,ys,hd,hB⟩:=Zj xs (by omega)
 obtain ⟨_,fr,bJ,hd2,sf,st⟩:=Zh xs (by omega)
 have hl:=hB.1
 have s0:∀ y ∈ ys,y.f0.size≤4000000:=fun y hy=>by have:=hB.2 y hy;omega
 have s0':∀ y ∈ ys,y.f0.size≤140737488351232:=fun y hy=>by have:=hB.2 y hy;omega
 have s2:∀ y ∈ ys,y.f2.size≤1048576:=fun y hy=>by have:=hB.2 y hy;omega
 have ml:=U5 fr bJ ys []
 rw [List.length_nil] at ml
 have tail:Ev (fun k=>jR.j1 k fr bJ false g0 g1 g2 g3 ys (kX fr bJ ys [])) true:=by
  refine Ev.step (jR.j1.eq_2 _ _ _ _ _ _ _ _ _) ?_
  refine dn (by simp) (Ev.bind (Ox ys (by omega) s0' _) (Ev.bind (Fv ys (by omega) _) (Ev.bind (acy _ (by have:=aa5 ys (⟨#[47]⟩:ByteArray);omega)) (aV rfl (Ev.bind (Ul g0 g1 g2 g3 ys (by omega) s2 s0') (Ev.bind (VZ g0 g1 g2 g3 ys (by omega) s2) (aV (by simp) (Ev.bind (iU (aaL _ _ _ ys (by omega))) ?_))))))))
  obtain ⟨m,_,em,_⟩:=aaO ⟨⟨#[47,113]⟩,false,⟨#[]⟩⟩ ys
  have pl:=Vy ⟨⟨#[47,113]⟩,false,⟨#[]⟩⟩ ys
  refine Ev.bind (iU (JM _ _ (by omega))) (dY ?_)
  rw [show Lib.idxBy (lH (⟨#[47,113]⟩:ByteArray)) (qQ ⟨⟨#[47,113]⟩,false,⟨#[]⟩⟩ ys) z43=(m:Int) from em]
  simp
 refine Ev.bind hd (Ev.bind hd2 (Ev.bind (Uj fr bJ ys (by omega) (by omega) (by omega) s0) (Ev.bind (VP fr bJ ys (by omega) (by omega) s0) (Ev.bind (VW _ (by omega)) (aV rfl ?_)))))
 rw [show (((kX fr bJ ys []).length:Int) != (ys.length:Int))=false by rw [ml];simp]
 refine Ev.step (jR.j0.eq_2 _ _ _ _ _ _ _ _ _) ?_
 refine dn (by simp) (Ev.bind (VZ g0 g1 g2 g3 ys (by omega) s2) ?_)
 by_cases hv:zD g0 g1 g2 g3 ys=true
 rotate_left
 ·exact dn hv tail
 refine aV hv (Ev.bind (DR ys fr (by omega)) ?_)
 by_cases hi:Lib.idxBy (lH fr) ys z43 ≥ 0
 rotate_left
 ·exact dn hi tail
 refine aV hi (Ev.bind (O4 ys (by omega) bJ) ?_)
 by_cases hp:Ai ys bJ=0
 rotate_left
 ·exact dn hp tail
 refine aV hp (Ev.bind (O8 bJ fr) ?_)
 cases hu:uO bJ fr with
 | true=>exact tail
 | false =>
  obtain ⟨F,T,h,hF,hup,hk⟩:=abu hv hi hp hu st
  obtain ⟨hg,hl2,_,hq⟩:=Xx hv
  have ok2:=h.ac9 hup hk
  have z0:∀ y ∈ kX fr bJ ys [],y.f0.size≤60:=fun y hy=>(ok2.tq y hy).1.z
  refine Ev.step (jR.j1.eq_2 _ _ _ _ _ _ _ _ _) ?_
  refine aV rfl (Ev.bind (Uj bJ fr (kX fr bJ ys []) (by omega) (by omega) (by omega) (fun y hy=>by have:=z0 y hy;omega)) ?_)
  rw [h.back]
  refine Ev.bind (Ul g0 g1 g2 g3 (kX fr bJ ys []) (by omega) (fun y hy=>by have:=ok2.sz y hy;omega) (fun y hy=>by have:=z0 y hy;omega)) (aV (ac_ hg (by omega) ok2 (by rw [h.pages];exact hq)) ?_)
  refine Ev.bind (iU (JM _ fr (by omega))) (aV ?_ (Ev.bind (iU (JM _ bJ (by omega))) (aV ?_ (Ev.bind (VW ys (by omega)) (dY rfl)))))
  ·rcases H6 fr (kX fr bJ ys []) with ⟨e,_⟩|⟨A,x,B,e1,e2,_⟩
   ·exact e
   ·exact absurd e2 (h.gone x (by rw [e1];simp) hF)
  ·obtain ⟨w,hw,ew⟩:=h.here hF
   rcases H6 bJ (kX fr bJ ys []) with ⟨_,e⟩|⟨A,x,B,_,_,e3⟩
   ·exact absurd ew (e w hw)
   ·rw [e3];omega

end Go.Proofs.YthejdhjpbpamoaaGreatDoor.Pure
