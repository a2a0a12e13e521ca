
import Derived.Test.YthejdhjpbpamoaaGreatDoorWLast
import Derived.Test.YthejdhjpbpamoaaGreatDoorWWords
namespace Go.Proofs.YthejdhjpbpamoaaGreatDoorW.lH
open Go.Proofs.YthejdhjpbpamoaaGreatDoorW.iw (aA)
def Ht (md:Region.Mode) (o:Oper):List Nat:=(o.after.toList.filter (fun e=>Region.binds md e)).map (fun e=>e.on)
def P6 (md:Region.Mode) (ops:Array Oper) (i:Nat) (oi:Oper):List Nat:=(List.range ops.size).filter fun j=>!(j == i) && match ops[j]? with
  | some oj=>!(oj.after.any (fun e=>Region.binds md e && e.on == i) || oi.apart ops oj)
  | none=>false
def kZ (md:Region.Mode) (ops:Array Oper):Bool × List (List Nat × List Nat):=(Region.noSelect ops,(List.range ops.size).map fun i=>match ops[i]? with
  | some o=>(Ht md o,P6 md ops i o)
  | none=>([],[]))
def BK (T:List (List Nat × List Nat)) (l:List Bool) (i:Nat):Bool:=!l.getD i true && match T[i]? with
  | some r=>r.1.all (fun j=>l.getD j false)
  | none=>false
def AQ (T:List (List Nat × List Nat)) (l:List Bool):List Nat:=(List.range T.length).filter (BK T l)
def Ja (T:List (List Nat × List Nat)) (l:List Bool) (i:Nat):Bool:=match T[i]? with
  | some r=>r.2.all (fun j=>l.getD j true)
  | none=>false
def LC (T:List (List Nat × List Nat)) (l:List Bool):Bool:=(List.range T.length).all fun j=>!l.getD j false || match T[j]? with
  | some r=>r.1.all (fun k=>l.getD k false)
  | none=>true
def Hz (T:List (List Nat × List Nat)) (i:Nat):Nat→Nat→Bool
  | 0,_=>false
  | fuel+1,d=>match T[d]? with
    | some r=>r.1.any fun j=>j == i || Hz T i fuel j
    | none=>false
def lastT (T:List (List Nat × List Nat)) (l:List Bool) (ds:List Nat) (i:Nat):Bool:=ds.all fun d=>l.getD d true || Hz T i T.length d
section
variable {md:Region.Mode} {ops:Array Oper} {T:Bool × List (List Nat × List Nat)} {l l' li lj lk:Array Bool} {ds:List Nat} {i j k:Nat}
theorem gd (l:Array Bool) (j:Nat) (b:Bool):l.getD j b=l.toList.getD j b:=by simp [Array.getD_eq_getD_getElem?,List.getD_eq_getElem?_getD]
theorem Zr (o:Oper) (p:Nat→Bool):o.after.all (fun e=>!Region.binds md e || p e.on)=(Ht md o).all p:=by
  unfold Ht
  rw [← Array.all_toList]
  induction o.after.toList with
  | nil=>rfl
  | cons e r ih =>
    rw [List.all_cons,ih,List.filter_cons]
    cases h:Region.binds md e <;> simp
theorem ajz (o:Oper) (p:Nat→Bool):o.after.any (fun e=>Region.binds md e && p e.on)=(Ht md o).any p:=by
  unfold Ht
  rw [← Array.any_toList]
  induction o.after.toList with
  | nil=>rfl
  | cons e r ih =>
    rw [List.any_cons,ih,List.filter_cons]
    cases h:Region.binds md e <;> simp
theorem NC:(kZ md ops).2.length=ops.size:=by simp [kZ]
theorem NG {o:Oper} (h:ops[i]?=some o):(kZ md ops).2[i]?=some (Ht md o,P6 md ops i o):=by
  have hi:=(Array.getElem?_eq_some_iff.1 h).1
  unfold kZ
  rw [List.getElem?_map,List.getElem?_range hi,Option.map_some,h]
theorem ND (h:ops[i]?=none):(kZ md ops).2[i]?=none:=by
  have hi:ops.size≤i:=Array.getElem?_eq_none_iff.1 h
  exact List.getElem?_eq_none (by rw [NC];exact hi)
theorem aj':BK (kZ md ops).2 l.toList i=(!l.getD i true && ((ops[i]?).map (·.after.all fun e=>!Region.binds md e || l.getD e.on false)).getD false):=by
  unfold BK
  rw [gd]
  cases h:ops[i]? with
  | none=>rw [ND h];rfl
  | some o =>
    rw [NG h]
    simp only [Option.map_some,Option.getD_some]
    rw [← Zr]
    simp only [gd]
theorem ready_eq:Region.ready md ops l=AQ (kZ md ops).2 l.toList:=by
  unfold Region.ready AQ
  rw [NC]
  refine List.filter_congr (fun i _=>?_)
  rw [aj']
theorem free_eq:Region.free md ops l i=Ja (kZ md ops).2 l.toList i:=by
  unfold Region.free Ja
  cases h:ops[i]? with
  | none=>rw [ND h]
  | some oi =>
    rw [NG h]
    simp only [P6]
    rw [List.all_filter]
    congr 1
    funext j
    rw [gd]
    cases hj:ops[j]? with
    | none=>cases (j == i) <;> cases (l.toList.getD j true) <;> simp
    | some oj =>
      cases (j == i) <;> cases (l.toList.getD j true) <;> cases (oj.after.any (fun e=>Region.binds md e && e.on == i) || oi.apart ops oj) <;> simp_all
theorem acO:Region.I7 md ops l=LC (kZ md ops).2 l.toList:=by
  unfold Region.I7 LC
  rw [NC]
  congr 1
  funext j
  rw [gd]
  cases h:ops[j]? with
  | none=>rw [ND h]
  | some o =>
    rw [NG h]
    simp only
    rw [← Zr]
    simp only [gd]
theorem reach_eq:∀ (fuel d:Nat),Region.yD md ops i fuel d=Hz (kZ md ops).2 i fuel d
  | 0,_=>rfl
  | fuel+1,d=>by
    unfold Region.yD Hz
    cases h:ops[d]? with
    | none=>rw [ND h]
    | some o =>
      rw [NG h]
      simp only
      rw [← ajz]
      congr 1
      funext e
      rw [reach_eq fuel]
theorem ajj:Region.lastB md ops l ds i=lastT (kZ md ops).2 l.toList ds i:=by
  unfold Region.lastB lastT
  rw [NC]
  congr 1
  funext d
  rw [gd,reach_eq]
theorem ZM (h:BK T.2 l.toList i=true) (hT:kZ md ops=T):(Region.ready md ops l).contains i=true:=by
  subst hT
  rw [ready_eq]
  unfold AQ
  rw [List.contains_iff_mem,List.mem_filter,List.mem_range]
  refine ⟨?_,h⟩
  unfold BK at h
  rw [Bool.and_eq_true] at h
  cases hq:(kZ md ops).2[i]? with
  | none=>rw [hq] at h;simp at h
  | some r=>exact (List.getElem?_eq_some_iff.1 hq).1
theorem BL (h:(l.toList.set i true == l'.toList)=true):(l.setIfInBounds i true == l')=true:=by
  rw [beq_iff_eq] at h ⊢
  apply Array.ext'
  rw [Array.toList_setIfInBounds]
  exact h
def EN (T:Bool × List (List Nat × List Nat)) (l l':List Bool) (i:Nat):Bool:=T.1 && Ja T.2 l i && BK T.2 l i && (l.set i true == l')
theorem K_ (hT:kZ md ops=T) (h:EN T l.toList l'.toList i=true):IJ md ops l l' i=true:=by
  simp only [EN,Bool.and_eq_true] at h
  obtain ⟨⟨⟨h1,h2⟩,h3⟩,h4⟩:=h
  have h5:=ZM h3 hT
  have h6:=BL h4
  subst hT
  simp only [IJ,Bool.and_eq_true]
  exact ⟨⟨⟨h1,by rw [free_eq];exact h2⟩,h5⟩,h6⟩
def Uc (T:Bool × List (List Nat × List Nat)) (ds:List Nat) (l l':List Bool) (i:Nat):Bool:=T.1 && Ja T.2 l i && BK T.2 l i && LC T.2 l && lastT T.2 l ds i && (l.set i true == l')
theorem aky (hT:kZ md ops=T) (h:Uc T ds l.toList l'.toList i=true):takeB md ops ds l l' i=true:=by
  simp only [Uc,Bool.and_eq_true] at h
  obtain ⟨⟨⟨⟨⟨h1,h2⟩,h3⟩,h4⟩,h5⟩,h6⟩:=h
  have h7:=ZM h3 hT
  have h8:=BL h6
  subst hT
  simp only [takeB,Bool.and_eq_true]
  exact ⟨⟨⟨⟨⟨h1,by rw [free_eq];exact h2⟩,h7⟩,by rw [acO];exact h4⟩,by rw [ajj];exact h5⟩,h8⟩
theorem jq (hT:kZ md ops=T) (h:(AQ T.2 l.toList == [i] && l.toList.set i true == l'.toList)=true):HY md ops l l' i=true:=by
  simp only [Bool.and_eq_true] at h
  obtain ⟨h1,h2⟩:=h
  subst hT
  simp only [HY,Bool.and_eq_true]
  exact ⟨by rw [ready_eq];exact h1,BL h2⟩
theorem yN (hT:kZ md ops=T) (h:(AQ T.2 l.toList == [i,j] && l.toList.set i true == li.toList && l.toList.set j true == lj.toList)=true):(Region.ready md ops l == [i,j] && l.setIfInBounds i true == li && l.setIfInBounds j true == lj)=true:=by
  simp only [Bool.and_eq_true] at h ⊢
  obtain ⟨⟨h1,h2⟩,h3⟩:=h
  subst hT
  exact ⟨⟨by rw [ready_eq];exact h1,BL h2⟩,BL h3⟩
theorem akB (hT:kZ md ops=T) (h:(AQ T.2 l.toList == [i,j,k] && l.toList.set i true == li.toList && l.toList.set j true == lj.toList && l.toList.set k true == lk.toList)=true) :
    (Region.ready md ops l == [i,j,k] && l.setIfInBounds i true == li && l.setIfInBounds j true == lj && l.setIfInBounds k true == lk)=true:=by
  simp only [Bool.and_eq_true] at h ⊢
  obtain ⟨⟨⟨h1,h2⟩,h3⟩,h4⟩:=h
  subst hT
  exact ⟨⟨⟨by rw [ready_eq];exact h1,BL h2⟩,BL h3⟩,BL h4⟩
theorem ku (hT:kZ md ops=T) (h:(AQ T.2 l.toList == [])=true):(Region.ready md ops l == [])=true:=by
  subst hT
  rw [ready_eq]
  exact h
def Et (B:List Nat) (d:Nat):List Nat→Nat
  | []=>0
  | n :: r=>(2 ^ n ||| (if n < d then B.getD n 0 else 0)) ||| Et B d r
def uS (T:List (List Nat × List Nat)) (B:List Nat):Bool:=(List.range T.length).all fun d=>match T[d]? with
  | some r=>(B.getD d 0 ||| Et B d r.1) == Et B d r.1
  | none=>false
theorem aaO {B:List Nat} {d i:Nat}:∀ {ns:List Nat},(Et B d ns).testBit i=true→∃ n ∈ ns,n=i∨(n < d∧(B.getD n 0).testBit i=true)
  | [],h=>by simp [Et] at h
  | n :: r,h=>by
    unfold Et at h
    rw [Nat.testBit_or,Nat.testBit_or,Bool.or_eq_true,Bool.or_eq_true] at h
    rcases h with (h|h)|h
    · rw [Nat.testBit_two_pow] at h
      exact ⟨n,List.mem_cons_self,.inl (by simpa using h)⟩
    · by_cases hn:n < d
      · rw [if_pos hn] at h
        exact ⟨n,List.mem_cons_self,.inr ⟨hn,h⟩⟩
      · rw [if_neg hn] at h
        simp at h
    · obtain ⟨m,hm,h2⟩:=aaO h
      exact ⟨m,List.mem_cons_of_mem _ hm,h2⟩
theorem ZJ {T:List (List Nat × List Nat)} {B:List Nat} (hB:uS T B=true):∀ (fuel d:Nat),d < fuel→d < T.length→(B.getD d 0).testBit i=true→Hz T i fuel d=true
  | 0,d,h,_,_=>by omega
  | fuel+1,d,h,hd,hb=>by
    have h1:=List.all_eq_true.1 hB d (List.mem_range.2 hd)
    cases hr:T[d]? with
    | none=>rw [hr] at h1;simp at h1
    | some r =>
      rw [hr] at h1
      simp only [beq_iff_eq] at h1
      have h2:(Et B d r.1).testBit i=true:=by rw [← h1,Nat.testBit_or,hb,Bool.true_or]
      obtain ⟨n,hn,h3⟩:=aaO h2
      unfold Hz
      rw [hr]
      simp only
      rw [List.any_eq_true]
      refine ⟨n,hn,?_⟩
      rcases h3 with rfl|⟨h4,h5⟩
      · simp
      · rw [ZJ hB fuel n (by omega) (by omega) h5,Bool.or_true]
def Zj (T:List (List Nat × List Nat)) (B:List Nat) (l:List Bool) (ds:List Nat) (i:Nat):Bool:=ds.all fun d=>l.getD d true || (decide (d < T.length) && (B.getD d 0).testBit i)
def NP (T:Bool × List (List Nat × List Nat)) (B:List Nat) (ds:List Nat) (l l':List Bool) (i:Nat):Bool:=T.1 && Ja T.2 l i && BK T.2 l i && LC T.2 l && Zj T.2 B l ds i && (l.set i true == l')
theorem xU {B:List Nat} (hT:kZ md ops=T) (hB:uS T.2 B=true) (h:NP T B ds l.toList l'.toList i=true):takeB md ops ds l l' i=true:=by
  refine aky hT ?_
  simp only [NP,Uc,Bool.and_eq_true] at h ⊢
  obtain ⟨⟨⟨⟨⟨h1,h2⟩,h3⟩,h4⟩,h5⟩,h6⟩:=h
  refine ⟨⟨⟨⟨⟨h1,h2⟩,h3⟩,h4⟩,?_⟩,h6⟩
  unfold Zj at h5
  unfold lastT
  rw [List.all_eq_true] at h5 ⊢
  intro d hd
  have h7:=h5 d hd
  rw [Bool.or_eq_true,Bool.and_eq_true,decide_eq_true_eq] at h7
  rcases h7 with h7|⟨h8,h9⟩
  · rw [h7,Bool.true_or]
  · rw [ZJ hB _ d h8 h8 h9,Bool.or_true]
theorem kE {P:Program} {Q:Exit→Act→World→Prop} {S:World→Prop} {n:Nat} {a:Act} {w:World} {B:List Nat} (hT:kZ md ops=T) (hB:uS T.2 B=true) (h:aA (kZ md ops=T)→aA (uS T.2 B=true)→jl P md ops Q S ds n l a w):jl P md ops Q S ds n l a w:=h ⟨hT⟩ ⟨hB⟩
end
def zQ:Code→Nat→Option (Array Oper)
  | .region id ops _,k=>if id == k then some ops else none
  | .seq a b,k=>match zQ a k with
    | some o=>some o
    | none=>zQ b k
  | .cond _ a b,k=>match zQ a k with
    | some o=>some o
    | none=>zQ b k
  | .block _ c,k=>zQ c k
  | .loop c,k=>zQ c k
  | .scope c,k=>zQ c k
  | .rangeFunc _ _ a b,k=>match zQ a k with
    | some o=>some o
    | none=>zQ b k
  | _,_=>none
def opsOf (f:Func) (k:Nat):Array Oper:=((f.body.bind fun c=>zQ c k)).getD #[]
end Go.Proofs.YthejdhjpbpamoaaGreatDoorW.lH
