
import Derived.Test.YthejdhjpbpamoaaGreatDoorWLast
import Derived.Test.YthejdhjpbpamoaaGreatDoorWWords
namespace Go.Proofs.YthejdhjpbpamoaaGreatDoorW.qI
open Go.Proofs.YthejdhjpbpamoaaGreatDoorW.jk (aA)
def JG (md:Region.Mode) (o:Oper):List Nat:=(o.after.toList.filter (fun e=>Region.binds md e)).map (fun e=>e.on)
def Sr (md:Region.Mode) (ops:Array Oper) (i:Nat) (oi:Oper):List Nat:=(List.range ops.size).filter fun j=>!(j == i) && match ops[j]? with
  | some oj=>!(oj.after.any (fun e=>Region.binds md e && e.on == i) || oi.apart ops oj)
  | none=>false
def kZ (md:Region.Mode) (ops:Array Oper):Bool × List (List Nat × List Nat):=(Region.noSelect ops,(List.range ops.size).map fun i=>match ops[i]? with
  | some o=>(JG md o,Sr md ops i o)
  | none=>([],[]))
def DX (T:List (List Nat × List Nat)) (l:List Bool) (i:Nat):Bool:=!l.getD i true && match T[i]? with
  | some r=>r.1.all (fun j=>l.getD j false)
  | none=>false
def wH (T:List (List Nat × List Nat)) (l:List Bool):List Nat:=(List.range T.length).filter (DX T l)
def KZ (T:List (List Nat × List Nat)) (l:List Bool) (i:Nat):Bool:=match T[i]? with
  | some r=>r.2.all (fun j=>l.getD j true)
  | none=>false
def Ol (T:List (List Nat × List Nat)) (l:List Bool):Bool:=(List.range T.length).all fun j=>!l.getD j false || match T[j]? with
  | some r=>r.1.all (fun k=>l.getD k false)
  | none=>true
def JL (T:List (List Nat × List Nat)) (i:Nat):Nat→Nat→Bool
  | 0,_=>false
  | fuel+1,d=>match T[d]? with
    | some r=>r.1.any fun j=>j == i || JL T i fuel j
    | none=>false
def lastT (T:List (List Nat × List Nat)) (l:List Bool) (ds:List Nat) (i:Nat):Bool:=ds.all fun d=>l.getD d true || JL T i T.length d
section
variable {md:Region.Mode} {ops:Array Oper} {T:Bool × List (List Nat × List Nat)} {l l' li lj lk:Array Bool} {ds:List Nat} {i j k:Nat}
theorem gd (l:Array Bool) (j:Nat) (b:Bool):l.getD j b=l.toList.getD j b:=by simp [Array.getD_eq_getD_getElem?,List.getD_eq_getElem?_getD]
theorem abO (o:Oper) (p:Nat→Bool):o.after.all (fun e=>!Region.binds md e || p e.on)=(JG md o).all p:=by
  unfold JG
  rw [← Array.all_toList]
  induction o.after.toList with
  | nil=>rfl
  | cons e r ih =>
    rw [List.all_cons,ih,List.filter_cons]
    cases h:Region.binds md e <;> simp
theorem amS (o:Oper) (p:Nat→Bool):o.after.any (fun e=>Region.binds md e && p e.on)=(JG md o).any p:=by
  unfold JG
  rw [← Array.any_toList]
  induction o.after.toList with
  | nil=>rfl
  | cons e r ih =>
    rw [List.any_cons,ih,List.filter_cons]
    cases h:Region.binds md e <;> simp
theorem P8:(kZ md ops).2.length=ops.size:=by simp [kZ]
theorem P_ {o:Oper} (h:ops[i]?=some o):(kZ md ops).2[i]?=some (JG md o,Sr md ops i o):=by
  have hi:=(Array.getElem?_eq_some_iff.1 h).1
  unfold kZ
  rw [List.getElem?_map,List.getElem?_range hi,Option.map_some,h]
theorem P9 (h:ops[i]?=none):(kZ md ops).2[i]?=none:=by
  have hi:ops.size≤i:=Array.getElem?_eq_none_iff.1 h
  exact List.getElem?_eq_none (by rw [P8];exact hi)
theorem ano:DX (kZ md ops).2 l.toList i=(!l.getD i true && ((ops[i]?).map (·.after.all fun e=>!Region.binds md e || l.getD e.on false)).getD false):=by
  unfold DX
  rw [gd]
  cases h:ops[i]? with
  | none=>rw [P9 h];rfl
  | some o =>
    rw [P_ h]
    simp only [Option.map_some,Option.getD_some]
    rw [← abO]
    simp only [gd]
theorem ready_eq:Region.ready md ops l=wH (kZ md ops).2 l.toList:=by
  unfold Region.ready wH
  rw [P8]
  refine List.filter_congr (fun i _=>?_)
  rw [ano]
theorem free_eq:Region.free md ops l i=KZ (kZ md ops).2 l.toList i:=by
  unfold Region.free KZ
  cases h:ops[i]? with
  | none=>rw [P9 h]
  | some oi =>
    rw [P_ h]
    simp only [Sr]
    rw [List.all_filter]
    congr 1
    funext j
    rw [gd]
    cases hj:ops[j]? with
    | none=>cases (j == i) <;> cases (l.toList.getD j true) <;> simp
    | some oj =>
      cases (j == i) <;> cases (l.toList.getD j true) <;> cases (oj.after.any (fun e=>Region.binds md e && e.on == i) || oi.apart ops oj) <;> simp_all
theorem afT:Region.KX md ops l=Ol (kZ md ops).2 l.toList:=by
  unfold Region.KX Ol
  rw [P8]
  congr 1
  funext j
  rw [gd]
  cases h:ops[j]? with
  | none=>rw [P9 h]
  | some o =>
    rw [P_ h]
    simp only
    rw [← abO]
    simp only [gd]
theorem reach_eq:∀ (fuel d:Nat),Region.zM md ops i fuel d=JL (kZ md ops).2 i fuel d
  | 0,_=>rfl
  | fuel+1,d=>by
    unfold Region.zM JL
    cases h:ops[d]? with
    | none=>rw [P9 h]
    | some o =>
      rw [P_ h]
      simp only
      rw [← amS]
      congr 1
      funext e
      rw [reach_eq fuel]
theorem amv:Region.lastB md ops l ds i=lastT (kZ md ops).2 l.toList ds i:=by
  unfold Region.lastB lastT
  rw [P8]
  congr 1
  funext d
  rw [gd,reach_eq]
theorem aci (h:DX T.2 l.toList i=true) (hT:kZ md ops=T):(Region.ready md ops l).contains i=true:=by
  subst hT
  rw [ready_eq]
  unfold wH
  rw [List.contains_iff_mem,List.mem_filter,List.mem_range]
  refine ⟨?_,h⟩
  unfold DX at h
  rw [Bool.and_eq_true] at h
  cases hq:(kZ md ops).2[i]? with
  | none=>rw [hq] at h;simp at h
  | some r=>exact (List.getElem?_eq_some_iff.1 hq).1
theorem DY (h:(l.toList.set i true == l'.toList)=true):(l.setIfInBounds i true == l')=true:=by
  rw [beq_iff_eq] at h ⊢
  apply Array.ext'
  rw [Array.toList_setIfInBounds]
  exact h
def EF (T:Bool × List (List Nat × List Nat)) (l l':List Bool) (i:Nat):Bool:=T.1 && KZ T.2 l i && DX T.2 l i && (l.set i true == l')
theorem KL (hT:kZ md ops=T) (h:EF T l.toList l'.toList i=true):KJ md ops l l' i=true:=by
  simp only [EF,Bool.and_eq_true] at h
  obtain ⟨⟨⟨h1,h2⟩,h3⟩,h4⟩:=h
  have h5:=aci h3 hT
  have h6:=DY h4
  subst hT
  simp only [KJ,Bool.and_eq_true]
  exact ⟨⟨⟨h1,by rw [free_eq];exact h2⟩,h5⟩,h6⟩
def WH (T:Bool × List (List Nat × List Nat)) (ds:List Nat) (l l':List Bool) (i:Nat):Bool:=T.1 && KZ T.2 l i && DX T.2 l i && Ol T.2 l && lastT T.2 l ds i && (l.set i true == l')
theorem an' (hT:kZ md ops=T) (h:WH T ds l.toList l'.toList i=true):takeB md ops ds l l' i=true:=by
  simp only [WH,Bool.and_eq_true] at h
  obtain ⟨⟨⟨⟨⟨h1,h2⟩,h3⟩,h4⟩,h5⟩,h6⟩:=h
  have h7:=aci h3 hT
  have h8:=DY h6
  subst hT
  simp only [takeB,Bool.and_eq_true]
  exact ⟨⟨⟨⟨⟨h1,by rw [free_eq];exact h2⟩,h7⟩,by rw [afT];exact h4⟩,by rw [amv];exact h5⟩,h8⟩
theorem lG (hT:kZ md ops=T) (h:(wH T.2 l.toList == [i] && l.toList.set i true == l'.toList)=true):JM md ops l l' i=true:=by
  simp only [Bool.and_eq_true] at h
  obtain ⟨h1,h2⟩:=h
  subst hT
  simp only [JM,Bool.and_eq_true]
  exact ⟨by rw [ready_eq];exact h1,DY h2⟩
theorem AO (hT:kZ md ops=T) (h:(wH T.2 l.toList == [i,j] && l.toList.set i true == li.toList && l.toList.set j true == lj.toList)=true):(Region.ready md ops l == [i,j] && l.setIfInBounds i true == li && l.setIfInBounds j true == lj)=true:=by
  simp only [Bool.and_eq_true] at h ⊢
  obtain ⟨⟨h1,h2⟩,h3⟩:=h
  subst hT
  exact ⟨⟨by rw [ready_eq];exact h1,DY h2⟩,DY h3⟩
theorem aob (hT:kZ md ops=T) (h:(wH T.2 l.toList == [i,j,k] && l.toList.set i true == li.toList && l.toList.set j true == lj.toList && l.toList.set k true == lk.toList)=true) :
    (Region.ready md ops l == [i,j,k] && l.setIfInBounds i true == li && l.setIfInBounds j true == lj && l.setIfInBounds k true == lk)=true:=by
  simp only [Bool.and_eq_true] at h ⊢
  obtain ⟨⟨⟨h1,h2⟩,h3⟩,h4⟩:=h
  subst hT
  exact ⟨⟨⟨by rw [ready_eq];exact h1,DY h2⟩,DY h3⟩,DY h4⟩
theorem kC (hT:kZ md ops=T) (h:(wH T.2 l.toList == [])=true):(Region.ready md ops l == [])=true:=by
  subst hT
  rw [ready_eq]
  exact h
def Gj (B:List Nat) (d:Nat):List Nat→Nat
  | []=>0
  | n :: r=>(2 ^ n ||| (if n < d then B.getD n 0 else 0)) ||| Gj B d r
def vF (T:List (List Nat × List Nat)) (B:List Nat):Bool:=(List.range T.length).all fun d=>match T[d]? with
  | some r=>(B.getD d 0 ||| Gj B d r.1) == Gj B d r.1
  | none=>false
theorem ad2 {B:List Nat} {d i:Nat}:∀ {ns:List Nat},(Gj B d ns).testBit i=true→∃ n ∈ ns,n=i∨(n < d∧(B.getD n 0).testBit i=true)
  | [],h=>by simp [Gj] at h
  | n :: r,h=>by
    unfold Gj at h
    rw [Nat.testBit_or,Nat.testBit_or,Bool.or_eq_true,Bool.or_eq_true] at h
    rcases h with (h|h)|h
    · rw [Nat.testBit_two_pow] at h
      exact ⟨n,List.mem_cons_self,.inl (by simpa using h)⟩
    · by_cases hn:n < d
      · rw [if_pos hn] at h
        exact ⟨n,List.mem_cons_self,.inr ⟨hn,h⟩⟩
      · rw [if_neg hn] at h
        simp at h
    · obtain ⟨m,hm,h2⟩:=ad2 h
      exact ⟨m,List.mem_cons_of_mem _ hm,h2⟩
theorem acg {T:List (List Nat × List Nat)} {B:List Nat} (hB:vF T B=true):∀ (fuel d:Nat),d < fuel→d < T.length→(B.getD d 0).testBit i=true→JL T i fuel d=true
  | 0,d,h,_,_=>by omega
  | fuel+1,d,h,hd,hb=>by
    have h1:=List.all_eq_true.1 hB d (List.mem_range.2 hd)
    cases hr:T[d]? with
    | none=>rw [hr] at h1;simp at h1
    | some r =>
      rw [hr] at h1
      simp only [beq_iff_eq] at h1
      have h2:(Gj B d r.1).testBit i=true:=by rw [← h1,Nat.testBit_or,hb,Bool.true_or]
      obtain ⟨n,hn,h3⟩:=ad2 h2
      unfold JL
      rw [hr]
      simp only
      rw [List.any_eq_true]
      refine ⟨n,hn,?_⟩
      rcases h3 with rfl|⟨h4,h5⟩
      · simp
      · rw [acg hB fuel n (by omega) (by omega) h5,Bool.or_true]
def aby (T:List (List Nat × List Nat)) (B:List Nat) (l:List Bool) (ds:List Nat) (i:Nat):Bool:=ds.all fun d=>l.getD d true || (decide (d < T.length) && (B.getD d 0).testBit i)
def Qh (T:Bool × List (List Nat × List Nat)) (B:List Nat) (ds:List Nat) (l l':List Bool) (i:Nat):Bool:=T.1 && KZ T.2 l i && DX T.2 l i && Ol T.2 l && aby T.2 B l ds i && (l.set i true == l')
theorem MS {B:List Nat} (hT:kZ md ops=T) (hB:vF T.2 B=true) (h:Qh T B ds l.toList l'.toList i=true):takeB md ops ds l l' i=true:=by
  refine an' hT ?_
  simp only [Qh,WH,Bool.and_eq_true] at h ⊢
  obtain ⟨⟨⟨⟨⟨h1,h2⟩,h3⟩,h4⟩,h5⟩,h6⟩:=h
  refine ⟨⟨⟨⟨⟨h1,h2⟩,h3⟩,h4⟩,?_⟩,h6⟩
  unfold aby at h5
  unfold lastT
  rw [List.all_eq_true] at h5 ⊢
  intro d hd
  have h7:=h5 d hd
  rw [Bool.or_eq_true,Bool.and_eq_true,decide_eq_true_eq] at h7
  rcases h7 with h7|⟨h8,h9⟩
  · rw [h7,Bool.true_or]
  · rw [acg hB _ d h8 h8 h9,Bool.or_true]
theorem kF {P:Program} {Q:Exit→Act→World→Prop} {S:World→Prop} {n:Nat} {a:Act} {w:World} {B:List Nat} (hT:kZ md ops=T) (hB:vF T.2 B=true) (h:aA (kZ md ops=T)→aA (vF T.2 B=true)→ig P md ops Q S ds n l a w):ig P md ops Q S ds n l a w:=h ⟨hT⟩ ⟨hB⟩
end
def BH:Code→Nat→Option (Array Oper)
  | .region id ops _,k=>if id == k then some ops else none
  | .seq a b,k=>match BH a k with
    | some o=>some o
    | none=>BH b k
  | .cond _ a b,k=>match BH a k with
    | some o=>some o
    | none=>BH b k
  | .block _ c,k=>BH c k
  | .loop c,k=>BH c k
  | .scope c,k=>BH c k
  | .rangeFunc _ _ a b,k=>match BH a k with
    | some o=>some o
    | none=>BH b k
  | _,_=>none
def opsOf (f:Func) (k:Nat):Array Oper:=((f.body.bind fun c=>BH c k)).getD #[]
end Go.Proofs.YthejdhjpbpamoaaGreatDoorW.qI
