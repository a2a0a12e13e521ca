/- The pure statement of FnCodes is proved: for all arguments within the row's own bounds the Lean function that the law's walk comes to answers true. Conditions: none beyond these bounds. -/
import Derived.Test.YthejdhjpbpamoaaGreatDoorStFnCodes
import Derived.Test.YthejdhjpbpamoaaGreatDoorBase
namespace Go.Proofs.YthejdhjpbpamoaaGreatDoor.Pure
open Go.RowKit Go.Proofs.YthejdhjpbpamoaaGreatDoor.jD Go.Proofs.YthejdhjpbpamoaaGreatDoorW.iw Go.Proofs.YthejdhjpbpamoaaGreatDoorW.lH Go.Proofs.YthejdhjpbpamoaaGreatDoor.Base
set_option linter.unusedVariables false
set_option linter.unusedSimpArgs false
theorem yC (xs:List aF) (i:Nat) (h:i < xs.length):aC xs (i:Int)=xs[i]:=getD_at _ xs i h
def lG:List UInt8→List (List UInt8)
 | []=>[[]]
 | b :: l=>if b=47 then [] :: lG l else match lG l with
  | []=>[[b]]
  | p :: r=>(b :: p) :: r
theorem BM (l:List UInt8):lG l≠[]:=by
 cases l with
 | nil=>simp [lG]
 | cons b l =>
  unfold lG
  split
  ·simp
  split <;> simp
theorem TY (l:List UInt8):(lG l).length≤l.length+1:=by
 induction l with
 | nil=>simp [lG]
 | cons b l ih =>
  unfold lG
  split
  ·simp;omega
  ·split
   ·simp
   ·rename_i p r h;rw [h] at ih;simp at ih ⊢;omega
theorem NM (l:List UInt8):lG (47 :: l)=[] :: lG l:=by simp [lG]
theorem H8 (b:UInt8) (l:List UInt8) (hb:b≠47) (p:List UInt8) (r:List (List UInt8)) (h:lG l=p :: r):lG (b :: l)=(b :: p) :: r:=by simp [lG,hb,h]
def yA (cur l:List UInt8):List (List UInt8):=match lG l with
 | []=>[cur]
 | p :: r=>(cur++p) :: r
theorem Hu (l:List UInt8):yA [] l=lG l:=by
 unfold yA
 split
 ·rename_i h;exact absurd h (BM l)
 ·rename_i h;simp [h]
theorem ZB (cur:List UInt8):yA cur []=[cur]:=by simp [yA,lG]
theorem ZC (cur l:List UInt8):yA cur (47 :: l)=cur :: lG l:=by simp [yA,lG]
theorem ajW (cur:List UInt8) (b:UInt8) (l:List UInt8) (hb:b≠47):yA cur (b :: l)=yA (cur++[b]) l:=by
 unfold yA
 obtain ⟨p,r,h⟩:=List.exists_cons_of_ne_nil (BM l)
 rw [H8 b l hb p r h,h]
 simp
theorem Za (b:UInt8) (l:List UInt8):Lib.index (b :: l) [47]=if b=47 then 0 else if Lib.index l [47] == -1 then -1 else Lib.index l [47]+1:=by
 rw [Lib.index]
 by_cases h:b=47
 ·subst h;simp [List.isPrefixOf]
 ·have:([47]:List UInt8).isPrefixOf (b :: l)=false:=by simp [List.isPrefixOf];exact fun e=>h e.symm
  rw [this,if_neg h];rfl
theorem Z8:∀ (l:List UInt8),Lib.splitK [47] 0 (l.count 47) l=lG l
 | []=>rfl
 | b :: l=>by
  have ih:=Z8 l
  by_cases h:b=47
  ·subst h
   have e:Lib.index (47 :: l) [47]=0:=by rw [Za];simp
   rw [List.count_cons_self,Lib.splitK,e]
   simp [lG,ih]
  ·rw [List.count_cons_of_ne (by simpa using h)]
   obtain ⟨p,r,hs⟩:=List.exists_cons_of_ne_nil (BM l)
   rw [H8 b l h p r hs]
   rw [hs] at ih
   cases hc:l.count 47 with
   | zero =>
    rw [hc] at ih
    simp only [Lib.splitK] at ih ⊢
    simp at ih
    obtain ⟨rfl,rfl⟩:=ih
    rfl
   | succ n =>
    rw [hc] at ih
    have hi:=Za b l
    rw [if_neg h] at hi
    have hg:=Lib.index_ge l [47]
    by_cases hm:Lib.index l [47] = -1
    ·rw [hm] at hi
     simp at hi
     rw [Lib.splitK,hm] at ih
     rw [Lib.splitK,hi]
     simp at ih ⊢
     exact ⟨ih.1,ih.2⟩
    ·rw [if_neg (by simpa using hm)] at hi
     obtain ⟨j,hj⟩:∃ j:Nat,Lib.index l [47]=j:=⟨(Lib.index l [47]).toNat,by omega⟩
     rw [hj] at hi hm
     rw [Lib.splitK,hj,if_neg (by simp)] at ih
     have e2:((j:Int)+1).toNat=j+1:=by omega
     rw [Lib.splitK,hi,if_neg (by simp;omega),e2]
     simp at ih ⊢
     exact ⟨by rw [← ih.1],by rw [← ih.2]⟩
theorem aks (s:ByteArray):(Lib.splitB ⟨#[47]⟩ 0 (Lib.countB s ⟨#[47]⟩) s).map (·.data.toList)=lG s.data.toList:=by
 rw [Lib.splitB_data]
 have:Lib.countB s ⟨#[47]⟩=s.data.toList.count 47:=by unfold Lib.countB;exact Lib.count_one 47 _
 rw [this]
 exact Z8 _
def xG:List UInt8→Bool
 | []=>false
 | [b]=>b == 47
 | _ :: b :: l=>xG (b :: l)
def xW:List UInt8→Bool
 | []=>false
 | [_]=>false
 | a :: b :: l=>(a == 47 && b == 47) || xW (b :: l)
theorem Xf:∀ l:List UInt8,Lib.contains l [47,47]=xW l
 | []=>rfl
 | [b]=>by simp [Lib.contains,Lib.index,xW,List.isPrefixOf]
 | a :: b :: l=>by
  have ih:=Xf (b :: l)
  have hg:=Lib.index_ge (b :: l) [47,47]
  unfold Lib.contains at ih ⊢
  rw [Lib.index,xW]
  by_cases h:a=47∧b=47
  ·obtain ⟨rfl,rfl⟩:=h;simp [List.isPrefixOf]
  ·have e:([47,47]:List UInt8).isPrefixOf (a :: b :: l)=false:=by
    simp [List.isPrefixOf];intro h1 h2;exact h ⟨h1.symm,h2.symm⟩
   have e2:(a == 47 && b == 47)=false:=by simp;intro h1;exact fun h2=>h ⟨h1,h2⟩
   rw [e,e2,Bool.false_or,← ih]
   by_cases hm:Lib.index (b :: l) [47,47] = -1
   ·rw [hm];rfl
   ·rw [if_neg (by simp),if_neg (by simpa using hm)]
    rw [decide_eq_decide];omega
theorem Z9:∀ l:List UInt8,Lib.hasSuffix l [47]=xG l
 | []=>rfl
 | [b]=>by
  unfold Lib.hasSuffix
  simp [xG,List.isSuffixOf,List.isPrefixOf]
  rw [Bool.eq_iff_iff,beq_iff_eq,beq_iff_eq];exact eq_comm
 | a :: b :: l=>by
  rw [xG,← Z9 (b :: l)]
  unfold Lib.hasSuffix
  rw [Bool.eq_iff_iff,List.isSuffixOf_iff_suffix,List.isSuffixOf_iff_suffix]
  constructor
  ·rintro ⟨t,ht⟩
   cases t with
   | nil=>simp at ht
   | cons c t=>simp at ht;exact ⟨t,ht.2⟩
  ·rintro ⟨t,ht⟩;exact ⟨a :: t,by simp [ht]⟩
def emp (l:List (List UInt8)):Bool:=l.any (·.isEmpty)
theorem Xk:∀ (l:List UInt8),(∀ b,b≠47→(xW (b :: l) || xG (b :: l))=emp (lG l).tail)∧(xW (47 :: l) || xG (47 :: l))=emp (lG l)
 | []=>by
  refine ⟨fun b hb=>?_,rfl⟩
  simp [xW,xG,emp,lG,hb]
 | c :: l=>by
  obtain ⟨h1,h2⟩:=Xk l
  by_cases hc:c=47
  ·subst hc
   refine ⟨fun b hb=>?_,?_⟩
   ·rw [NM,List.tail_cons,← h2,xW,xG]
    simp [show (b == 47)=false from beq_eq_false_iff_ne.2 hb]
   ·simp [xW,NM,emp]
  ·obtain ⟨p,r,hs⟩:=List.exists_cons_of_ne_nil (BM l)
   have:=h1 c hc
   rw [hs,List.tail_cons] at this
   refine ⟨fun b hb=>?_,?_⟩
   ·rw [H8 c l hc p r hs,List.tail_cons,← this,xW,xG];simp [show (b == 47)=false from beq_eq_false_iff_ne.2 hb]
   ·rw [H8 c l hc p r hs,show emp ((c :: p) :: r)=emp r by simp [emp],← this,xW,xG];simp [show (c == 47)=false from beq_eq_false_iff_ne.2 hc]
def nb (b:UInt8):Bool:=(decide (97≤b.toNat) && decide (b.toNat≤122)) || (decide (48≤b.toNat) && decide (b.toNat≤57))
def vG (b:UInt8):Bool:=!(nb b || b == 47)
theorem acT (s:ByteArray) (i:Nat) (h:(s.get! i).toNat < 128):Utf8.decode s i=((s.get! i).toNat,1):=by
 unfold Utf8.decode
 simp only [Nat.add_zero]
 rw [if_pos h]
theorem decode_high (s:ByteArray) (i:Nat) (h:¬ (s.get! i).toNat < 128):128≤(Utf8.decode s i).1:=by
 unfold Utf8.decode
 simp only [Nat.add_zero]
 rw [if_neg h]
 have hr:128≤Utf8.runeError:=by decide
 repeat' (first|exact hr|(split))
 all_goals first|exact hr|assumption|(simp only [ge_iff_le,Bool.and_eq_true,decide_eq_true_eq] at *;omega)
theorem Y9 (p:Nat→Bool) (hp:∀ r,p r=!((97≤r && r≤122) || (48≤r && r≤57) || r == 47)) (s:ByteArray):∀ (f pos:Nat),s.size≤pos+f →
  decide (0≤Lib.idxFuncFrom p true s f pos)=(s.data.toList.drop pos).any vG
 | 0,pos,h=>by
  rw [List.drop_of_length_le (by rw [Array.length_toList];exact h)]
  simp [Lib.idxFuncFrom]
 | f+1,pos,h=>by
  unfold Lib.idxFuncFrom
  by_cases hlt:pos < s.size
  ·rw [if_pos hlt]
   have hg:s.get! pos=s.data.toList[pos]'(by rw [Array.length_toList];exact hlt):=by
    show s.data[pos]! = _
    rw [getElem!_pos s.data pos hlt];simp
   rw [List.drop_eq_getElem_cons (by rw [Array.length_toList];exact hlt),List.any_cons,← hg]
   by_cases hb:(s.get! pos).toNat < 128
   ·rw [acT s pos hb,hp]
    have e:(!((decide (97≤(s.get! pos).toNat) && decide ((s.get! pos).toNat≤122)) || (decide (48≤(s.get! pos).toNat) && decide ((s.get! pos).toNat≤57)) || (s.get! pos).toNat == 47))=vG (s.get! pos):=by
     unfold vG nb
     congr 2
     rw [Bool.eq_iff_iff,beq_iff_eq,beq_iff_eq,← UInt8.toNat_inj];rfl
    rw [e]
    cases hq:vG (s.get! pos) with
    | true=>rw [if_pos rfl];simp
    | false=>rw [if_neg (by simp),Bool.false_or];exact Y9 p hp s f (pos+1) (by omega)
   ·have hd:=decode_high s pos hb
    have e1:p (Utf8.decode s pos).1=true:=by
     rw [hp];simp;omega
    have e2:vG (s.get! pos)=true:=by
     unfold vG nb
     have:(s.get! pos == 47)=false:=by
      rw [beq_eq_false_iff_ne];intro e;rw [e] at hb;exact hb (by decide)
     rw [this];simp;omega
    rw [if_pos e1,e2];simp
  ·rw [if_neg hlt,List.drop_of_length_le (by rw [Array.length_toList];exact Nat.le_of_not_lt hlt)];simp

theorem Ho (a b c:Int):uh.f a b c=some (decide (b≤a∧a≤c)):=by
 unfold uh.f
 by_cases h:a ≥ b
 ·rw [if_pos h];congr 1;simp;omega
 ·rw [if_neg h];congr 1;simp;omega

theorem WY (a:ByteArray) (i:Nat) (h:i < a.data.toList.length):bt a (i:Int)=((a.data.toList[i]).toNat:Int):=by
 have h2:i < a.size:=by rw [vV] at h;exact h
 rw [← ET a (i:Int) (by simpa using h2)]
 simp only [Int.toNat_natCast];rfl

def vg (l:List UInt8):ByteArray:=⟨l.toArray⟩
theorem Nu (l:List UInt8):(vg l).data.toList=l:=rfl
theorem ajv (l:List UInt8):(vg l).size=l.length:=C_ l
theorem ajt (b:ByteArray):vg b.data.toList=b:=yS rfl
theorem aju {xs:List ByteArray} {l:List (List UInt8)} (h:xs.map (·.data.toList)=l):xs=l.map vg:=by
 rw [← h,List.map_map]
 have:(vg ∘ fun x:ByteArray=>x.data.toList)=id:=by funext b;exact ajt b
 rw [this,List.map_id]
def rF (out:List ByteArray) (long:Bool) (cur rest:List UInt8):List ByteArray × Int :=
 if rest.any vG then ([],1) else if emp (yA cur rest) then ([],1) else if long || (yA cur rest).any (fun p=>decide (7 < p.length)) then ([],2) else (out++(yA cur rest).map vg,0)
theorem ajx (x:UInt8):(decide ((97:Int)≤(x.toNat:Int)∧(x.toNat:Int)≤122) || decide ((48:Int)≤(x.toNat:Int)∧(x.toNat:Int)≤57))=nb x:=by
 unfold nb
 rw [Bool.eq_iff_iff]
 simp
 omega
theorem acZ (out:List ByteArray) (long:Bool) (cur rest:List UInt8) (x:UInt8) (h:vG x=true):rF out long cur (x :: rest)=([],1):=by
 unfold rF
 rw [if_pos (by simp [h])]
theorem ac3 (out:List ByteArray) (long:Bool) (cur rest:List UInt8) (x:UInt8) (h:nb x=true) (h47:x≠47):rF out long cur (x :: rest)=rF out long (cur++[x]) rest:=by
 unfold rF
 rw [ajW cur x rest h47,List.any_cons,show vG x=false by simp [vG,h],Bool.false_or]
theorem Vt:vG 47=false:=by decide
theorem ac0 (out:List ByteArray) (long:Bool) (rest:List UInt8):rF out long [] (47 :: rest)=([],1):=by
 unfold rF
 rw [ZC,show emp ([] :: lG rest)=true by simp [emp]]
 split <;> rfl
theorem ac4 (out:List ByteArray) (long:Bool) (cur rest:List UInt8) (hc:cur≠[]):rF out long cur (47 :: rest)=rF (out++[vg cur]) (long || decide (7 < cur.length)) [] rest:=by
 unfold rF
 rw [ZC,Hu,List.any_cons,Vt,Bool.false_or]
 rw [show emp (cur :: lG rest)=emp (lG rest) by simp [emp,hc]]
 simp only [List.any_cons,List.map_cons,List.append_assoc,List.singleton_append,Bool.or_assoc]
theorem ac2 (out:List ByteArray) (long:Bool):rF out long [] []=([],1):=by
 unfold rF
 rw [ZB];rfl
theorem ac1 (out:List ByteArray) (long:Bool) (cur:List UInt8) (hc:cur≠[]):rF out long cur []=if (long || decide (7 < cur.length)) then ([],2) else (out++[vg cur],0):=by
 unfold rF
 rw [ZB]
 simp [emp,hc]
theorem TT (a:ByteArray) (hn:a.size≤60):∀ (i dM:Nat) (out:List ByteArray) (long:Bool),dM≤i→i≤a.size→out.length≤i→Ev (fun k=>jk.l0 k a [] out long (dM:Int) (i:Int)) (rF out long ((a.data.toList.take i).drop dM) (a.data.toList.drop i))
 | i,dM,out,long,hb,hi,ho=>by
  refine Ev.step (jk.l0.eq_2 _ _ _ _ _ _) ?_
  have hl:=vV a
  have hcl:((a.data.toList.take i).drop dM).length=i - dM:=by rw [List.length_drop,List.length_take];omega
  have hE:a.extract (dM:Int).toNat (i:Int).toNat=vg ((a.data.toList.take i).drop dM):=yS (by rw [EO,Nu];rfl)
  have hw:wrap64 ((i:Int) - (dM:Int))=(i:Int) - dM:=pI (by omega) (by omega)
  have hlim:out.length < 8796093022208:=by omega
  by_cases h:i < a.size
  ·have h':i < a.data.toList.length:=by omega
   rw [drop_at a.data.toList i h']
   refine bC (by omega) (bC (by omega) (bC (by omega) ?_))
   refine Ev.step (jk.j2.eq_2 _ _ _ _ _ _ _) ?_
   rw [WY a i h']
   have htk:(a.data.toList.take (i+1)).drop dM=(a.data.toList.take i).drop dM++[a.data.toList[i]]:=by
    rw [List.take_succ_eq_append_getElem h',List.drop_append_of_le_length (by rw [List.length_take];omega)]
   have aiS:(a.data.toList.take (i+1)).drop (i+1)=[]:=List.drop_of_length_le (by rw [List.length_take];omega)
   generalize hx:a.data.toList[i]=x at htk
   by_cases h47:x=47
   ·subst h47
    refine dQ (by decide) ?_
    by_cases hbi:dM=i
    ·subst hbi
     refine bC rfl (eU ?_)
     rw [show (a.data.toList.take dM).drop dM=[] from List.eq_nil_of_length_eq_zero (by omega),ac0]
    ·refine dQ (by omega) ?_
     rw [ac4 _ _ _ _ (by intro e;rw [e] at hcl;simp at hcl;omega),hcl]
     have ih:=fun zn=>TT a hn (i+1) (i+1) (out++[vg ((a.data.toList.take i).drop dM)]) zn (Nat.le_refl _) (by omega) (by simp;omega)
     rw [aiS] at ih
     cases long with
     | true =>
      refine bC rfl (bC (by omega) (bC (by omega) (bC (by omega) (bC hlim ?_))))
      rw [hE,qc i (by omega)]
      exact ih true
     | false =>
      refine dQ (by simp) (bC (by omega) (bC (by omega) (bC (by omega) (bC hlim ?_))))
      rw [hE,qc i (by omega),hw]
      have e:decide ((i:Int) - (dM:Int) > 7)=decide (7 < i - dM):=by rw [decide_eq_decide];omega
      rw [e,Bool.false_or]
      exact ih _
   ·have hne:(((x.toNat:Int)) != 47)=true:=by
     rw [bne_iff_ne];intro e;exact h47 (UInt8.toNat_inj.1 (show x.toNat=(47:UInt8).toNat from (show x.toNat=47 by omega)))
    have hxl:x.toNat < 256:=UInt8.toNat_lt x
    refine bC hne (bC (by omega) (bC (by omega) ?_))
    rw [pI (by omega) (by omega)]
    have hj:∀ v,v=!nb x→Ev (fun k=>jk.j3 k a [] out long (dM:Int) (i:Int) v) (rF out long ((a.data.toList.take i).drop dM) (x :: a.data.toList.drop (i+1))):=by
     intro v hv
     refine Ev.step (jk.j3.eq_2 _ _ _ _ _ _ _) ?_
     cases hq:nb x with
     | false=>
      rw [hq] at hv
      exact bC hv (eU (acZ _ _ _ _ _ (by simp [vG,hq,h47])).symm)
     | true =>
      rw [hq] at hv
      subst hv
      refine dQ (by simp) ?_
      rw [ac3 _ _ _ _ _ hq h47,qc i (by omega),← htk]
      exact TT a hn (i+1) dM out long (by omega) (by omega) (by omega)
    have hnb:=ajx x
    refine Ev.bind (jh (Ho _ _ _)) ?_
    by_cases q1:(97:Int)≤(x.toNat:Int)∧(x.toNat:Int)≤122
    ·refine bC (by simpa using q1) (hj _ ?_)
     rw [← hnb,decide_eq_true q1];rfl
    ·refine dQ (by simpa using q1) (Ev.bind (jh (Ho _ _ _)) (hj _ ?_))
     rw [← hnb,decide_eq_false q1,Bool.false_or]
  ·have he:i=a.size:=by omega
   refine bC (by omega) (dQ (by omega) ?_)
   refine Ev.step (jk.j2.eq_2 _ _ _ _ _ _ _) ?_
   refine dQ (by simp) ?_
   rw [List.drop_of_length_le (by omega:a.data.toList.length≤i)]
   by_cases hbi:dM=i
   ·subst hbi
    refine bC rfl (eU ?_)
    rw [show (a.data.toList.take dM).drop dM=[] from List.eq_nil_of_length_eq_zero (by omega),ac2]
   ·refine dQ (by omega) ?_
    rw [ac1 _ _ _ (by intro e;rw [e] at hcl;simp at hcl;omega),hcl]
    have last:∀ (o:List ByteArray) (zn:Bool),Ev (fun k=>jk.l0 k a [] o zn ((i+1:Nat):Int) ((i+1:Nat):Int)) (if zn then ([],2) else (o,0)):=by
     intro o zn
     refine Ev.step (jk.l0.eq_2 _ _ _ _ _ _) ?_
     refine dQ (by omega) ?_
     cases zn with
     | true=>exact bC rfl (eU rfl)
     | false=>exact dQ (by simp) (eU rfl)
    cases long with
    | true =>
     refine bC rfl (bC (by omega) (bC (by omega) (bC (by omega) (bC hlim ?_))))
     rw [hE,qc i (by omega)]
     exact mg (last _ _) (by simp)
    | false =>
     refine dQ (by simp) (bC (by omega) (bC (by omega) (bC (by omega) (bC hlim ?_))))
     rw [hE,qc i (by omega),hw]
     have e:decide ((i:Int) - (dM:Int) > 7)=decide (7 < i - dM):=by rw [decide_eq_decide];omega
     rw [e,Bool.false_or]
     exact last _ _
 termination_by i=>a.size+1 - i
def fK (a:ByteArray):List ByteArray × Int :=
 if 60 < a.size then ([],1) else match a.data.toList with
  | []=>([],1)
  | c :: t=>if c≠47 then ([],1) else if t=[] then ([],0) else rF [] false [] t
theorem H6 (a:ByteArray):Ev (fun k=>jk.f k a) (fK a):=by
 unfold jk.f fK
 simp only [Option.bind_some]
 have hl:=vV a
 have j1:Ev (fun k=>jk.j0 k a [] true) ([],1):=by
  refine Ev.step (jk.j0.eq_2 _ _ _) ?_
  exact bC rfl (eU rfl)
 by_cases h:60 < a.size
 ·rw [if_pos h];exact bC (by omega) j1
 ·rw [if_neg h]
  refine dQ (by omega) ?_
  rcases hq:a.data.toList with _|⟨c,t⟩
  ·rw [hq] at hl;simp at hl
   exact bC (by omega) j1
  ·have hl':=hl
   rw [hq] at hl';simp at hl'
   refine dQ (by omega) (bC (by omega) ?_)
   have hb:=WY a 0 (by omega)
   have e0:a.data.toList[0]'(by omega)=c:=by simp [hq]
   rw [e0] at hb
   rw [show bt a 0=(c.toNat:Int) from hb]
   refine Ev.step (jk.j0.eq_2 _ _ _) ?_
   by_cases h47:c=47
   ·subst h47
    refine dQ (by decide) ?_
    rw [Dc,hq]
    simp only [ne_eq,not_true,if_false]
    by_cases ht:t=[]
    ·subst ht;exact bC rfl (eU rfl)
    ·rw [if_neg ht]
     refine dQ (by simp [ht]) (mg (TT a (by omega) 1 1 [] false (Nat.le_refl _) (by omega) (by simp)) ?_)
     rw [hq];simp
   ·refine bC ?_ (eU (by simp [h47]))
    rw [bne_iff_ne];intro e;exact h47 (UInt8.toNat_inj.1 (show c.toNat=(47:UInt8).toNat from (show c.toNat=47 by omega)))
def BI (xs:List ByteArray):Bool:=xs.any (fun p=>decide (7 < p.size))
theorem Y1 (xs:List ByteArray) (hn:xs.length≤1000000):∀ i:Nat,i≤xs.length→∃ r:Int,Ev (fun k=>vK.l0 k xs (xs.length:Int) (i:Int)) r∧decide (r ≥ 0)=BI (xs.drop i)
 | i,hi=>by
  by_cases h:i < xs.length
  ·rw [drop_at xs i h]
   by_cases hs:7 < xs[i].size
   ·refine ⟨i,?_,?_⟩
    ·refine Ev.step (vK.l0.eq_2 _ _ _) ?_
     refine bC (by omega) (bC (by omega) (bC (by omega) (Ev.bind (jh rfl) (bC ?_ (eU rfl)))))
     rw [Ea _ xs i h];exact decide_eq_true (by omega)
    ·rw [show BI (xs[i] :: xs.drop (i+1))=(decide (7 < xs[i].size) || BI (xs.drop (i+1))) from rfl,decide_eq_true hs];simp
   ·obtain ⟨r,hr,he⟩:=Y1 xs hn (i+1) (by omega)
    refine ⟨r,?_,?_⟩
    ·refine Ev.step (vK.l0.eq_2 _ _ _) ?_
     refine bC (by omega) (bC (by omega) (bC (by omega) (Ev.bind (jh rfl) (dQ ?_ ?_))))
     ·rw [Ea _ xs i h];simp;omega
     ·rw [qc i (by omega)];exact hr
    ·rw [he,show BI (xs[i] :: xs.drop (i+1))=(decide (7 < xs[i].size) || BI (xs.drop (i+1))) from rfl,decide_eq_false hs];simp
  ·refine ⟨-1,?_,?_⟩
   ·refine Ev.step (vK.l0.eq_2 _ _ _) ?_
    exact dQ (by omega) (eU rfl)
   ·rw [List.drop_of_length_le (by omega)];rfl
 termination_by i=>xs.length - i
theorem aiZ (xs:List ByteArray) (hn:xs.length≤1000000):Ev (fun k=>Ed.f k xs ()) (BI xs):=by
 unfold Ed.f vK.f
 obtain ⟨r,hr,he⟩:=Y1 xs hn 0 (by omega)
 exact Ev.bind hr (eU (by rw [he,List.drop_zero]))
theorem Y0 (a:ByteArray):strings_ContainsFunc.f a ()=some (a.data.toList.any vG):=by
 unfold strings_ContainsFunc.f
 congr 1
 have:=Y9 (fun r=>(zf.f (r:Int)).getD false) (fun r=>by
  unfold zf.f DX.f
  by_cases h1:(r:Int) ≥ 97 <;> by_cases h2:(r:Int)≤122 <;> by_cases h3:(r:Int) ≥ 48 <;> by_cases h4:(r:Int)≤57 <;> simp only [h1,h2,h3,h4,if_true,if_false,Option.bind_some,Option.getD_some] <;> rw [Bool.eq_iff_iff] <;> simp <;> omega) a a.size 0 (by omega)
 rw [List.drop_zero] at this
 exact this
theorem ajn (l:List (List UInt8)):BI (l.map vg)=l.any (fun p=>decide (7 < p.length)):=by
 unfold BI
 rw [List.any_map]
 rfl
theorem MX (a:ByteArray) (ha:a.size≤140737488351232):Ev (fun k=>lS.f k a) (fK a):=by
 unfold lS.f fK
 have hl:=vV a
 have j1:Ev (fun k=>lS.j0 k a true) ([],1):=by
  refine Ev.step (lS.j0.eq_2 _ _) ?_
  exact bC rfl (eU rfl)
 by_cases h:60 < a.size
 ·rw [if_pos h];exact bC (by omega) j1
 ·rw [if_neg h]
  refine dQ (by omega) ?_
  have hC:strings_Contains.f a ⟨#[47,47]⟩=some (xW a.data.toList):=by
   unfold strings_Contains.f
   rw [if_pos (by omega)]
   congr 1
   exact Xf _
  have hS:strings_HasSuffix.f a ⟨#[47]⟩=some (xG a.data.toList):=by
   unfold strings_HasSuffix.f
   rw [if_pos (by omega)]
   congr 1
   exact Z9 _
  rcases hq:a.data.toList with _|⟨c,t⟩
  ·refine Ev.bind (jh (show strings_HasPrefix.f a ⟨#[47]⟩=some false by unfold strings_HasPrefix.f;rw [hq];rfl)) ?_
   exact dQ (by simp) j1
  ·have hP:strings_HasPrefix.f a ⟨#[47]⟩=some (c == 47):=by
    unfold strings_HasPrefix.f
    rw [hq]
    congr 1
    show ([47]:List UInt8).isPrefixOf (c :: t)=_
    simp [List.isPrefixOf]
    rw [Bool.eq_iff_iff,beq_iff_eq,beq_iff_eq];exact ⟨fun h=>h.symm,fun h=>h.symm⟩
   refine Ev.bind (jh hP) ?_
   by_cases h47:c=47
   ·subst h47
    refine bC (by simp) ?_
    rw [Dc,hC,hS,hq]
    simp only [ne_eq,not_true,if_false]
    have h1:(1:Int)≤(a.size:Int):=by rw [hq] at hl;simp at hl;omega
    by_cases ht:t=[]
    ·subst ht
     rw [if_pos rfl]
     refine bC rfl (Ev.bind (jh rfl) ?_)
     refine Ev.step (lS.j0.eq_2 _ _) ?_
     refine dQ (by decide) (Ev.bind (jh (Y0 a)) ?_)
     rw [hq]
     refine dQ (by decide) ?_
     rw [Dc,hq]
     exact bC rfl (eU rfl)
    ·rw [if_neg ht]
     refine dQ (by simp [ht]) (Ev.bind (jh rfl) ?_)
     have hemp:=(Xk t).2
     have main:∀ v,v=xW (47 :: t)→xG (47 :: t)=false→Ev (fun k=>lS.j0 k a v) (rF [] false [] t):=by
      intro v hv he
      rw [he,Bool.or_false] at hemp
      refine Ev.step (lS.j0.eq_2 _ _) ?_
      unfold rF
      rw [Hu]
      cases hv2:v with
      | true =>
       refine bC rfl (eU ?_)
       rw [← hemp,← hv,hv2]
       split <;> rfl
      | false =>
       refine dQ (by simp) (Ev.bind (jh (Y0 a)) ?_)
       rw [hq,List.any_cons,Vt,Bool.false_or,← hemp,← hv,hv2]
       cases hb:t.any vG with
       | true=>exact bC rfl (eU (by simp))
       | false =>
        refine dQ (by simp) ?_
        rw [Dc,hq]
        refine dQ (by simp [ht]) (bC h1 ?_)
        have hsz:(a.extract 1 a.size).data.toList=t:=by
         rw [EO,← hl,List.take_length,hq];rfl
        have hsp:strings_Split.f (a.extract 1 a.size) ⟨#[47]⟩=some ((lG t).map vg):=by
         unfold strings_Split.f
         have hs2:(a.extract 1 a.size).size < 4294967281:=by
          rw [← vV,hsz];rw [hq] at hl;simp at hl;omega
         rw [if_pos ⟨hs2,by decide⟩]
         congr 1
         refine aju ?_
         rw [aks,hsz]
        refine Ev.bind (jh hsp) ?_
        have hln:((lG t).map vg).length≤1000000:=by
         have:=TY t
         rw [List.length_map];rw [hq] at hl;simp at hl;omega
        refine Ev.bind (aiZ _ hln) ?_
        rw [ajn]
        cases hg:(lG t).any (fun p=>decide (7 < p.length)) with
        | true=>exact bC rfl (eU (by simp))
        | false=>exact dQ (by simp) (eU (by simp))
     cases he:xG (47 :: t) with
     | true =>
      refine bC rfl (mg j1 ?_)
      rw [he,Bool.or_true] at hemp
      unfold rF
      rw [Hu,← hemp]
      split <;> rfl
     | false =>
      refine dQ (by simp) (Ev.bind (jh rfl) ?_)
      exact main _ rfl he
   ·refine dQ (by simp [h47]) (mg j1 ?_)
    simp [h47]

theorem H9 (a:ByteArray):(fK a).1.length≤1000:=by
 unfold fK
 split
 ·simp
 ·rename_i h
  have hl:=vV a
  split
  ·simp
  ·rename_i c t hq
   split
   ·simp
   ·split
    ·simp
    ·unfold rF
     have:=TY t
     rw [hq] at hl;simp at hl
     repeat' (first|(split)|(simp;done))
     rw [Hu];simp;omega
theorem Z_ {α:Type} (f:α→Nat) (xs:List α) (n:Nat):qI f (xs.take n)≤qI f xs:=by
 induction xs generalizing n with
 | nil=>simp
 | cons x r ih =>
  cases n with
  | zero=>simp [qI]
  | succ n=>rw [List.take_succ_cons,BQ,BQ];have:=ih n;omega
theorem Z5:∀ l:List UInt8,qI (fun p:List UInt8=>p.length) (lG l)≤l.length
 | []=>by simp [lG,qI]
 | b :: l=>by
  have ih:=Z5 l
  by_cases h:b=47
  ·subst h;rw [NM,BQ];simp;omega
  ·obtain ⟨p,r,hs⟩:=List.exists_cons_of_ne_nil (BM l)
   rw [H8 b l h p r hs,BQ]
   rw [hs,BQ] at ih
   simp;omega
theorem aku (l:List (List UInt8)):qI (fun b:ByteArray=>b.size) (l.map vg)=qI (fun p:List UInt8=>p.length) l:=by
 induction l with
 | nil=>rfl
 | cons p r ih=>rw [List.map_cons,BQ,BQ,ih,ajv]
theorem T_ (a:ByteArray) (h:(fK a).2=0):a.size≤60∧((a.data.toList=[47]∧(fK a).1=[])∨∃ t,a.data.toList=47 :: t∧t≠[]∧t.any vG=false∧emp (lG t)=false∧(lG t).any (fun p=>decide (7 < p.length))=false∧(fK a).1=(lG t).map vg):=by
 unfold fK at h ⊢
 split at h
 ·cases h
 rename_i h60
 rw [if_neg h60]
 refine ⟨by omega,?_⟩
 split at h
 ·cases h
 ·rename_i c t hq
  rw [hq]
  split at h
  ·cases h
  ·rename_i h47
   simp only [ne_eq,Decidable.not_not] at h47
   subst h47
   split at h
   ·rename_i ht
    subst ht
    exact Or.inl ⟨rfl,by simp⟩
   ·rename_i ht
    right
    refine ⟨t,rfl,ht,?_⟩
    simp only [ne_eq,not_true,if_false,if_neg ht]
    unfold rF at h ⊢
    rw [Hu] at h ⊢
    cases hb:t.any vG with
    | true=>rw [hb] at h;cases h
    | false =>
     cases he:emp (lG t) with
     | true=>rw [hb,he] at h;cases h
     | false =>
      cases hl:(lG t).any (fun p=>decide (7 < p.length)) with
      | true=>rw [hb,he,hl] at h;cases h
      | false=>simp
theorem akq (a:ByteArray):(fK a).1.length+qI (fun b:ByteArray=>b.size) (fK a).1≤1000000:=by
 unfold fK
 split
 ·simp [qI]
 ·rename_i h
  have hl:=vV a
  split
  ·simp [qI]
  ·rename_i c t hq
   rw [hq] at hl;simp at hl
   split
   ·simp [qI]
   ·split
    ·simp [qI]
    ·unfold rF
     have h1:=TY t
     have h2:=Z5 t
     repeat' (first|(simp [qI];done)|split)
     rw [Hu,List.nil_append,aku,List.length_map];omega

def jn:List ByteArray→List UInt8
 | []=>[]
 | x :: r=>47 :: (x.data.toList++jn r)
theorem Na (xs:List ByteArray):(jn xs).length=xs.length+qI (fun s:ByteArray=>s.size) xs:=by
 induction xs with
 | nil=>rfl
 | cons x r ih=>rw [BQ];simp [jn,ih];omega
def jp (xs:List ByteArray):ByteArray:=if xs=[] then ⟨#[47]⟩ else ⟨(jn xs).toArray⟩
theorem ai' (x:ByteArray) (r:List ByteArray):jn (x :: r)=47 :: Lib.join ((x :: r).map (·.data.toList)) [47]:=by
 unfold Lib.join
 induction r generalizing x with
 | nil=>simp [jn,List.intercalate]
 | cons y s ih =>
  have:=ih y
  simp only [jn] at this ⊢
  rw [List.map_cons,List.map_cons,List.intercalate_cons_cons]
  simp only [List.map_cons] at this
  rw [this]
  simp
theorem ZR (xs:List ByteArray) (hn:xs.length+qI (fun s:ByteArray=>s.size) xs≤100000000000000):∀ (i:Nat) (o:ByteArray),i≤xs.length→o.size+(jn (xs.drop i)).length≤100000000000000→Ev (fun k=>uD.l0 k xs o i) (⟨(o.data.toList++jn (xs.drop i)).toArray⟩)
 | i,o,hi,ho=>by
  refine Ev.step (uD.l0.eq_2 _ _ _) ?_
  by_cases h:i < xs.length
  ·rw [drop_at xs i h] at ho ⊢
   have hl:(jn (xs[i] :: xs.drop (i+1))).length=1+xs[i].size+(jn (xs.drop (i+1))).length:=by simp [jn];omega
   have e1:(⟨#[47]⟩:ByteArray).size=1:=rfl
   refine bC (by omega) (bC (by omega) (bC (by omega) ?_))
   rw [Ea _ xs i h,qc i (by omega)]
   refine bC (by rw [ByteArray.size_append,e1];omega) (mg (ZR xs hn (i+1) _ (by omega) (by rw [ByteArray.size_append,ByteArray.size_append,e1];omega)) ?_)
   rw [Bg,Bg]
   simp [jn]
  ·refine dQ (by omega) (eU (yS ?_))
   rw [Aa,List.drop_of_length_le (by omega)];simp [jn]
 termination_by i=>xs.length - i
theorem ZQ (xs:List ByteArray) (hn:xs.length+qI (fun s:ByteArray=>s.size) xs≤100000000000000):Ev (fun k=>uD.f k xs) (jp xs):=by
 unfold uD.f jp
 by_cases h:xs=[]
 ·subst h
  exact bC rfl (eU rfl)
 ·rw [if_neg h]
  refine dQ (by have:=List.length_pos_iff.2 h;omega) (mg (ZR xs hn 0 _ (by omega) (by rw [List.drop_zero,Na];have:(⟨#[]⟩:ByteArray).size=0:=rfl;omega)) ?_)
  rfl

theorem Y2 (xs:List ByteArray) (hn:xs.length+qI (fun s:ByteArray=>s.size) xs≤100000000000000):y9.f xs=some (jp xs):=by
 unfold y9.f jp
 match xs with
 | []=>rfl
 | x :: r =>
  have hj:=ai' x r
  have hl:=Na (x :: r)
  have hl2:(Lib.join ((x :: r).map (·.data.toList)) (⟨#[47]⟩:ByteArray).data.toList).length+1=(jn (x :: r)).length:=by rw [hj];rfl
  rw [if_neg (by simp;omega),if_neg (by simp)]
  unfold strings_Join.f
  rw [if_pos ⟨by omega,by omega⟩,Option.bind_some,if_pos (by rw [C_];omega)]
  congr 1
  refine yS ?_
  rw [Bg,Aa,Aa,hj];rfl

theorem Xi {α:Type} (xs ys:List α) (i:Nat) (h1:i < xs.length) (h2:i < ys.length):xs.drop i=ys.drop i ↔ xs[i]=ys[i]∧xs.drop (i+1)=ys.drop (i+1):=by
 rw [drop_at xs i h1,drop_at ys i h2,List.cons.injEq]
open Classical in
noncomputable def E5 (xs ys:List ByteArray):Bool:=decide (xs=ys)
noncomputable def Es (a b:ByteArray):Bool:=decide ((fK a).2=0) && (decide ((fK b).2=0) && (decide ((fK b).1.length < (fK a).1.length) && E5 ((fK a).1.take (fK b).1.length) (fK b).1))
open Classical in
theorem Z4 (xs ys:List ByteArray) (hl:ys.length < xs.length) (hn:xs.length≤4000000):∀ i:Nat,i≤ys.length→Ev (fun k=>pz.l0 k xs ys i) (E5 ((xs.take ys.length).drop i) (ys.drop i))
 | i,hi=>by
  refine Ev.step (pz.l0.eq_2 _ _ _) ?_
  have ht:(xs.take ys.length).length=ys.length:=by rw [List.length_take];omega
  by_cases h:i < ys.length
  ·refine bC (by omega) (bC (by omega) (bC (by omega) ?_))
   rw [Ea _ xs i (by omega),Ea _ ys i h,qc i (by omega)]
   have hx:(xs.take ys.length)[i]'(by omega)=xs[i]'(by omega):=List.getElem_take
   by_cases he:xs[i]'(by omega)=ys[i]
   ·refine bC (by rw [he]) (mg (Z4 xs ys hl hn (i+1) (by omega)) ?_)
    unfold E5
    simp only [Xi (xs.take ys.length) ys i (by omega) h,hx,he,true_and]
   ·refine dQ (fun hc=>he (toList_inj hc)) (eU ?_)
    unfold E5
    simp only [Xi (xs.take ys.length) ys i (by omega) h,hx,he,false_and,decide_false]
  ·refine dQ (by omega) (eU ?_)
   rw [List.drop_of_length_le (by omega),List.drop_of_length_le (by omega)]
   unfold E5;simp
 termination_by i=>ys.length - i
theorem ZY (a b:ByteArray):Ev (fun k=>pz.f k a b) (Es a b):=by
 unfold pz.f Es
 have hn:=H9 a
 refine Ev.bind (H6 a) (Ev.bind (H6 b) ?_)
 have no:∀ v:Bool,v=true→Ev (fun k=>pz.j0 k (fK a).1 (fK b).1 v) false:=by
  intro v hv
  refine Ev.step (pz.j0.eq_2 _ _ _) ?_
  exact bC hv (eU rfl)
 by_cases h1:(fK a).2=0
 ·by_cases h2:(fK b).2=0
  ·refine bC h1 (bC h2 ?_)
   by_cases h3:(fK b).1.length < (fK a).1.length
   ·rw [decide_eq_false (by omega:¬ ((fK a).1.length:Int)≤((fK b).1.length:Int))]
    refine Ev.step (pz.j0.eq_2 _ _ _) ?_
    refine dQ (by simp) (mg (Z4 _ _ h3 (by omega) 0 (by omega)) ?_)
    simp [h1,h2,h3]
   ·exact mg (no _ (decide_eq_true (by omega))) (by simp [h3])
  ·exact bC h1 (dQ h2 (mg (no _ rfl) (by simp [h2])))
 ·exact dQ h1 (mg (no _ rfl) (by simp [h1]))

theorem Zd:∀ t:List UInt8,jn ((lG t).map vg)=47 :: t
 | []=>by simp [lG,jn,vg]
 | b :: l=>by
  have ih:=Zd l
  by_cases h:b=47
  ·subst h;rw [NM];simp [jn,Nu,ih]
  ·obtain ⟨p,r,hs⟩:=List.exists_cons_of_ne_nil (BM l)
   rw [H8 b l h p r hs]
   rw [hs] at ih
   simp [jn,Nu] at ih ⊢
   exact ih
theorem ZO (a:ByteArray) (h:(fK a).2=0):jp (fK a).1=a:=by
 obtain ⟨_,⟨h0,h1⟩|⟨t,ht,_,_,_,_,hs⟩⟩:=T_ a h
 ·rw [h1];exact yS h0.symm
 ·rw [hs]
  refine yS ?_
  unfold jp
  rw [if_neg (by simp [BM t]),Aa,Zd,ht]
theorem Ze (xs:List ByteArray) (h:xs≠[]):(jp xs).size=xs.length+qI (fun s:ByteArray=>s.size) xs:=by
 unfold jp
 rw [if_neg h,C_,Na]
theorem akv (xs:List ByteArray) (n:Nat):qI (fun s:ByteArray=>s.size) (xs.take n)≤qI (fun s:ByteArray=>s.size) xs:=Z_ _ xs n
theorem akF (a b:ByteArray) (h:Es a b=true):b.size≤a.size:=by
 unfold Es at h
 simp only [Bool.and_eq_true,decide_eq_true_eq] at h
 obtain ⟨ha,hb,hl,he⟩:=h
 have e:(fK a).1.take (fK b).1.length=(fK b).1:=by
  unfold E5 at he
  simpa using he
 have ea:=ZO a ha
 have eb:=ZO b hb
 have na:(fK a).1≠[]:=by intro c;rw [c] at hl;simp at hl
 have sa:=Ze _ na
 rw [ea] at sa
 by_cases nb:(fK b).1=[]
 ·rw [nb] at eb
  have:b.size=1:=by rw [← eb];rfl
  omega
 ·have sb:=Ze _ nb
  rw [eb] at sb
  have:=akv (fK a).1 (fK b).1.length
  rw [e] at this
  omega

noncomputable def AO (fr h_:ByteArray) (x:aF):aF:=open Classical in if x.f0.toList=fr.toList∨Es x.f0 fr=true then ⟨h_++x.f0.extract fr.size x.f0.size,x.f1,x.f2⟩ else x
def BH (x y:aF):Bool:=!(Op.bytesLess x.f0.toList y.f0.toList)
def zL (x:aF) (out:List aF):List aF:=out.takeWhile (BH x)++[x]++out.dropWhile (BH x)
noncomputable def zO (fr h_:ByteArray):List aF→List aF→List aF
 | [],out=>out
 | x :: r,out=>zO fr h_ r (zL (AO fr h_ x) out)
theorem Zc (x:aF) (out:List aF):(zL x out).length=out.length+1:=by
 have e:=congrArg List.length (List.takeWhile_append_dropWhile (p:=BH x) (l:=out))
 unfold zL
 simp only [List.length_append,List.length_singleton] at e ⊢
 omega
theorem ai8 (x y:aF) (out:List aF):y ∈ zL x out ↔ y=x∨y ∈ out:=by
 have e:y ∈ out ↔ y ∈ out.takeWhile (BH x)++out.dropWhile (BH x):=by rw [List.takeWhile_append_dropWhile]
 rw [e]
 unfold zL
 simp only [List.mem_append,List.mem_singleton]
 exact ⟨fun h=>h.elim (fun h=>h.elim (fun h=>.inr (.inl h)) .inl) (fun h=>.inr (.inr h)),fun h=>h.elim (fun h=>.inl (.inr h)) (fun h=>h.elim (fun h=>.inl (.inl h)) .inr)⟩
theorem Uy {α:Type} (p:α→Bool):∀ (l:List α) (i:Nat),(∀ y ∈ l.take i,p y=true)→(∀ h:i < l.length,p l[i]=false)→l.takeWhile p=l.take i∧l.dropWhile p=l.drop i
 | [],i,_,_=>by simp
 | x :: r,0,_,h=>by
  have:=h (by simp)
  rw [List.getElem_cons_zero] at this
  simp [List.takeWhile,List.dropWhile,this]
 | x :: r,i+1,h,h2=>by
  have hx:p x=true:=h x (by simp)
  have:=Uy p r i (fun y hy=>h y (by simp [hy])) (fun hh=>by have q:=h2 (by simp;omega);rw [List.getElem_cons_succ] at q;exact q)
  simp [List.takeWhile,List.dropWhile,hx,this.1,this.2]
theorem ZW (fr h_:ByteArray) (xs:List aF) (j:Nat) (p:ByteArray) (b:Bool) (t:ByteArray) (out r:List aF) (hn:out.length≤2000000) (hj:j≤2000000)
  (hr:Ev (fun k=>iZ.l0 k fr h_ ((j+1:Nat):Int) xs (zL ⟨p,b,t⟩ out)) r):∀ i:Nat,i≤out.length→(∀ y ∈ out.take i,BH ⟨p,b,t⟩ y=true)→Ev (fun k=>iZ.l1 k fr h_ (j:Int) (i:Int) xs out p b t) r
 | i,hi,ha=>by
  refine Ev.step (iZ.l1.eq_2 _ _ _ _ _ _ _ _ _) ?_
  by_cases h:i < out.length
  ·refine bC (by omega) (bC (by omega) ?_)
   rw [yC out i h]
   by_cases hl:Op.bytesLess p.toList out[i].f0.toList=true
   ·have ht:=Uy (BH ⟨p,b,t⟩) out i ha (fun _=>by show (!(Op.bytesLess p.toList out[i].f0.toList))=false;rw [hl];rfl)
    refine bC hl ?_
    refine Ev.bind (eU rfl) (bC (by omega) (Ev.bind (eU rfl) (bC (by simp;omega) (Ev.bind (eU rfl) (Ev.bind (eU rfl) (bC (by simp;omega) (Ev.bind (eU rfl) (Ev.bind (eU rfl) (bC (by simp;omega) ?_)))))))))
    rw [qc j (by omega),Int.toNat_natCast,List.nil_append]
    unfold zL at hr
    rw [ht.1,ht.2] at hr
    exact hr
   ·refine dQ hl ?_
    rw [qc i (by omega)]
    refine ZW fr h_ xs j p b t out r hn hj hr (i+1) (by omega) (fun y hy=>?_)
    rw [List.take_succ_eq_append_getElem h,List.mem_append,List.mem_singleton] at hy
    rcases hy with hy|rfl
    ·exact ha y hy
    ·show (!(Op.bytesLess p.toList out[i].f0.toList))=true
     rw [Bool.not_eq_true] at hl
     rw [hl];rfl
  ·have ht:=Uy (BH ⟨p,b,t⟩) out i ha (fun h'=>absurd h' h)
   refine dQ (by omega) ?_
   refine Ev.bind (eU rfl) (bC (by omega) (bC (by omega) (Ev.bind (eU rfl) (bC (by simp;omega) (Ev.bind (eU rfl) (Ev.bind (eU rfl) (bC (by simp;omega) (Ev.bind (eU rfl) (Ev.bind (eU rfl) (bC (by simp;omega) ?_))))))))))
   rw [qc j (by omega),Int.toNat_natCast,List.nil_append]
   unfold zL at hr
   rw [ht.1,ht.2] at hr
   exact hr
 termination_by i=>out.length - i
theorem ZV (fr h_:ByteArray) (xs:List aF) (hn:xs.length≤1048577) (ht:h_.size≤4000000) (hs:∀ y ∈ xs,y.f0.size≤4000000):∀ (j:Nat) (out:List aF),j≤xs.length→out.length≤j→Ev (fun k=>iZ.l0 k fr h_ (j:Int) xs out) (zO fr h_ (xs.drop j) out)
 | j,out,hj,ho=>by
  refine Ev.step (iZ.l0.eq_2 _ _ _ _ _) ?_
  by_cases h:j < xs.length
  ·have hm:=hs _ (List.getElem_mem h)
   rw [drop_at xs j h]
   have ih:=ZV fr h_ xs hn ht hs (j+1) (zL (AO fr h_ xs[j]) out) (by omega) (by rw [Zc];omega)
   have j2:∀ (p:ByteArray) (b:Bool) (t:ByteArray),(⟨p,b,t⟩:aF)=AO fr h_ xs[j]→Ev (fun k=>iZ.j2 k fr h_ (j:Int) xs out p b t) (zO fr h_ (xs[j] :: xs.drop (j+1)) out):=by
    intro p b t e
    refine Ev.step (iZ.j2.eq_2 _ _ _ _ _ _ _ _) ?_
    refine ZW fr h_ xs j p b t out _ (by omega) (by omega) ?_ 0 (by omega) (by simp)
    rw [e];exact ih
   have j1:∀ z:Bool,(z=true ↔ (xs[j].f0.toList=fr.toList∨Es xs[j].f0 fr=true))→Ev (fun k=>iZ.j1 k fr h_ (j:Int) z xs out xs[j].f0 xs[j].f1 xs[j].f2) (zO fr h_ (xs[j] :: xs.drop (j+1)) out):=by
    intro z hz
    refine Ev.step (iZ.j1.eq_2 _ _ _ _ _ _ _ _ _) ?_
    by_cases c:z=true
    ·have hc:=hz.1 c
     have hl:fr.size≤xs[j].f0.size:=by
      rcases hc with hc|hc
      ·rw [toList_inj hc];exact Nat.le_refl _
      ·exact akF _ _ hc
     refine bC c (bC (by omega) (bC (by omega) ?_))
     rw [Int.toNat_natCast]
     refine bC (by rw [ByteArray.size_extract];omega) (j2 _ _ _ ?_)
     unfold AO
     rw [if_pos hc]
    ·refine dQ c (j2 _ _ _ ?_)
     unfold AO
     rw [if_neg (fun hh=>c (hz.2 hh))]
   refine bC (by omega) (bC (by omega) ?_)
   rw [yC xs j h]
   by_cases he:xs[j].f0.toList=fr.toList
   ·exact bC he (j1 true ⟨fun _=>.inl he,fun _=>rfl⟩)
   ·exact dQ he (Ev.bind (ZY _ _) (j1 _ ⟨fun hh=>.inr hh,fun hh=>hh.resolve_left he⟩))
  ·refine dQ (by omega) (eU ?_)
   rw [List.drop_of_length_le (by omega)];rfl
 termination_by j=>xs.length - j
theorem akk (fr h_:ByteArray) (xs:List aF) (hn:xs.length≤1048577) (ht:h_.size≤4000000) (hs:∀ y ∈ xs,y.f0.size≤4000000):Ev (fun k=>iZ.f k xs fr h_) (zO fr h_ xs []):=by
 unfold iZ.f
 exact ZV fr h_ xs hn ht hs 0 [] (by omega) (by simp)
def vB (n s:Nat) (xs:List aF):Prop:=xs.length≤n∧∀ y ∈ xs,y.f0.size≤s∧y.f2.size≤s
theorem zW {n s m z:Nat} {xs:List aF} (h:vB n s xs) (h1:n≤m) (h2:s≤z):vB m z xs:=⟨by have:=h.1;omega,fun y hy=>by have:=h.2 y hy;omega⟩
theorem ajw (fr h_:ByteArray) (x:aF):(AO fr h_ x).f0.size≤h_.size+x.f0.size∧(AO fr h_ x).f2=x.f2:=by
 unfold AO
 split
 ·refine ⟨?_,rfl⟩
  show (h_++x.f0.extract fr.size x.f0.size).size≤_
  rw [ByteArray.size_append,ByteArray.size_extract];omega
 ·exact ⟨by omega,rfl⟩
theorem Zp (fr h_:ByteArray) (s:Nat):∀ (xs out:List aF),(∀ y ∈ xs,y.f0.size≤s∧y.f2.size≤s)→(∀ y ∈ out,y.f0.size≤s+h_.size∧y.f2.size≤s+h_.size)→(zO fr h_ xs out).length=xs.length+out.length∧∀ y ∈ zO fr h_ xs out,y.f0.size≤s+h_.size∧y.f2.size≤s+h_.size
 | [],out,_,ho=>⟨by simp [zO],ho⟩
 | x :: r,out,hx,ho=>by
  unfold zO
  have hz:=ajw fr h_ x
  have hq:=hx x (by simp)
  have ih:=Zp fr h_ s r (zL (AO fr h_ x) out) (fun y hy=>hx y (by simp [hy])) (fun y hy=>by
   rcases (ai8 _ _ _).1 hy with rfl|hy
   ·rw [hz.2];omega
   ·exact ho y hy)
  exact ⟨by rw [ih.1,Zc,List.length_cons];omega,ih.2⟩

theorem Y7 {α:Type} (p:α→α→Bool) (z:α):∀ (xs:List α) (i:Nat),0≤Lib.idxByFrom p z xs i→Lib.idxByFrom p z xs i < ((i+xs.length:Nat):Int)
 | [],i,h=>by simp [Lib.idxByFrom] at h
 | x :: r,i,h=>by
  unfold Lib.idxByFrom at h ⊢
  by_cases hp:p z x=true
  ·rw [if_pos hp];simp;omega
  ·rw [if_neg hp] at h ⊢
   have:=Y7 p z r (i+1) h
   simp at this ⊢;omega
theorem M_ {α:Type} (p:α→α→Bool) (z:α) (xs:List α) (h:¬ Lib.idxBy p xs z < 0):0≤Lib.idxBy p xs z∧Lib.idxBy p xs z < (xs.length:Int):=by
 have h0:0≤Lib.idxBy p xs z:=by omega
 refine ⟨h0,?_⟩
 have:=Y7 p z xs 0 h0
 rw [Nat.zero_add] at this
 exact this

def ng (p:ByteArray):aF→aF→Bool:=fun _ y=>y.f0.toList == p.toList
theorem ZP (xs:List aF) (p:ByteArray) (hn:xs.length≤4000000):∀ i:Nat,i≤xs.length→Ev (fun k=>qG.l0 k p i xs) (Lib.idxByFrom (ng p) z43 (xs.drop i) i)
 | i,hi=>by
  refine Ev.step (qG.l0.eq_2 _ _ _) ?_
  by_cases h:i < xs.length
  ·refine bC (by omega) (bC (by omega) ?_)
   rw [yC xs i h,qc i (by omega),drop_at xs i h]
   by_cases he:(xs[i].f0).toList=p.toList
   ·exact bC he (eU (by simp [Lib.idxByFrom,ng,he]))
   ·refine dQ he (mg (ZP xs p hn (i+1) (by omega)) ?_)
    simp [Lib.idxByFrom,ng,he]
  ·refine dQ (by omega) (eU ?_)
   rw [List.drop_of_length_le (by omega)];rfl
 termination_by i=>xs.length - i
theorem JX (xs:List aF) (p:ByteArray) (hn:xs.length≤4000000):Ev (fun k=>qG.f k xs p) (Lib.idxBy (ng p) xs z43):=by
 unfold qG.f
 have:=ZP xs p hn 0 (by omega)
 rw [List.drop_zero] at this
 exact this
theorem MW (xs:List aF) (p:ByteArray) (hn:xs.length≤4000000):ug.f xs p=some (Lib.idxBy (ng p) xs z43):=by
 unfold ug.f
 first
  | (rw [if_pos (by omega)];rfl)
  | (unfold H7.f;rw [if_pos (by omega)];rfl)

def rY (a:ByteArray):ByteArray:=if (fK a).2=0 then (if (fK a).1=[] then ⟨#[]⟩ else jp ((fK a).1.take ((fK a).1.length - 1))) else ⟨#[]⟩
theorem JR (a:ByteArray) (n:Nat):((fK a).1.take n).length+qI (fun b:ByteArray=>b.size) ((fK a).1.take n)≤100000000000000:=by
 have h1:=akq a
 have h2:=Z_ (fun b:ByteArray=>b.size) (fK a).1 n
 have h3:((fK a).1.take n).length≤(fK a).1.length:=by rw [List.length_take];omega
 omega
theorem ZA (a:ByteArray) (J:Nat→List ByteArray→Option ByteArray) (hJ:∀ n,Ev (fun k=>J k ((fK a).1.take n)) (jp ((fK a).1.take n))) :
  Ev (fun k=>if ((fK a).1.length:Int)=0 then some (⟨#[]⟩:ByteArray) else if 0≤wrap64 (((fK a).1.length:Int) - 1) then (if wrap64 (((fK a).1.length:Int) - 1)≤((fK a).1.length:Int) then (J k ((fK a).1.take (wrap64 (((fK a).1.length:Int) - 1)).toNat)).bind fun t=>some t else none) else none) (if (fK a).1=[] then ⟨#[]⟩ else jp ((fK a).1.take ((fK a).1.length - 1))):=by
 have hn:=H9 a
 by_cases h:(fK a).1=[]
 ·exact bC (by rw [h];rfl) (eU (if_pos h).symm)
 ·have hp:=List.length_pos_iff.2 h
  refine dQ (by omega) ?_
  rw [pI (by omega) (by omega)]
  refine bC (by omega) (bC (by omega) ?_)
  rw [show (((fK a).1.length:Int) - 1).toNat=(fK a).1.length - 1 by omega]
  exact Ev.bind (hJ _) (eU (if_neg h).symm)
theorem NI (a:ByteArray):Ev (fun k=>wI.f k a) (rY a):=by
 unfold wI.f rY
 refine Ev.bind (H6 a) ?_
 by_cases h:(fK a).2=0
 ·exact bC h (mg (ZA a (fun k xs=>uD.f k xs) (fun n=>ZQ _ (JR a n))) (if_pos h).symm)
 ·exact dQ h (eU (if_neg h).symm)

theorem Y6 (a:ByteArray) (ha:a.size≤140737488351232):Ev (fun k=>wX.f k a) (rY a):=by
 unfold wX.f rY
 refine Ev.bind (MX a ha) ?_
 by_cases h:(fK a).2=0
 ·exact bC h (mg (ZA a (fun k xs=>y9.f xs) (fun n=>jh (Y2 _ (JR a n)))) (if_pos h).symm)
 ·exact dQ h (eU (if_neg h).symm)

theorem akr (a:ByteArray) (h:(fK a).2=0):∀ x ∈ (fK a).1,x.data.toList≠[]:=by
 intro x hx
 obtain ⟨_,⟨_,h1⟩|⟨t,ht,h0,hb,he,hl,hs⟩⟩:=T_ a h
 ·rw [h1] at hx;cases hx
 ·rw [hs] at hx
  obtain ⟨p,hp,rfl⟩:=List.mem_map.1 hx
  rw [Nu]
  intro hc
  subst hc
  have:emp (lG t)=true:=by unfold emp;exact List.any_eq_true.2 ⟨[],hp,rfl⟩
  rw [this] at he;cases he
theorem aja (a:ByteArray) (h:(fK a).2=0) (n:Nat) (h1:1≤n) (h2:n≤(fK a).1.length):(jp ((fK a).1.take n)).toList≠([47]:List UInt8):=by
 have hs:=akr a h
 rw [Dc]
 revert hs h2
 generalize (fK a).1=ps
 intro h2 hs
 match ps,n,h1,h2 with
 | [],n+1,_,h2=>simp at h2
 | x :: r,n+1,_,_ =>
  rw [List.take_succ_cons]
  unfold jp
  rw [if_neg (by simp),Aa]
  unfold jn
  intro hc
  have:=hs x (by simp)
  simp at hc
  exact this (by simpa using hc.1)
def uU (xs:List aF) (p:ByteArray):Bool:=if p.toList=([47]:List UInt8) then true else if Lib.idxBy (ng p) xs z43 ≥ 0 then (aC xs (Lib.idxBy (ng p) xs z43)).f1 else false
theorem TJ (xs:List aF) (p:ByteArray) (hn:xs.length≤4000000):Ev (fun k=>yI.f k xs p) (uU xs p):=by
 unfold yI.f uU
 by_cases h:p.toList=([47]:List UInt8)
 ·exact bC h (eU (if_pos h).symm)
 ·rw [if_neg h]
  refine dQ h (Ev.bind (JX xs p hn) ?_)
  by_cases hc:Lib.idxBy (ng p) xs z43 ≥ 0
  ·have:=M_ (ng p) z43 xs (by omega)
   exact bC hc (bC this.1 (bC this.2 (eU (if_pos hc).symm)))
  ·exact dQ hc (eU (if_neg hc).symm)

theorem Z7 (a:ByteArray) (h0:(fK a).2=0) (hr:a.toList≠([47]:List UInt8)):1≤(fK a).1.length:=by
 obtain ⟨_,⟨h,_⟩|⟨t,ht,_,hb,he,hl,hs⟩⟩:=T_ a h0
 ·exact absurd (by rw [Dc];exact h) hr
 ·rw [hs,List.length_map]
  exact List.length_pos_iff.2 (BM t)

def AL (xs:List aF) (ps:List ByteArray):Nat→Nat→Int
 | 0,_=>3
 | f+1,i=>if Lib.idxBy (ng (jp (ps.take i))) xs z43 < 0 then 3 else if (aC xs (Lib.idxBy (ng (jp (ps.take i))) xs z43)).f1=true then AL xs ps f (i+1) else 4
def zo (xs:List aF) (a:ByteArray):Int:=if a.toList=([47]:List UInt8) then 0 else if Lib.idxBy (ng a) xs z43 ≥ 0 then 0 else if (fK a).2=0 then AL xs (fK a).1 ((fK a).1.length - 1) 1 else (fK a).2
theorem ZU (xs:List aF) (hx:xs.length≤4000000) (a:ByteArray) (h0:(fK a).2=0):∀ (f i:Nat),1≤i→i+f=(fK a).1.length→Ev (fun k=>o7.l0 k (fK a).1 (i:Int) xs) (AL xs (fK a).1 f i)
 | f,i,h1,hf=>by
  have hp:=H9 a
  refine Ev.step (o7.l0.eq_2 _ _ _) ?_
  cases f with
  | zero=>exact dQ (by omega) (eU rfl)
  | succ f =>
   refine bC (by omega) (bC (by omega) (bC (by omega) ?_))
   rw [Int.toNat_natCast]
   refine Ev.bind (ZQ _ (JR a i)) (Ev.bind (JX xs _ hx) ?_)
   unfold AL
   by_cases hc:Lib.idxBy (ng (jp ((fK a).1.take i))) xs z43 < 0
   ·rw [if_pos hc];exact bC hc (eU rfl)
   ·rw [if_neg hc]
    refine dQ hc (Ev.bind (TJ xs _ hx) ?_)
    unfold uU
    rw [if_neg (aja a h0 i h1 (by omega)),if_pos (show Lib.idxBy (ng (jp ((fK a).1.take i))) xs z43 ≥ 0 by omega)]
    by_cases hd:(aC xs (Lib.idxBy (ng (jp ((fK a).1.take i))) xs z43)).f1=true
    ·rw [qc i (by omega)]
     exact bC hd (mg (ZU xs hx a h0 f (i+1) (by omega) (by omega)) (if_pos hd).symm)
    ·exact dQ hd (eU (if_neg hd).symm)
theorem Y5 (xs:List aF) (hx:xs.length≤4000000) (a:ByteArray) (h0:(fK a).2=0):∀ (f i:Nat),1≤i→i+f=(fK a).1.length→Ev (fun k=>oH.l0 k (fK a).1 (i:Int) xs) (AL xs (fK a).1 f i)
 | f,i,h1,hf=>by
  have hp:=H9 a
  refine Ev.step (oH.l0.eq_2 _ _ _) ?_
  cases f with
  | zero=>exact dQ (by omega) (eU rfl)
  | succ f =>
   refine bC (by omega) (bC (by omega) (bC (by omega) ?_))
   rw [Int.toNat_natCast]
   refine Ev.bind (jh (Y2 _ (JR a i))) (Ev.bind (jh (MW xs _ hx)) ?_)
   unfold AL
   by_cases hc:Lib.idxBy (ng (jp ((fK a).1.take i))) xs z43 < 0
   ·rw [if_pos hc];exact bC hc (eU rfl)
   ·rw [if_neg hc]
    have hi:=M_ (ng (jp ((fK a).1.take i))) z43 xs hc
    refine dQ hc (bC hi.1 (bC hi.2 ?_))
    by_cases hd:(aC xs (Lib.idxBy (ng (jp ((fK a).1.take i))) xs z43)).f1=true
    ·rw [qc i (by omega)]
     exact bC hd (mg (Y5 xs hx a h0 f (i+1) (by omega) (by omega)) (if_pos hd).symm)
    ·exact dQ hd (eU (if_neg hd).symm)
theorem TN (xs:List aF) (hx:xs.length≤4000000) (a:ByteArray):Ev (fun k=>o7.f k xs a) (zo xs a):=by
 unfold o7.f zo
 refine Ev.bind (H6 a) ?_
 by_cases h:a.toList=([47]:List UInt8)
 ·rw [if_pos h]
  refine bC h ?_
  refine Ev.step (o7.j0.eq_2 _ _ _ _) ?_
  exact bC rfl (eU rfl)
 ·rw [if_neg h]
  refine dQ h (Ev.bind (JX xs a hx) ?_)
  refine Ev.step (o7.j0.eq_2 _ _ _ _) ?_
  by_cases hc:Lib.idxBy (ng a) xs z43 ≥ 0
  ·rw [if_pos hc];exact bC (decide_eq_true hc) (eU rfl)
  ·rw [if_neg hc]
   refine dQ (by simpa using hc) ?_
   by_cases h0:(fK a).2=0
   ·rw [if_pos h0]
    have:=Z7 a h0 h
    exact bC h0 (ZU xs hx a h0 _ 1 (by omega) (by omega))
   ·rw [if_neg h0];exact dQ h0 (eU rfl)
theorem Y4 (xs:List aF) (hx:xs.length≤4000000) (a:ByteArray) (ha:a.size≤140737488351232):Ev (fun k=>oH.f k xs a) (zo xs a):=by
 unfold oH.f zo
 by_cases h:a.toList=([47]:List UInt8)
 ·rw [if_pos h]
  refine bC h ?_
  refine Ev.step (oH.j0.eq_2 _ _ _) ?_
  exact bC rfl (eU rfl)
 ·rw [if_neg h]
  refine dQ h (Ev.bind (jh (MW xs a hx)) ?_)
  refine Ev.step (oH.j0.eq_2 _ _ _) ?_
  by_cases hc:Lib.idxBy (ng a) xs z43 ≥ 0
  ·rw [if_pos hc];exact bC (decide_eq_true hc) (eU rfl)
  ·rw [if_neg hc]
   refine dQ (by simpa using hc) (Ev.bind (MX a ha) ?_)
   by_cases h0:(fK a).2=0
   ·rw [if_pos h0]
    have:=Z7 a h0 h
    exact bC h0 (Y5 xs hx a h0 _ 1 (by omega) (by omega))
   ·rw [if_neg h0];exact dQ h0 (eU rfl)

def JM (a:ByteArray):ByteArray:=if (fK a).2=0 then (fK a).1.getLastD ⟨#[]⟩ else ⟨#[]⟩
theorem last_at (xs:List ByteArray) (hn:xs.length≤1000):Ev (fun _:Nat=>if (xs.length:Int)=0 then some (⟨#[]⟩:ByteArray) else if 0≤wrap64 ((xs.length:Int) - 1) then (if wrap64 ((xs.length:Int) - 1) < (xs.length:Int) then some (rZ ByteArray.empty xs (wrap64 ((xs.length:Int) - 1))) else none) else none) (xs.getLastD ⟨#[]⟩):=by
 by_cases h:xs.length=0
 ·refine bC (by omega) (eU ?_)
  rw [List.eq_nil_of_length_eq_zero h];rfl
 ·refine dQ (by omega) ?_
  rw [pI (by omega) (by omega)]
  refine bC (by omega) (bC (by omega) (eU ?_))
  rw [show (xs.length:Int) - 1=((xs.length - 1:Nat):Int) by omega,Ea _ xs (xs.length - 1) (by omega)]
  rw [List.getLastD_eq_getLast?,List.getLast?_eq_getElem?,List.getElem?_eq_getElem (by omega)];rfl
theorem akj (a:ByteArray):Ev (fun k=>Ef.f k a) (JM a):=by
 unfold Ef.f JM
 refine Ev.bind (H6 a) ?_
 by_cases h:(fK a).2=0
 ·exact bC h (mg (last_at _ (H9 a)) (if_pos h).symm)
 ·exact dQ h (eU (if_neg h).symm)

theorem ai1 (a:ByteArray) (ha:a.size≤140737488351232):Ev (fun k=>DW.f k a) (JM a):=by
 unfold DW.f JM
 refine Ev.bind (MX a ha) ?_
 by_cases h:(fK a).2=0
 ·exact bC h (mg (last_at _ (H9 a)) (if_pos h).symm)
 ·exact dQ h (eU (if_neg h).symm)

def BF (xs:List aF) (a:ByteArray):List ByteArray:=(xs.filter (fun y=>(rY y.f0).toList == a.toList)).map (fun y=>JM y.f0)
def zM (xs:List aF) (a:ByteArray):List ByteArray:=if a.toList=([]:List UInt8) then [] else BF xs a
theorem ZT (xs:List aF) (hn:xs.length≤4000000) (a:ByteArray):∀ (i:Nat) (out:List ByteArray),i≤xs.length→out.length≤i→Ev (fun k=>sJ.l0 k a out (i:Int) xs) (out++zM (xs.drop i) a)
 | i,out,hi,ho=>by
  refine Ev.step (sJ.l0.eq_2 _ _ _ _) ?_
  by_cases h:i < xs.length
  ·refine bC (by omega) (bC (by omega) ?_)
   rw [yC xs i h,qc i (by omega),drop_at xs i h]
   refine Ev.bind (NI _) ?_
   have ih:=fun o ho2=>ZT xs hn a (i+1) o (by omega) ho2
   unfold zM at ih ⊢
   by_cases he:(rY xs[i].f0).toList=a.toList
   ·refine bC he ?_
    by_cases hz:a.toList=([]:List UInt8)
    ·refine bC hz (mg (ih out (by omega)) ?_)
     rw [if_pos hz,if_pos hz]
    ·refine dQ hz (Ev.bind (akj _) (bC (by omega) (mg (ih _ (by simp;omega)) ?_)))
     rw [if_neg hz,if_neg hz]
     unfold BF
     rw [List.filter_cons_of_pos (by simpa using he)];simp
   ·refine dQ he (mg (ih out (by omega)) ?_)
    congr 1
    by_cases hz:a.toList=([]:List UInt8)
    ·rw [if_pos hz,if_pos hz]
    ·rw [if_neg hz,if_neg hz]
     unfold BF
     rw [List.filter_cons_of_neg (by simpa using he)]
  ·refine dQ (by omega) (eU ?_)
   rw [List.drop_of_length_le (by omega)]
   simp [zM,BF]
 termination_by i=>xs.length - i
theorem TM (xs:List aF) (hn:xs.length≤4000000) (a:ByteArray):Ev (fun k=>sJ.f k xs a) (zM xs a):=by
 unfold sJ.f
 exact mg (ZT xs hn a 0 [] (by omega) (by simp)) (by simp)
theorem Y3 (xs:List aF) (hn:xs.length≤4000000) (hs:∀ y ∈ xs,y.f0.size≤140737488351232) (a:ByteArray):∀ (i:Nat) (out:List ByteArray),i≤xs.length→out.length≤i→Ev (fun k=>sZ.l0 k a out xs (xs.length:Int) (i:Int)) (out++BF (xs.drop i) a)
 | i,out,hi,ho=>by
  refine Ev.step (sZ.l0.eq_2 _ _ _ _ _) ?_
  by_cases h:i < xs.length
  ·refine bC (by omega) (bC (by omega) (bC (by omega) ?_))
   rw [yC xs i h,qc i (by omega),drop_at xs i h]
   have hz:=hs xs[i] (List.getElem_mem h)
   refine Ev.bind (Y6 _ hz) ?_
   have ih:=fun o ho2=>Y3 xs hn hs a (i+1) o (by omega) ho2
   by_cases he:(rY xs[i].f0).toList=a.toList
   ·refine bC he (Ev.bind (ai1 _ hz) (bC (by omega) (mg (ih _ (by simp;omega)) ?_)))
    unfold BF
    rw [List.filter_cons_of_pos (by simpa using he)];simp
   ·refine dQ he (mg (ih out (by omega)) ?_)
    unfold BF
    rw [List.filter_cons_of_neg (by simpa using he)]
  ·refine dQ (by omega) (eU ?_)
   rw [List.drop_of_length_le (by omega)]
   simp [BF]
 termination_by i=>xs.length - i
theorem ai0 (xs:List aF) (hn:xs.length≤4000000) (hs:∀ y ∈ xs,y.f0.size≤140737488351232) (a:ByteArray):Ev (fun k=>sZ.f k xs a) (zM xs a):=by
 unfold sZ.f zM
 by_cases h:a.toList=([]:List UInt8)
 ·exact bC h (eU (if_pos h).symm)
 ·rw [if_neg h]
  exact dQ h (mg (Y3 xs hn hs a 0 [] (by omega) (by simp)) (by simp))
theorem aiY (xs:List aF) (p:ByteArray) (hn:xs.length≤4000000):Bz.f xs p=some (uU xs p):=by
 unfold Bz.f uU
 rw [MW xs p hn,Option.bind_some]
 by_cases h:p.toList=([47]:List UInt8)
 ·rw [if_pos h,if_pos h]
 ·rw [if_neg h,if_neg h]
  by_cases hc:Lib.idxBy (ng p) xs z43 ≥ 0
  ·have:=M_ (ng p) z43 xs (by omega)
   rw [if_pos hc,if_pos this.1,if_pos this.2,if_pos hc]
  ·rw [if_neg hc,if_neg hc]
theorem ajb (ps:List ByteArray) (h:ps.length+qI (fun s:ByteArray=>s.size) ps≤100000000000000):(jp ps).size≤140737488351232:=by
 unfold jp
 split
 ·show (1:Nat)≤_;omega
 ·rw [C_,Na];omega
theorem ajV (a:ByteArray):(rY a).size≤140737488351232:=by
 unfold rY
 split
 ·split
  ·show (0:Nat)≤_;omega
  ·exact ajb _ (JR a _)
 ·show (0:Nat)≤_;omega

def D_ (xs:List aF) (a:ByteArray):Int:=if (fK a).2=0 then (if a.toList=([47]:List UInt8) then 6 else if zo xs (rY a)=0 then (if uU xs (rY a)=true then (if Lib.idxBy (ng a) xs z43 ≥ 0 then 6 else if ((zM xs (rY a)).length:Int) ≥ 6 then 7 else 0) else 4) else zo xs (rY a)) else (fK a).2
theorem ZF (xs:List aF) (a:ByteArray) (P:Nat→Option ByteArray) (L:Nat→ByteArray→Option Int) (D:Nat→ByteArray→Option Bool) (I:Nat→Option Int) (K:Nat→ByteArray→Option (List ByteArray)) (hP:Ev P (rY a)) (hL:Ev (fun k=>L k (rY a)) (zo xs (rY a))) (hD:Ev (fun k=>D k (rY a)) (uU xs (rY a))) (hI:Ev I (Lib.idxBy (ng a) xs z43)) (hK:Ev (fun k=>K k (rY a)) (zM xs (rY a))) :
  Ev (fun k=>if (fK a).2=0 then (if a.toList=([47]:List UInt8) then (some (6:Int)) else ((P k).bind fun t194=>((L k t194).bind fun Z'=>(if Z'=(0:Int) then ((D k t194).bind fun t196=>(if t196=true then ((I k).bind fun akw=>(if akw ≥ (0:Int) then (some 6) else ((K k t194).bind fun t198=>(if ((t198:List ByteArray).length:Int) ≥ 6 then (some 7) else (some 0))))) else (some 4))) else (some Z'))))) else (some (fK a).2)) (D_ xs a):=by
 unfold D_
 by_cases h0:(fK a).2=0
 ·rw [if_pos h0]
  refine bC h0 ?_
  by_cases h1:a.toList=([47]:List UInt8)
  ·rw [if_pos h1];exact bC h1 (eU rfl)
  ·rw [if_neg h1]
   refine dQ h1 (Ev.bind hP (Ev.bind hL ?_))
   by_cases h2:zo xs (rY a)=0
   ·rw [if_pos h2]
    refine bC h2 (Ev.bind hD ?_)
    by_cases h3:uU xs (rY a)=true
    ·rw [if_pos h3]
     refine bC h3 (Ev.bind hI ?_)
     by_cases h4:Lib.idxBy (ng a) xs z43 ≥ 0
     ·rw [if_pos h4];exact bC h4 (eU rfl)
     ·rw [if_neg h4]
      refine dQ h4 (Ev.bind hK ?_)
      by_cases h5:((zM xs (rY a)).length:Int) ≥ 6
      ·exact mg (bC h5 (eU rfl)) (if_pos h5).symm
      ·exact mg (dQ h5 (eU rfl)) (if_neg h5).symm
    ·rw [if_neg h3];exact dQ h3 (eU rfl)
   ·rw [if_neg h2];exact dQ h2 (eU rfl)
 ·rw [if_neg h0];exact dQ h0 (eU rfl)
theorem TQ (xs:List aF) (hx:xs.length≤4000000) (a:ByteArray):Ev (fun k=>yG.f k xs a) (D_ xs a):=by
 unfold yG.f
 refine Ev.bind (H6 a) ?_
 exact ZF xs a (fun k=>wI.f k a) (fun k t=>o7.f k xs t) (fun k t=>yI.f k xs t) (fun k=>qG.f k xs a) (fun k t=>sJ.f k xs t) (NI a) (TN xs hx _) (TJ xs _ hx) (JX xs a hx) (TM xs hx _)
theorem ai2 (xs:List aF) (hx:xs.length≤4000000) (hs:∀ y ∈ xs,y.f0.size≤140737488351232) (a:ByteArray) (ha:a.size≤140737488351232):Ev (fun k=>xO.f k xs a) (D_ xs a):=by
 unfold xO.f
 refine Ev.bind (MX a ha) ?_
 exact ZF xs a (fun k=>wX.f k a) (fun k t=>oH.f k xs t) (fun k t=>Bz.f xs t) (fun k=>ug.f xs a) (fun k t=>sZ.f k xs t) (Y6 a ha) (Y4 xs hx _ (ajV a)) (jh (aiY xs _ hx)) (jh (MW xs a hx)) (ai0 xs hx hs _)

def tX (p:ByteArray) (xs:List aF):List aF:=xs.filter (fun y=>!(y.f0.toList == p.toList))
theorem TL (p:ByteArray) (xs:List aF) (hn:xs.length≤1048577):∀ (i:Nat) (out:List aF),i≤xs.length→out.length≤i→Ev (fun k=>qP.l0 k p i xs out) (out++tX p (xs.drop i))
 | i,out,hi,ho=>by
  refine Ev.step (qP.l0.eq_2 _ _ _ _) ?_
  by_cases h:i < xs.length
  ·refine bC (by omega) (bC (by omega) ?_)
   rw [yC xs i h,qc i (by omega),drop_at xs i h]
   unfold tX
   by_cases he:xs[i].f0.toList=p.toList
   ·refine bC he (mg (TL p xs hn (i+1) out (by omega) (by omega)) ?_)
    rw [List.filter_cons,he];simp [tX]
   ·refine dQ he (bC (by omega) (mg (TL p xs hn (i+1) (out++[xs[i]]) (by omega) (by simp;omega)) ?_))
    rw [List.filter_cons,beq_false_of_ne he];simp [tX]
  ·refine dQ (by omega) (eU ?_)
   rw [List.drop_of_length_le (by omega)];simp [tX]
 termination_by i=>xs.length - i
theorem TK (p:ByteArray) (xs:List aF) (hn:xs.length≤1048577):Ev (fun k=>qP.f k xs p) (tX p xs):=by
 unfold qP.f
 exact mg (TL p xs hn 0 [] (by omega) (by simp)) (by rw [List.drop_zero,List.nil_append])

theorem Xh (p:ByteArray) (xs:List aF):(tX p xs).length≤xs.length:=List.length_filter_le _ _

theorem acj (x:List UInt8):Op.bytesLess x x=false:=by
 have h:=zH x x
 cases hb:Op.bytesLess x x with
 | false=>rfl
 | true=>rw [hb] at h;simp at h
theorem VB {x y:List UInt8} (h:¬ y=x):Op.bytesLess y x=!Op.bytesLess x y:=by
 have e:=zH y x
 rw [beq_false_of_ne h,Bool.or_false] at e
 exact e

def insL (x:aF) (d:List aF):List aF:=d.takeWhile (fun y=>Op.bytesLess y.f0.toList x.f0.toList)++[x]++d.dropWhile (fun y=>Op.bytesLess y.f0.toList x.f0.toList)
def wZ (x:aF) (xs:List aF):List aF:=insL x (tX x.f0 xs)
theorem aj1 (x:aF) (xs:List aF):(wZ x xs).length≤xs.length+1:=by
 have h:=Xh x.f0 xs
 have e:=congrArg List.length (List.takeWhile_append_dropWhile (p:=fun y:aF=>Op.bytesLess y.f0.toList x.f0.toList) (l:=tX x.f0 xs))
 rw [List.length_append] at e
 unfold wZ insL
 simp only [List.length_append,List.length_singleton]
 omega
theorem ajZ (x y:aF) (r:List aF) (h:y.f0.toList=x.f0.toList):wZ x (y :: r)=wZ x r:=by
 unfold wZ tX
 rw [List.filter_cons,h];simp
theorem aj0 (x y:aF) (r:List aF) (h:¬ y.f0.toList=x.f0.toList) (hl:Op.bytesLess x.f0.toList y.f0.toList=true):wZ x (y :: r)=x :: y :: tX x.f0 r:=by
 have h2:=VB h
 rw [hl] at h2
 unfold wZ insL tX
 rw [List.filter_cons,beq_false_of_ne h]
 simp [h2]
theorem aj2 (x y:aF) (r:List aF) (h:¬ y.f0.toList=x.f0.toList) (hl:Op.bytesLess x.f0.toList y.f0.toList=false):wZ x (y :: r)=y :: wZ x r:=by
 have h2:=VB h
 rw [hl] at h2
 unfold wZ insL tX
 rw [List.filter_cons,beq_false_of_ne h]
 simp [h2]
theorem TS (p:ByteArray) (b:Bool) (t:ByteArray) (xs:List aF) (hn:xs.length≤1048577):∀ (i:Nat) (out:List aF),i≤xs.length→out.length≤i+1→Ev (fun k=>jd.l0 k true i xs p b t out) (out++tX p (xs.drop i))
 | i,out,hi,ho=>by
  refine Ev.step (jd.l0.eq_2 _ _ _ _ _ _ _) ?_
  by_cases h:i < xs.length
  ·refine bC (by omega) (bC rfl ?_)
   refine Ev.step (jd.j1.eq_2 _ _ _ _ _ _ _ _) ?_
   refine dQ (by simp) (bC (by omega) (bC (by omega) ?_))
   rw [yC xs i h,qc i (by omega),drop_at xs i h]
   unfold tX
   by_cases he:xs[i].f0.toList=p.toList
   ·refine bC he (mg (TS p b t xs hn (i+1) out (by omega) (by omega)) ?_)
    rw [List.filter_cons,he];simp [tX]
   ·refine dQ he (bC (by omega) (mg (TS p b t xs hn (i+1) (out++[xs[i]]) (by omega) (by simp;omega)) ?_))
    rw [List.filter_cons,beq_false_of_ne he];simp [tX]
  ·refine dQ (by omega) (bC rfl (eU ?_))
   rw [List.drop_of_length_le (by omega)];simp [tX]
 termination_by i=>xs.length - i
theorem TR (p:ByteArray) (b:Bool) (t:ByteArray) (xs:List aF) (hn:xs.length≤1048577):∀ (i:Nat) (out:List aF),i≤xs.length→out.length≤i→Ev (fun k=>jd.l0 k false i xs p b t out) (out++wZ ⟨p,b,t⟩ (xs.drop i))
 | i,out,hi,ho=>by
  refine Ev.step (jd.l0.eq_2 _ _ _ _ _ _ _) ?_
  by_cases h:i < xs.length
  ·refine bC (by omega) (dQ (by simp) (bC (by omega) ?_))
   refine Ev.step (jd.j1.eq_2 _ _ _ _ _ _ _ _) ?_
   rw [yC xs i h,qc i (by omega),drop_at xs i h]
   cases hl:Op.bytesLess p.toList xs[i].f0.toList with
   | true =>
    refine bC rfl (bC (by omega) (Ev.bind (Ev.now _) (bC (by omega) (bC (by omega) ?_))))
    by_cases he:xs[i].f0.toList=p.toList
    ·rw [he,acj] at hl;cases hl
    ·refine dQ he (bC (by simp;omega) (mg (TS p b t xs hn (i+1) _ (by omega) (by simp;omega)) ?_))
     rw [aj0 ⟨p,b,t⟩ xs[i] _ he hl]
     simp
   | false =>
    refine dQ (by simp) (bC (by omega) (bC (by omega) ?_))
    by_cases he:xs[i].f0.toList=p.toList
    ·refine bC he (mg (TR p b t xs hn (i+1) out (by omega) (by omega)) ?_)
     rw [ajZ ⟨p,b,t⟩ xs[i] _ he]
    ·refine dQ he (bC (by omega) (mg (TR p b t xs hn (i+1) (out++[xs[i]]) (by omega) (by simp;omega)) ?_))
     rw [aj2 ⟨p,b,t⟩ xs[i] _ he hl]
     simp
  ·refine dQ (by omega) (dQ (by simp) (bC (by omega) (eU ?_)))
   rw [List.drop_of_length_le (by omega)];rfl
 termination_by i=>xs.length - i
theorem ZX (p:ByteArray) (b:Bool) (t:ByteArray) (xs:List aF) (hn:xs.length≤1048577):Ev (fun k=>jd.f k xs p b t) (wZ ⟨p,b,t⟩ xs):=by
 unfold jd.f
 exact mg (TR p b t xs hn 0 [] (by omega) (by simp)) (by rw [List.drop_zero,List.nil_append])
theorem Zl (n:Nat) (hn:n≤1048576):∀ (i:Nat) (ys:List Int),i≤n→ys.length=n→(∀ y ∈ ys,y=0)→Ev (fun k=>sK.l0 k n 0 ys i) (strOfNums ys)
 | i,ys,hi,hl,hz=>by
  refine Ev.step (sK.l0.eq_2 _ _ _ _) ?_
  by_cases h:i < n
  ·refine bC (by omega) (bC (by omega) (bC (by omega) ?_))
   rw [qc i (by omega),Int.toNat_natCast]
   have e:ys.set i 0=ys:=by
    apply List.ext_getElem (by simp)
    intro j h1 h2
    rw [List.getElem_set]
    split
    ·exact (hz _ (List.getElem_mem h2)).symm
    ·rfl
   rw [e]
   exact Zl n hn (i+1) ys (by omega) hl hz
  ·exact dQ (by omega) (eU rfl)
 termination_by i=>n - i
theorem ajo (n:Nat) (hn:n≤1048576):Ev (fun k=>sK.f k n 0) (zb n):=by
 unfold sK.f
 refine bC (by omega) (bC (by omega) (mg (Zl n hn 0 _ (by omega) (by simp) (by simp)) ?_))
 simp [strOfNums,zb]
theorem aa0 (n:Nat) (hn:n≤20000):Ev (fun k=>zx.f k (n:Int)) (zb n):=by
 unfold zx.f
 exact Ev.bind (jh (Ho _ _ _)) (bC (by simp;omega) (Ev.bind (ajo n (by omega)) (eU rfl)))

def lay (b:ByteArray) (off:Nat) (t:ByteArray):ByteArray:=⟨(b.data.toList.take off++t.data.toList++b.data.toList.drop (off+t.size)).toArray⟩
def Ux (s:ByteArray) (off:Int) (t:ByteArray):Prop:=t.size≠0∧0≤off∧off+t.size≤128∧s.size≤128
open Classical in
noncomputable def tw (s:ByteArray) (off:Int) (t:ByteArray):ByteArray:=if Ux s off t then lay (s++zb (off - s.size).toNat) off.toNat t else s
theorem Zu (t:ByteArray):t.toList=[] ↔ t.size=0:=by
 rw [Dc,← vV]
 exact ⟨fun h=>by rw [h];rfl,fun h=>List.eq_nil_of_length_eq_zero h⟩
theorem ajl (b:ByteArray) (off:Nat) (t:ByteArray) (h:b.size≤off+t.size):b.extract 0 off++t=lay b off t:=by
 apply yS
 unfold lay
 have hd:b.data.toList.drop (off+t.size)=[]:=List.drop_of_length_le (by rw [vV];exact h)
 rw [Bg,EO,Aa,hd]
 simp
theorem ajk (b:ByteArray) (off:Nat) (t:ByteArray):b.extract 0 off++t++b.extract (off+t.size) b.size=lay b off t:=by
 apply yS
 unfold lay
 have hd:b.data.toList.take b.size=b.data.toList:=List.take_of_length_le (by rw [vV];exact Nat.le_refl _)
 rw [Bg,Bg,EO,EO,Aa,hd]
 simp
theorem aag (b:ByteArray) (off:Int) (t:ByteArray) (h0:0≤off) (h1:off≤b.size) (h2:off+t.size≤128) (h3:b.size≤1000):Ev (fun _=>if (wrap64 (off+(t.size:Int))) > (b.size:Int) then (if 0≤off then (if off≤(b.size:Int) then ((some (b.extract 0 (off:Int).toNat:ByteArray)).bind fun y=>(if y.size+t.size≤9223372036854775807 then ((some (y++t:ByteArray)).bind fun z=>(some z)) else (none))) else (none)) else (none)) else (if 0≤off then (if off≤(b.size:Int) then ((some (b.extract 0 (off:Int).toNat:ByteArray)).bind fun y=>(if y.size+t.size≤9223372036854775807 then ((some (y++t:ByteArray)).bind fun z=>(if 0≤(wrap64 (off+(t.size:Int))) then (if (wrap64 (off+(t.size:Int)))≤(b.size:Int) then ((some (b.extract ((wrap64 (off+(t.size:Int))):Int).toNat b.size:ByteArray)).bind fun u=>(if z.size+u.size≤9223372036854775807 then ((some (z++u:ByteArray)).bind fun v=>(some v)) else (none))) else (none)) else (none))) else (none))) else (none)) else (none))) (lay b off.toNat t):=by
 rw [pI (by omega) (by omega)]
 obtain ⟨o,rfl⟩:=Int.eq_ofNat_of_zero_le h0
 have e:((o:Int)+(t.size:Int)).toNat=o+t.size:=by omega
 rw [e,Int.toNat_natCast]
 have z1:(b.extract 0 o).size≤1000:=by rw [ByteArray.size_extract];omega
 have z2:(b.extract (o+t.size) b.size).size≤1000:=by rw [ByteArray.size_extract];omega
 by_cases h:(o:Int)+(t.size:Int) > (b.size:Int)
 ·exact bC h (bC h0 (bC h1 (Ev.bind (Ev.now _) (bC (by omega) (Ev.bind (Ev.now _) (eU (ajl b o t (by omega))))))))
 ·refine dQ h (bC h0 (bC h1 (Ev.bind (Ev.now _) (bC (by omega) (Ev.bind (Ev.now _) (bC (by omega) (bC (by omega) (Ev.bind (Ev.now _) (bC ?_ (Ev.bind (Ev.now _) (eU (ajk b o t))))))))))))
  rw [ByteArray.size_append];omega
theorem ako (s:ByteArray) (off:Int) (t:ByteArray) (hs:s.size≤4000000) (ht:t.size≤4000000) (ho:(Lit.int .i64 off).wf=true):Ev (fun k=>uF.f k s off t) (tw s off t):=by
 unfold uF.f
 rw [pI (x:=128 - (t.size:Int)) (by omega) (by omega)]
 have out:¬ Ux s off t→Ev (fun k=>uF.j0 k s off t true) (tw s off t):=by
  intro h
  unfold tw
  rw [if_neg h]
  refine Ev.step (uF.j0.eq_2 _ _ _ _) ?_
  exact bC rfl (eU rfl)
 by_cases h1:t.size=0
 ·exact bC ((Zu t).2 h1) (out (fun h=>h.1 h1))
 refine dQ (fun h=>h1 ((Zu t).1 h)) ?_
 by_cases h2:off < 0
 ·exact bC h2 (out (fun h=>by have:=h.2.1;omega))
 refine dQ h2 ?_
 by_cases h3:off > 128 - (t.size:Int)
 ·exact bC h3 (out (fun h=>by have:=h.2.2.1;omega))
 refine dQ h3 ?_
 by_cases h4:(s.size:Int) > 128
 ·rw [decide_eq_true h4]
  exact out (fun h=>by have:=h.2.2.2;omega)
 rw [decide_eq_false h4]
 have ok:Ux s off t:=⟨h1,by omega,by omega,by omega⟩
 unfold tw
 rw [if_pos ok]
 refine Ev.step (uF.j0.eq_2 _ _ _ _) ?_
 refine dQ (by simp) ?_
 by_cases h5:(s.size:Int) < off
 ·refine bC h5 ?_
  rw [pI (x:=off - (s.size:Int)) (by omega) (by omega),show off - (s.size:Int)=(((off - s.size).toNat:Nat):Int) by omega]
  refine Ev.bind (aa0 _ (by omega)) (bC (by rw [Oq];omega) (Ev.bind (Ev.now _) ?_))
  rw [← show off - (s.size:Int)=(((off - s.size).toNat:Nat):Int) by omega]
  have hz:(s++zb (off - (s.size:Int)).toNat).size=off.toNat:=by rw [ByteArray.size_append,Oq];omega
  exact aag _ off t (by omega) (by omega) (by omega) (by omega)
 ·refine dQ h5 ?_
  have e:s++zb (off - (s.size:Int)).toNat=s:=by
   apply yS
   rw [Bg,aaZ,show (off - (s.size:Int)).toNat=0 by omega];simp
  rw [e]
  exact aag s off t (by omega) (by omega) (by omega) (by omega)
def I_ (s:ByteArray) (n:Int):ByteArray:=if 0≤n∧n≤128 then ⟨((s.data.toList++List.replicate (n - s.size).toNat 0).take n.toNat).toArray⟩ else s
theorem akn (s:ByteArray) (n:Int) (hs:s.size≤4000000):Ev (fun k=>BP.f k s n) (I_ s n):=by
 unfold BP.f I_
 refine Ev.bind (jh (Ho _ _ _)) ?_
 by_cases h:0≤n∧n≤128
 ·rw [if_pos h]
  refine bC (by simpa using h) ?_
  by_cases h2:n≤(s.size:Int)
  ·refine bC h2 (bC h.1 (eU (yS ?_)))
   rw [EO,Aa,List.take_append_of_le_length (by rw [vV];omega)];simp
  ·refine dQ h2 ?_
   rw [pI (by omega) (by omega),show n - (s.size:Int)=(((n - s.size).toNat:Nat):Int) by omega]
   refine Ev.bind (aa0 _ (by omega)) (bC (by rw [Oq];omega) (eU (yS ?_)))
   rw [Bg,Aa,aaZ,List.take_of_length_le]
   ·congr 2
   ·simp only [List.length_append,vV,List.length_replicate];omega
 ·rw [if_neg h]
  exact dQ (by simpa using h) (eU rfl)

def Hw (n:Int):Int:=if n≤0 then 0 else (n - 1) / 32+1
theorem akl (n:Int) (h:0≤n) (h1:n≤1048576):BO.f n=some (Hw n):=by
 unfold BO.f Hw
 split
 ·rfl
 ·rw [pI (x:=n - 1) (by omega) (by omega),Int.tdiv_eq_ediv_of_nonneg (by omega),pI (x:=(n - 1) / 32) (by omega) (by omega),pI (by omega) (by omega)]
theorem ajX (n:Int) (h1:n≤1048576):0≤Hw n∧Hw n≤32768:=by
 unfold Hw
 split <;> omega

def Hy:List aF→Int→Int
 | [],a=>a
 | x :: r,a=>if x.f1=true then Hy r a else Hy r (a+Hw x.f2.size)
theorem TP (xs:List aF) (hn:xs.length≤1048576) (hs:∀ y ∈ xs,y.f2.size≤1048576):∀ (i:Nat) (a:Int),i≤xs.length→0≤a→a≤32768 * i→Ev (fun k=>uP.l0 k a i xs) (Hy (xs.drop i) a)
 | i,a,hi,h0,h1=>by
  refine Ev.step (uP.l0.eq_2 _ _ _) ?_
  by_cases h:i < xs.length
  ·refine bC (by omega) (bC (by omega) ?_)
   rw [yC xs i h,qc i (by omega),drop_at xs i h]
   simp only [Hy]
   have hz:=hs _ (List.getElem_mem h)
   by_cases hd:xs[i].f1=true
   ·rw [if_pos hd]
    exact bC hd (TP xs hn hs (i+1) a (by omega) h0 (by omega))
   ·rw [if_neg hd]
    have hb:=ajX (xs[i].f2.size:Int) (by omega)
    refine dQ hd (Ev.bind (jh (akl _ (by omega) (by omega))) ?_)
    rw [pI (by omega) (by omega)]
    exact TP xs hn hs (i+1) _ (by omega) (by omega) (by omega)
  ·refine dQ (by omega) (eU ?_)
   rw [List.drop_of_length_le (by omega)];rfl
 termination_by i=>xs.length - i
theorem akm (xs:List aF) (hn:xs.length≤1048576) (hs:∀ y ∈ xs,y.f2.size≤1048576):Ev (fun k=>uP.f k xs) (Hy xs 0):=by
 unfold uP.f
 exact TP xs hn hs 0 0 (by omega) (by omega) (by omega)
theorem KZ (x:Int):0≤Go.bits .and .i64 x 255∧Go.bits .and .i64 x 255≤255:=by
 have h:(BitVec.ofInt IntKind.i64.bits x &&& BitVec.ofInt IntKind.i64.bits 255).toNat≤255:=by
  rw [BitVec.toNat_and]
  exact Nat.le_trans Nat.and_le_right (by decide)
 show 0≤IntKind.i64.wrap (((BitVec.ofInt IntKind.i64.bits x &&& BitVec.ofInt IntKind.i64.bits 255).toNat:Nat):Int)∧IntKind.i64.wrap (((BitVec.ofInt IntKind.i64.bits x &&& BitVec.ofInt IntKind.i64.bits 255).toNat:Nat):Int)≤255
 generalize (BitVec.ofInt IntKind.i64.bits x &&& BitVec.ofInt IntKind.i64.bits 255).toNat=m at h
 rw [IntKind.wrap_i64]
 omega
theorem Zt (xs:List Int) (hn:xs.length≤4000000):∀ (i:Nat) (h:Int),i≤xs.length→∃ r,Ev (fun k=>vw.l0 k xs h i) (xs,0,r)
 | i,h,hi=>by
  by_cases c:i < xs.length
  ·by_cases c2:(i:Int) < 4000
   ·obtain ⟨r,hr⟩:=Zt xs hn (i+1) (Go.bits .and .i64 (wrap64 ((wrap64 ((wrap64 (h * 131))+(wrap64 (rd xs i))))+7)) 1073741823) (by omega)
    refine ⟨r,?_⟩
    refine Ev.step (vw.l0.eq_2 _ _ _) ?_
    refine bC (by omega) (bC c2 (bC (by omega) ?_))
    rw [qc i (by omega)]
    exact hr
   ·refine ⟨h,?_⟩
    refine Ev.step (vw.l0.eq_2 _ _ _) ?_
    exact bC (by omega) (dQ c2 (eU rfl))
  ·refine ⟨h,?_⟩
   refine Ev.step (vw.l0.eq_2 _ _ _) ?_
   exact dQ (by omega) (eU rfl)
 termination_by i=>xs.length - i
theorem ajB (xs:List Int) (hn:xs.length≤4000000):∃ r,Ev (fun k=>vw.f k xs) (xs,0,r):=by
 unfold vw.f
 exact Zt xs hn 0 _ (by omega)
def nH (n i:Int):Prop:=0≤i∧i≤n
theorem W9 (xs:List Int) (hn:xs.length≤4000000) (i h:Int) (hi:nH 4000000 i):∃ b i' h',vk.f xs i h=some (b,i',h')∧0≤b∧b≤255∧nH 4000000 i':=by
 unfold vk.f
 obtain ⟨h0,h1⟩:=hi
 by_cases c:i < (xs.length:Int)
 ·refine ⟨_,_,_,by rw [if_pos c,if_pos h0],(KZ _).1,(KZ _).2,?_⟩
  rw [pI (by omega) (by omega)]
  exact ⟨by omega,by omega⟩
 ·exact ⟨_,_,_,by rw [if_neg c],(KZ _).1,(KZ _).2,h0,h1⟩
theorem zG (xs:List Int) (hn:xs.length≤4000000) (i h:Int) (hi:nH 4000000 i) (n:Int) (h0:0 < n) (h1:n≤256):∃ b i' h',pF.f xs i h n=some (b,i',h')∧0≤b∧b < n∧nH 4000000 i':=by
 unfold pF.f
 obtain ⟨b,i',h',e,b0,b1,hi'⟩:=W9 xs hn i h hi
 refine ⟨Int.tmod b n,i',h',?_,?_,?_,hi'⟩
 ·rw [if_neg (by omega),if_pos h1,e,Option.bind_some,if_neg (by omega)]
 ·rw [Int.tmod_eq_emod_of_nonneg b0];exact Int.emod_nonneg _ (by omega)
 ·rw [Int.tmod_eq_emod_of_nonneg b0];exact Int.emod_lt_of_pos _ h0
theorem D9 (xs:List Int) (hn:xs.length≤4000000) (i h:Int) (hi:nH 4000000 i) (l:List Int) (h0:0 < l.length) (h1:l.length≤256):∃ x i' h',uG.f xs i h l=some (x,i',h')∧x ∈ l∧nH 4000000 i':=by
 unfold uG.f
 obtain ⟨b,i',h',e,b0,b1,hi'⟩:=zG xs hn i h hi (l.length:Int) (by omega) (by omega)
 obtain ⟨m,rfl⟩:=Int.eq_ofNat_of_zero_le b0
 refine ⟨l[m]'(by omega),i',h',?_,List.getElem_mem _,hi'⟩
 rw [e,Option.bind_some,if_pos b0,if_pos b1,aj8 l m (by omega)]


theorem aah (xs:List Int) (hn:xs.length≤4000000) (n:Nat) (hb:n≤5000):∀ (j:Nat) (o:List Int) (i h:Int),j≤n→o.length=j→nH 4000000 i→∃ t i' h',Ev (fun k=>r_.l0 k n o j xs i h) (t,i',h')∧t.size=n∧nH 4000000 i'
 | j,o,i,h,hj,ho,hi=>by
  by_cases c:j < n
  ·obtain ⟨b,i1,h1,e,b0,b1,hi1⟩:=W9 xs hn i h hi
   obtain ⟨t,i2,h2,e2,t2,hi2⟩:=aah xs hn n hb (j+1) (o++[b % 256]) i1 h1 (by omega) (by simp [ho]) hi1
   refine ⟨t,i2,h2,?_,t2,hi2⟩
   refine Ev.step (r_.l0.eq_2 _ _ _ _ _ _) ?_
   refine bC (by omega) (Ev.bind (jh e) (bC (by omega) ?_))
   rw [qc j (by omega)]
   exact e2
  ·refine ⟨strOfNums o,i,h,?_,by rw [strOfNums_size];omega,hi⟩
   refine Ev.step (r_.l0.eq_2 _ _ _ _ _ _) ?_
   exact dQ (by omega) (eU rfl)
 termination_by j=>n - j
theorem akz (xs:List Int) (hn:xs.length≤4000000) (i h:Int) (hi:nH 4000000 i) (n:Int) (h0:0≤n) (h1:n≤5000):∃ t i' h',Ev (fun k=>r_.f k xs i h n) (t,i',h')∧t.size=n.toNat∧nH 4000000 i':=by
 obtain ⟨m,rfl⟩:=Int.eq_ofNat_of_zero_le h0
 obtain ⟨t,i2,h2,e2,t2,hi2⟩:=aah xs hn m (by omega) 0 [] i h (by omega) rfl hi
 refine ⟨t,i2,h2,?_,by omega,hi2⟩
 unfold r_.f
 refine dQ (by omega) ?_
 refine Ev.step (r_.j0.eq_2 _ _ _ _) ?_
 exact e2

theorem TD (xs:List Int) (hn:xs.length≤4000000) (i h:Int) (hi:nH 4000000 i) (n:Int) (h0:0 < n) (h1:n≤256):∃ x i' h',yH.f xs i h n=some (x,i',h')∧nH 4000000 i':=by
 unfold yH.f
 obtain ⟨b,i',h',e,b0,b1,hi'⟩:=zG xs hn i h hi n h0 h1
 exact ⟨_,i',h',by rw [e,Option.bind_some],hi'⟩
theorem Zm (n:Nat) (hn:n≤1048576) (x:Int):∀ (i:Nat) (ys:List Int),i≤n→ys.length=n→∃ t,Ev (fun k=>sK.l0 k n x ys i) t∧t.size=n
 | i,ys,hi,hl=>by
  by_cases h:i < n
  ·obtain ⟨t,e,z⟩:=Zm n hn x (i+1) (ys.set i x) (by omega) (by simp [hl])
   refine ⟨t,?_,z⟩
   refine Ev.step (sK.l0.eq_2 _ _ _ _) ?_
   refine bC (by omega) (bC (by omega) (bC (by omega) ?_))
   rw [qc i (by omega),Int.toNat_natCast]
   exact e
  ·refine ⟨strOfNums ys,?_,by rw [strOfNums_size,hl]⟩
   refine Ev.step (sK.l0.eq_2 _ _ _ _) ?_
   exact dQ (by omega) (eU rfl)
 termination_by i=>n - i
theorem ajp (n:Int) (h0:0≤n) (h1:n≤1048576) (x:Int):∃ t,Ev (fun k=>sK.f k n x) t∧t.size=n.toNat:=by
 obtain ⟨m,rfl⟩:=Int.eq_ofNat_of_zero_le h0
 obtain ⟨t,e,z⟩:=Zm m (by omega) x 0 (List.replicate m 0) (by omega) (by simp)
 refine ⟨t,?_,by rw [z,Int.toNat_natCast]⟩
 unfold sK.f
 refine bC (by omega) (bC (by omega) ?_)
 rw [Int.toNat_natCast]
 exact e
def La (off len:Int) (t:ByteArray):Prop:=(-1≤off∧off≤9223372036854775807)∧(-1≤len∧len≤9223372036854775807)∧t.size≤1000
theorem same_eq (xs:List aF) (hn:xs.length≤4000000):qH.f xs=some xs:=by
 unfold qH.f
 rw [Option.bind_some,if_pos (by simp;omega),List.nil_append]
theorem ZH {n s:Nat} {xs:List aF} (h:vB n s xs) (p:ByteArray) (b:Bool) (t:ByteArray) (hp:p.size≤s) (ht:t.size≤s):vB (n+1) s (wZ ⟨p,b,t⟩ xs):=by
 have hl:=aj1 ⟨p,b,t⟩ xs
 refine ⟨by have:=h.1;omega,fun y hy=>?_⟩
 unfold wZ insL at hy
 simp only [List.mem_append,List.mem_singleton] at hy
 have hd:∀ z ∈ tX p xs,z.f0.size≤s∧z.f2.size≤s:=fun z hz=>h.2 z (List.mem_filter.1 hz).1
 rcases hy with (hy|rfl)|hy
 ·exact hd y ((List.takeWhile_sublist _).subset hy)
 ·exact ⟨hp,ht⟩
 ·exact hd y ((List.dropWhile_sublist _).subset hy)
theorem P8 {n s:Nat} {xs:List aF} (h:vB n s xs) (p:ByteArray):vB n s (tX p xs) :=
 ⟨by have:=h.1;have:=Xh p xs;omega,fun z hz=>h.2 z (List.mem_filter.1 hz).1⟩
theorem akp {n s:Nat} {xs:List aF} (h:vB n s xs) (i:Nat) (hi:i < xs.length) (t:ByteArray) (ht:t.size≤s):vB n s (xs.set i ⟨xs[i].f0,xs[i].f1,t⟩):=by
 refine ⟨by rw [List.length_set];exact h.1,fun y hy=>?_⟩
 rcases List.mem_or_eq_of_mem_set hy with hy|rfl
 ·exact h.2 y hy
 ·exact ⟨(h.2 _ (List.getElem_mem hi)).1,ht⟩
theorem akC (s:ByteArray) (off:Int) (t:ByteArray):(tw s off t).size≤s.size+1000:=by
 unfold tw
 split
 ·rename_i h
  obtain ⟨_,h0,h1,h2⟩:=h
  unfold lay
  rw [C_]
  simp only [List.length_append,List.length_take,List.length_drop,vV,ByteArray.size_append,Oq]
  omega
 ·omega
theorem acS (s:ByteArray) (n:Int):(I_ s n).size≤s.size+1000:=by
 unfold I_
 split
 ·rename_i h
  rw [C_]
  simp only [List.length_take,List.length_append,vV,List.length_replicate]
  omega
 ·omega
theorem Y8 (p:ByteArray) (xs:List aF) (h:Lib.idxBy (ng p) xs z43 ≥ 0):∃ i:Nat,i < xs.length∧Lib.idxBy (ng p) xs z43=i:=by
 obtain ⟨m,e⟩:=Int.eq_ofNat_of_zero_le h
 have:=(M_ (ng p) z43 xs (by omega)).2
 exact ⟨m,by omega,e⟩
theorem aai (t p ins q:Int) (n s:Nat) (xs:List aF) (h:vB n s xs) (hn:n≤1000000) (hs:s≤1000000) (i:Nat) (hi:i < xs.length) (u:ByteArray) (hu:u.size≤s):∃ ys c,Ev (fun k=>xR.f k t p ins q xs (i:Int) u) (ys,c)∧vB n s ys:=by
 have hx:=h.1
 have hb:=akp h i hi u hu
 unfold xR.f
 have e:=akm (xs.set i ⟨xs[i].f0,xs[i].f1,u⟩) (by rw [List.length_set];omega) (fun y hy=>by have:=hb.2 y hy;omega)
 by_cases c:Hy (xs.set i ⟨xs[i].f0,xs[i].f1,u⟩) 0 > q
 ·refine ⟨xs,13,bC (by omega) (bC (by omega) (Ev.bind (jh (same_eq xs (by omega))) (bC (by omega) (Ev.bind (eU rfl) ?_)))),h⟩
  rw [yC xs i hi,Int.toNat_natCast]
  exact Ev.bind e (bC c (Ev.bind (jh (same_eq xs (by omega))) (eU rfl)))
 ·refine ⟨xs.set i ⟨xs[i].f0,xs[i].f1,u⟩,0,bC (by omega) (bC (by omega) (Ev.bind (jh (same_eq xs (by omega))) (bC (by omega) (Ev.bind (eU rfl) ?_)))),hb⟩
  rw [yC xs i hi,Int.toNat_natCast]
  exact Ev.bind e (dQ c (eU rfl))
def ql (g:Nat→Option (List aF × Int × ByteArray × Int × Bool × List ByteArray)) (n s:Nat):Prop:=∃ r,Ev g r∧vB n s r.1
theorem a_pos {c:Prop} [Decidable c] {f g:Nat→Option (List aF × Int × ByteArray × Int × Bool × List ByteArray)} {n s:Nat} (h:c) (e:ql f n s):ql (fun k=>if c then f k else g k) n s:=by
 obtain ⟨r,e,b⟩:=e
 exact ⟨r,bC h e,b⟩
theorem a_neg {c:Prop} [Decidable c] {f g:Nat→Option (List aF × Int × ByteArray × Int × Bool × List ByteArray)} {n s:Nat} (h:¬ c) (e:ql g n s):ql (fun k=>if c then f k else g k) n s:=by
 obtain ⟨r,e,b⟩:=e
 exact ⟨r,dQ h e,b⟩
theorem nZ {β:Type} {g:Nat→Option β} {y:β} {f:Nat→β→Option (List aF × Int × ByteArray × Int × Bool × List ByteArray)} {n s:Nat} (h:Ev g y) (e:ql (fun k=>f k y) n s):ql (fun k=>(g k).bind (f k)) n s:=by
 obtain ⟨r,e,b⟩:=e
 exact ⟨r,Ev.bind h e,b⟩
theorem yg {n s:Nat} {r:List aF × Int × ByteArray × Int × Bool × List ByteArray} (h:vB n s r.1):ql (fun _=>some r) n s:=⟨r,eU rfl,h⟩
theorem CZ {f g:Nat→Option (List aF × Int × ByteArray × Int × Bool × List ByteArray)} {n s:Nat} (h:∀ k,f (k+1)=g k) (e:ql g n s):ql f n s:=by
 obtain ⟨r,e,b⟩:=e
 exact ⟨r,Ev.step h e,b⟩
theorem Vr {f:Nat→Option (List aF × Int × ByteArray × Int × Bool × List ByteArray)} {n s m z:Nat} (e:ql f n s) (h1:n≤m) (h2:s≤z):ql f m z:=by
 obtain ⟨r,e,b⟩:=e
 exact ⟨r,e,zW b h1 h2⟩
theorem Ph {g:Nat→Option (List aF × Int × ByteArray × Int × Bool × List ByteArray)} {n s:Nat} (e:ql g n s):ql (fun k=>(g k).bind fun b=>some (b.1,b.2.1,b.2.2.1,b.2.2.2.1,b.2.2.2.2.1,b.2.2.2.2.2)) n s:=by
 obtain ⟨r,e,b⟩:=e
 exact ⟨_,Ev.bind e (eU rfl),b⟩
theorem uY (ys:List aF) (c:Int) {n s:Nat} (h:vB n s ys):ql (fun _=>(lX.f c).bind fun b=>some (ys,b.1,b.2.1,b.2.2.1,b.2.2.2.1,b.2.2.2.2)) n s:=by
 unfold lX.f
 exact nZ (eU rfl) (yg h)
theorem akZ {x:Int} (h0:-9223372036854775808≤x) (h1:x≤9223372036854775807):(Lit.int .i64 x).wf=true:=by
 simp only [Lit.wf,Bool.and_eq_true,decide_eq_true_eq]
 exact ⟨h0,h1⟩
theorem acI (x:Int) (n:Nat):∃ b:Int,Ev (fun k=>vM.f k x 0 (n:Int)) b∧0≤b∧b≤n:=by
 unfold vM.f
 by_cases h:x < 0
 ·refine ⟨0,dQ (by omega) ?_,by omega,by omega⟩
  refine Ev.step (vM.j0.eq_2 _ _ _ _) ?_
  exact bC (by simpa using h) (eU rfl)
 ·by_cases h2:x > (n:Int)
  ·refine ⟨n,dQ (by omega) ?_,by omega,by omega⟩
   refine Ev.step (vM.j0.eq_2 _ _ _ _) ?_
   exact dQ (by simpa using h) (bC h2 (eU rfl))
  ·refine ⟨x,dQ (by omega) ?_,by omega,by omega⟩
   refine Ev.step (vM.j0.eq_2 _ _ _ _) ?_
   exact dQ (by simpa using h) (dQ h2 (eU rfl))
theorem acY (t p ins q:Int) (n s:Nat) (xs:List aF) (h:vB n s xs) (hn:n≤100000) (hs:s≤100000) (i:Nat) (hi:i < xs.length) (kd:Int) (pa h_:ByteArray) (off len:Int) (tx:ByteArray) (hk:La off len tx):ql (fun k=>k_.f k t p ins q xs (i:Int) kd pa h_ off len tx) n (s+1000):=by
 have hx:=h.1
 have hm:=(h.2 _ (List.getElem_mem hi)).2
 have hB:=zW (m:=n) (z:=s+1000) h (Nat.le_refl _) (by omega)
 have es:=same_eq xs (by omega)
 obtain ⟨⟨o0,o1⟩,⟨l0,l1⟩,ht⟩:=hk
 unfold k_.f
 refine a_pos (by omega) (a_pos (by omega) ?_)
 rw [yC xs i hi]
 by_cases k6:kd=6
 ·refine a_pos k6 ?_
  have j0:∀ z:Bool,(z=false→0≤len)→ql (fun k=>k_.j0 k xs[i].f2 z xs kd pa h_ off len tx) n (s+1000):=by
   intro z hz
   refine CZ (k_.j0.eq_2 _ _ _ _ _ _ _ _ _) ?_
   by_cases c:z=true
   ·exact a_pos c (nZ (jh es) (uY xs 12 hB))
   ·have hz:=hz (by simpa using c)
    obtain ⟨b,eb,b0,b1⟩:=acI off xs[i].f2.size
    refine a_neg c (nZ eb ?_)
    by_cases c2:len < wrap64 ((xs[i].f2.size:Int) - b)
    ·have e1:=pI (x:=(xs[i].f2.size:Int) - b) (by omega) (by omega)
     rw [e1] at c2
     have e2:=pI (x:=b+len) (by omega) (by omega)
     rw [e1,e2]
     exact a_pos c2 (nZ (jh es) (a_pos b0 (a_pos (by omega) (a_pos (by omega) (yg hB)))))
    ·exact a_neg c2 (nZ (jh es) (a_pos b0 (a_pos b1 (a_pos (by omega) (yg hB)))))
  by_cases c:off < 0
  ·exact a_pos c (j0 true (by simp))
  ·exact a_neg c (j0 _ (by simp))
 refine a_neg k6 ?_
 by_cases k7:kd=7
 ·refine a_pos k7 ?_
  have j1:∀ z:Bool,ql (fun k=>k_.j1 k (i:Int) xs[i].f2 z t p ins q xs kd pa h_ off len tx) n (s+1000):=by
   intro z
   refine CZ (k_.j1.eq_2 _ _ _ _ _ _ _ _ _ _ _ _ _ _) ?_
   by_cases c:z=true
   ·exact a_pos c (nZ (jh es) (uY xs 12 hB))
   ·obtain ⟨ys,cd,e,b⟩:=aai t p ins q n (s+1000) xs hB (by omega) (by omega) i hi (tw xs[i].f2 off tx) (by have:=akC xs[i].f2 off tx;omega)
    refine a_neg c (nZ (ako _ _ _ (by omega) (by omega) (akZ (by omega) o1)) (nZ e ?_))
    by_cases c0:cd=0
    ·exact a_pos c0 (yg b)
    ·exact a_neg c0 (uY ys cd b)
  by_cases c:off < 0
  ·exact a_pos c (j1 true)
  ·exact a_neg c (j1 _)
 refine a_neg k7 (nZ (jh (Ho _ _ _)) ?_)
 by_cases c:decide ((0:Int)≤len∧len≤128)=true
 ·obtain ⟨ys,cd,e,b⟩:=aai t p ins q n (s+1000) xs hB (by omega) (by omega) i hi (I_ xs[i].f2 len) (by have:=acS xs[i].f2 len;omega)
  exact a_pos c (nZ (akn _ _ (by omega)) (nZ e (uY ys cd b)))
 ·exact a_neg c (nZ (jh es) (uY xs 12 hB))
theorem akb (n s:Nat) (xs:List aF) (h:vB n s xs) (hn:n≤100000) (hs:s≤100000) (kd:Int) (pa h_:ByteArray) (off len:Int) (tx:ByteArray) (hu:h_.size≤1000):ql (fun k=>oJ.f k xs kd pa h_ off len tx) n (s+1000):=by
 have hx:=h.1
 have hB:=zW (m:=n) (z:=s+1000) h (Nat.le_refl _) (by omega)
 have es:=same_eq xs (by omega)
 have j0:∀ (c:Int) (z:Bool),ql (fun k=>oJ.j0 k c z xs kd pa h_ off len tx xs) n (s+1000):=by
  intro c z
  refine CZ (oJ.j0.eq_2 _ _ _ _ _ _ _ _ _ _) ?_
  by_cases hz:z=true
  ·exact a_pos hz (uY xs c hB)
  ·have hl:=Zp pa h_ s xs [] h.2 (by simp)
   refine a_neg hz (nZ (akk pa h_ xs (by omega) (by omega) (fun y hy=>by have:=h.2 y hy;omega)) (yg ⟨?_,fun y hy=>?_⟩))
   ·show (zO pa h_ xs []).length≤n
    rw [hl.1];simp;omega
   ·have:=hl.2 y hy;omega
 unfold oJ.f
 refine nZ (jh es) ?_
 by_cases c1:pa.toList=([47]:List UInt8)
 ·exact a_pos c1 (uY xs 9 hB)
 refine a_neg c1 (nZ (ZY _ _) ?_)
 by_cases c2:Es h_ pa=true
 ·exact a_pos c2 (uY xs 11 hB)
 refine a_neg c2 (nZ (TQ xs (by omega) h_) ?_)
 by_cases c3:D_ xs h_=0
 ·exact a_pos c3 (j0 _ _)
 refine a_neg c3 ?_
 by_cases c4:D_ xs h_=7
 ·exact a_pos c4 (nZ (NI _) (nZ (NI _) (j0 _ _)))
 ·exact a_neg c4 (j0 _ _)
theorem ajA (t p ins q:Int) (n s:Nat) (xs:List aF) (h:vB n s xs) (hn:n≤100000) (kd:Int) (pa h_:ByteArray) (off len:Int) (tx:ByteArray) (hu:pa.size≤s):ql (fun k=>su.f k t p ins q xs kd pa h_ off len tx) (n+1) s:=by
 have hx:=h.1
 have hB:=zW (m:=n+1) (z:=s) h (by omega) (Nat.le_refl _)
 have j1:∀ c:Int,ql (fun k=>su.j1 k c xs kd pa h_ off len tx) (n+1) s:=by
  intro c
  refine CZ (su.j1.eq_2 _ _ _ _ _ _ _ _) ?_
  by_cases hc:c=0
  ·exact a_pos hc (nZ (ZX _ _ _ xs (by omega)) (yg (ZH h _ _ _ hu (Nat.zero_le _))))
  ·exact a_neg hc (nZ (jh (same_eq xs (by omega))) (uY xs c hB))
 have j0:∀ (c:Int) (z:Bool),ql (fun k=>su.j0 k c z xs kd pa h_ off len tx) (n+1) s:=by
  intro c z
  refine CZ (su.j0.eq_2 _ _ _ _ _ _ _ _ _) ?_
  by_cases hz:z=true
  ·exact a_pos hz (j1 8)
  ·exact a_neg hz (j1 c)
 unfold su.f
 refine nZ (TQ xs (by omega) pa) ?_
 by_cases c3:D_ xs pa=0
 ·exact a_pos c3 (j0 _ _)
 ·exact a_neg c3 (j0 _ _)
theorem Zk (xs:List aF) (ps:List ByteArray):∀ f i:Nat,AL xs ps f i≠0
 | 0,i=>by simp [AL]
 | f+1,i=>by
  have ih:=Zk xs ps f (i+1)
  unfold AL
  repeat' split
  all_goals first|exact ih|decide
theorem ajm (xs:List aF) (a:ByteArray) (h:zo xs a=0):a.toList=([47]:List UInt8)∨Lib.idxBy (ng a) xs z43 ≥ 0:=by
 unfold zo at h
 by_cases c1:a.toList=([47]:List UInt8)
 ·exact .inl c1
 rw [if_neg c1] at h
 by_cases c2:Lib.idxBy (ng a) xs z43 ≥ 0
 ·exact .inr c2
 rw [if_neg c2] at h
 by_cases c3:(fK a).2=0
 ·rw [if_pos c3] at h;exact absurd h (Zk _ _ _ _)
 ·rw [if_neg c3] at h;exact absurd h c3
theorem acd (t p ins q:Int) (n s:Nat) (xs:List aF) (h:vB n s xs) (hn:n≤100000) (hs:s≤100000) (kd:Int) (pa h_:ByteArray) (off len:Int) (tx:ByteArray) (hk:La off len tx) (hp:pa.size≤1000) (hu:h_.size≤1000):ql (fun k=>nK.f k t p ins q xs kd pa h_ off len tx) (n+1) (s+1000):=by
 have hx:=h.1
 have hB:=zW (m:=n+1) (z:=s+1000) h (by omega) (by omega)
 have hB2:=zW (m:=n) (z:=s+1000) h (by omega) (by omega)
 have es:=same_eq xs (by omega)
 have j1:∀ z:Bool,(uU xs pa=false→0≤Lib.idxBy (ng pa) xs z43)→ql (fun k=>nK.j1 k (uU xs pa) (Lib.idxBy (ng pa) xs z43) kd z t p ins q xs kd pa h_ off len tx xs) (n+1) (s+1000):=by
  intro z hd
  refine CZ (nK.j1.eq_2 _ _ _ _ _ _ _ _ _ _ _ _ _ _ _ _) ?_
  by_cases hz:z=true
  ·refine a_pos hz ?_
   by_cases c:uU xs pa=true
   ·exact a_pos c (uY xs 5 hB)
   ·obtain ⟨i,hi,ei⟩:=Y8 pa xs (hd (by simpa using c))
    rw [ei]
    exact a_neg c (Ph (Vr (acY t p ins q n s xs h (by omega) (by omega) i hi kd pa h_ off len tx hk) (by omega) (by omega)))
  refine a_neg hz ?_
  by_cases k9:kd=9
  ·refine a_pos k9 ?_
   by_cases c:uU xs pa=true
   ·exact a_pos c (yg hB)
   ·obtain ⟨i,hi,ei⟩:=Y8 pa xs (hd (by simpa using c))
    rw [ei]
    exact a_neg c (a_pos (by omega) (a_pos (by omega) (yg hB)))
  refine a_neg k9 ?_
  by_cases k10:kd=10
  ·refine a_pos k10 ?_
   by_cases c:uU xs pa=true
   ·exact a_pos c (nZ (TM xs (by omega) pa) (yg hB))
   ·exact a_neg c (uY xs 4 hB)
  ·exact a_neg k10 (yg hB)
 have j0:∀ z:Bool,ql (fun k=>nK.j0 k z t p ins q xs kd pa h_ off len tx xs) (n+1) (s+1000):=by
  intro z
  refine CZ (nK.j0.eq_2 _ _ _ _ _ _ _ _ _ _ _ _ _) ?_
  by_cases hz:z=true
  ·exact a_pos hz (Ph (ajA t p ins q n (s+1000) xs hB2 hn kd pa h_ off len tx (by omega)))
  refine a_neg hz (nZ (TN xs (by omega) pa) ?_)
  by_cases c0:zo xs pa=0
  ·have hd:uU xs pa=false→0≤Lib.idxBy (ng pa) xs z43:=by
    intro hf
    rcases ajm xs pa c0 with hr|hi
    ·unfold uU at hf
     rw [if_pos hr] at hf
     simp at hf
    ·exact hi
   refine a_pos c0 (nZ (TJ xs pa (by omega)) (nZ (JX xs pa (by omega)) ?_))
   by_cases k3:kd=3
   ·refine a_pos k3 ?_
    by_cases c:uU xs pa=true
    ·exact a_pos c (uY xs 5 hB)
    ·exact a_neg c (nZ (TK pa xs (by omega)) (yg (P8 hB pa)))
   refine a_neg k3 ?_
   by_cases k4:kd=4
   ·refine a_pos k4 ?_
    by_cases c1:pa.toList=([47]:List UInt8)
    ·exact a_pos c1 (uY xs 9 hB)
    refine a_neg c1 ?_
    by_cases c:uU xs pa=true
    ·refine a_pos c (nZ (TM xs (by omega) pa) ?_)
     by_cases c2:((zM xs pa).length:Int) > 0
     ·exact a_pos c2 (uY xs 10 hB)
     ·exact a_neg c2 (nZ (TK pa xs (by omega)) (yg (P8 hB pa)))
    ·exact a_neg c (uY xs 4 hB)
   refine a_neg k4 ?_
   by_cases k5:kd=5
   ·exact a_pos k5 (Ph (Vr (akb n s xs h (by omega) (by omega) kd pa h_ off len tx hu) (by omega) (by omega)))
   refine a_neg k5 ?_
   by_cases k6:kd=6
   ·exact a_pos k6 (j1 _ hd)
   refine a_neg k6 ?_
   by_cases k7:kd=7
   ·exact a_pos k7 (j1 _ hd)
   ·exact a_neg k7 (j1 _ hd)
  ·exact a_neg c0 (uY xs _ hB)
 unfold nK.f
 refine nZ (jh es) ?_
 unfold H_.f
 have hask:∃ b:Bool,(uh.f kd 1 11).bind (fun t=>if t=true then some (decide ((tx.size:Int)≤200)) else some false)=some b:=by
  rw [Ho,Option.bind_some]
  split
  ·exact ⟨_,rfl⟩
  ·exact ⟨_,rfl⟩
 obtain ⟨b,eb⟩:=hask
 refine nZ (jh eb) ?_
 by_cases hb:b=true
 ·refine a_pos hb ?_
  by_cases k1:kd=1
  ·exact a_pos k1 (j0 _)
  ·exact a_neg k1 (j0 _)
 ·exact a_neg hb (uY xs 16 hB)

theorem ajY (xs:List Int) (hn:xs.length≤4000000) (i h:Int) (hi:nH 4000000 i) (l:List ByteArray) (h0:0 < l.length) (h1:l.length≤256):∃ x i' h',zS.f xs i h l=some (x,i',h')∧x ∈ l∧nH 4000000 i':=by
 unfold zS.f
 obtain ⟨b,i',h',e,b0,b1,hi'⟩:=zG xs hn i h hi (l.length:Int) (by omega) (by omega)
 obtain ⟨m,rfl⟩:=Int.eq_ofNat_of_zero_le b0
 refine ⟨l[m]'(by omega),i',h',?_,List.getElem_mem _,hi'⟩
 rw [e,Option.bind_some,if_pos b0,if_pos b1,Ea _ l m (by omega)]
theorem ab8 (l:List ByteArray) (h:l.all (fun x=>decide (x.size≤100))=true) {x:ByteArray} (hx:x ∈ l):x.size≤100:=by
 have:=List.all_eq_true.1 h x hx
 simpa using this
theorem ZE (xs:List Int) (hn:xs.length≤4000000) (i h:Int) (hi:nH 4000000 i) (l:List ByteArray) (h0:0 < l.length) (h1:l.length≤256) (ha:l.all (fun x=>decide (x.size≤100))=true):∃ x i' h',((zS.f xs i h l).bind fun b=>some (b.1,b.2.1,b.2.2))=some (x,i',h')∧x.size≤100∧nH 4000000 i':=by
 obtain ⟨x,i',h',e,m,hi'⟩:=ajY xs hn i h hi l h0 h1
 exact ⟨x,i',h',by rw [e,Option.bind_some],ab8 l ha m,hi'⟩
theorem Ny (xs:List Int) (hn:xs.length≤4000000) (i h:Int) (hi:nH 4000000 i):∃ x i' h',w_.f xs i h=some (x,i',h')∧x.size≤100∧nH 4000000 i':=by
 unfold w_.f
 exact ZE xs hn i h hi _ (by decide) (by decide) (by decide)
theorem Pj (xs:List Int) (hn:xs.length≤4000000) (i h:Int) (hi:nH 4000000 i):∃ x i' h',zy.f xs i h=some (x,i',h')∧x.size≤100∧nH 4000000 i':=by
 unfold zy.f
 obtain ⟨b,i1,h1,e,hi1⟩:=TD xs hn i h hi 5 (by omega) (by omega)
 rw [e,Option.bind_some]
 cases b with
 | true =>
  rw [if_pos rfl]
  exact ZE xs hn i1 h1 hi1 _ (by decide) (by decide) (by decide)
 | false =>
  obtain ⟨x,i',h',e,hs,hi'⟩:=Ny xs hn i1 h1 hi1
  exact ⟨x,i',h',by rw [if_neg (by simp),e,Option.bind_some],hs,hi'⟩
theorem Vs (xs:List Int) (hn:xs.length≤4000000) (i h:Int) (hi:nH 4000000 i) (kd:Int) (p:ByteArray) (hp:p.size≤100):∃ kd' p' h_ off len t i' h',Ev (fun k=>uH.j0 k xs i h kd p (⟨#[]⟩:ByteArray) 0 0 (⟨#[]⟩:ByteArray)) (kd',p',h_,off,len,t,i',h')∧La off len t∧p'.size≤100∧h_.size≤100∧nH 4000000 i':=by
 have z0:(⟨#[]⟩:ByteArray).size≤1000:=Nat.zero_le _
 have z1:(⟨#[]⟩:ByteArray).size≤100:=Nat.zero_le _
 by_cases k5:kd=5
 ·obtain ⟨x,i',h',e,hs,hi'⟩:=Ny xs hn i h hi
  refine ⟨kd,p,x,0,0,⟨#[]⟩,i',h',?_,⟨⟨by omega,by omega⟩,⟨by omega,by omega⟩,z0⟩,hp,hs,hi'⟩
  refine Ev.step (uH.j0.eq_2 _ _ _ _ _ _ _ _ _) ?_
  exact bC k5 (Ev.bind (jh e) (eU rfl))
 by_cases k6:kd=6
 ·obtain ⟨x,i1,h1,e1,m1,hi1⟩:=D9 xs hn i h hi [0,1,5,32,100,200] (by decide) (by decide)
  obtain ⟨y,i2,h2,e2,m2,hi2⟩:=D9 xs hn i1 h1 hi1 [0,1,10,40,128,1000] (by decide) (by decide)
  simp only [List.mem_cons,List.not_mem_nil,or_false] at m1 m2
  refine ⟨kd,p,⟨#[]⟩,x,y,⟨#[]⟩,i2,h2,?_,⟨⟨by omega,by omega⟩,⟨by omega,by omega⟩,z0⟩,hp,z1,hi2⟩
  refine Ev.step (uH.j0.eq_2 _ _ _ _ _ _ _ _ _) ?_
  exact dQ k5 (bC k6 (Ev.bind (jh e1) (Ev.bind (jh e2) (eU rfl))))
 by_cases k7:kd=7
 ·obtain ⟨x,i1,h1,e1,m1,hi1⟩:=D9 xs hn i h hi [0,0,0,1,5,30,32,33,64,100] (by decide) (by decide)
  obtain ⟨y,i2,h2,e2,m2,hi2⟩:=D9 xs hn i1 h1 hi1 [0,1,2,5,20,32,40] (by decide) (by decide)
  simp only [List.mem_cons,List.not_mem_nil,or_false] at m1 m2
  obtain ⟨t,i3,h3,e3,z3,hi3⟩:=akz xs hn i2 h2 hi2 y (by omega) (by omega)
  refine ⟨kd,p,⟨#[]⟩,x,0,t,i3,h3,?_,⟨⟨by omega,by omega⟩,⟨by omega,by omega⟩,by omega⟩,hp,z1,hi3⟩
  refine Ev.step (uH.j0.eq_2 _ _ _ _ _ _ _ _ _) ?_
  exact dQ k5 (dQ k6 (bC k7 (Ev.bind (jh e1) (Ev.bind (jh e2) (Ev.bind e3 (eU rfl))))))
 by_cases k8:kd=8
 ·obtain ⟨x,i1,h1,e1,m1,hi1⟩:=D9 xs hn i h hi [0,1,5,31,32,33,64,70,128,129] (by decide) (by decide)
  simp only [List.mem_cons,List.not_mem_nil,or_false] at m1
  refine ⟨kd,p,⟨#[]⟩,0,x,⟨#[]⟩,i1,h1,?_,⟨⟨by omega,by omega⟩,⟨by omega,by omega⟩,z0⟩,hp,z1,hi1⟩
  refine Ev.step (uH.j0.eq_2 _ _ _ _ _ _ _ _ _) ?_
  exact dQ k5 (dQ k6 (dQ k7 (bC k8 (Ev.bind (jh e1) (eU rfl)))))
 ·refine ⟨kd,p,⟨#[]⟩,0,0,⟨#[]⟩,i,h,?_,⟨⟨by omega,by omega⟩,⟨by omega,by omega⟩,z0⟩,hp,z1,hi⟩
  refine Ev.step (uH.j0.eq_2 _ _ _ _ _ _ _ _ _) ?_
  exact dQ k5 (dQ k6 (dQ k7 (dQ k8 (eU rfl))))
theorem ab_ (xs:List Int) (hn:xs.length≤4000000) (i h:Int) (hi:nH 4000000 i):∃ kd p h_ off len t i' h',Ev (fun k=>uH.f k xs i h) (kd,p,h_,off,len,t,i',h')∧La off len t∧p.size≤100∧h_.size≤100∧nH 4000000 i':=by
 unfold uH.f
 obtain ⟨kd,i1,h1,e1,m1,hi1⟩:=D9 xs hn i h hi [1,1,1,2,2,3,4,5,5,6,7,7,7,7,7,8,8,9,10,11] (by decide) (by decide)
 obtain ⟨p,i2,h2,e2,s2,hi2⟩:=Ny xs hn i1 h1 hi1
 obtain ⟨b,i3,h3,e3,hi3⟩:=TD xs hn i2 h2 hi2 12 (by omega) (by omega)
 cases b with
 | true =>
  obtain ⟨q,i4,h4,e4,s4,hi4⟩:=Pj xs hn i3 h3 hi3
  obtain ⟨kd',p',h_,off,len,t,i',h',e5,ok,hi'⟩:=Vs xs hn i4 h4 hi4 kd q s4
  exact ⟨_,_,_,_,_,_,_,_,Ev.bind (jh e1) (Ev.bind (jh e2) (Ev.bind (jh e3) (bC rfl (Ev.bind (jh e4) e5)))),ok,hi'⟩
 | false =>
  obtain ⟨kd',p',h_,off,len,t,i',h',e5,ok,hi'⟩:=Vs xs hn i3 h3 hi3 kd p s2
  exact ⟨_,_,_,_,_,_,_,_,Ev.bind (jh e1) (Ev.bind (jh e2) (Ev.bind (jh e3) (dQ (by simp) e5))),ok,hi'⟩
theorem ac5 (xs:List Int) (hn:xs.length≤4000000) (i h:Int) (hi:nH 4000000 i):∃ t p ins q i' h',Eh.f xs i h=some (t,p,ins,q,i',h')∧nH 4000000 i'∧(1≤t∧t≤3)∧(6≤p∧p≤12)∧(3≤ins∧ins≤6)∧1≤q∧q≤p - 4:=by
 unfold Eh.f
 obtain ⟨a,i1,h1,e1,a0,a1,hi1⟩:=zG xs hn i h hi 3 (by omega) (by omega)
 obtain ⟨b,i2,h2,e2,b0,b1,hi2⟩:=zG xs hn i1 h1 hi1 7 (by omega) (by omega)
 obtain ⟨c,i3,h3,e3,c0,c1,hi3⟩:=zG xs hn i2 h2 hi2 4 (by omega) (by omega)
 obtain ⟨d,i4,h4,e4,d0,d1,hi4⟩:=zG xs hn i3 h3 hi3 (wrap64 ((wrap64 (6+b)) - 4)) (by rw [pI (x:=6+b) (by omega) (by omega),pI (by omega) (by omega)];omega) (by rw [pI (x:=6+b) (by omega) (by omega),pI (by omega) (by omega)];omega)
 rw [pI (x:=6+b) (by omega) (by omega),pI (x:=6+b - 4) (by omega) (by omega)] at d1
 refine ⟨_,_,_,_,_,_,by rw [e1,Option.bind_some,e2,Option.bind_some,e3,Option.bind_some,e4,Option.bind_some],hi4,?_,?_,?_,?_⟩
 all_goals dsimp only
 ·rw [pI (by omega) (by omega)];omega
 ·rw [pI (by omega) (by omega)];omega
 ·rw [pI (by omega) (by omega)];omega
 ·rw [pI (by omega) (by omega),pI (by omega) (by omega)];omega
theorem aaR (xs:List Int) (hn:xs.length≤4000000) (t p ins q:Int):∀ (f i:Nat) (c h:Int) (vs:List aF),i+f=12→nH 4000000 c→vB i (1000 * i+100) vs→∃ ys c' h',Ev (fun k=>qQ.l0 k (i:Int) xs c h t p ins q vs) (ys,c',h')∧vB 12 12100 ys∧nH 4000000 c'
 | 0,i,c,h,vs,hf,hc,hv=>by
  obtain ⟨b,c1,h1,e,b0,b1,hc1⟩:=zG xs hn c h hc 12 (by omega) (by omega)
  refine ⟨vs,c1,h1,?_,zW hv (by omega) (by omega),hc1⟩
  refine Ev.step (qQ.l0.eq_2 _ _ _ _ _ _ _ _ _) ?_
  exact Ev.bind (jh e) (dQ (by dsimp only;omega) (eU rfl))
 | f+1,i,c,h,vs,hf,hc,hv=>by
  obtain ⟨b,c1,h1,e,b0,b1,hc1⟩:=zG xs hn c h hc 12 (by omega) (by omega)
  by_cases hb:(i:Int) < b
  ·obtain ⟨kd,pa,h_,off,len,tx,c2,h2,e2,ok,s1,s2,hc2⟩:=ab_ xs hn c1 h1 hc1
   obtain ⟨r,e3,hr⟩:=acd t p ins q i (1000 * i+100) vs hv (by omega) (by omega) kd pa h_ off len tx ok (by omega) (by omega)
   obtain ⟨ys,c',h',e4,hy,hc'⟩:=aaR xs hn t p ins q f (i+1) c2 h2 r.1 (by omega) hc2 (zW hr (by omega) (by omega))
   refine ⟨ys,c',h',?_,hy,hc'⟩
   refine Ev.step (qQ.l0.eq_2 _ _ _ _ _ _ _ _ _) ?_
   refine Ev.bind (jh e) (bC hb (Ev.bind e2 (Ev.bind e3 ?_)))
   dsimp only
   rw [qc i (by omega)]
   exact e4
  ·refine ⟨vs,c1,h1,?_,zW hv (by omega) (by omega),hc1⟩
   refine Ev.step (qQ.l0.eq_2 _ _ _ _ _ _ _ _ _) ?_
   exact Ev.bind (jh e) (dQ hb (eU rfl))
theorem akY (xs:List Int) (hn:xs.length≤4000000) (c h:Int) (hc:nH 4000000 c) (t p ins q:Int):∃ ys c' h',Ev (fun k=>qQ.f k xs c h t p ins q) (ys,c',h')∧vB 12 12100 ys∧nH 4000000 c':=by
 unfold qQ.f
 exact aaR xs hn t p ins q 12 0 c h [] (by omega) hc ⟨by simp,by simp⟩
theorem ab9 (xs:List Int) (hn:xs.length≤4000000) (c h:Int) (hc:nH 4000000 c) (t p ins q:Int):∃ ys c' h',Ev (fun k=>wJ.f k xs c h t p ins q) (ys,c',h')∧vB 13 12100 ys∧nH 4000000 c':=by
 unfold wJ.f
 obtain ⟨ys,c1,h1,e1,hy,hc1⟩:=akY xs hn c h hc t p ins q
 obtain ⟨b,c2,h2,e2,b0,b1,hc2⟩:=zG xs hn c1 h1 hc1 10 (by omega) (by omega)
 have hB:=zW (m:=13) (z:=12100) hy (by omega) (by omega)
 have hl:=hy.1
 by_cases k0:b=0
 ·obtain ⟨pa,c3,h3,e3,s3,hc3⟩:=Pj xs hn c2 h2 hc2
  obtain ⟨d,c4,h4,e4,hc4⟩:=TD xs hn c3 h3 hc3 2 (by omega) (by omega)
  refine ⟨_,_,_,Ev.bind e1 (Ev.bind (jh e2) (bC k0 (Ev.bind (jh e3) (Ev.bind (jh e4) (bC (by dsimp only;omega) (eU rfl)))))),⟨?_,fun y hy'=>?_⟩,hc4⟩
  ·simp;omega
  ·rcases List.mem_append.1 hy' with hy'|hy'
   ·exact hB.2 y hy'
   ·rw [List.mem_singleton] at hy'
    subst hy'
    exact ⟨by dsimp only;omega,Nat.zero_le _⟩
 by_cases k1:b=1
 ·obtain ⟨pa,c3,h3,e3,s3,hc3⟩:=Ny xs hn c2 h2 hc2
  obtain ⟨x,c4,h4,e4,m4,hc4⟩:=D9 xs hn c3 h3 hc3 [128,129,33] (by decide) (by decide)
  simp only [List.mem_cons,List.not_mem_nil,or_false] at m4
  obtain ⟨u,e5,z5⟩:=ajp x (by omega) (by omega) 97
  exact ⟨_,_,_,Ev.bind e1 (Ev.bind (jh e2) (dQ k0 (bC k1 (Ev.bind (jh e3) (Ev.bind (jh e4) (Ev.bind e5 (Ev.bind (ZX _ _ _ ys (by omega)) (eU rfl)))))))),ZH hy pa false u (by omega) (by omega),hc4⟩
 by_cases k2:b=2
 ·exact ⟨_,_,_,Ev.bind e1 (Ev.bind (jh e2) (dQ k0 (dQ k1 (bC k2 (Ev.bind (TK _ ys (by omega)) (eU rfl)))))),P8 hB _,hc2⟩
 ·exact ⟨_,_,_,Ev.bind e1 (Ev.bind (jh e2) (dQ k0 (dQ k1 (dQ k2 (eU rfl))))),hB,hc2⟩

def UD:List aF:=[⟨⟨#[47,97]⟩,true,⟨#[]⟩⟩,⟨⟨#[47,97,47,98]⟩,false,⟨#[120,121,122]⟩⟩]
def Bf:List gI:=[⟨1,⟨#[47,97]⟩,⟨#[]⟩,0,0,⟨#[]⟩⟩,⟨1,⟨#[47,99,47,100]⟩,⟨#[]⟩,0,0,⟨#[]⟩⟩,⟨1,⟨#[47,97,47,98,47,99]⟩,⟨#[]⟩,0,0,⟨#[]⟩⟩,⟨3,⟨#[47,97]⟩,⟨#[]⟩,0,0,⟨#[]⟩⟩,⟨4,⟨#[47,97]⟩,⟨#[]⟩,0,0,⟨#[]⟩⟩,⟨4,⟨#[47]⟩,⟨#[]⟩,0,0,⟨#[]⟩⟩,⟨5,⟨#[47,97]⟩,⟨#[47,97,47,99]⟩,0,0,⟨#[]⟩⟩,⟨6,⟨#[47,97,47,98]⟩,⟨#[]⟩,(-1),0,⟨#[]⟩⟩,⟨7,⟨#[47,97,47,98]⟩,⟨#[]⟩,60,0,⟨#[49,50,51,52,53]⟩⟩,⟨7,⟨#[47,97,47,98]⟩,⟨#[]⟩,124,0,⟨#[49,50,51,52,53]⟩⟩,⟨10,⟨#[47,97,47,98]⟩,⟨#[]⟩,0,0,⟨#[]⟩⟩,⟨9,⟨#[47,65]⟩,⟨#[]⟩,0,0,⟨#[]⟩⟩,⟨9,⟨#[47,97,98,99,100,101,102,103,104]⟩,⟨#[]⟩,0,0,⟨#[]⟩⟩,⟨12,⟨#[47]⟩,⟨#[]⟩,0,0,⟨#[]⟩⟩,⟨9,⟨#[47,97,47,98]⟩,⟨#[]⟩,0,0,⟨#[]⟩⟩]
def cC:List Int:=[6,3,4,5,10,9,11,12,13,12,4,1,2,16,0]
theorem acP:∀ i:Nat,i < 15→∀ k,(Ar.f (k+40) 1 6 4 2 UD (dL Bf i).f0 (dL Bf i).f1 (dL Bf i).f2 (dL Bf i).f3 (dL Bf i).f4 (dL Bf i).f5).map (·.2.1)=some (rd cC i)
 | 0,_=>fun k=>by kernel_rfl
 | 1,_=>fun k=>by kernel_rfl
 | 2,_=>fun k=>by kernel_rfl
 | 3,_=>fun k=>by kernel_rfl
 | 4,_=>fun k=>by kernel_rfl
 | 5,_=>fun k=>by kernel_rfl
 | 6,_=>fun k=>by kernel_rfl
 | 7,_=>fun k=>by kernel_rfl
 | 8,_=>fun k=>by kernel_rfl
 | 9,_=>fun k=>by kernel_rfl
 | 10,_=>fun k=>by kernel_rfl
 | 11,_=>fun k=>by kernel_rfl
 | 12,_=>fun k=>by kernel_rfl
 | 13,_=>fun k=>by kernel_rfl
 | 14,_=>fun k=>by kernel_rfl
 | i+15,h=>by omega
theorem acQ {α γ:Type} {F:Nat→Option (α × Int × γ)} {G:Nat→α × Int × γ→Option Bool} {c:Int} {r:Bool} (h:∀ k,(F (k+40)).map (·.2.1)=some c) (e:∃ K,∀ k,K≤k→∀ x,x.2.1=c→G k x=some r):Ev (fun k=>(F k).bind (G k)) r:=by
 obtain ⟨K,e⟩:=e
 refine ⟨K+40,fun k hk=>?_⟩
 have h1:=h (k - 40)
 rw [Nat.sub_add_cancel (by omega)] at h1
 obtain ⟨x,hx,hc⟩:=Option.map_eq_some_iff.1 h1
 show (F k).bind (G k)=_
 rw [hx,Option.bind_some]
 exact e k (by omega) x hc
theorem Xe (xs:List Int) (e:Ev (fun k=>ni.l0 k xs Bf cC 15 1 6 4 2 UD) true):∀ n i:Nat,i+n=15→Ev (fun k=>ni.l0 k xs Bf cC (i:Int) 1 6 4 2 UD) true
 | 0,i,h=>by
  obtain rfl:i=15:=by omega
  exact e
 | n+1,i,h=>by
  obtain ⟨K,ih⟩:=Xe xs e n (i+1) (by omega)
  refine Ev.step (ni.l0.eq_2 _ _ _ _ _ _ _ _ _) ?_
  refine bC (by show (i:Int) < (15:Nat);omega) (bC (by omega) (acQ (acP i (by omega)) ⟨K,fun k hk x hx=>?_⟩))
  rw [if_pos (by show (i:Int) < (15:Nat);omega),if_pos hx,qc i (by omega)]
  exact ih k hk
theorem FnCodes:ni.abG:=by
 intro xs hx
 apply Ev.rounds
 unfold ni.f Hq.f
 refine Ev.bind (eU rfl) ?_
 by_cases hb:(xs.length:Int) > 1048576
 ·exact bC (by simpa using hb) (eU rfl)
 refine dQ (by simpa using hb) (Xe xs ?_ 15 0 rfl)
 obtain ⟨r,hr⟩:=ajB xs (by omega)
 obtain ⟨gt,gp,gi,yu,c1,h1,e1,hc1,_⟩:=ac5 xs (by omega) 0 r ⟨by omega,by omega⟩
 obtain ⟨ys,c2,h2,e2,hy,hc2⟩:=ab9 xs (by omega) c1 h1 hc1 gt gp gi yu
 obtain ⟨p,c3,h3,e3,s3,hc3⟩:=Pj xs (by omega) c2 h2 hc2
 have hl:=hy.1
 have hd:Ev (fun k=>BN.f k xs) (ys,p):=by
  unfold BN.f Ia.f
  exact Ev.bind (Ev.bind hr (Ev.bind (jh e1) (Ev.bind e2 (Ev.bind (jh e3) (eU rfl))))) (eU rfl)
 refine Ev.step (ni.l0.eq_2 _ _ _ _ _ _ _ _ _) ?_
 refine dQ (by show ¬ (15:Int) < (15:Nat);omega) (Ev.bind hd (Ev.bind (ai2 ys (by omega) (fun y h=>by have:=hy.2 y h;omega) p (by omega)) (Ev.bind (TQ ys (by omega) p) (bC rfl (Ev.bind (Y4 ys (by omega) p (by omega)) (Ev.bind (TN ys (by omega) p) (eU (by simp))))))))

end Go.Proofs.YthejdhjpbpamoaaGreatDoor.Pure
