/- The pure statement of FnExactAsked is proved: for all arguments within the row's own bounds the Lean function that the law's walk comes to answers true. Conditions: none beyond these bounds. -/
import Derived.Test.YthejdhjpbpamoaaGreatDoorStFnExactAsked
import Derived.Test.YthejdhjpbpamoaaGreatDoorBase
namespace Go.Proofs.YthejdhjpbpamoaaGreatDoor.Pure
open Go.RowKit Go.Proofs.YthejdhjpbpamoaaGreatDoor.pU Go.Proofs.YthejdhjpbpamoaaGreatDoorW.jk Go.Proofs.YthejdhjpbpamoaaGreatDoorW.qI Go.Proofs.YthejdhjpbpamoaaGreatDoor.Base
set_option linter.unusedVariables false
set_option linter.unusedSimpArgs false
def DC (x:nY):aF:=⟨x.f0,x.f1,x.f2⟩
def C_ (x:nY):Nat:=x.f0.size+x.f2.size
theorem ace (xs:List nY) (i:Nat) (h:i < xs.length):tZ xs (i:Int)=xs[i]:=getD_at _ xs i h
theorem t_ (xs:List aF) (i:Nat) (h:i < xs.length):aB xs (i:Int)=xs[i]:=getD_at _ xs i h
theorem an4 (x:nY) (hx:GN x) (a:Int) (h0:0≤a) (h1:a≤1048576):FT.f x.f0 x.f1 x.f2 a=some (left a (C_ x)):=by
 obtain ⟨h2,_,h3⟩:=hx
 simp only [FT.f]
 rw [oW (x:=a - (x.f0.size:Int)) (by omega) (by omega),oW (x:=a - (x.f0.size:Int) - (x.f2.size:Int)) (by omega) (by omega)]
 unfold left C_
 split
 ·rw [if_neg (by omega)]
 ·split
  ·rw [if_neg (by omega)]
  ·rw [if_pos (by omega)];congr 1;omega
theorem acQ (xs:List nY) (hn:xs.length≤1048576) (hw:∀ y ∈ xs,GN y):∀ (i:Nat) (a:Int),i≤xs.length→0≤a→a≤1048576 →
  Ev (fun k=>xk.l0 k xs a i) (left a (qC C_ (xs.drop i)))
 | i,a,hi,h0,h1=>by
  refine Ev.step (xk.l0.eq_2 _ _ _) ?_
  by_cases h:i < xs.length
  ·refine aW (by omega) (aW (by omega) ?_)
   rw [ace xs i h,kP i (by omega)]
   refine Ev.bind (iQ (an4 _ (hw _ (List.getElem_mem h)) a h0 h1)) ?_
   rw [drop_at xs i h,BJ,← VY]
   by_cases h2:left a (C_ xs[i]) < 0
   ·exact aW h2 (dM (if_pos h2).symm)
   ·obtain ⟨h3,h4⟩:=left_le (a:=a) (t:=C_ xs[i]) (by omega)
    refine dP h2 (lF (acQ xs hn hw (i+1) _ (by omega) (by omega) (by omega)) (if_neg h2).symm)
  ·refine dP (by omega) (dM ?_)
   rw [List.drop_of_length_le (by omega),an0,abB h0]
 termination_by i=>xs.length - i
def AP (xs:List nY):Nat:=xs.length+qC C_ xs
theorem an3 (xs:List nY) (hb:xs.length≤140737488351232) (hw:∀ y ∈ xs,GN y) (a:Int) (h0:0≤a) (h1:a≤1048576):Ev (fun k=>xk.f k xs a) (left a (AP xs)):=by
 unfold xk.f
 rw [oW (by omega) (by omega)]
 unfold AP
 rw [← VY]
 by_cases h:a - (xs.length:Int) < 0
 ·exact aW h (dM (by rw [if_pos];unfold left;rw [if_neg (by omega)];omega))
 ·have h2:left a xs.length=a - xs.length:=by unfold left;rw [if_pos (by omega)]
  have:=acQ xs (by omega) hw 0 (a - xs.length) (by omega) (by omega) (by omega)
  rw [List.drop_zero] at this
  exact dP h (lF this (by rw [h2,if_neg h]))
theorem acX (xs:List nY) (hn:xs.length≤1048576):∀ (i:Nat) (ys:List aF),i≤xs.length→ys.length=xs.length→ys.take i=(xs.map DC).take i →
  Ev (fun k=>xq.l0 k xs ys i) (xs.map DC)
 | i,ys,hi,hl,ht=>by
  refine Ev.step (xq.l0.eq_2 _ _ _) ?_
  by_cases h:i < xs.length
  ·refine aW (by omega) (aW (by omega) ?_)
   rw [ace xs i h,kP i (by omega)]
   refine Ev.bind (iQ rfl) (aW (by omega) ?_)
   rw [Int.toNat_natCast]
   exact acX xs hn (i+1) _ (by omega) (by simp [hl]) (take_set (by simp [hl]) ht (by simpa using h) (by simp [DC]))
  ·have:i=xs.length:=by omega
   subst this
   exact dP (by omega) (dM (an_ (by simp [hl]) (by simpa using ht)))
 termination_by i=>xs.length - i
theorem aoc (xs:List nY) (hn:xs.length≤1048576):Ev (fun k=>xq.f k xs) (xs.map DC):=by
 unfold xq.f
 exact aW (by omega) (aW (by omega) (acX xs hn 0 _ (by omega) (by simp) (by simp)))
theorem af6 (x:aF):FN.f x.f0 x.f1 x.f2 x.f0 x.f1 x.f2=some true:=by simp [FN.f]
theorem Zb (xs:List aF) (hn:xs.length≤2000000):∀ (i:Nat),i≤xs.length→Ev (fun k=>uQ.l0 k xs xs i) true
 | i,hi=>by
  refine Ev.step (uQ.l0.eq_2 _ _ _) ?_
  by_cases h:i < xs.length
  ·refine aW (by omega) (aW (by omega) (aW (by omega) ?_))
   rw [kP i (by omega)]
   exact Ev.bind (iQ (af6 _)) (aW rfl (Zb xs hn (i+1) (by omega)))
  ·exact dP (by omega) (dM rfl)
 termination_by i=>xs.length - i
theorem af4 (xs:List aF) (hn:xs.length≤2000000):Ev (fun k=>uQ.f k xs xs) true:=by
 unfold uQ.f
 exact aW rfl (Zb xs hn 0 (by omega))
theorem af5 (xs:List aF) (hn:xs.length≤1048576):Ev (fun k=>uQ.f k xs xs) true:=af4 xs (by omega)

theorem an5 (xs:List nY) (hb:xs.length * 40≤140737488351232∧∀ y ∈ xs,GN y) (a:Int) (h0:0≤a) (h1:a≤1048576):Ev (fun k=>FU.f k xs a) (left a (AP xs)):=by
 unfold FU.f
 refine Ev.bind (an3 xs (by omega) hb.2 a h0 h1) af_
theorem aod (xs:List nY) (hn:xs.length≤1048576):Ev (fun k=>yM.f k xs) (xs.map DC):=by
 unfold yM.f
 exact Ev.bind (aoc xs hn) (dM rfl)
theorem af9 (xs:List aF) (hn:xs.length≤1048576):Ev (fun k=>wG.f k xs xs) true:=by
 unfold wG.f
 exact Ev.bind (af5 xs hn) (aW rfl (dM rfl))
theorem apx {xs:List nY} {a:Int} (h:0≤left a (AP xs)) (ha:a≤1048576):xs.length≤1048576∧(∀ y ∈ xs,C_ y≤1048576):=by
 have h2:=(left_le h).1
 unfold AP at h2
 exact ⟨by omega,fun y hy=>by have:=anY (f:=C_) hy;omega⟩
def mM:List UInt8→List (List UInt8)
 | []=>[[]]
 | b :: l=>if b=47 then [] :: mM l else match mM l with
  | []=>[[b]]
  | p :: r=>(b :: p) :: r
theorem DZ (l:List UInt8):mM l≠[]:=by
 cases l with
 | nil=>simp [mM]
 | cons b l =>
  unfold mM
  split
  ·simp
  split <;> simp
theorem WC (l:List UInt8):(mM l).length≤l.length+1:=by
 induction l with
 | nil=>simp [mM]
 | cons b l ih =>
  unfold mM
  split
  ·simp;omega
  ·split
   ·simp
   ·rename_i p r h;rw [h] at ih;simp at ih ⊢;omega
theorem Qb (l:List UInt8):mM (47 :: l)=[] :: mM l:=by simp [mM]
theorem JW (b:UInt8) (l:List UInt8) (hb:b≠47) (p:List UInt8) (r:List (List UInt8)) (h:mM l=p :: r):mM (b :: l)=(b :: p) :: r:=by simp [mM,hb,h]
def zK (cur l:List UInt8):List (List UInt8):=match mM l with
 | []=>[cur]
 | p :: r=>(cur++p) :: r
theorem JI (l:List UInt8):zK [] l=mM l:=by
 unfold zK
 split
 ·rename_i h;exact absurd h (DZ l)
 ·rename_i h;simp [h]
theorem ab2 (cur:List UInt8):zK cur []=[cur]:=by simp [zK,mM]
theorem ab3 (cur l:List UInt8):zK cur (47 :: l)=cur :: mM l:=by simp [zK,mM]
theorem am9 (cur:List UInt8) (b:UInt8) (l:List UInt8) (hb:b≠47):zK cur (b :: l)=zK (cur++[b]) l:=by
 unfold zK
 obtain ⟨p,r,h⟩:=List.exists_cons_of_ne_nil (DZ l)
 rw [JW b l hb p r h,h]
 simp
theorem abe (b:UInt8) (l:List UInt8):Lib.index (b :: l) [47]=if b=47 then 0 else if Lib.index l [47] == -1 then -1 else Lib.index l [47]+1:=by
 rw [Lib.index]
 by_cases h:b=47
 ·subst h;simp [List.isPrefixOf]
 ·have:([47]:List UInt8).isPrefixOf (b :: l)=false:=by simp [List.isPrefixOf];exact fun e=>h e.symm
  rw [this,if_neg h];rfl
theorem acL:∀ (l:List UInt8),Lib.splitK [47] 0 (l.count 47) l=mM l
 | []=>rfl
 | b :: l=>by
  have ih:=acL l
  by_cases h:b=47
  ·subst h
   have e:Lib.index (47 :: l) [47]=0:=by rw [abe];simp
   rw [List.count_cons_self,Lib.splitK,e]
   simp [mM,ih]
  ·rw [List.count_cons_of_ne (by simpa using h)]
   obtain ⟨p,r,hs⟩:=List.exists_cons_of_ne_nil (DZ l)
   rw [JW b l h p r hs]
   rw [hs] at ih
   cases hc:l.count 47 with
   | zero =>
    rw [hc] at ih
    simp only [Lib.splitK] at ih ⊢
    simp at ih
    obtain ⟨rfl,rfl⟩:=ih
    rfl
   | succ n =>
    rw [hc] at ih
    have hi:=abe b l
    rw [if_neg h] at hi
    have hg:=Lib.index_ge l [47]
    by_cases hm:Lib.index l [47] = -1
    ·rw [hm] at hi
     simp at hi
     rw [Lib.splitK,hm] at ih
     rw [Lib.splitK,hi]
     simp at ih ⊢
     exact ⟨ih.1,ih.2⟩
    ·rw [if_neg (by simpa using hm)] at hi
     obtain ⟨j,hj⟩:∃ j:Nat,Lib.index l [47]=j:=⟨(Lib.index l [47]).toNat,by omega⟩
     rw [hj] at hi hm
     rw [Lib.splitK,hj,if_neg (by simp)] at ih
     have e2:((j:Int)+1).toNat=j+1:=by omega
     rw [Lib.splitK,hi,if_neg (by simp;omega),e2]
     simp at ih ⊢
     exact ⟨by rw [← ih.1],by rw [← ih.2]⟩
theorem anS (s:ByteArray):(Lib.splitB ⟨#[47]⟩ 0 (Lib.countB s ⟨#[47]⟩) s).map (·.data.toList)=mM s.data.toList:=by
 rw [Lib.splitB_data]
 have:Lib.countB s ⟨#[47]⟩=s.data.toList.count 47:=by unfold Lib.countB;exact Lib.count_one 47 _
 rw [this]
 exact acL _
def yH:List UInt8→Bool
 | []=>false
 | [b]=>b == 47
 | _ :: b :: l=>yH (b :: l)
def yY:List UInt8→Bool
 | []=>false
 | [_]=>false
 | a :: b :: l=>(a == 47 && b == 47) || yY (b :: l)
theorem Y4:∀ l:List UInt8,Lib.contains l [47,47]=yY l
 | []=>rfl
 | [b]=>by simp [Lib.contains,Lib.index,yY,List.isPrefixOf]
 | a :: b :: l=>by
  have ih:=Y4 (b :: l)
  have hg:=Lib.index_ge (b :: l) [47,47]
  unfold Lib.contains at ih ⊢
  rw [Lib.index,yY]
  by_cases h:a=47∧b=47
  ·obtain ⟨rfl,rfl⟩:=h;simp [List.isPrefixOf]
  ·have e:([47,47]:List UInt8).isPrefixOf (a :: b :: l)=false:=by
    simp [List.isPrefixOf];intro h1 h2;exact h ⟨h1.symm,h2.symm⟩
   have e2:(a == 47 && b == 47)=false:=by simp;intro h1;exact fun h2=>h ⟨h1,h2⟩
   rw [e,e2,Bool.false_or,← ih]
   by_cases hm:Lib.index (b :: l) [47,47] = -1
   ·rw [hm];rfl
   ·rw [if_neg (by simp),if_neg (by simpa using hm)]
    rw [decide_eq_decide];omega
theorem acN:∀ l:List UInt8,Lib.hasSuffix l [47]=yH l
 | []=>rfl
 | [b]=>by
  unfold Lib.hasSuffix
  simp [yH,List.isSuffixOf,List.isPrefixOf]
  rw [Bool.eq_iff_iff,beq_iff_eq,beq_iff_eq];exact eq_comm
 | a :: b :: l=>by
  rw [yH,← acN (b :: l)]
  unfold Lib.hasSuffix
  rw [Bool.eq_iff_iff,List.isSuffixOf_iff_suffix,List.isSuffixOf_iff_suffix]
  constructor
  ·rintro ⟨t,ht⟩
   cases t with
   | nil=>simp at ht
   | cons c t=>simp at ht;exact ⟨t,ht.2⟩
  ·rintro ⟨t,ht⟩;exact ⟨a :: t,by simp [ht]⟩
def emp (l:List (List UInt8)):Bool:=l.any (·.isEmpty)
theorem Y_:∀ (l:List UInt8),(∀ b,b≠47→(yY (b :: l) || yH (b :: l))=emp (mM l).tail)∧(yY (47 :: l) || yH (47 :: l))=emp (mM l)
 | []=>by
  refine ⟨fun b hb=>?_,rfl⟩
  simp [yY,yH,emp,mM,hb]
 | c :: l=>by
  obtain ⟨h1,h2⟩:=Y_ l
  by_cases hc:c=47
  ·subst hc
   refine ⟨fun b hb=>?_,?_⟩
   ·rw [Qb,List.tail_cons,← h2,yY,yH]
    simp [show (b == 47)=false from beq_eq_false_iff_ne.2 hb]
   ·simp [yY,Qb,emp]
  ·obtain ⟨p,r,hs⟩:=List.exists_cons_of_ne_nil (DZ l)
   have:=h1 c hc
   rw [hs,List.tail_cons] at this
   refine ⟨fun b hb=>?_,?_⟩
   ·rw [JW c l hc p r hs,List.tail_cons,← this,yY,yH];simp [show (b == 47)=false from beq_eq_false_iff_ne.2 hb]
   ·rw [JW c l hc p r hs,show emp ((c :: p) :: r)=emp r by simp [emp],← this,yY,yH];simp [show (c == 47)=false from beq_eq_false_iff_ne.2 hc]
def nb (b:UInt8):Bool:=(decide (97≤b.toNat) && decide (b.toNat≤122)) || (decide (48≤b.toNat) && decide (b.toNat≤57))
def wu (b:UInt8):Bool:=!(nb b || b == 47)
theorem afX (s:ByteArray) (i:Nat) (h:(s.get! i).toNat < 128):Utf8.decode s i=((s.get! i).toNat,1):=by
 unfold Utf8.decode
 simp only [Nat.add_zero]
 rw [if_pos h]
theorem decode_high (s:ByteArray) (i:Nat) (h:¬ (s.get! i).toNat < 128):128≤(Utf8.decode s i).1:=by
 unfold Utf8.decode
 simp only [Nat.add_zero]
 rw [if_neg h]
 have hr:128≤Utf8.runeError:=by decide
 repeat' (first|exact hr|(split))
 all_goals first|exact hr|assumption|(simp only [ge_iff_le,Bool.and_eq_true,decide_eq_true_eq] at *;omega)
theorem abb (p:Nat→Bool) (hp:∀ r,p r=!((97≤r && r≤122) || (48≤r && r≤57) || r == 47)) (s:ByteArray):∀ (f pos:Nat),s.size≤pos+f →
  decide (0≤Lib.idxFuncFrom p true s f pos)=(s.data.toList.drop pos).any wu
 | 0,pos,h=>by
  rw [List.drop_of_length_le (by rw [Array.length_toList];exact h)]
  simp [Lib.idxFuncFrom]
 | f+1,pos,h=>by
  unfold Lib.idxFuncFrom
  by_cases hlt:pos < s.size
  ·rw [if_pos hlt]
   have hg:s.get! pos=s.data.toList[pos]'(by rw [Array.length_toList];exact hlt):=by
    show s.data[pos]! = _
    rw [getElem!_pos s.data pos hlt];simp
   rw [List.drop_eq_getElem_cons (by rw [Array.length_toList];exact hlt),List.any_cons,← hg]
   by_cases hb:(s.get! pos).toNat < 128
   ·rw [afX s pos hb,hp]
    have e:(!((decide (97≤(s.get! pos).toNat) && decide ((s.get! pos).toNat≤122)) || (decide (48≤(s.get! pos).toNat) && decide ((s.get! pos).toNat≤57)) || (s.get! pos).toNat == 47))=wu (s.get! pos):=by
     unfold wu nb
     congr 2
     rw [Bool.eq_iff_iff,beq_iff_eq,beq_iff_eq,← UInt8.toNat_inj];rfl
    rw [e]
    cases hq:wu (s.get! pos) with
    | true=>rw [if_pos rfl];simp
    | false=>rw [if_neg (by simp),Bool.false_or];exact abb p hp s f (pos+1) (by omega)
   ·have hd:=decode_high s pos hb
    have e1:p (Utf8.decode s pos).1=true:=by
     rw [hp];simp;omega
    have e2:wu (s.get! pos)=true:=by
     unfold wu nb
     have:(s.get! pos == 47)=false:=by
      rw [beq_eq_false_iff_ne];intro e;rw [e] at hb;exact hb (by decide)
     rw [this];simp;omega
    rw [if_pos e1,e2];simp
  ·rw [if_neg hlt,List.drop_of_length_le (by rw [Array.length_toList];exact Nat.le_of_not_lt hlt)];simp

theorem JD (a b c:Int):vC.f a b c=some (decide (b≤a∧a≤c)):=by
 unfold vC.f
 by_cases h:a ≥ b
 ·rw [if_pos h];congr 1;simp;omega
 ·rw [if_neg h];congr 1;simp;omega

theorem YZ (a:ByteArray) (i:Nat) (h:i < a.data.toList.length):bt a (i:Int)=((a.data.toList[i]).toNat:Int):=by
 have h2:i < a.size:=by rw [wo] at h;exact h
 rw [← Hg a (i:Int) (by simpa using h2)]
 simp only [Int.toNat_natCast];rfl

def vP (l:List UInt8):ByteArray:=⟨l.toArray⟩
theorem PS (l:List UInt8):(vP l).data.toList=l:=rfl
theorem amN (l:List UInt8):(vP l).size=l.length:=EG l
theorem amL (b:ByteArray):vP b.data.toList=b:=yE rfl
theorem amM {xs:List ByteArray} {l:List (List UInt8)} (h:xs.map (·.data.toList)=l):xs=l.map vP:=by
 rw [← h,List.map_map]
 have:(vP ∘ fun x:ByteArray=>x.data.toList)=id:=by funext b;exact amL b
 rw [this,List.map_id]
def sV (out:List ByteArray) (long:Bool) (cur rest:List UInt8):List ByteArray × Int :=
 if rest.any wu then ([],1) else if emp (zK cur rest) then ([],1) else if long || (zK cur rest).any (fun p=>decide (7 < p.length)) then ([],2) else (out++(zK cur rest).map vP,0)
theorem amQ (x:UInt8):(decide ((97:Int)≤(x.toNat:Int)∧(x.toNat:Int)≤122) || decide ((48:Int)≤(x.toNat:Int)∧(x.toNat:Int)≤57))=nb x:=by
 unfold nb
 rw [Bool.eq_iff_iff]
 simp
 omega
theorem aga (out:List ByteArray) (long:Bool) (cur rest:List UInt8) (x:UInt8) (h:wu x=true):sV out long cur (x :: rest)=([],1):=by
 unfold sV
 rw [if_pos (by simp [h])]
theorem agf (out:List ByteArray) (long:Bool) (cur rest:List UInt8) (x:UInt8) (h:nb x=true) (h47:x≠47):sV out long cur (x :: rest)=sV out long (cur++[x]) rest:=by
 unfold sV
 rw [am9 cur x rest h47,List.any_cons,show wu x=false by simp [wu,h],Bool.false_or]
theorem X6:wu 47=false:=by decide
theorem agb (out:List ByteArray) (long:Bool) (rest:List UInt8):sV out long [] (47 :: rest)=([],1):=by
 unfold sV
 rw [ab3,show emp ([] :: mM rest)=true by simp [emp]]
 split <;> rfl
theorem agh (out:List ByteArray) (long:Bool) (cur rest:List UInt8) (hc:cur≠[]):sV out long cur (47 :: rest)=sV (out++[vP cur]) (long || decide (7 < cur.length)) [] rest:=by
 unfold sV
 rw [ab3,JI,List.any_cons,X6,Bool.false_or]
 rw [show emp (cur :: mM rest)=emp (mM rest) by simp [emp,hc]]
 simp only [List.any_cons,List.map_cons,List.append_assoc,List.singleton_append,Bool.or_assoc]
theorem agd (out:List ByteArray) (long:Bool):sV out long [] []=([],1):=by
 unfold sV
 rw [ab2];rfl
theorem agc (out:List ByteArray) (long:Bool) (cur:List UInt8) (hc:cur≠[]):sV out long cur []=if (long || decide (7 < cur.length)) then ([],2) else (out++[vP cur],0):=by
 unfold sV
 rw [ab2]
 simp [emp,hc]
theorem Ws (a:ByteArray) (hn:a.size≤60):∀ (i dL:Nat) (out:List ByteArray) (long:Bool),dL≤i→i≤a.size→out.length≤i→Ev (fun k=>jv.l0 k a [] out long (dL:Int) (i:Int)) (sV out long ((a.data.toList.take i).drop dL) (a.data.toList.drop i))
 | i,dL,out,long,hb,hi,ho=>by
  refine Ev.step (jv.l0.eq_2 _ _ _ _ _ _) ?_
  have hl:=wo a
  have hcl:((a.data.toList.take i).drop dL).length=i - dL:=by rw [List.length_drop,List.length_take];omega
  have hE:a.extract (dL:Int).toNat (i:Int).toNat=vP ((a.data.toList.take i).drop dL):=yE (by rw [Dt,PS];rfl)
  have hw:wrap64 ((i:Int) - (dL:Int))=(i:Int) - dL:=oW (by omega) (by omega)
  have hlim:out.length < 8796093022208:=by omega
  by_cases h:i < a.size
  ·have h':i < a.data.toList.length:=by omega
   rw [drop_at a.data.toList i h']
   refine aW (by omega) (aW (by omega) (aW (by omega) ?_))
   refine Ev.step (jv.j2.eq_2 _ _ _ _ _ _ _) ?_
   rw [YZ a i h']
   have htk:(a.data.toList.take (i+1)).drop dL=(a.data.toList.take i).drop dL++[a.data.toList[i]]:=by
    rw [List.take_succ_eq_append_getElem h',List.drop_append_of_le_length (by rw [List.length_take];omega)]
   have alS:(a.data.toList.take (i+1)).drop (i+1)=[]:=List.drop_of_length_le (by rw [List.length_take];omega)
   generalize hx:a.data.toList[i]=x at htk
   by_cases h47:x=47
   ·subst h47
    refine dP (by decide) ?_
    by_cases hbi:dL=i
    ·subst hbi
     refine aW rfl (dM ?_)
     rw [show (a.data.toList.take dL).drop dL=[] from List.eq_nil_of_length_eq_zero (by omega),agb]
    ·refine dP (by omega) ?_
     rw [agh _ _ _ _ (by intro e;rw [e] at hcl;simp at hcl;omega),hcl]
     have ih:=fun xw=>Ws a hn (i+1) (i+1) (out++[vP ((a.data.toList.take i).drop dL)]) xw (Nat.le_refl _) (by omega) (by simp;omega)
     rw [alS] at ih
     cases long with
     | true =>
      refine aW rfl (aW (by omega) (aW (by omega) (aW (by omega) (aW hlim ?_))))
      rw [hE,kP i (by omega)]
      exact ih true
     | false =>
      refine dP (by simp) (aW (by omega) (aW (by omega) (aW (by omega) (aW hlim ?_))))
      rw [hE,kP i (by omega),hw]
      have e:decide ((i:Int) - (dL:Int) > 7)=decide (7 < i - dL):=by rw [decide_eq_decide];omega
      rw [e,Bool.false_or]
      exact ih _
   ·have hne:(((x.toNat:Int)) != 47)=true:=by
     rw [bne_iff_ne];intro e;exact h47 (UInt8.toNat_inj.1 (show x.toNat=(47:UInt8).toNat from (show x.toNat=47 by omega)))
    have hxl:x.toNat < 256:=UInt8.toNat_lt x
    refine aW hne (aW (by omega) (aW (by omega) ?_))
    rw [oW (by omega) (by omega)]
    have hj:∀ v,v=!nb x→Ev (fun k=>jv.j3 k a [] out long (dL:Int) (i:Int) v) (sV out long ((a.data.toList.take i).drop dL) (x :: a.data.toList.drop (i+1))):=by
     intro v hv
     refine Ev.step (jv.j3.eq_2 _ _ _ _ _ _ _) ?_
     cases hq:nb x with
     | false=>
      rw [hq] at hv
      exact aW hv (dM (aga _ _ _ _ _ (by simp [wu,hq,h47])).symm)
     | true =>
      rw [hq] at hv
      subst hv
      refine dP (by simp) ?_
      rw [agf _ _ _ _ _ hq h47,kP i (by omega),← htk]
      exact Ws a hn (i+1) dL out long (by omega) (by omega) (by omega)
    have hnb:=amQ x
    refine Ev.bind (iQ (JD _ _ _)) ?_
    by_cases q1:(97:Int)≤(x.toNat:Int)∧(x.toNat:Int)≤122
    ·refine aW (by simpa using q1) (hj _ ?_)
     rw [← hnb,decide_eq_true q1];rfl
    ·refine dP (by simpa using q1) (Ev.bind (iQ (JD _ _ _)) (hj _ ?_))
     rw [← hnb,decide_eq_false q1,Bool.false_or]
  ·have he:i=a.size:=by omega
   refine aW (by omega) (dP (by omega) ?_)
   refine Ev.step (jv.j2.eq_2 _ _ _ _ _ _ _) ?_
   refine dP (by simp) ?_
   rw [List.drop_of_length_le (by omega:a.data.toList.length≤i)]
   by_cases hbi:dL=i
   ·subst hbi
    refine aW rfl (dM ?_)
    rw [show (a.data.toList.take dL).drop dL=[] from List.eq_nil_of_length_eq_zero (by omega),agd]
   ·refine dP (by omega) ?_
    rw [agc _ _ _ (by intro e;rw [e] at hcl;simp at hcl;omega),hcl]
    have last:∀ (o:List ByteArray) (xw:Bool),Ev (fun k=>jv.l0 k a [] o xw ((i+1:Nat):Int) ((i+1:Nat):Int)) (if xw then ([],2) else (o,0)):=by
     intro o xw
     refine Ev.step (jv.l0.eq_2 _ _ _ _ _ _) ?_
     refine dP (by omega) ?_
     cases xw with
     | true=>exact aW rfl (dM rfl)
     | false=>exact dP (by simp) (dM rfl)
    cases long with
    | true =>
     refine aW rfl (aW (by omega) (aW (by omega) (aW (by omega) (aW hlim ?_))))
     rw [hE,kP i (by omega)]
     exact lF (last _ _) (by simp)
    | false =>
     refine dP (by simp) (aW (by omega) (aW (by omega) (aW (by omega) (aW hlim ?_))))
     rw [hE,kP i (by omega),hw]
     have e:decide ((i:Int) - (dL:Int) > 7)=decide (7 < i - dL):=by rw [decide_eq_decide];omega
     rw [e,Bool.false_or]
     exact last _ _
 termination_by i=>a.size+1 - i
def fH (a:ByteArray):List ByteArray × Int :=
 if 60 < a.size then ([],1) else match a.data.toList with
  | []=>([],1)
  | c :: t=>if c≠47 then ([],1) else if t=[] then ([],0) else sV [] false [] t
theorem JQ (a:ByteArray):Ev (fun k=>jv.f k a) (fH a):=by
 unfold jv.f fH
 simp only [Option.bind_some]
 have hl:=wo a
 have j1:Ev (fun k=>jv.j0 k a [] true) ([],1):=by
  refine Ev.step (jv.j0.eq_2 _ _ _) ?_
  exact aW rfl (dM rfl)
 by_cases h:60 < a.size
 ·rw [if_pos h];exact aW (by omega) j1
 ·rw [if_neg h]
  refine dP (by omega) ?_
  rcases hq:a.data.toList with _|⟨c,t⟩
  ·rw [hq] at hl;simp at hl
   exact aW (by omega) j1
  ·have hl':=hl
   rw [hq] at hl';simp at hl'
   refine dP (by omega) (aW (by omega) ?_)
   have hb:=YZ a 0 (by omega)
   have e0:a.data.toList[0]'(by omega)=c:=by simp [hq]
   rw [e0] at hb
   rw [show bt a 0=(c.toNat:Int) from hb]
   refine Ev.step (jv.j0.eq_2 _ _ _) ?_
   by_cases h47:c=47
   ·subst h47
    refine dP (by decide) ?_
    rw [EH,hq]
    simp only [ne_eq,not_true,if_false]
    by_cases ht:t=[]
    ·subst ht;exact aW rfl (dM rfl)
    ·rw [if_neg ht]
     refine dP (by simp [ht]) (lF (Ws a (by omega) 1 1 [] false (Nat.le_refl _) (by omega) (by simp)) ?_)
     rw [hq];simp
   ·refine aW ?_ (dM (by simp [h47]))
    rw [bne_iff_ne];intro e;exact h47 (UInt8.toNat_inj.1 (show c.toNat=(47:UInt8).toNat from (show c.toNat=47 by omega)))
def DR (xs:List ByteArray):Bool:=xs.any (fun p=>decide (7 < p.size))
theorem aaZ (xs:List ByteArray) (hn:xs.length≤1000000):∀ i:Nat,i≤xs.length→∃ r:Int,Ev (fun k=>wI.l0 k xs (xs.length:Int) (i:Int)) r∧decide (r ≥ 0)=DR (xs.drop i)
 | i,hi=>by
  by_cases h:i < xs.length
  ·rw [drop_at xs i h]
   by_cases hs:7 < xs[i].size
   ·refine ⟨i,?_,?_⟩
    ·refine Ev.step (wI.l0.eq_2 _ _ _) ?_
     refine aW (by omega) (aW (by omega) (aW (by omega) (Ev.bind (iQ rfl) (aW ?_ (dM rfl)))))
     rw [CS _ xs i h];exact decide_eq_true (by omega)
    ·rw [show DR (xs[i] :: xs.drop (i+1))=(decide (7 < xs[i].size) || DR (xs.drop (i+1))) from rfl,decide_eq_true hs];simp
   ·obtain ⟨r,hr,he⟩:=aaZ xs hn (i+1) (by omega)
    refine ⟨r,?_,?_⟩
    ·refine Ev.step (wI.l0.eq_2 _ _ _) ?_
     refine aW (by omega) (aW (by omega) (aW (by omega) (Ev.bind (iQ rfl) (dP ?_ ?_))))
     ·rw [CS _ xs i h];simp;omega
     ·rw [kP i (by omega)];exact hr
    ·rw [he,show DR (xs[i] :: xs.drop (i+1))=(decide (7 < xs[i].size) || DR (xs.drop (i+1))) from rfl,decide_eq_false hs];simp
  ·refine ⟨-1,?_,?_⟩
   ·refine Ev.step (wI.l0.eq_2 _ _ _) ?_
    exact dP (by omega) (dM rfl)
   ·rw [List.drop_of_length_le (by omega)];rfl
 termination_by i=>xs.length - i
theorem al1 (xs:List ByteArray) (hn:xs.length≤1000000):Ev (fun k=>FY.f k xs ()) (DR xs):=by
 unfold FY.f wI.f
 obtain ⟨r,hr,he⟩:=aaZ xs hn 0 (by omega)
 exact Ev.bind hr (dM (by rw [he,List.drop_zero]))
theorem aaW (a:ByteArray):strings_ContainsFunc.f a ()=some (a.data.toList.any wu):=by
 unfold strings_ContainsFunc.f
 congr 1
 have:=abb (fun r=>(Aj.f (r:Int)).getD false) (fun r=>by
  unfold Aj.f Fz.f
  by_cases h1:(r:Int) ≥ 97 <;> by_cases h2:(r:Int)≤122 <;> by_cases h3:(r:Int) ≥ 48 <;> by_cases h4:(r:Int)≤57 <;> simp only [h1,h2,h3,h4,if_true,if_false,Option.bind_some,Option.getD_some] <;> rw [Bool.eq_iff_iff] <;> simp <;> omega) a a.size 0 (by omega)
 rw [List.drop_zero] at this
 exact this
theorem amA (l:List (List UInt8)):DR (l.map vP)=l.any (fun p=>decide (7 < p.length)):=by
 unfold DR
 rw [List.any_map]
 rfl
theorem Ju (a:ByteArray) (ha:a.size≤140737488351232):Ev (fun k=>mY.f k a) (fH a):=by
 unfold mY.f fH
 have hl:=wo a
 have j1:Ev (fun k=>mY.j0 k a true) ([],1):=by
  refine Ev.step (mY.j0.eq_2 _ _) ?_
  exact aW rfl (dM rfl)
 by_cases h:60 < a.size
 ·rw [if_pos h];exact aW (by omega) j1
 ·rw [if_neg h]
  refine dP (by omega) ?_
  have hC:strings_Contains.f a ⟨#[47,47]⟩=some (yY a.data.toList):=by
   unfold strings_Contains.f
   rw [if_pos (by omega)]
   congr 1
   exact Y4 _
  have hS:strings_HasSuffix.f a ⟨#[47]⟩=some (yH a.data.toList):=by
   unfold strings_HasSuffix.f
   rw [if_pos (by omega)]
   congr 1
   exact acN _
  rcases hq:a.data.toList with _|⟨c,t⟩
  ·refine Ev.bind (iQ (show strings_HasPrefix.f a ⟨#[47]⟩=some false by unfold strings_HasPrefix.f;rw [hq];rfl)) ?_
   exact dP (by simp) j1
  ·have hP:strings_HasPrefix.f a ⟨#[47]⟩=some (c == 47):=by
    unfold strings_HasPrefix.f
    rw [hq]
    congr 1
    show ([47]:List UInt8).isPrefixOf (c :: t)=_
    simp [List.isPrefixOf]
    rw [Bool.eq_iff_iff,beq_iff_eq,beq_iff_eq];exact ⟨fun h=>h.symm,fun h=>h.symm⟩
   refine Ev.bind (iQ hP) ?_
   by_cases h47:c=47
   ·subst h47
    refine aW (by simp) ?_
    rw [EH,hC,hS,hq]
    simp only [ne_eq,not_true,if_false]
    have h1:(1:Int)≤(a.size:Int):=by rw [hq] at hl;simp at hl;omega
    by_cases ht:t=[]
    ·subst ht
     rw [if_pos rfl]
     refine aW rfl (Ev.bind (iQ rfl) ?_)
     refine Ev.step (mY.j0.eq_2 _ _) ?_
     refine dP (by decide) (Ev.bind (iQ (aaW a)) ?_)
     rw [hq]
     refine dP (by decide) ?_
     rw [EH,hq]
     exact aW rfl (dM rfl)
    ·rw [if_neg ht]
     refine dP (by simp [ht]) (Ev.bind (iQ rfl) ?_)
     have hemp:=(Y_ t).2
     have main:∀ v,v=yY (47 :: t)→yH (47 :: t)=false→Ev (fun k=>mY.j0 k a v) (sV [] false [] t):=by
      intro v hv he
      rw [he,Bool.or_false] at hemp
      refine Ev.step (mY.j0.eq_2 _ _) ?_
      unfold sV
      rw [JI]
      cases hv2:v with
      | true =>
       refine aW rfl (dM ?_)
       rw [← hemp,← hv,hv2]
       split <;> rfl
      | false =>
       refine dP (by simp) (Ev.bind (iQ (aaW a)) ?_)
       rw [hq,List.any_cons,X6,Bool.false_or,← hemp,← hv,hv2]
       cases hb:t.any wu with
       | true=>exact aW rfl (dM (by simp))
       | false =>
        refine dP (by simp) ?_
        rw [EH,hq]
        refine dP (by simp [ht]) (aW h1 ?_)
        have hsz:(a.extract 1 a.size).data.toList=t:=by
         rw [Dt,← hl,List.take_length,hq];rfl
        have hsp:strings_Split.f (a.extract 1 a.size) ⟨#[47]⟩=some ((mM t).map vP):=by
         unfold strings_Split.f
         have hs2:(a.extract 1 a.size).size < 4294967281:=by
          rw [← wo,hsz];rw [hq] at hl;simp at hl;omega
         rw [if_pos ⟨hs2,by decide⟩]
         congr 1
         refine amM ?_
         rw [anS,hsz]
        refine Ev.bind (iQ hsp) ?_
        have hln:((mM t).map vP).length≤1000000:=by
         have:=WC t
         rw [List.length_map];rw [hq] at hl;simp at hl;omega
        refine Ev.bind (al1 _ hln) ?_
        rw [amA]
        cases hg:(mM t).any (fun p=>decide (7 < p.length)) with
        | true=>exact aW rfl (dM (by simp))
        | false=>exact dP (by simp) (dM (by simp))
     cases he:yH (47 :: t) with
     | true =>
      refine aW rfl (lF j1 ?_)
      rw [he,Bool.or_true] at hemp
      unfold sV
      rw [JI,← hemp]
      split <;> rfl
     | false =>
      refine dP (by simp) (Ev.bind (iQ rfl) ?_)
      exact main _ rfl he
   ·refine dP (by simp [h47]) (lF j1 ?_)
    simp [h47]

theorem F5 (a:ByteArray):(fH a).1.length≤1000:=by
 unfold fH
 split
 ·simp
 ·rename_i h
  have hl:=wo a
  split
  ·simp
  ·rename_i c t hq
   split
   ·simp
   ·split
    ·simp
    ·unfold sV
     have:=WC t
     rw [hq] at hl;simp at hl
     repeat' (first|(split)|(simp;done))
     rw [JI];simp;omega
theorem acO {α:Type} (f:α→Nat) (xs:List α) (n:Nat):qC f (xs.take n)≤qC f xs:=by
 induction xs generalizing n with
 | nil=>simp
 | cons x r ih =>
  cases n with
  | zero=>simp [qC]
  | succ n=>rw [List.take_succ_cons,BJ,BJ];have:=ih n;omega
theorem acJ:∀ l:List UInt8,qC (fun p:List UInt8=>p.length) (mM l)≤l.length
 | []=>by simp [mM,qC]
 | b :: l=>by
  have ih:=acJ l
  by_cases h:b=47
  ·subst h;rw [Qb,BJ];simp;omega
  ·obtain ⟨p,r,hs⟩:=List.exists_cons_of_ne_nil (DZ l)
   rw [JW b l h p r hs,BJ]
   rw [hs,BJ] at ih
   simp;omega
theorem anZ (l:List (List UInt8)):qC (fun b:ByteArray=>b.size) (l.map vP)=qC (fun p:List UInt8=>p.length) l:=by
 induction l with
 | nil=>rfl
 | cons p r ih=>rw [List.map_cons,BJ,BJ,ih,amN]
theorem Qc (a:ByteArray) (h:(fH a).2=0):a.size≤60∧((a.data.toList=[47]∧(fH a).1=[])∨∃ t,a.data.toList=47 :: t∧t≠[]∧t.any wu=false∧emp (mM t)=false∧(mM t).any (fun p=>decide (7 < p.length))=false∧(fH a).1=(mM t).map vP):=by
 unfold fH at h ⊢
 split at h
 ·cases h
 rename_i h60
 rw [if_neg h60]
 refine ⟨by omega,?_⟩
 split at h
 ·cases h
 ·rename_i c t hq
  rw [hq]
  split at h
  ·cases h
  ·rename_i h47
   simp only [ne_eq,Decidable.not_not] at h47
   subst h47
   split at h
   ·rename_i ht
    subst ht
    exact Or.inl ⟨rfl,by simp⟩
   ·rename_i ht
    right
    refine ⟨t,rfl,ht,?_⟩
    simp only [ne_eq,not_true,if_false,if_neg ht]
    unfold sV at h ⊢
    rw [JI] at h ⊢
    cases hb:t.any wu with
    | true=>rw [hb] at h;cases h
    | false =>
     cases he:emp (mM t) with
     | true=>rw [hb,he] at h;cases h
     | false =>
      cases hl:(mM t).any (fun p=>decide (7 < p.length)) with
      | true=>rw [hb,he,hl] at h;cases h
      | false=>simp
theorem anQ (a:ByteArray):(fH a).1.length+qC (fun b:ByteArray=>b.size) (fH a).1≤1000000:=by
 unfold fH
 split
 ·simp [qC]
 ·rename_i h
  have hl:=wo a
  split
  ·simp [qC]
  ·rename_i c t hq
   rw [hq] at hl;simp at hl
   split
   ·simp [qC]
   ·split
    ·simp [qC]
    ·unfold sV
     have h1:=WC t
     have h2:=acJ t
     repeat' (first|(simp [qC];done)|split)
     rw [JI,List.nil_append,anZ,List.length_map];omega

def jn:List ByteArray→List UInt8
 | []=>[]
 | x :: r=>47 :: (x.data.toList++jn r)
theorem Pz (xs:List ByteArray):(jn xs).length=xs.length+qC (fun s:ByteArray=>s.size) xs:=by
 induction xs with
 | nil=>rfl
 | cons x r ih=>rw [BJ];simp [jn,ih];omega
def jp (xs:List ByteArray):ByteArray:=if xs=[] then ⟨#[47]⟩ else ⟨(jn xs).toArray⟩
theorem amf (x:ByteArray) (r:List ByteArray):jn (x :: r)=47 :: Lib.join ((x :: r).map (·.data.toList)) [47]:=by
 unfold Lib.join
 induction r generalizing x with
 | nil=>simp [jn,List.intercalate]
 | cons y s ih =>
  have:=ih y
  simp only [jn] at this ⊢
  rw [List.map_cons,List.map_cons,List.intercalate_cons_cons]
  simp only [List.map_cons] at this
  rw [this]
  simp
theorem acu (xs:List ByteArray) (hn:xs.length+qC (fun s:ByteArray=>s.size) xs≤100000000000000):∀ (i:Nat) (o:ByteArray),i≤xs.length→o.size+(jn (xs.drop i)).length≤100000000000000→Ev (fun k=>vk.l0 k xs o i) (⟨(o.data.toList++jn (xs.drop i)).toArray⟩)
 | i,o,hi,ho=>by
  refine Ev.step (vk.l0.eq_2 _ _ _) ?_
  by_cases h:i < xs.length
  ·rw [drop_at xs i h] at ho ⊢
   have hl:(jn (xs[i] :: xs.drop (i+1))).length=1+xs[i].size+(jn (xs.drop (i+1))).length:=by simp [jn];omega
   have e1:(⟨#[47]⟩:ByteArray).size=1:=rfl
   refine aW (by omega) (aW (by omega) (aW (by omega) ?_))
   rw [CS _ xs i h,kP i (by omega)]
   refine aW (by rw [ByteArray.size_append,e1];omega) (lF (acu xs hn (i+1) _ (by omega) (by rw [ByteArray.size_append,ByteArray.size_append,e1];omega)) ?_)
   rw [Bc,Bc]
   simp [jn]
  ·refine dP (by omega) (dM (yE ?_))
   rw [Bd,List.drop_of_length_le (by omega)];simp [jn]
 termination_by i=>xs.length - i
theorem acs (xs:List ByteArray) (hn:xs.length+qC (fun s:ByteArray=>s.size) xs≤100000000000000):Ev (fun k=>vk.f k xs) (jp xs):=by
 unfold vk.f jp
 by_cases h:xs=[]
 ·subst h
  exact aW rfl (dM rfl)
 ·rw [if_neg h]
  refine dP (by have:=List.length_pos_iff.2 h;omega) (lF (acu xs hn 0 _ (by omega) (by rw [List.drop_zero,Pz];have:(⟨#[]⟩:ByteArray).size=0:=rfl;omega)) ?_)
  rfl

theorem aa0 (xs:List ByteArray) (hn:xs.length+qC (fun s:ByteArray=>s.size) xs≤100000000000000):Ai.f xs=some (jp xs):=by
 unfold Ai.f jp
 match xs with
 | []=>rfl
 | x :: r =>
  have hj:=amf x r
  have hl:=Pz (x :: r)
  have hl2:(Lib.join ((x :: r).map (·.data.toList)) (⟨#[47]⟩:ByteArray).data.toList).length+1=(jn (x :: r)).length:=by rw [hj];rfl
  rw [if_neg (by simp;omega),if_neg (by simp)]
  unfold strings_Join.f
  rw [if_pos ⟨by omega,by omega⟩,Option.bind_some,if_pos (by rw [EG];omega)]
  congr 1
  refine yE ?_
  rw [Bc,Bd,Bd,hj];rfl

theorem Oo {α:Type} (xs ys:List α) (i:Nat) (h1:i < xs.length) (h2:i < ys.length):xs.drop i=ys.drop i ↔ xs[i]=ys[i]∧xs.drop (i+1)=ys.drop (i+1):=by
 rw [drop_at xs i h1,drop_at ys i h2,List.cons.injEq]
open Classical in
noncomputable def zq (xs ys:List ByteArray):Bool:=decide (xs=ys)
open Classical in
theorem aaY (xs ys:List ByteArray) (hl:xs.length=ys.length) (hn:xs.length≤4000000):∀ i:Nat,i≤xs.length→Ev (fun k=>slices_Equal_string.l0 k xs ys (xs.length:Int) i) (zq (xs.drop i) (ys.drop i))
 | i,hi=>by
  refine Ev.step (slices_Equal_string.l0.eq_2 _ _ _ _) ?_
  by_cases h:i < xs.length
  ·refine aW (by omega) (aW (by omega) (aW (by omega) (aW (by omega) ?_)))
   rw [CS _ xs i h,CS _ ys i (by omega),kP i (by omega)]
   by_cases he:xs[i]=ys[i]'(by omega)
   ·refine aW (by rw [he]) (lF (aaY xs ys hl hn (i+1) (by omega)) ?_)
    unfold zq
    simp only [Oo xs ys i h (by omega),he,true_and]
   ·refine dP (fun hc=>he (toList_inj hc)) (dM ?_)
    unfold zq
    simp only [Oo xs ys i h (by omega),he,false_and,decide_false]
  ·refine dP (by omega) (dM ?_)
   rw [List.drop_of_length_le (by omega),List.drop_of_length_le (by omega)]
   unfold zq;simp
 termination_by i=>xs.length - i
theorem al0 (xs ys:List ByteArray) (hn:xs.length≤4000000):Ev (fun k=>slices_Equal_string.f k xs ys) (zq xs ys):=by
 unfold slices_Equal_string.f
 by_cases h:xs.length=ys.length
 ·have:=aaY xs ys h hn 0 (by omega)
  rw [List.drop_zero,List.drop_zero] at this
  exact aW (by omega) this
 ·refine dP (by omega) (dM ?_)
  unfold zq
  rw [decide_eq_false];intro e;exact h (by rw [e])

noncomputable def zT (a b:ByteArray):Bool:=decide ((fH a).2=0) && (decide ((fH b).2=0) && (decide ((fH b).1.length < (fH a).1.length) && zq ((fH a).1.take (fH b).1.length) (fH b).1))
open Classical in
theorem acG (xs ys:List ByteArray) (hl:ys.length < xs.length) (hn:xs.length≤4000000):∀ i:Nat,i≤ys.length→Ev (fun k=>qW.l0 k xs ys i) (zq ((xs.take ys.length).drop i) (ys.drop i))
 | i,hi=>by
  refine Ev.step (qW.l0.eq_2 _ _ _) ?_
  have ht:(xs.take ys.length).length=ys.length:=by rw [List.length_take];omega
  by_cases h:i < ys.length
  ·refine aW (by omega) (aW (by omega) (aW (by omega) ?_))
   rw [CS _ xs i (by omega),CS _ ys i h,kP i (by omega)]
   have hx:(xs.take ys.length)[i]'(by omega)=xs[i]'(by omega):=List.getElem_take
   by_cases he:xs[i]'(by omega)=ys[i]
   ·refine aW (by rw [he]) (lF (acG xs ys hl hn (i+1) (by omega)) ?_)
    unfold zq
    simp only [Oo (xs.take ys.length) ys i (by omega) h,hx,he,true_and]
   ·refine dP (fun hc=>he (toList_inj hc)) (dM ?_)
    unfold zq
    simp only [Oo (xs.take ys.length) ys i (by omega) h,hx,he,false_and,decide_false]
  ·refine dP (by omega) (dM ?_)
   rw [List.drop_of_length_le (by omega),List.drop_of_length_le (by omega)]
   unfold zq;simp
 termination_by i=>ys.length - i
theorem acF (a b:ByteArray):Ev (fun k=>qW.f k a b) (zT a b):=by
 unfold qW.f zT
 have hn:=F5 a
 refine Ev.bind (JQ a) (Ev.bind (JQ b) ?_)
 have no:∀ v:Bool,v=true→Ev (fun k=>qW.j0 k (fH a).1 (fH b).1 v) false:=by
  intro v hv
  refine Ev.step (qW.j0.eq_2 _ _ _) ?_
  exact aW hv (dM rfl)
 by_cases h1:(fH a).2=0
 ·by_cases h2:(fH b).2=0
  ·refine aW h1 (aW h2 ?_)
   by_cases h3:(fH b).1.length < (fH a).1.length
   ·rw [decide_eq_false (by omega:¬ ((fH a).1.length:Int)≤((fH b).1.length:Int))]
    refine Ev.step (qW.j0.eq_2 _ _ _) ?_
    refine dP (by simp) (lF (acG _ _ h3 (by omega) 0 (by omega)) ?_)
    simp [h1,h2,h3]
   ·exact lF (no _ (decide_eq_true (by omega))) (by simp [h3])
  ·exact aW h1 (dP h2 (lF (no _ rfl) (by simp [h2])))
 ·exact dP h1 (lF (no _ rfl) (by simp [h1]))

theorem aa_ (a b:ByteArray) (ha:a.size≤140737488351232) (hb:b.size≤140737488351232):Ev (fun k=>Ce.f k a b) (zT a b):=by
 unfold Ce.f zT
 have hn:=F5 a
 refine Ev.bind (Ju a ha) (Ev.bind (Ju b hb) ?_)
 by_cases h1:(fH a).2=0
 ·by_cases h2:(fH b).2=0
  ·refine aW h1 (aW h2 ?_)
   by_cases h3:(fH b).1.length < (fH a).1.length
   ·refine aW (by omega) (aW (by omega) (aW (by omega) ?_))
    rw [Int.toNat_natCast]
    refine Ev.bind (al0 _ _ (by rw [List.length_take];omega)) (dM ?_)
    simp [h1,h2,h3]
   ·exact dP (by omega) (dM (by simp [h3]))
  ·exact aW h1 (dP h2 (dM (by simp [h2])))
 ·exact dP h1 (dM (by simp [h1]))

theorem abn:∀ t:List UInt8,jn ((mM t).map vP)=47 :: t
 | []=>by simp [mM,jn,vP]
 | b :: l=>by
  have ih:=abn l
  by_cases h:b=47
  ·subst h;rw [Qb];simp [jn,PS,ih]
  ·obtain ⟨p,r,hs⟩:=List.exists_cons_of_ne_nil (DZ l)
   rw [JW b l h p r hs]
   rw [hs] at ih
   simp [jn,PS] at ih ⊢
   exact ih
theorem aco (a:ByteArray) (h:(fH a).2=0):jp (fH a).1=a:=by
 obtain ⟨_,⟨h0,h1⟩|⟨t,ht,_,_,_,_,hs⟩⟩:=Qc a h
 ·rw [h1];exact yE h0.symm
 ·rw [hs]
  refine yE ?_
  unfold jp
  rw [if_neg (by simp [DZ t]),Bd,abn,ht]
theorem abo (xs:List ByteArray) (h:xs≠[]):(jp xs).size=xs.length+qC (fun s:ByteArray=>s.size) xs:=by
 unfold jp
 rw [if_neg h,EG,Pz]
theorem an1 (xs:List ByteArray) (n:Nat):qC (fun s:ByteArray=>s.size) (xs.take n)≤qC (fun s:ByteArray=>s.size) xs:=acO _ xs n
theorem ad1 (a b:ByteArray) (h:zT a b=true):b.size≤a.size:=by
 unfold zT at h
 simp only [Bool.and_eq_true,decide_eq_true_eq] at h
 obtain ⟨ha,hb,hl,he⟩:=h
 have e:(fH a).1.take (fH b).1.length=(fH b).1:=by
  unfold zq at he
  simpa using he
 have ea:=aco a ha
 have eb:=aco b hb
 have na:(fH a).1≠[]:=by intro c;rw [c] at hl;simp at hl
 have sa:=abo _ na
 rw [ea] at sa
 by_cases nb:(fH b).1=[]
 ·rw [nb] at eb
  have:b.size=1:=by rw [← eb];rfl
  omega
 ·have sb:=abo _ nb
  rw [eb] at sb
  have:=an1 (fH a).1 (fH b).1.length
  rw [e] at this
  omega

noncomputable def tY (fr dD:ByteArray) (x:aF):aF:=open Classical in if x.f0.toList=fr.toList∨zT x.f0 fr=true then ⟨dD++x.f0.extract fr.size x.f0.size,x.f1,x.f2⟩ else x
def xu (x y:aF):Bool:=!(Op.bytesLess x.f0.toList y.f0.toList)
def Ak (x:aF) (out:List aF):List aF:=out.takeWhile (xu x)++[x]++out.dropWhile (xu x)
noncomputable def x9 (fr dD:ByteArray):List aF→List aF→List aF
 | [],out=>out
 | x :: r,out=>x9 fr dD r (Ak (tY fr dD x) out)
theorem abg (x:aF) (out:List aF):(Ak x out).length=out.length+1:=by
 have e:=congrArg List.length (List.takeWhile_append_dropWhile (p:=xu x) (l:=out))
 unfold Ak
 simp only [List.length_append,List.length_singleton] at e ⊢
 omega
theorem Xa {α:Type} (p:α→Bool):∀ (l:List α) (i:Nat),(∀ y ∈ l.take i,p y=true)→(∀ h:i < l.length,p l[i]=false)→l.takeWhile p=l.take i∧l.dropWhile p=l.drop i
 | [],i,_,_=>by simp
 | x :: r,0,_,h=>by
  have:=h (by simp)
  rw [List.getElem_cons_zero] at this
  simp [List.takeWhile,List.dropWhile,this]
 | x :: r,i+1,h,h2=>by
  have hx:p x=true:=h x (by simp)
  have:=Xa p r i (fun y hy=>h y (by simp [hy])) (fun hh=>by have q:=h2 (by simp;omega);rw [List.getElem_cons_succ] at q;exact q)
  simp [List.takeWhile,List.dropWhile,hx,this.1,this.2]
theorem acC (fr dD:ByteArray) (xs:List aF) (j:Nat) (p:ByteArray) (b:Bool) (t:ByteArray) (out r:List aF) (hn:out.length≤2000000) (hj:j≤2000000)
  (hr:Ev (fun k=>jf.l0 k fr dD ((j+1:Nat):Int) xs (Ak ⟨p,b,t⟩ out)) r):∀ i:Nat,i≤out.length→(∀ y ∈ out.take i,xu ⟨p,b,t⟩ y=true)→Ev (fun k=>jf.l1 k fr dD (j:Int) (i:Int) xs out p b t) r
 | i,hi,ha=>by
  refine Ev.step (jf.l1.eq_2 _ _ _ _ _ _ _ _ _) ?_
  by_cases h:i < out.length
  ·refine aW (by omega) (aW (by omega) ?_)
   rw [t_ out i h]
   by_cases hl:Op.bytesLess p.toList out[i].f0.toList=true
   ·have ht:=Xa (xu ⟨p,b,t⟩) out i ha (fun _=>by show (!(Op.bytesLess p.toList out[i].f0.toList))=false;rw [hl];rfl)
    refine aW hl ?_
    refine Ev.bind (dM rfl) (aW (by omega) (Ev.bind (dM rfl) (aW (by simp;omega) (Ev.bind (dM rfl) (Ev.bind (dM rfl) (aW (by simp;omega) (Ev.bind (dM rfl) (Ev.bind (dM rfl) (aW (by simp;omega) ?_)))))))))
    rw [kP j (by omega),Int.toNat_natCast,List.nil_append]
    unfold Ak at hr
    rw [ht.1,ht.2] at hr
    exact hr
   ·refine dP hl ?_
    rw [kP i (by omega)]
    refine acC fr dD xs j p b t out r hn hj hr (i+1) (by omega) (fun y hy=>?_)
    rw [List.take_succ_eq_append_getElem h,List.mem_append,List.mem_singleton] at hy
    rcases hy with hy|rfl
    ·exact ha y hy
    ·show (!(Op.bytesLess p.toList out[i].f0.toList))=true
     rw [Bool.not_eq_true] at hl
     rw [hl];rfl
  ·have ht:=Xa (xu ⟨p,b,t⟩) out i ha (fun h'=>absurd h' h)
   refine dP (by omega) ?_
   refine Ev.bind (dM rfl) (aW (by omega) (aW (by omega) (Ev.bind (dM rfl) (aW (by simp;omega) (Ev.bind (dM rfl) (Ev.bind (dM rfl) (aW (by simp;omega) (Ev.bind (dM rfl) (Ev.bind (dM rfl) (aW (by simp;omega) ?_))))))))))
   rw [kP j (by omega),Int.toNat_natCast,List.nil_append]
   unfold Ak at hr
   rw [ht.1,ht.2] at hr
   exact hr
 termination_by i=>out.length - i
theorem acB (fr dD:ByteArray) (xs:List aF) (hn:xs.length≤1048577) (ht:dD.size≤4000000) (hs:∀ y ∈ xs,y.f0.size≤4000000):∀ (j:Nat) (out:List aF),j≤xs.length→out.length≤j→Ev (fun k=>jf.l0 k fr dD (j:Int) xs out) (x9 fr dD (xs.drop j) out)
 | j,out,hj,ho=>by
  refine Ev.step (jf.l0.eq_2 _ _ _ _ _) ?_
  by_cases h:j < xs.length
  ·have hm:=hs _ (List.getElem_mem h)
   rw [drop_at xs j h]
   have ih:=acB fr dD xs hn ht hs (j+1) (Ak (tY fr dD xs[j]) out) (by omega) (by rw [abg];omega)
   have j2:∀ (p:ByteArray) (b:Bool) (t:ByteArray),(⟨p,b,t⟩:aF)=tY fr dD xs[j]→Ev (fun k=>jf.j2 k fr dD (j:Int) xs out p b t) (x9 fr dD (xs[j] :: xs.drop (j+1)) out):=by
    intro p b t e
    refine Ev.step (jf.j2.eq_2 _ _ _ _ _ _ _ _) ?_
    refine acC fr dD xs j p b t out _ (by omega) (by omega) ?_ 0 (by omega) (by simp)
    rw [e];exact ih
   have j1:∀ z:Bool,(z=true ↔ (xs[j].f0.toList=fr.toList∨zT xs[j].f0 fr=true))→Ev (fun k=>jf.j1 k fr dD (j:Int) z xs out xs[j].f0 xs[j].f1 xs[j].f2) (x9 fr dD (xs[j] :: xs.drop (j+1)) out):=by
    intro z hz
    refine Ev.step (jf.j1.eq_2 _ _ _ _ _ _ _ _ _) ?_
    by_cases c:z=true
    ·have hc:=hz.1 c
     have hl:fr.size≤xs[j].f0.size:=by
      rcases hc with hc|hc
      ·rw [toList_inj hc];exact Nat.le_refl _
      ·exact ad1 _ _ hc
     refine aW c (aW (by omega) (aW (by omega) ?_))
     rw [Int.toNat_natCast]
     refine aW (by rw [ByteArray.size_extract];omega) (j2 _ _ _ ?_)
     unfold tY
     rw [if_pos hc]
    ·refine dP c (j2 _ _ _ ?_)
     unfold tY
     rw [if_neg (fun hh=>c (hz.2 hh))]
   refine aW (by omega) (aW (by omega) ?_)
   rw [t_ xs j h]
   by_cases he:xs[j].f0.toList=fr.toList
   ·exact aW he (j1 true ⟨fun _=>.inl he,fun _=>rfl⟩)
   ·exact dP he (Ev.bind (acF _ _) (j1 _ ⟨fun hh=>.inr hh,fun hh=>hh.resolve_left he⟩))
  ·refine dP (by omega) (dM ?_)
   rw [List.drop_of_length_le (by omega)];rfl
 termination_by j=>xs.length - j
theorem anF (fr dD:ByteArray) (xs:List aF) (hn:xs.length≤1048577) (ht:dD.size≤4000000) (hs:∀ y ∈ xs,y.f0.size≤4000000):Ev (fun k=>jf.f k xs fr dD) (x9 fr dD xs []):=by
 unfold jf.f
 exact acB fr dD xs hn ht hs 0 [] (by omega) (by simp)
theorem abM (fr dD:ByteArray):∀ (xs out:List aF),(x9 fr dD xs out).length=xs.length+out.length
 | [],out=>by simp [x9]
 | x :: r,out=>by
  unfold x9
  rw [abM fr dD r,abg,List.length_cons];omega
def vB (n s:Nat) (xs:List aF):Prop:=xs.length≤n∧∀ y ∈ xs,y.f0.size≤s∧y.f2.size≤s
theorem aa' {α:Type} (p:α→α→Bool) (z:α):∀ (xs:List α) (i:Nat),0≤Lib.idxByFrom p z xs i→Lib.idxByFrom p z xs i < ((i+xs.length:Nat):Int)
 | [],i,h=>by simp [Lib.idxByFrom] at h
 | x :: r,i,h=>by
  unfold Lib.idxByFrom at h ⊢
  by_cases hp:p z x=true
  ·rw [if_pos hp];simp;omega
  ·rw [if_neg hp] at h ⊢
   have:=aa' p z r (i+1) h
   simp at this ⊢;omega
theorem Pq {α:Type} (p:α→α→Bool) (z:α) (xs:List α) (h:¬ Lib.idxBy p xs z < 0):0≤Lib.idxBy p xs z∧Lib.idxBy p xs z < (xs.length:Int):=by
 have h0:0≤Lib.idxBy p xs z:=by omega
 refine ⟨h0,?_⟩
 have:=aa' p z xs 0 h0
 rw [Nat.zero_add] at this
 exact this

def oD (p:ByteArray):aF→aF→Bool:=fun _ y=>y.f0.toList == p.toList
theorem acr (xs:List aF) (p:ByteArray) (hn:xs.length≤4000000):∀ i:Nat,i≤xs.length→Ev (fun k=>rW.l0 k p i xs) (Lib.idxByFrom (oD p) z43 (xs.drop i) i)
 | i,hi=>by
  refine Ev.step (rW.l0.eq_2 _ _ _) ?_
  by_cases h:i < xs.length
  ·refine aW (by omega) (aW (by omega) ?_)
   rw [t_ xs i h,kP i (by omega),drop_at xs i h]
   by_cases he:(xs[i].f0).toList=p.toList
   ·exact aW he (dM (by simp [Lib.idxByFrom,oD,he]))
   ·refine dP he (lF (acr xs p hn (i+1) (by omega)) ?_)
    simp [Lib.idxByFrom,oD,he]
  ·refine dP (by omega) (dM ?_)
   rw [List.drop_of_length_le (by omega)];rfl
 termination_by i=>xs.length - i
theorem MO (xs:List aF) (p:ByteArray) (hn:xs.length≤4000000):Ev (fun k=>rW.f k xs p) (Lib.idxBy (oD p) xs z43):=by
 unfold rW.f
 have:=acr xs p hn 0 (by omega)
 rw [List.drop_zero] at this
 exact this
theorem Jt (xs:List aF) (p:ByteArray) (hn:xs.length≤4000000):uy.f xs p=some (Lib.idxBy (oD p) xs z43):=by
 unfold uy.f
 first
  | (rw [if_pos (by omega)];rfl)
  | (unfold JU.f;rw [if_pos (by omega)];rfl)

def qB (a:ByteArray):ByteArray:=if (fH a).2=0 then (if (fH a).1=[] then ⟨#[]⟩ else jp ((fH a).1.take ((fH a).1.length - 1))) else ⟨#[]⟩
theorem MJ (a:ByteArray) (n:Nat):((fH a).1.take n).length+qC (fun b:ByteArray=>b.size) ((fH a).1.take n)≤100000000000000:=by
 have h1:=anQ a
 have h2:=acO (fun b:ByteArray=>b.size) (fH a).1 n
 have h3:((fH a).1.take n).length≤(fH a).1.length:=by rw [List.length_take];omega
 omega
theorem ab1 (a:ByteArray) (J:Nat→List ByteArray→Option ByteArray) (hJ:∀ n,Ev (fun k=>J k ((fH a).1.take n)) (jp ((fH a).1.take n))) :
  Ev (fun k=>if ((fH a).1.length:Int)=0 then some (⟨#[]⟩:ByteArray) else if 0≤wrap64 (((fH a).1.length:Int) - 1) then (if wrap64 (((fH a).1.length:Int) - 1)≤((fH a).1.length:Int) then (J k ((fH a).1.take (wrap64 (((fH a).1.length:Int) - 1)).toNat)).bind fun t=>some t else none) else none) (if (fH a).1=[] then ⟨#[]⟩ else jp ((fH a).1.take ((fH a).1.length - 1))):=by
 have hn:=F5 a
 by_cases h:(fH a).1=[]
 ·exact aW (by rw [h];rfl) (dM (if_pos h).symm)
 ·have hp:=List.length_pos_iff.2 h
  refine dP (by omega) ?_
  rw [oW (by omega) (by omega)]
  refine aW (by omega) (aW (by omega) ?_)
  rw [show (((fH a).1.length:Int) - 1).toNat=(fH a).1.length - 1 by omega]
  exact Ev.bind (hJ _) (dM (if_neg h).symm)
theorem JO (a:ByteArray):Ev (fun k=>vT.f k a) (qB a):=by
 unfold vT.f qB
 refine Ev.bind (JQ a) ?_
 by_cases h:(fH a).2=0
 ·exact aW h (lF (ab1 a (fun k xs=>vk.f k xs) (fun n=>acs _ (MJ a n))) (if_pos h).symm)
 ·exact dP h (dM (if_neg h).symm)

theorem Pn (a:ByteArray) (ha:a.size≤140737488351232):Ev (fun k=>xX.f k a) (qB a):=by
 unfold xX.f qB
 refine Ev.bind (Ju a ha) ?_
 by_cases h:(fH a).2=0
 ·exact aW h (lF (ab1 a (fun k xs=>Ai.f xs) (fun n=>iQ (aa0 _ (MJ a n)))) (if_pos h).symm)
 ·exact dP h (dM (if_neg h).symm)

theorem anR (a:ByteArray) (h:(fH a).2=0):∀ x ∈ (fH a).1,x.data.toList≠[]:=by
 intro x hx
 obtain ⟨_,⟨_,h1⟩|⟨t,ht,h0,hb,he,hl,hs⟩⟩:=Qc a h
 ·rw [h1] at hx;cases hx
 ·rw [hs] at hx
  obtain ⟨p,hp,rfl⟩:=List.mem_map.1 hx
  rw [PS]
  intro hc
  subst hc
  have:emp (mM t)=true:=by unfold emp;exact List.any_eq_true.2 ⟨[],hp,rfl⟩
  rw [this] at he;cases he
theorem amg (a:ByteArray) (h:(fH a).2=0) (n:Nat) (h1:1≤n) (h2:n≤(fH a).1.length):(jp ((fH a).1.take n)).toList≠([47]:List UInt8):=by
 have hs:=anR a h
 rw [EH]
 revert hs h2
 generalize (fH a).1=ps
 intro h2 hs
 match ps,n,h1,h2 with
 | [],n+1,_,h2=>simp at h2
 | x :: r,n+1,_,_ =>
  rw [List.take_succ_cons]
  unfold jp
  rw [if_neg (by simp),Bd]
  unfold jn
  intro hc
  have:=hs x (by simp)
  simp at hc
  exact this (by simpa using hc.1)
def zo (xs:List aF) (p:ByteArray):Bool:=if p.toList=([47]:List UInt8) then true else if Lib.idxBy (oD p) xs z43 ≥ 0 then (aB xs (Lib.idxBy (oD p) xs z43)).f1 else false
theorem Wi (xs:List aF) (p:ByteArray) (hn:xs.length≤4000000):Ev (fun k=>zO.f k xs p) (zo xs p):=by
 unfold zO.f zo
 by_cases h:p.toList=([47]:List UInt8)
 ·exact aW h (dM (if_pos h).symm)
 ·rw [if_neg h]
  refine dP h (Ev.bind (MO xs p hn) ?_)
  by_cases hc:Lib.idxBy (oD p) xs z43 ≥ 0
  ·have:=Pq (oD p) z43 xs (by omega)
   exact aW hc (aW this.1 (aW this.2 (dM (if_pos hc).symm)))
  ·exact dP hc (dM (if_neg hc).symm)

theorem acK (a:ByteArray) (h0:(fH a).2=0) (hr:a.toList≠([47]:List UInt8)):1≤(fH a).1.length:=by
 obtain ⟨_,⟨h,_⟩|⟨t,ht,_,hb,he,hl,hs⟩⟩:=Qc a h0
 ·exact absurd (by rw [EH];exact h) hr
 ·rw [hs,List.length_map]
  exact List.length_pos_iff.2 (DZ t)

def CP (xs:List aF) (ps:List ByteArray):Nat→Nat→Int
 | 0,_=>3
 | f+1,i=>if Lib.idxBy (oD (jp (ps.take i))) xs z43 < 0 then 3 else if (aB xs (Lib.idxBy (oD (jp (ps.take i))) xs z43)).f1=true then CP xs ps f (i+1) else 4
def zJ (xs:List aF) (a:ByteArray):Int:=if a.toList=([47]:List UInt8) then 0 else if Lib.idxBy (oD a) xs z43 ≥ 0 then 0 else if (fH a).2=0 then CP xs (fH a).1 ((fH a).1.length - 1) 1 else (fH a).2
theorem acA (xs:List aF) (hx:xs.length≤4000000) (a:ByteArray) (h0:(fH a).2=0):∀ (f i:Nat),1≤i→i+f=(fH a).1.length→Ev (fun k=>rC.l0 k (fH a).1 (i:Int) xs) (CP xs (fH a).1 f i)
 | f,i,h1,hf=>by
  have hp:=F5 a
  refine Ev.step (rC.l0.eq_2 _ _ _) ?_
  cases f with
  | zero=>exact dP (by omega) (dM rfl)
  | succ f =>
   refine aW (by omega) (aW (by omega) (aW (by omega) ?_))
   rw [Int.toNat_natCast]
   refine Ev.bind (acs _ (MJ a i)) (Ev.bind (MO xs _ hx) ?_)
   unfold CP
   by_cases hc:Lib.idxBy (oD (jp ((fH a).1.take i))) xs z43 < 0
   ·rw [if_pos hc];exact aW hc (dM rfl)
   ·rw [if_neg hc]
    refine dP hc (Ev.bind (Wi xs _ hx) ?_)
    unfold zo
    rw [if_neg (amg a h0 i h1 (by omega)),if_pos (show Lib.idxBy (oD (jp ((fH a).1.take i))) xs z43 ≥ 0 by omega)]
    by_cases hd:(aB xs (Lib.idxBy (oD (jp ((fH a).1.take i))) xs z43)).f1=true
    ·rw [kP i (by omega)]
     exact aW hd (lF (acA xs hx a h0 f (i+1) (by omega) (by omega)) (if_pos hd).symm)
    ·exact dP hd (dM (if_neg hd).symm)
theorem aa5 (xs:List aF) (hx:xs.length≤4000000) (a:ByteArray) (h0:(fH a).2=0):∀ (f i:Nat),1≤i→i+f=(fH a).1.length→Ev (fun k=>qR.l0 k (fH a).1 (i:Int) xs) (CP xs (fH a).1 f i)
 | f,i,h1,hf=>by
  have hp:=F5 a
  refine Ev.step (qR.l0.eq_2 _ _ _) ?_
  cases f with
  | zero=>exact dP (by omega) (dM rfl)
  | succ f =>
   refine aW (by omega) (aW (by omega) (aW (by omega) ?_))
   rw [Int.toNat_natCast]
   refine Ev.bind (iQ (aa0 _ (MJ a i))) (Ev.bind (iQ (Jt xs _ hx)) ?_)
   unfold CP
   by_cases hc:Lib.idxBy (oD (jp ((fH a).1.take i))) xs z43 < 0
   ·rw [if_pos hc];exact aW hc (dM rfl)
   ·rw [if_neg hc]
    have hi:=Pq (oD (jp ((fH a).1.take i))) z43 xs hc
    refine dP hc (aW hi.1 (aW hi.2 ?_))
    by_cases hd:(aB xs (Lib.idxBy (oD (jp ((fH a).1.take i))) xs z43)).f1=true
    ·rw [kP i (by omega)]
     exact aW hd (lF (aa5 xs hx a h0 f (i+1) (by omega) (by omega)) (if_pos hd).symm)
    ·exact dP hd (dM (if_neg hd).symm)
theorem acz (xs:List aF) (hx:xs.length≤4000000) (a:ByteArray):Ev (fun k=>rC.f k xs a) (zJ xs a):=by
 unfold rC.f zJ
 refine Ev.bind (JQ a) ?_
 by_cases h:a.toList=([47]:List UInt8)
 ·rw [if_pos h]
  refine aW h ?_
  refine Ev.step (rC.j0.eq_2 _ _ _ _) ?_
  exact aW rfl (dM rfl)
 ·rw [if_neg h]
  refine dP h (Ev.bind (MO xs a hx) ?_)
  refine Ev.step (rC.j0.eq_2 _ _ _ _) ?_
  by_cases hc:Lib.idxBy (oD a) xs z43 ≥ 0
  ·rw [if_pos hc];exact aW (decide_eq_true hc) (dM rfl)
  ·rw [if_neg hc]
   refine dP (by simpa using hc) ?_
   by_cases h0:(fH a).2=0
   ·rw [if_pos h0]
    have:=acK a h0 h
    exact aW h0 (acA xs hx a h0 _ 1 (by omega) (by omega))
   ·rw [if_neg h0];exact dP h0 (dM rfl)
theorem aa4 (xs:List aF) (hx:xs.length≤4000000) (a:ByteArray) (ha:a.size≤140737488351232):Ev (fun k=>qR.f k xs a) (zJ xs a):=by
 unfold qR.f zJ
 by_cases h:a.toList=([47]:List UInt8)
 ·rw [if_pos h]
  refine aW h ?_
  refine Ev.step (qR.j0.eq_2 _ _ _) ?_
  exact aW rfl (dM rfl)
 ·rw [if_neg h]
  refine dP h (Ev.bind (iQ (Jt xs a hx)) ?_)
  refine Ev.step (qR.j0.eq_2 _ _ _) ?_
  by_cases hc:Lib.idxBy (oD a) xs z43 ≥ 0
  ·rw [if_pos hc];exact aW (decide_eq_true hc) (dM rfl)
  ·rw [if_neg hc]
   refine dP (by simpa using hc) (Ev.bind (Ju a ha) ?_)
   by_cases h0:(fH a).2=0
   ·rw [if_pos h0]
    have:=acK a h0 h
    exact aW h0 (aa5 xs hx a h0 _ 1 (by omega) (by omega))
   ·rw [if_neg h0];exact dP h0 (dM rfl)

def MB (a:ByteArray):ByteArray:=if (fH a).2=0 then (fH a).1.getLastD ⟨#[]⟩ else ⟨#[]⟩
theorem last_at (xs:List ByteArray) (hn:xs.length≤1000):Ev (fun _:Nat=>if (xs.length:Int)=0 then some (⟨#[]⟩:ByteArray) else if 0≤wrap64 ((xs.length:Int) - 1) then (if wrap64 ((xs.length:Int) - 1) < (xs.length:Int) then some (qV ByteArray.empty xs (wrap64 ((xs.length:Int) - 1))) else none) else none) (xs.getLastD ⟨#[]⟩):=by
 by_cases h:xs.length=0
 ·refine aW (by omega) (dM ?_)
  rw [List.eq_nil_of_length_eq_zero h];rfl
 ·refine dP (by omega) ?_
  rw [oW (by omega) (by omega)]
  refine aW (by omega) (aW (by omega) (dM ?_))
  rw [show (xs.length:Int) - 1=((xs.length - 1:Nat):Int) by omega,CS _ xs (xs.length - 1) (by omega)]
  rw [List.getLastD_eq_getLast?,List.getLast?_eq_getElem?,List.getElem?_eq_getElem (by omega)];rfl
theorem anE (a:ByteArray):Ev (fun k=>F7.f k a) (MB a):=by
 unfold F7.f MB
 refine Ev.bind (JQ a) ?_
 by_cases h:(fH a).2=0
 ·exact aW h (lF (last_at _ (F5 a)) (if_pos h).symm)
 ·exact dP h (dM (if_neg h).symm)

theorem al2 (a:ByteArray) (ha:a.size≤140737488351232):Ev (fun k=>Fj.f k a) (MB a):=by
 unfold Fj.f MB
 refine Ev.bind (Ju a ha) ?_
 by_cases h:(fH a).2=0
 ·exact aW h (lF (last_at _ (F5 a)) (if_pos h).symm)
 ·exact dP h (dM (if_neg h).symm)

def Bq (xs:List aF) (a:ByteArray):List ByteArray:=(xs.filter (fun y=>(qB y.f0).toList == a.toList)).map (fun y=>MB y.f0)
def zH (xs:List aF) (a:ByteArray):List ByteArray:=if a.toList=([]:List UInt8) then [] else Bq xs a
theorem amk (xs:List aF) (a:ByteArray):(Bq xs a).length≤xs.length:=by unfold Bq;rw [List.length_map];exact List.length_filter_le _ _
theorem aml (xs:List aF) (a:ByteArray):(zH xs a).length≤xs.length:=by
 unfold zH;split
 ·simp
 ·exact amk xs a
theorem acy (xs:List aF) (hn:xs.length≤4000000) (a:ByteArray):∀ (i:Nat) (out:List ByteArray),i≤xs.length→out.length≤i→Ev (fun k=>ug.l0 k a out (i:Int) xs) (out++zH (xs.drop i) a)
 | i,out,hi,ho=>by
  refine Ev.step (ug.l0.eq_2 _ _ _ _) ?_
  by_cases h:i < xs.length
  ·refine aW (by omega) (aW (by omega) ?_)
   rw [t_ xs i h,kP i (by omega),drop_at xs i h]
   refine Ev.bind (JO _) ?_
   have ih:=fun o ho2=>acy xs hn a (i+1) o (by omega) ho2
   unfold zH at ih ⊢
   by_cases he:(qB xs[i].f0).toList=a.toList
   ·refine aW he ?_
    by_cases hz:a.toList=([]:List UInt8)
    ·refine aW hz (lF (ih out (by omega)) ?_)
     rw [if_pos hz,if_pos hz]
    ·refine dP hz (Ev.bind (anE _) (aW (by omega) (lF (ih _ (by simp;omega)) ?_)))
     rw [if_neg hz,if_neg hz]
     unfold Bq
     rw [List.filter_cons_of_pos (by simpa using he)];simp
   ·refine dP he (lF (ih out (by omega)) ?_)
    congr 1
    by_cases hz:a.toList=([]:List UInt8)
    ·rw [if_pos hz,if_pos hz]
    ·rw [if_neg hz,if_neg hz]
     unfold Bq
     rw [List.filter_cons_of_neg (by simpa using he)]
  ·refine dP (by omega) (dM ?_)
   rw [List.drop_of_length_le (by omega)]
   simp [zH,Bq]
 termination_by i=>xs.length - i
theorem acw (xs:List aF) (hn:xs.length≤4000000) (a:ByteArray):Ev (fun k=>ug.f k xs a) (zH xs a):=by
 unfold ug.f
 exact lF (acy xs hn a 0 [] (by omega) (by simp)) (by simp)
theorem aa3 (xs:List aF) (hn:xs.length≤4000000) (hs:∀ y ∈ xs,y.f0.size≤140737488351232) (a:ByteArray):∀ (i:Nat) (out:List ByteArray),i≤xs.length→out.length≤i→Ev (fun k=>uz.l0 k a out xs (xs.length:Int) (i:Int)) (out++Bq (xs.drop i) a)
 | i,out,hi,ho=>by
  refine Ev.step (uz.l0.eq_2 _ _ _ _ _) ?_
  by_cases h:i < xs.length
  ·refine aW (by omega) (aW (by omega) (aW (by omega) ?_))
   rw [t_ xs i h,kP i (by omega),drop_at xs i h]
   have hz:=hs xs[i] (List.getElem_mem h)
   refine Ev.bind (Pn _ hz) ?_
   have ih:=fun o ho2=>aa3 xs hn hs a (i+1) o (by omega) ho2
   by_cases he:(qB xs[i].f0).toList=a.toList
   ·refine aW he (Ev.bind (al2 _ hz) (aW (by omega) (lF (ih _ (by simp;omega)) ?_)))
    unfold Bq
    rw [List.filter_cons_of_pos (by simpa using he)];simp
   ·refine dP he (lF (ih out (by omega)) ?_)
    unfold Bq
    rw [List.filter_cons_of_neg (by simpa using he)]
  ·refine dP (by omega) (dM ?_)
   rw [List.drop_of_length_le (by omega)]
   simp [Bq]
 termination_by i=>xs.length - i
theorem aa2 (xs:List aF) (hn:xs.length≤4000000) (hs:∀ y ∈ xs,y.f0.size≤140737488351232) (a:ByteArray):Ev (fun k=>uz.f k xs a) (zH xs a):=by
 unfold uz.f zH
 by_cases h:a.toList=([]:List UInt8)
 ·exact aW h (dM (if_pos h).symm)
 ·rw [if_neg h]
  exact dP h (lF (aa3 xs hn hs a 0 [] (by omega) (by simp)) (by simp))
theorem alZ (xs:List aF) (p:ByteArray) (hn:xs.length≤4000000):DJ.f xs p=some (zo xs p):=by
 unfold DJ.f zo
 rw [Jt xs p hn,Option.bind_some]
 by_cases h:p.toList=([47]:List UInt8)
 ·rw [if_pos h,if_pos h]
 ·rw [if_neg h,if_neg h]
  by_cases hc:Lib.idxBy (oD p) xs z43 ≥ 0
  ·have:=Pq (oD p) z43 xs (by omega)
   rw [if_pos hc,if_pos this.1,if_pos this.2,if_pos hc]
  ·rw [if_neg hc,if_neg hc]
theorem amh (ps:List ByteArray) (h:ps.length+qC (fun s:ByteArray=>s.size) ps≤100000000000000):(jp ps).size≤140737488351232:=by
 unfold jp
 split
 ·show (1:Nat)≤_;omega
 ·rw [EG,Pz];omega
theorem am8 (a:ByteArray):(qB a).size≤140737488351232:=by
 unfold qB
 split
 ·split
  ·show (0:Nat)≤_;omega
  ·exact amh _ (MJ a _)
 ·show (0:Nat)≤_;omega

def yc (xs:List aF) (a:ByteArray):Int:=if (fH a).2=0 then (if a.toList=([47]:List UInt8) then 6 else if zJ xs (qB a)=0 then (if zo xs (qB a)=true then (if Lib.idxBy (oD a) xs z43 ≥ 0 then 6 else if ((zH xs (qB a)).length:Int) ≥ 6 then 7 else 0) else 4) else zJ xs (qB a)) else (fH a).2
theorem ab6 (xs:List aF) (a:ByteArray) (P:Nat→Option ByteArray) (L:Nat→ByteArray→Option Int) (D:Nat→ByteArray→Option Bool) (I:Nat→Option Int) (K:Nat→ByteArray→Option (List ByteArray)) (hP:Ev P (qB a)) (hL:Ev (fun k=>L k (qB a)) (zJ xs (qB a))) (hD:Ev (fun k=>D k (qB a)) (zo xs (qB a))) (hI:Ev I (Lib.idxBy (oD a) xs z43)) (hK:Ev (fun k=>K k (qB a)) (zH xs (qB a))) :
  Ev (fun k=>if (fH a).2=0 then (if a.toList=([47]:List UInt8) then (some (6:Int)) else ((P k).bind fun t194=>((L k t194).bind fun acR=>(if acR=(0:Int) then ((D k t194).bind fun t196=>(if t196=true then ((I k).bind fun an6=>(if an6 ≥ (0:Int) then (some 6) else ((K k t194).bind fun t198=>(if ((t198:List ByteArray).length:Int) ≥ 6 then (some 7) else (some 0))))) else (some 4))) else (some acR))))) else (some (fH a).2)) (yc xs a):=by
 unfold yc
 by_cases h0:(fH a).2=0
 ·rw [if_pos h0]
  refine aW h0 ?_
  by_cases h1:a.toList=([47]:List UInt8)
  ·rw [if_pos h1];exact aW h1 (dM rfl)
  ·rw [if_neg h1]
   refine dP h1 (Ev.bind hP (Ev.bind hL ?_))
   by_cases h2:zJ xs (qB a)=0
   ·rw [if_pos h2]
    refine aW h2 (Ev.bind hD ?_)
    by_cases h3:zo xs (qB a)=true
    ·rw [if_pos h3]
     refine aW h3 (Ev.bind hI ?_)
     by_cases h4:Lib.idxBy (oD a) xs z43 ≥ 0
     ·rw [if_pos h4];exact aW h4 (dM rfl)
     ·rw [if_neg h4]
      refine dP h4 (Ev.bind hK ?_)
      by_cases h5:((zH xs (qB a)).length:Int) ≥ 6
      ·exact lF (aW h5 (dM rfl)) (if_pos h5).symm
      ·exact lF (dP h5 (dM rfl)) (if_neg h5).symm
    ·rw [if_neg h3];exact dP h3 (dM rfl)
   ·rw [if_neg h2];exact dP h2 (dM rfl)
 ·rw [if_neg h0];exact dP h0 (dM rfl)
theorem acD (xs:List aF) (hx:xs.length≤4000000) (a:ByteArray):Ev (fun k=>CX.f k xs a) (yc xs a):=by
 unfold CX.f
 refine Ev.bind (JQ a) ?_
 exact ab6 xs a (fun k=>vT.f k a) (fun k t=>rC.f k xs t) (fun k t=>zO.f k xs t) (fun k=>rW.f k xs a) (fun k t=>ug.f k xs t) (JO a) (acz xs hx _) (Wi xs _ hx) (MO xs a hx) (acw xs hx _)
theorem aa8 (xs:List aF) (hx:xs.length≤4000000) (hs:∀ y ∈ xs,y.f0.size≤140737488351232) (a:ByteArray) (ha:a.size≤140737488351232):Ev (fun k=>Bh.f k xs a) (yc xs a):=by
 unfold Bh.f
 refine Ev.bind (Ju a ha) ?_
 exact ab6 xs a (fun k=>xX.f k a) (fun k t=>qR.f k xs t) (fun k t=>DJ.f xs t) (fun k=>uy.f xs a) (fun k t=>uz.f k xs t) (Pn a ha) (aa4 xs hx _ (am8 a)) (iQ (alZ xs _ hx)) (iQ (Jt xs a hx)) (aa2 xs hx hs _)

def n_ (p:ByteArray) (xs:List aF):List aF:=xs.filter (fun y=>!(y.f0.toList == p.toList))
theorem Wj (p:ByteArray) (xs:List aF) (hn:xs.length≤1048577):∀ (i:Nat) (out:List aF),i≤xs.length→out.length≤i→Ev (fun k=>uf.l0 k p i xs out) (out++n_ p (xs.drop i))
 | i,out,hi,ho=>by
  refine Ev.step (uf.l0.eq_2 _ _ _ _) ?_
  by_cases h:i < xs.length
  ·refine aW (by omega) (aW (by omega) ?_)
   rw [t_ xs i h,kP i (by omega),drop_at xs i h]
   unfold n_
   by_cases he:xs[i].f0.toList=p.toList
   ·refine aW he (lF (Wj p xs hn (i+1) out (by omega) (by omega)) ?_)
    rw [List.filter_cons,he];simp [n_]
   ·refine dP he (aW (by omega) (lF (Wj p xs hn (i+1) (out++[xs[i]]) (by omega) (by simp;omega)) ?_))
    rw [List.filter_cons,beq_false_of_ne he];simp [n_]
  ·refine dP (by omega) (dM ?_)
   rw [List.drop_of_length_le (by omega)];simp [n_]
 termination_by i=>xs.length - i
theorem anD (p:ByteArray) (xs:List aF) (hn:xs.length≤1048577):Ev (fun k=>uf.f k xs p) (n_ p xs):=by
 unfold uf.f
 exact lF (Wj p xs hn 0 [] (by omega) (by simp)) (by rw [List.drop_zero,List.nil_append])

theorem aaX (p:ByteArray) (xs:List aF) (hn:xs.length≤1048577):u_.f xs p=some (n_ p xs):=by
 unfold u_.f BI.f
 rw [if_pos (by omega),Option.bind_some]
 unfold JR.f
 rw [if_pos (by omega),Option.bind_some]
 rfl
theorem Sz (p:ByteArray) (xs:List aF):(n_ p xs).length≤xs.length:=List.length_filter_le _ _

theorem X_ (x:List UInt8):Op.bytesLess x x=false:=by
 have h:=Ac x x
 cases hb:Op.bytesLess x x with
 | false=>rfl
 | true=>rw [hb] at h;simp at h
theorem Ya {x y:List UInt8} (h:¬ y=x):Op.bytesLess y x=!Op.bytesLess x y:=by
 have e:=Ac y x
 rw [beq_false_of_ne h,Bool.or_false] at e
 exact e

theorem abl {α:Type} (p:α→Bool) (z:α):∀ (l:List α) (i:Nat),(Lib.idxByFrom (fun _ y=>p y) z l i = -1∧l.takeWhile (fun y=>!p y)=l∧l.dropWhile (fun y=>!p y)=[])∨(Lib.idxByFrom (fun _ y=>p y) z l i=((i+(l.takeWhile (fun y=>!p y)).length:Nat):Int))
 | [],i=>.inl ⟨rfl,rfl,rfl⟩
 | y :: r,i=>by
  cases h:p y with
  | true=>exact .inr (by simp [Lib.idxByFrom,h])
  | false =>
   have e0:Lib.idxByFrom (fun _ y=>p y) z (y :: r) i=Lib.idxByFrom (fun _ y=>p y) z r (i+1):=by simp [Lib.idxByFrom,h]
   rcases abl p z r (i+1) with ⟨e,h1,h2⟩|e
   ·exact .inl ⟨by rw [e0,e],by rw [List.takeWhile_cons];simp [h,h1],by rw [List.dropWhile_cons];simp [h,h2]⟩
   ·refine .inr ?_
    rw [e0,e,List.takeWhile_cons]
    simp [h]
    omega
theorem acW {α:Type} (q:α→Bool):∀ l:List α,l.take (l.takeWhile q).length=l.takeWhile q∧l.drop (l.takeWhile q).length=l.dropWhile q
 | []=>⟨rfl,rfl⟩
 | y :: r=>by
  rw [List.takeWhile_cons,List.dropWhile_cons]
  cases h:q y with
  | true=>simp [acW q r]
  | false=>simp

def insL (x:aF) (d:List aF):List aF:=d.takeWhile (fun y=>Op.bytesLess y.f0.toList x.f0.toList)++[x]++d.dropWhile (fun y=>Op.bytesLess y.f0.toList x.f0.toList)
def yg (x:aF) (xs:List aF):List aF:=insL x (n_ x.f0 xs)
theorem anb (x:aF) (xs:List aF):(yg x xs).length≤xs.length+1:=by
 have h:=Sz x.f0 xs
 have e:=congrArg List.length (List.takeWhile_append_dropWhile (p:=fun y:aF=>Op.bytesLess y.f0.toList x.f0.toList) (l:=n_ x.f0 xs))
 rw [List.length_append] at e
 unfold yg insL
 simp only [List.length_append,List.length_singleton]
 omega
theorem am' (x y:aF) (r:List aF) (h:y.f0.toList=x.f0.toList):yg x (y :: r)=yg x r:=by
 unfold yg n_
 rw [List.filter_cons,h];simp
theorem ana (x y:aF) (r:List aF) (h:¬ y.f0.toList=x.f0.toList) (hl:Op.bytesLess x.f0.toList y.f0.toList=true):yg x (y :: r)=x :: y :: n_ x.f0 r:=by
 have h2:=Ya h
 rw [hl] at h2
 unfold yg insL n_
 rw [List.filter_cons,beq_false_of_ne h]
 simp [h2]
theorem anc (x y:aF) (r:List aF) (h:¬ y.f0.toList=x.f0.toList) (hl:Op.bytesLess x.f0.toList y.f0.toList=false):yg x (y :: r)=y :: yg x r:=by
 have h2:=Ya h
 rw [hl] at h2
 unfold yg insL n_
 rw [List.filter_cons,beq_false_of_ne h]
 simp [h2]
theorem Wq (p:ByteArray) (b:Bool) (t:ByteArray) (xs:List aF) (hn:xs.length≤1048577):∀ (i:Nat) (out:List aF),i≤xs.length→out.length≤i+1→Ev (fun k=>jr.l0 k true i xs p b t out) (out++n_ p (xs.drop i))
 | i,out,hi,ho=>by
  refine Ev.step (jr.l0.eq_2 _ _ _ _ _ _ _) ?_
  by_cases h:i < xs.length
  ·refine aW (by omega) (aW rfl ?_)
   refine Ev.step (jr.j1.eq_2 _ _ _ _ _ _ _ _) ?_
   refine dP (by simp) (aW (by omega) (aW (by omega) ?_))
   rw [t_ xs i h,kP i (by omega),drop_at xs i h]
   unfold n_
   by_cases he:xs[i].f0.toList=p.toList
   ·refine aW he (lF (Wq p b t xs hn (i+1) out (by omega) (by omega)) ?_)
    rw [List.filter_cons,he];simp [n_]
   ·refine dP he (aW (by omega) (lF (Wq p b t xs hn (i+1) (out++[xs[i]]) (by omega) (by simp;omega)) ?_))
    rw [List.filter_cons,beq_false_of_ne he];simp [n_]
  ·refine dP (by omega) (aW rfl (dM ?_))
   rw [List.drop_of_length_le (by omega)];simp [n_]
 termination_by i=>xs.length - i
theorem Wp (p:ByteArray) (b:Bool) (t:ByteArray) (xs:List aF) (hn:xs.length≤1048577):∀ (i:Nat) (out:List aF),i≤xs.length→out.length≤i→Ev (fun k=>jr.l0 k false i xs p b t out) (out++yg ⟨p,b,t⟩ (xs.drop i))
 | i,out,hi,ho=>by
  refine Ev.step (jr.l0.eq_2 _ _ _ _ _ _ _) ?_
  by_cases h:i < xs.length
  ·refine aW (by omega) (dP (by simp) (aW (by omega) ?_))
   refine Ev.step (jr.j1.eq_2 _ _ _ _ _ _ _ _) ?_
   rw [t_ xs i h,kP i (by omega),drop_at xs i h]
   cases hl:Op.bytesLess p.toList xs[i].f0.toList with
   | true =>
    refine aW rfl (aW (by omega) (Ev.bind (Ev.now _) (aW (by omega) (aW (by omega) ?_))))
    by_cases he:xs[i].f0.toList=p.toList
    ·rw [he,X_] at hl;cases hl
    ·refine dP he (aW (by simp;omega) (lF (Wq p b t xs hn (i+1) _ (by omega) (by simp;omega)) ?_))
     rw [ana ⟨p,b,t⟩ xs[i] _ he hl]
     simp
   | false =>
    refine dP (by simp) (aW (by omega) (aW (by omega) ?_))
    by_cases he:xs[i].f0.toList=p.toList
    ·refine aW he (lF (Wp p b t xs hn (i+1) out (by omega) (by omega)) ?_)
     rw [am' ⟨p,b,t⟩ xs[i] _ he]
    ·refine dP he (aW (by omega) (lF (Wp p b t xs hn (i+1) (out++[xs[i]]) (by omega) (by simp;omega)) ?_))
     rw [anc ⟨p,b,t⟩ xs[i] _ he hl]
     simp
  ·refine dP (by omega) (dP (by simp) (aW (by omega) (dM ?_)))
   rw [List.drop_of_length_le (by omega)];rfl
 termination_by i=>xs.length - i
theorem anI (p:ByteArray) (b:Bool) (t:ByteArray) (xs:List aF) (hn:xs.length≤1048577):Ev (fun k=>jr.f k xs p b t) (yg ⟨p,b,t⟩ xs):=by
 unfold jr.f
 exact lF (Wp p b t xs hn 0 [] (by omega) (by simp)) (by rw [List.drop_zero,List.nil_append])
theorem al4 (p:ByteArray) (b:Bool) (t:ByteArray) (xs:List aF) (hn:xs.length≤1048577):zB.f xs p b t=some (yg ⟨p,b,t⟩ xs):=by
 have hd:=Sz p xs
 unfold zB.f
 rw [aaX p xs hn,Option.bind_some]
 unfold JV.f
 rw [if_pos (by omega),Option.bind_some]
 have hi:∀ a:Int,0≤a∧a≤((n_ p xs).length:Int)→CW.f (n_ p xs) a [⟨p,b,t⟩]=some ((n_ p xs).take a.toNat++[⟨p,b,t⟩]++(n_ p xs).drop a.toNat):=fun a ha=>by
  unfold CW.f
  exact if_pos ⟨ha,rfl,by omega⟩
 have hq:(fun y:aF=>!(!Op.bytesLess y.f0.toList p.toList))=fun y=>Op.bytesLess y.f0.toList p.toList:=by funext y;rw [Bool.not_not]
 have hx:=abl (fun y:aF=>!Op.bytesLess y.f0.toList p.toList) z43 (n_ p xs) 0
 rw [hq] at hx
 have ht:=acW (fun y:aF=>Op.bytesLess y.f0.toList p.toList) (n_ p xs)
 have hle:((n_ p xs).takeWhile (fun y:aF=>Op.bytesLess y.f0.toList p.toList)).length≤(n_ p xs).length:=List.Sublist.length_le (List.takeWhile_sublist _)
 rcases hx with ⟨e,h1,h2⟩|e
 ·rw [if_pos (by show Lib.idxByFrom _ _ _ 0 < 0;rw [show Lib.idxByFrom (fun _ y=>Dz.p p b t y) z43 (n_ p xs) 0 = -1 from e];omega),hi _ (by omega),Option.bind_some]
  unfold yg insL
  show some ((n_ p xs).take ((n_ p xs).length:Int).toNat++[⟨p,b,t⟩]++(n_ p xs).drop ((n_ p xs).length:Int).toNat)=some ((n_ p xs).takeWhile (fun y:aF=>Op.bytesLess y.f0.toList p.toList)++[⟨p,b,t⟩]++(n_ p xs).dropWhile (fun y:aF=>Op.bytesLess y.f0.toList p.toList))
  rw [h1,h2,Int.toNat_natCast,List.take_length,List.drop_length]
 ·have e2:Lib.idxBy (fun _ y=>Dz.p p b t y) (n_ p xs) z43=(((n_ p xs).takeWhile (fun y:aF=>Op.bytesLess y.f0.toList p.toList)).length:Int):=e.trans (by rw [Nat.zero_add])
  rw [e2,if_neg (by omega),hi _ (by omega),Option.bind_some,Int.toNat_natCast,ht.1,ht.2]
  rfl

theorem abD (n:Nat) (hn:n≤1048576):∀ (i:Nat) (ys:List Int),i≤n→ys.length=n→(∀ y ∈ ys,y=0)→Ev (fun k=>xE.l0 k n 0 ys i) (strOfNums ys)
 | i,ys,hi,hl,hz=>by
  refine Ev.step (xE.l0.eq_2 _ _ _ _) ?_
  by_cases h:i < n
  ·refine aW (by omega) (aW (by omega) (aW (by omega) ?_))
   rw [kP i (by omega),Int.toNat_natCast]
   have e:ys.set i 0=ys:=by
    apply List.ext_getElem (by simp)
    intro j h1 h2
    rw [List.getElem_set]
    split
    ·exact (hz _ (List.getElem_mem h2)).symm
    ·rfl
   rw [e]
   exact abD n hn (i+1) ys (by omega) hl hz
  ·exact dP (by omega) (dM rfl)
 termination_by i=>n - i
theorem amB (n:Nat) (hn:n≤1048576):Ev (fun k=>xE.f k n 0) (zb n):=by
 unfold xE.f
 refine aW (by omega) (aW (by omega) (lF (abD n hn 0 _ (by omega) (by simp) (by simp)) ?_))
 simp [strOfNums,zb]
theorem aee (n:Nat) (hn:n≤20000):Ev (fun k=>AB.f k (n:Int)) (zb n):=by
 unfold AB.f
 exact Ev.bind (iQ (JD _ _ _)) (aW (by simp;omega) (Ev.bind (amB n (by omega)) (dM rfl)))

theorem anq (n:Nat) (h:n≤1048576):strings_Repeat.f (⟨#[0]⟩:ByteArray) (n:Int)=some (zb n):=by
 unfold strings_Repeat.f
 have h1:(⟨#[0]⟩:ByteArray).size=1:=rfl
 rw [if_pos ⟨by omega,by omega,by rw [Int.toNat_natCast,h1];omega⟩]
 congr 1
 unfold zb
 rw [← anr,Int.toNat_natCast]
theorem abZ (s:ByteArray) (n:Int) (h0:0≤n) (h1:n≤1048576) (hs:s.size≤4000000):zD.f s n=some (s++zb (n - s.size).toNat):=by
 unfold zD.f
 rw [oW (by omega) (by omega)]
 have hm:mx 0 (n - (s.size:Int))=(((n - s.size).toNat:Nat):Int):=by
  show (if (0:Int) < n - (s.size:Int) then n - (s.size:Int) else 0)=_
  split <;> omega
 rw [hm,anq _ (by omega),Option.bind_some,if_pos (by rw [Gq];omega)]

def lay (b:ByteArray) (off:Nat) (t:ByteArray):ByteArray:=⟨(b.data.toList.take off++t.data.toList++b.data.toList.drop (off+t.size)).toArray⟩
def M_ (s:ByteArray) (off:Int) (t:ByteArray):Prop:=t.size≠0∧0≤off∧off+t.size≤128∧s.size≤128
open Classical in
noncomputable def tw (s:ByteArray) (off:Int) (t:ByteArray):ByteArray:=if M_ s off t then lay (s++zb (off - s.size).toNat) off.toNat t else s
theorem PX (t:ByteArray):t.toList=[] ↔ t.size=0:=by
 rw [EH,← wo]
 exact ⟨fun h=>by rw [h];rfl,fun h=>List.eq_nil_of_length_eq_zero h⟩
theorem abA (b:ByteArray) (off:Nat) (t:ByteArray) (h:b.size≤off+t.size):b.extract 0 off++t=lay b off t:=by
 apply yE
 unfold lay
 have hd:b.data.toList.drop (off+t.size)=[]:=List.drop_of_length_le (by rw [wo];exact h)
 rw [Bc,Dt,Bd,hd]
 simp
theorem abz (b:ByteArray) (off:Nat) (t:ByteArray):b.extract 0 off++t++b.extract (off+t.size) b.size=lay b off t:=by
 apply yE
 unfold lay
 have hd:b.data.toList.take b.size=b.data.toList:=List.take_of_length_le (by rw [wo];exact Nat.le_refl _)
 rw [Bc,Bc,Dt,Dt,Bd,hd]
 simp
theorem acU (b:ByteArray) (off:Int) (t:ByteArray) (h0:0≤off) (h1:off≤b.size) (h2:off+t.size≤128) (h3:b.size≤1000):Ev (fun _=>if (wrap64 (off+(t.size:Int))) > (b.size:Int) then (if 0≤off then (if off≤(b.size:Int) then ((some (b.extract 0 (off:Int).toNat:ByteArray)).bind fun y=>(if y.size+t.size≤9223372036854775807 then ((some (y++t:ByteArray)).bind fun z=>(some z)) else (none))) else (none)) else (none)) else (if 0≤off then (if off≤(b.size:Int) then ((some (b.extract 0 (off:Int).toNat:ByteArray)).bind fun y=>(if y.size+t.size≤9223372036854775807 then ((some (y++t:ByteArray)).bind fun z=>(if 0≤(wrap64 (off+(t.size:Int))) then (if (wrap64 (off+(t.size:Int)))≤(b.size:Int) then ((some (b.extract ((wrap64 (off+(t.size:Int))):Int).toNat b.size:ByteArray)).bind fun u=>(if z.size+u.size≤9223372036854775807 then ((some (z++u:ByteArray)).bind fun v=>(some v)) else (none))) else (none)) else (none))) else (none))) else (none)) else (none))) (lay b off.toNat t):=by
 rw [oW (by omega) (by omega)]
 obtain ⟨o,rfl⟩:=Int.eq_ofNat_of_zero_le h0
 have e:((o:Int)+(t.size:Int)).toNat=o+t.size:=by omega
 rw [e,Int.toNat_natCast]
 have z1:(b.extract 0 o).size≤1000:=by rw [ByteArray.size_extract];omega
 have z2:(b.extract (o+t.size) b.size).size≤1000:=by rw [ByteArray.size_extract];omega
 by_cases h:(o:Int)+(t.size:Int) > (b.size:Int)
 ·exact aW h (aW h0 (aW h1 (Ev.bind (Ev.now _) (aW (by omega) (Ev.bind (Ev.now _) (dM (abA b o t (by omega))))))))
 ·refine dP h (aW h0 (aW h1 (Ev.bind (Ev.now _) (aW (by omega) (Ev.bind (Ev.now _) (aW (by omega) (aW (by omega) (Ev.bind (Ev.now _) (aW ?_ (Ev.bind (Ev.now _) (dM (abz b o t))))))))))))
  rw [ByteArray.size_append];omega
theorem anJ (s:ByteArray) (off:Int) (t:ByteArray) (hs:s.size≤4000000) (ht:t.size≤4000000) (ho:(Lit.int .i64 off).wf=true):Ev (fun k=>vw.f k s off t) (tw s off t):=by
 unfold vw.f
 rw [oW (x:=128 - (t.size:Int)) (by omega) (by omega)]
 have out:¬ M_ s off t→Ev (fun k=>vw.j0 k s off t true) (tw s off t):=by
  intro h
  unfold tw
  rw [if_neg h]
  refine Ev.step (vw.j0.eq_2 _ _ _ _) ?_
  exact aW rfl (dM rfl)
 by_cases h1:t.size=0
 ·exact aW ((PX t).2 h1) (out (fun h=>h.1 h1))
 refine dP (fun h=>h1 ((PX t).1 h)) ?_
 by_cases h2:off < 0
 ·exact aW h2 (out (fun h=>by have:=h.2.1;omega))
 refine dP h2 ?_
 by_cases h3:off > 128 - (t.size:Int)
 ·exact aW h3 (out (fun h=>by have:=h.2.2.1;omega))
 refine dP h3 ?_
 by_cases h4:(s.size:Int) > 128
 ·rw [decide_eq_true h4]
  exact out (fun h=>by have:=h.2.2.2;omega)
 rw [decide_eq_false h4]
 have ok:M_ s off t:=⟨h1,by omega,by omega,by omega⟩
 unfold tw
 rw [if_pos ok]
 refine Ev.step (vw.j0.eq_2 _ _ _ _) ?_
 refine dP (by simp) ?_
 by_cases h5:(s.size:Int) < off
 ·refine aW h5 ?_
  rw [oW (x:=off - (s.size:Int)) (by omega) (by omega),show off - (s.size:Int)=(((off - s.size).toNat:Nat):Int) by omega]
  refine Ev.bind (aee _ (by omega)) (aW (by rw [Gq];omega) (Ev.bind (Ev.now _) ?_))
  rw [← show off - (s.size:Int)=(((off - s.size).toNat:Nat):Int) by omega]
  have hz:(s++zb (off - (s.size:Int)).toNat).size=off.toNat:=by rw [ByteArray.size_append,Gq];omega
  exact acU _ off t (by omega) (by omega) (by omega) (by omega)
 ·refine dP h5 ?_
  have e:s++zb (off - (s.size:Int)).toNat=s:=by
   apply yE
   rw [Bc,Xu,show (off - (s.size:Int)).toNat=0 by omega];simp
  rw [e]
  exact acU s off t (by omega) (by omega) (by omega) (by omega)
theorem aa9 (s:ByteArray) (off:Int) (t:ByteArray) (hs:s.size≤4000000) (ht:t.size≤4000000) (ho:(Lit.int .i64 off).wf=true):Fq.f s off t=some (tw s off t):=by
 unfold Fq.f
 have out:¬ M_ s off t→some s=some (tw s off t):=by
  intro h
  unfold tw
  rw [if_neg h]
 by_cases h1:t.size=0
 ·rw [if_pos ((PX t).2 h1)];exact out (fun h=>h.1 h1)
 rw [if_neg (fun h=>h1 ((PX t).1 h))]
 by_cases h2:off < 0
 ·rw [if_pos h2];exact out (fun h=>by have:=h.2.1;omega)
 rw [if_neg h2]
 by_cases h3:off > 128
 ·rw [if_pos h3];exact out (fun h=>by have:=h.2.2.1;omega)
 rw [if_neg h3,oW (x:=off+(t.size:Int)) (by omega) (by omega)]
 have hm:mx (s.size:Int) (off+(t.size:Int))=if (s.size:Int) < off+t.size then off+t.size else s.size:=rfl
 rw [hm]
 by_cases h4:(if (s.size:Int) < off+t.size then off+t.size else s.size) > 128
 ·rw [if_pos h4]
  exact out (fun h=>by have h5:=h.2.2.1;have h6:=h.2.2.2;split at h4 <;> omega)
 rw [if_neg h4]
 have hb:off+t.size≤128∧s.size≤128:=by split at h4 <;> omega
 have ok:M_ s off t:=⟨h1,by omega,hb.1,hb.2⟩
 unfold tw
 rw [if_pos ok,abZ s off (by omega) (by omega) (by omega),Option.bind_some]
 have hz:(s++zb (off - (s.size:Int)).toNat).size=s.size+(off - (s.size:Int)).toNat:=by rw [ByteArray.size_append,Gq]
 generalize s++zb (off - (s.size:Int)).toNat=b at hz ⊢
 obtain ⟨o,rfl⟩:=Int.eq_ofNat_of_zero_le (show 0≤off by omega)
 have hn:mn ((o:Int)+t.size) (b.size:Int)=(((if b.size < o+t.size then b.size else o+t.size):Nat):Int):=by
  show (if (b.size:Int) < (o:Int)+t.size then (b.size:Int) else (o:Int)+t.size)=_
  split <;> split <;> omega
 rw [hn]
 simp only [Int.toNat_natCast]
 have z1:(b.extract 0 o).size≤1000:=by rw [ByteArray.size_extract];omega
 by_cases h6:b.size < o+t.size
 ·rw [if_pos h6,if_pos (by omega),if_pos (by omega),if_pos (by omega),if_pos (by omega),if_pos (by omega),if_pos]
  ·congr 1
   rw [← abA b o t (by omega)]
   apply yE
   rw [Bc,Dt b b.size b.size,List.drop_of_length_le (by simp)];simp
  ·rw [ByteArray.size_append,ByteArray.size_extract (b:=b.size)];omega
 ·rw [if_neg h6,if_pos (by omega),if_pos (by omega),if_pos (by omega),if_pos (by omega),if_pos (by omega),if_pos]
  ·rw [abz]
  ·rw [ByteArray.size_append,ByteArray.size_extract (b:=o+t.size)];omega


theorem Gp (a b c:Int):xY.f a b c=some (decide (b≤a∧a≤c)):=by
 unfold xY.f
 by_cases h:a ≥ b
 ·rw [if_pos h];congr 1;simp;omega
 ·rw [if_neg h];congr 1;simp;omega

def Hw (s:ByteArray) (n:Int):ByteArray:=if 0≤n∧n≤128 then ⟨((s.data.toList++List.replicate (n - s.size).toNat 0).take n.toNat).toArray⟩ else s
theorem acE (s:ByteArray) (n:Int) (hs:s.size≤4000000):Ev (fun k=>D6.f k s n) (Hw s n):=by
 unfold D6.f Hw
 refine Ev.bind (iQ (JD _ _ _)) ?_
 by_cases h:0≤n∧n≤128
 ·rw [if_pos h]
  refine aW (by simpa using h) ?_
  by_cases h2:n≤(s.size:Int)
  ·refine aW h2 (aW h.1 (dM (yE ?_)))
   rw [Dt,Bd,List.take_append_of_le_length (by rw [wo];omega)];simp
  ·refine dP h2 ?_
   rw [oW (by omega) (by omega),show n - (s.size:Int)=(((n - s.size).toNat:Nat):Int) by omega]
   refine Ev.bind (aee _ (by omega)) (aW (by rw [Gq];omega) (dM (yE ?_)))
   rw [Bc,Bd,Xu,List.take_of_length_le]
   ·congr 2
   ·simp only [List.length_append,wo,List.length_replicate];omega
 ·rw [if_neg h]
  exact dP (by simpa using h) (dM rfl)

theorem VP (s:ByteArray) (n:Int) (hs:s.size≤4000000):Fp.f s n=some (Hw s n):=by
 unfold Fp.f Hw
 rw [Gp,Option.bind_some]
 by_cases h:0≤n∧n≤128
 ·rw [if_pos h,if_pos (by simpa using h),abZ s n (by omega) (by omega) hs,Option.bind_some,if_pos h.1,if_pos]
  ·congr 1
   refine yE ?_
   rw [Dt,Bc,Bd,Xu];simp
  ·rw [ByteArray.size_append,Gq];omega
 ·rw [if_neg h,if_neg (by simpa using h)]


def vS (n:Int):Int:=if n≤0 then 0 else (n - 1) / 32+1
theorem anG (n:Int) (h:0≤n) (h1:n≤1048576):D5.f n=some (vS n):=by
 unfold D5.f vS
 split
 ·rfl
 ·rw [oW (x:=n - 1) (by omega) (by omega),Int.tdiv_eq_ediv_of_nonneg (by omega),oW (x:=(n - 1) / 32) (by omega) (by omega),oW (by omega) (by omega)]
theorem LX (n:Int) (h:0≤n) (h1:n≤1048576):zA.f n=some (vS n):=by
 unfold zA.f vS
 rw [if_neg (by omega),Int.tdiv_eq_ediv_of_nonneg h,Int.tmod_eq_emod_of_nonneg h,oW (x:=n / 32) (by omega) (by omega),oW (x:=n / 32+1) (by omega) (by omega)]
 split <;> split <;> congr 1 <;> omega

theorem MK (n:Int) (h1:n≤1048576):0≤vS n∧vS n≤32768:=by
 unfold vS
 split <;> omega

def qO:List aF→Int→Int
 | [],a=>a
 | x :: r,a=>if x.f1=true then qO r a else qO r (a+vS x.f2.size)
theorem Wn (xs:List aF) (hn:xs.length≤1048576) (hs:∀ y ∈ xs,y.f2.size≤1048576):∀ (i:Nat) (a:Int),i≤xs.length→0≤a→a≤32768 * i→Ev (fun k=>vJ.l0 k a i xs) (qO (xs.drop i) a)
 | i,a,hi,h0,h1=>by
  refine Ev.step (vJ.l0.eq_2 _ _ _) ?_
  by_cases h:i < xs.length
  ·refine aW (by omega) (aW (by omega) ?_)
   rw [t_ xs i h,kP i (by omega),drop_at xs i h]
   simp only [qO]
   have hz:=hs _ (List.getElem_mem h)
   by_cases hd:xs[i].f1=true
   ·rw [if_pos hd]
    exact aW hd (Wn xs hn hs (i+1) a (by omega) h0 (by omega))
   ·rw [if_neg hd]
    have hb:=MK (xs[i].f2.size:Int) (by omega)
    refine dP hd (Ev.bind (iQ (anG _ (by omega) (by omega))) ?_)
    rw [oW (by omega) (by omega)]
    exact Wn xs hn hs (i+1) _ (by omega) (by omega) (by omega)
  ·refine dP (by omega) (dM ?_)
   rw [List.drop_of_length_le (by omega)];rfl
 termination_by i=>xs.length - i
theorem VO (xs:List aF) (hn:xs.length≤1048576) (hs:∀ y ∈ xs,y.f2.size≤1048576):∀ (i:Nat) (a:Int),i≤xs.length→0≤a→a≤32768 * i→Ev (fun k=>vI.l0 k a xs xs.length i) (qO (xs.drop i) a)
 | i,a,hi,h0,h1=>by
  refine Ev.step (vI.l0.eq_2 _ _ _ _) ?_
  by_cases h:i < xs.length
  ·refine aW (by omega) (aW (by omega) (aW (by omega) ?_))
   rw [t_ xs i h,kP i (by omega),drop_at xs i h]
   simp only [qO]
   have hz:=hs _ (List.getElem_mem h)
   by_cases hd:xs[i].f1=true
   ·rw [if_pos hd]
    exact aW hd (VO xs hn hs (i+1) a (by omega) h0 (by omega))
   ·rw [if_neg hd]
    have hb:=MK (xs[i].f2.size:Int) (by omega)
    refine dP hd (Ev.bind (iQ (LX _ (by omega) (by omega))) ?_)
    rw [oW (by omega) (by omega)]
    exact VO xs hn hs (i+1) _ (by omega) (by omega) (by omega)
  ·refine dP (by omega) (dM ?_)
   rw [List.drop_of_length_le (by omega)];rfl
 termination_by i=>xs.length - i
theorem anH (xs:List aF) (hn:xs.length≤1048576) (hs:∀ y ∈ xs,y.f2.size≤1048576):Ev (fun k=>vJ.f k xs) (qO xs 0):=by
 unfold vJ.f
 exact Wn xs hn hs 0 0 (by omega) (by omega) (by omega)
theorem aa7 (xs:List aF) (hn:xs.length≤1048576) (hs:∀ y ∈ xs,y.f2.size≤1048576):Ev (fun k=>vI.f k xs) (qO xs 0):=by
 unfold vI.f
 exact VO xs hn hs 0 0 (by omega) (by omega) (by omega)

theorem same_eq (xs:List aF) (hn:xs.length≤4000000):rY.f xs=some xs:=by
 unfold rY.f
 rw [Option.bind_some,if_pos (by simp;omega),List.nil_append]
theorem anK {n s:Nat} {xs:List aF} (h:vB n s xs) (i:Nat) (hi:i < xs.length) (t:ByteArray) (ht:t.size≤s):vB n s (xs.set i ⟨xs[i].f0,xs[i].f1,t⟩):=by
 refine ⟨by rw [List.length_set];exact h.1,fun y hy=>?_⟩
 rcases List.mem_or_eq_of_mem_set hy with hy|rfl
 ·exact h.2 y hy
 ·exact ⟨(h.2 _ (List.getElem_mem hi)).1,ht⟩
theorem al6 (p:ByteArray) (xs:List aF) (h:Lib.idxBy (oD p) xs z43 ≥ 0):∃ i:Nat,i < xs.length∧Lib.idxBy (oD p) xs z43=i:=by
 obtain ⟨m,e⟩:=Int.eq_ofNat_of_zero_le h
 have:=(Pq (oD p) z43 xs (by omega)).2
 exact ⟨m,by omega,e⟩
theorem abC (xs:List aF) (ps:List ByteArray):∀ f i:Nat,CP xs ps f i≠0
 | 0,i=>by simp [CP]
 | f+1,i=>by
  have ih:=abC xs ps f (i+1)
  unfold CP
  repeat' split
  all_goals first|exact ih|decide
theorem amy (xs:List aF) (a:ByteArray) (h:zJ xs a=0):a.toList=([47]:List UInt8)∨Lib.idxBy (oD a) xs z43 ≥ 0:=by
 unfold zJ at h
 by_cases c1:a.toList=([47]:List UInt8)
 ·exact .inl c1
 rw [if_neg c1] at h
 by_cases c2:Lib.idxBy (oD a) xs z43 ≥ 0
 ·exact .inr c2
 rw [if_neg c2] at h
 by_cases c3:(fH a).2=0
 ·rw [if_pos c3] at h;exact absurd h (abC _ _ _ _)
 ·rw [if_neg c3] at h;exact absurd h c3
structure Wk {α:Type} (lt:α→α→Bool):Prop where
 Px:∀ a,lt a a=false
 RF:∀ a b,lt a b=true→lt b a=false
 neg:∀ a b c,lt b a=false→lt c b=false→lt c a=false
section
variable {α:Type} {lt:α→α→Bool}
def tie (lt:α→α→Bool) (a b:α):Bool:=!lt a b && !lt b a
def gK (lt:α→α→Bool) (xs:List α):Prop:=xs.Pairwise (fun a b=>lt b a=false)
def gW (lt:α→α→Bool) (xs ys:List α):Prop:=∀ a,xs.filter (tie lt a)=ys.filter (tie lt a)
theorem WL (h:Wk lt) (a:α):tie lt a a=true:=by simp [tie,h.Px a]
theorem WJ {a b:α}:tie lt a b=true ↔ lt a b=false∧lt b a=false:=by simp [tie]
theorem gW.refl (xs:List α):gW lt xs xs:=fun _=>rfl
theorem gW.trans {xs ys zs:List α} (h:gW lt xs ys) (g:gW lt ys zs):gW lt xs zs:=fun a=>(h a).trans (g a)
theorem gW.symm {xs ys:List α} (h:gW lt xs ys):gW lt ys xs:=fun a=>(h a).symm
theorem gW.app {xs ys us vs:List α} (h:gW lt xs ys) (g:gW lt us vs):gW lt (xs++us) (ys++vs):=fun a=>by rw [List.filter_append,List.filter_append,h a,g a]
theorem gW.mem (hw:Wk lt) {xs ys:List α} (h:gW lt xs ys) {a:α}:a ∈ xs ↔ a ∈ ys:=by
 have e:∀ zs:List α,a ∈ zs ↔ a ∈ zs.filter (tie lt a):=fun zs=>by simp [List.mem_filter,WL hw a]
 rw [e xs,e ys,h a]
theorem gW.swap {us vs:List α} (h:∀ u ∈ us,∀ v ∈ vs,tie lt u v=false) (hw:Wk lt):gW lt (us++vs) (vs++us):=by
 intro a
 rw [List.filter_append,List.filter_append]
 by_cases hu:us.filter (tie lt a)=[]
 ·rw [hu,List.nil_append,List.append_nil]
 ·have hv:vs.filter (tie lt a)=[]:=by
   rw [List.filter_eq_nil_iff]
   intro v hv hav
   obtain ⟨u,hu⟩:=List.exists_mem_of_ne_nil _ hu
   obtain ⟨h1,h2⟩:=List.mem_filter.1 hu
   have:=h u h1 v hv
   rw [WJ] at h2 hav
   have t:tie lt u v=true:=by
    rw [WJ]
    exact ⟨hw.neg v a u hav.1 h2.2,hw.neg u a v h2.1 hav.2⟩
   rw [t] at this
   cases this
  rw [hv,List.nil_append,List.append_nil]
theorem gK.cons {x:α} {r:List α}:gK lt (x :: r) ↔ (∀ y ∈ r,lt y x=false)∧gK lt r:=List.pairwise_cons
theorem gK.app {xs ys:List α}:gK lt (xs++ys) ↔ gK lt xs∧gK lt ys∧∀ x ∈ xs,∀ y ∈ ys,lt y x=false:=List.pairwise_append
theorem acM (hw:Wk lt):∀ (xs ys:List α),gK lt xs→gK lt ys→gW lt xs ys→xs=ys
 | [],[],_,_,_=>rfl
 | [],y :: s,_,_,h=>by
  have:=(h.mem hw (a:=y)).2 (List.mem_cons_self ..)
  cases this
 | x :: r,[],_,_,h=>by
  have:=(h.mem hw (a:=x)).1 (List.mem_cons_self ..)
  cases this
 | x :: r,y :: s,hx,hy,h=>by
  obtain ⟨hx1,hx2⟩:=gK.cons.1 hx
  obtain ⟨hy1,hy2⟩:=gK.cons.1 hy
  have le1:lt y x=false:=by
   rcases List.mem_cons.1 ((h.mem hw (a:=y)).2 (List.mem_cons_self ..)) with e|e
   ·rw [e];exact hw.Px x
   ·exact hx1 y e
  have amw:lt x y=false:=by
   rcases List.mem_cons.1 ((h.mem hw (a:=x)).1 (List.mem_cons_self ..)) with e|e
   ·rw [e];exact hw.Px y
   ·exact hy1 x e
  have t:tie lt x y=true:=WJ.2 ⟨amw,le1⟩
  have e:=h x
  rw [List.filter_cons_of_pos (WL hw x),List.filter_cons_of_pos t] at e
  obtain ⟨rfl,_⟩:=List.cons.inj e
  refine congrArg (x :: ·) (acM hw r s hx2 hy2 (fun a=>?_))
  have e2:=h a
  by_cases ha:tie lt a x=true
  ·rw [List.filter_cons_of_pos ha,List.filter_cons_of_pos ha] at e2
   exact (List.cons.inj e2).2
  ·rw [List.filter_cons_of_neg ha,List.filter_cons_of_neg ha] at e2
   exact e2
theorem VZ (p:α→Bool):∀ xs:List α,xs.length=(xs.filter p).length+(xs.filter (fun y=>!p y)).length
 | []=>rfl
 | x :: r=>by
  have ih:=VZ p r
  by_cases h:p x=true
  ·rw [List.filter_cons_of_pos h,List.filter_cons_of_neg (by simp [h]),List.length_cons,List.length_cons];omega
  ·rw [List.filter_cons_of_neg h,List.filter_cons_of_pos (by simpa using h),List.length_cons,List.length_cons];omega
theorem gW.len (hw:Wk lt):∀ (n:Nat) (xs ys:List α),xs.length=n→gW lt xs ys→xs.length=ys.length:=by
 intro n
 induction n using Nat.strongRecOn with
 | _ n ih =>
  intro xs ys hn h
  cases xs with
  | nil =>
   cases ys with
   | nil=>rfl
   | cons y s=>have:=(h.mem hw (a:=y)).2 (List.mem_cons_self ..);cases this
  | cons x r =>
   -- all that tie with x, and the rest
   have hx:=VZ (tie lt x) (x :: r)
   have hy:=VZ (tie lt x) ys
   have hlt:((x :: r).filter (fun y=>!tie lt x y)).length < n:=by
    have:0 < ((x :: r).filter (tie lt x)).length:=by rw [List.filter_cons_of_pos (WL hw x)];simp
    omega
   have hs:gW lt ((x :: r).filter (fun y=>!tie lt x y)) (ys.filter (fun y=>!tie lt x y)):=by
    intro a
    rw [List.filter_filter,List.filter_filter]
    have c:∀ zs:List α,zs.filter (fun y=>tie lt a y && !tie lt x y)=(zs.filter (tie lt a)).filter (fun y=>!tie lt x y):=fun zs=>by
     rw [List.filter_filter]
     congr 1
     funext y
     rw [Bool.and_comm]
    rw [c,c,h a]
   rw [hx,hy,h x,ih _ hlt _ _ rfl hs]
theorem amK (hw:Wk lt) {L1 U V R2 M1 M2:List α} (hL:gK lt (L1++U)) (hR:gK lt (V++R2)) (h1:∀ u ∈ U,∀ v ∈ V,lt v u=true) (h2:∀ x ∈ L1,∀ y ∈ R2,lt y x=false)
  (s1:gK lt M1) (t1:gW lt M1 (L1++V)) (s2:gK lt M2) (t2:gW lt M2 (U++R2)):gK lt (M1++M2)∧gW lt (M1++M2) ((L1++U)++(V++R2)):=by
 obtain ⟨_,_,agy⟩:=gK.app.1 hL
 obtain ⟨_,_,agB⟩:=gK.app.1 hR
 refine ⟨gK.app.2 ⟨s1,s2,fun x hx y hy=>?_⟩,?_⟩
 ·have hx':=List.mem_append.1 ((t1.mem hw).1 hx)
  have hy':=List.mem_append.1 ((t2.mem hw).1 hy)
  rcases hx' with hx'|hx'
  ·rcases hy' with hy'|hy'
   ·exact agy x hx' y hy'
   ·exact h2 x hx' y hy'
  ·rcases hy' with hy'|hy'
   ·exact hw.RF _ _ (h1 y hy' x hx')
   ·exact agB x hx' y hy'
 ·have e:(L1++U)++(V++R2)=L1++((U++V)++R2):=by simp
  have sw:gW lt (V++U) (U++V):=(gW.swap (us:=U) (vs:=V) (fun u hu v hv=>by simp [tie,h1 u hu v hv]) hw).symm
  have e2:(L1++V)++(U++R2)=L1++((V++U)++R2):=by simp
  rw [e]
  refine (t1.app t2).trans ?_
  rw [e2]
  exact (gW.refl L1).app (sw.app (gW.refl R2))
theorem VQ (hw:Wk lt) {x:α} {P Q:List α} (hs:gK lt (P++Q)) (h1:∀ y ∈ P,lt x y=false) (h2:∀ y ∈ Q,lt x y=true):gK lt (P++x :: Q)∧gW lt (P++x :: Q) (P++Q++[x]):=by
 obtain ⟨a1,a2,a3⟩:=gK.app.1 hs
 refine ⟨gK.app.2 ⟨a1,gK.cons.2 ⟨fun y hy=>hw.RF _ _ (h2 y hy),a2⟩,fun p hp y hy=>?_⟩,?_⟩
 ·rcases List.mem_cons.1 hy with rfl|hy
  ·exact h1 p hp
  ·exact a3 p hp y hy
 ·have sw:gW lt ([x]++Q) (Q++[x]):=gW.swap (fun u hu v hv=>by rw [List.mem_singleton] at hu;subst hu;simp [tie,h2 v hv]) hw
  rw [List.append_assoc]
  exact (gW.refl P).app sw
theorem amb (hw:Wk lt) {x:α} {P Q:List α} (hs:gK lt (P++Q)) (h1:∀ y ∈ P,lt y x=true) (h2:∀ y ∈ Q,lt y x=false):gK lt (P++x :: Q)∧gW lt (P++x :: Q) (x :: (P++Q)):=by
 obtain ⟨a1,a2,a3⟩:=gK.app.1 hs
 refine ⟨gK.app.2 ⟨a1,gK.cons.2 ⟨h2,a2⟩,fun p hp y hy=>?_⟩,?_⟩
 ·rcases List.mem_cons.1 hy with rfl|hy
  ·exact hw.RF _ _ (h1 p hp)
  ·exact a3 p hp y hy
 ·have sw:gW lt (P++[x]) ([x]++P):=gW.swap (fun u hu v hv=>by rw [List.mem_singleton] at hv;subst hv;simp [tie,h1 u hu]) hw
  have e:P++x :: Q=(P++[x])++Q:=by simp
  rw [e]
  exact sw.app (gW.refl Q)
theorem anT {xs:List α} (h:gK lt xs) {i j:Nat} (hij:i < j) (hj:j < xs.length):lt xs[j] xs[i]=false:=List.pairwise_iff_getElem.1 h i j (by omega) hj hij
theorem D7 (hw:Wk lt) {xs:List α} (h:gK lt xs) {i j:Nat} (hij:i≤j) (hj:j < xs.length):lt xs[j] xs[i]=false:=by
 rcases Nat.lt_or_eq_of_le hij with h1|h1
 ·exact anT h h1 hj
 ·subst h1;exact hw.Px _
theorem Qe {xs:List α} (h:gK lt xs) (n:Nat):gK lt (xs.take n):=by
 have:=List.take_append_drop n xs
 rw [← this] at h
 exact (gK.app.1 h).1
theorem Qd {xs:List α} (h:gK lt xs) (n:Nat):gK lt (xs.drop n):=by
 have:=List.take_append_drop n xs
 rw [← this] at h
 exact (gK.app.1 h).2.1
theorem afW (hw:Wk lt) {L R:List α} (hL:gK lt L) (hR:gK lt R) (s e:Nat) (hs:s≤L.length) (he:e≤R.length)
  (c1:∀ (h1:s < L.length) (h2:0 < e),lt (R[e - 1]'(by omega)) L[s]=true) (c2:∀ (h1:0 < s) (h2:e < R.length),lt R[e] (L[s - 1]'(by omega))=false) :
  (∀ u ∈ L.drop s,∀ v ∈ R.take e,lt v u=true)∧(∀ x ∈ L.take s,∀ y ∈ R.drop e,lt y x=false):=by
 constructor
 ·intro u hu v hv
  obtain ⟨i,hi,rfl⟩:=List.mem_iff_getElem.1 hu
  obtain ⟨j,hj,rfl⟩:=List.mem_iff_getElem.1 hv
  rw [List.length_drop] at hi
  rw [List.length_take] at hj
  rw [List.getElem_drop,List.getElem_take]
  have k:=c1 (by omega) (by omega)
  have a:=D7 hw hL (i:=s) (j:=s+i) (by omega) (by omega)
  have b:=D7 hw hR (i:=j) (j:=e - 1) (by omega) (by omega)
  by_cases hn:lt R[j] L[s+i]=true
  ·exact hn
  ·have hn':lt R[j] L[s+i]=false:=by simpa using hn
   have q1:=hw.neg L[s] L[s+i] R[j] a hn'
   have q2:=hw.neg L[s] R[j] (R[e - 1]'(by omega)) q1 b
   rw [q2] at k
   cases k
 ·intro x hx y hy
  obtain ⟨i,hi,rfl⟩:=List.mem_iff_getElem.1 hx
  obtain ⟨j,hj,rfl⟩:=List.mem_iff_getElem.1 hy
  rw [List.length_take] at hi
  rw [List.length_drop] at hj
  rw [List.getElem_drop,List.getElem_take]
  have k:=c2 (by omega) (by omega)
  have a:=D7 hw hL (i:=i) (j:=s - 1) (by omega) (by omega)
  have b:=D7 hw hR (i:=e) (j:=e+j) (by omega) (by omega)
  exact hw.neg L[i] R[e] R[e+j] (hw.neg L[i] (L[s - 1]'(by omega)) R[e] a k) b
end

theorem aft (a b:UInt8) (x y:List UInt8):Op.bytesLess (a :: x) (b :: y)=false ↔ b.toNat < a.toNat∨(a.toNat=b.toNat∧Op.bytesLess x y=false):=by
 simp only [Op.bytesLess]
 rcases Nat.lt_trichotomy a.toNat b.toNat with h|h|h
 ·have h1:a < b:=UInt8.lt_iff_toNat_lt.2 h
  simp [h1];omega
 ·have h1:a=b:=UInt8.toNat_inj.1 h
  subst h1
  have h2:¬ a < a:=fun c=>by have:=UInt8.lt_iff_toNat_lt.1 c;omega
  simp [h2]
 ·have h2:¬ a < b:=fun c=>by have:=UInt8.lt_iff_toNat_lt.1 c;omega
  have h3:¬ a=b:=fun c=>by subst c;omega
  simp [h2,h3];omega
theorem afu:∀ (a b c:List UInt8),Op.bytesLess b a=false→Op.bytesLess c b=false→Op.bytesLess c a=false:=by
 intro a
 induction a with
 | nil=>intro b c _ _;cases c <;> simp [Op.bytesLess]
 | cons x r ih =>
  intro b c h1 h2
  cases b with
  | nil=>simp [Op.bytesLess] at h1
  | cons y s =>
   cases c with
   | nil=>simp [Op.bytesLess] at h2
   | cons z t =>
    rw [aft] at h1 h2 ⊢
    rcases h1 with h1|⟨h1,k1⟩ <;> rcases h2 with h2|⟨h2,k2⟩
    ·left;omega
    ·left;omega
    ·left;omega
    ·right;exact ⟨by omega,ih s t k1 k2⟩

def fP (x y:aF):Bool:=Op.bytesLess x.f0.toList y.f0.toList
theorem tH:Wk fP:=⟨fun a=>X_ _,fun a b h=>by
 have e:=Ac a.f0.toList b.f0.toList
 unfold fP at h ⊢
 rw [h,Bool.true_or] at e
 simpa using e.symm,fun a b c h1 h2=>afu _ _ _ h1 h2⟩
def b_ {α:Type} (g:Nat→Option α) (Q:α→Prop):Prop:=∃ r,Ev g r∧Q r
section
variable {α β:Type}
theorem b_.now {a:α} {Q:α→Prop} (h:Q a):b_ (fun _=>some a) Q:=⟨a,dM rfl,h⟩
theorem b_.pos {c:Prop} [Decidable c] {f g:Nat→Option α} {Q:α→Prop} (h:c) (e:b_ f Q):b_ (fun k=>if c then f k else g k) Q:=by obtain ⟨r,e,q⟩:=e;exact ⟨r,aW h e,q⟩
theorem b_.neg {c:Prop} [Decidable c] {f g:Nat→Option α} {Q:α→Prop} (h:¬ c) (e:b_ g Q):b_ (fun k=>if c then f k else g k) Q:=by obtain ⟨r,e,q⟩:=e;exact ⟨r,dP h e,q⟩
theorem b_.bind {f:Nat→Option α} {g:α→Nat→Option β} {P:α→Prop} {Q:β→Prop} (h:b_ f P) (k:∀ r,P r→b_ (g r) Q):b_ (fun n=>(f n).bind fun r=>g r n) Q:=by
 obtain ⟨r,e,p⟩:=h
 obtain ⟨s,e2,q⟩:=k r p
 exact ⟨s,Ev.bind e e2,q⟩
theorem b_.step {g h:Nat→Option α} {Q:α→Prop} (e:∀ k,g (k+1)=h k) (w:b_ h Q):b_ g Q:=by obtain ⟨r,e2,q⟩:=w;exact ⟨r,Ev.step e e2,q⟩
theorem b_.imp {g:Nat→Option α} {P Q:α→Prop} (w:b_ g P) (h:∀ r,P r→Q r):b_ g Q:=by obtain ⟨r,e,q⟩:=w;exact ⟨r,e,h r q⟩
theorem b_.of {g:Nat→Option α} {r:α} {Q:α→Prop} (e:Ev g r) (h:Q r):b_ g Q:=⟨r,e,h⟩
end
theorem ML (U:List aF) (x:aF) (V:List aF) {i:Int} (h:i=(U.length:Int)):aB (U++x :: V) i=x:=by
 subst h
 unfold aB
 rw [Int.toNat_natCast,List.getD_eq_getElem?_getD,List.getElem?_append_right (Nat.le_refl _),Nat.sub_self]
 rfl
theorem set_mid (U:List aF) (x y:aF) (V:List aF) {i:Int} (h:i=(U.length:Int)):(U++x :: V).set i.toNat y=U++y :: V:=by
 subst h
 rw [Int.toNat_natCast,List.set_append_right _ _ (Nat.le_refl _),Nat.sub_self]
 rfl
theorem Qg (U:List aF) (x:aF) (C:List aF) (y:aF) (V:List aF) {i j:Int} (h:i=(U.length:Int)) (h2:j=((U.length+1+C.length:Nat):Int)) :
  ((U++x :: (C++y :: V)).set i.toNat y).set j.toNat x=U++y :: (C++x :: V)∧((U++x :: (C++y :: V)).set j.toNat x).set i.toNat y=U++y :: (C++x :: V):=by
 have e1:∀ z,U++z :: (C++y :: V)=(U++z :: C)++y :: V:=fun z=>by simp
 have e2:∀ z,(U++z :: C)++x :: V=U++z :: (C++x :: V):=fun z=>by simp
 have l:∀ z,j=((U++z :: C).length:Int):=fun z=>by rw [h2];simp;omega
 constructor
 ·rw [set_mid U x y _ h,e1,set_mid _ y x V (l y),e2]
 ·rw [e1,set_mid _ y x V (l x),e2,set_mid U x y _ h]
theorem P7 (U:List aF) (x:aF) (C:List aF) (y:aF) (V:List aF) {j:Int} (h2:j=((U.length+1+C.length:Nat):Int)):aB (U++x :: (C++y :: V)) j=y:=by
 have e1:U++x :: (C++y :: V)=(U++x :: C)++y :: V:=by simp
 rw [e1]
 exact ML _ y V (by rw [h2];simp;omega)
theorem afU (x y:aF):∃ c:Int,vg.f x.f0 x.f1 x.f2 y.f0 y.f1 y.f2=some c∧(c < 0 ↔ fP x y=true):=by
 unfold vg.f Hu.f cmp_isNaN_string.f fP
 have n:∀ z:List UInt8,(z != z)=false:=fun z=>by simp
 rw [n,n]
 simp only [Option.bind_some]
 rw [if_neg (by decide),if_neg (by decide)]
 by_cases h:Op.bytesLess x.f0.toList y.f0.toList=true
 ·rw [if_pos h];exact ⟨-1,rfl,by simp [h]⟩
 ·rw [if_neg h]
  by_cases h2:Op.bytesLess y.f0.toList x.f0.toList=true
  ·rw [if_pos h2];exact ⟨1,rfl,by simp [h]⟩
  ·rw [if_neg h2];exact ⟨0,rfl,by simp [h]⟩
theorem Om {γ:Type} {f g:Nat→Option γ} {Q:γ→Prop} (x y:aF) (h1:fP x y=true→b_ f Q) (h2:fP x y=false→b_ g Q) :
  b_ (fun k=>(vg.f x.f0 x.f1 x.f2 y.f0 y.f1 y.f2).bind fun t=>if t < 0 then f k else g k) Q:=by
 obtain ⟨c,e,h⟩:=afU x y
 rw [e]
 refine b_.bind (P:=fun r=>r=c) ⟨c,dM rfl,rfl⟩ (fun r hr=>?_)
 subst hr
 by_cases hc:r < 0
 ·exact b_.pos hc (h1 (h.1 hc))
 ·exact b_.neg hc (h2 (by cases hl:fP x y with|false=>rfl|true=>exact absurd (h.2 hl) hc))
theorem Oy (i j:Nat) (hi:i≤1000000000) (hj:j≤1000000000):wrap64 ((IntKind.u64.wrap (wrap64 ((i:Int)+(j:Int)))) / 2)=(((i+j) / 2:Nat):Int):=by
 rw [oW (x:=(i:Int)+j) (by omega) (by omega)]
 have:IntKind.u64.wrap ((i:Int)+j)=(i:Int)+j:=by
  unfold IntKind.wrap
  simp [IntKind.bits,IntKind.signed]
  omega
 rw [this,oW (by omega) (by omega)]
 omega
theorem rD {x:Int} (n:Nat) (h:x=(n:Int)) (hn:n≤9000000000000000000):wrap64 x=(n:Int):=by rw [h];exact oW (by omega) (by omega)
/-! insertion -/
theorem abj (A B:List aF) (x:aF) (b i:Nat) (hb:b≤1000000000) (hi:i≤1000000000) (Q:List aF→Prop):∀ (m:Nat) (P R:List aF),P.length=m→A.length+P.length+R.length≤1000000000→gK fP (P++R)→(∀ y ∈ R,fP x y=true) →
  (∀ M',gK fP M'→gW fP M' (P++R++[x])→b_ (fun k=>kU.l0 k (A++M'++B) A.length b ((i+1:Nat):Int)) Q) →
  b_ (fun k=>kU.l1 k (A++(P++x :: R)++B) A.length b i ((A.length+P.length:Nat):Int)) Q
 | m,P,R,hm,hl,hs,hr,hk=>by
  refine b_.step (kU.l1.eq_2 _ _ _ _ _) ?_
  have fin:(∀ y ∈ P,fP x y=false)→b_ (fun k=>kU.l0 k (A++(P++x :: R)++B) A.length b (wrap64 ((i:Int)+1))) Q:=fun h=>by
   obtain ⟨s1,s2⟩:=VQ tH hs h hr
   rw [kP i (by omega)]
   exact hk _ s1 s2
  rcases List.eq_nil_or_concat P with rfl|⟨P',y,rfl⟩
  ·exact b_.neg (by simp) (fin (fun y hy=>by cases hy))
  ·rw [List.concat_eq_append] at *
   have lp:(P'++[y]).length=P'.length+1:=by simp
   rw [lp] at hm hl
   refine b_.pos (by rw [lp];omega) (b_.pos (by omega) (b_.pos (by simp;omega) ?_))
   rw [rD (x:=((A.length+(P'++[y]).length:Nat):Int) - 1) (A.length+P'.length) (by rw [lp];omega) (by omega)]
   refine b_.pos (by omega) (b_.pos (by simp;omega) ?_)
   have e:A++(P'++[y]++x :: R)++B=(A++P')++y :: ([]++x :: (R++B)):=by simp
   rw [e]
   have r1:aB ((A++P')++y :: ([]++x :: (R++B))) ((A.length+(P'++[y]).length:Nat):Int)=x:=P7 _ _ _ _ _ (by simp;omega)
   have r2:aB ((A++P')++y :: ([]++x :: (R++B))) ((A.length+P'.length:Nat):Int)=y:=ML _ _ _ (by simp)
   rw [r1,r2]
   refine Om x y (fun h=>?_) (fun h=>?_)
   ·rw [(Qg (A++P') y [] x (R++B) (i:=((A.length+P'.length:Nat):Int)) (j:=((A.length+(P'++[y]).length:Nat):Int)) (by simp) (by simp;omega)).2]
    have e2:A++P'++x :: ([]++y :: (R++B))=A++(P'++x :: (y :: R))++B:=by simp
    rw [e2]
    exact abj A B x b i hb hi Q P'.length P' (y :: R) rfl (by simp;omega) (by simpa using hs) (fun z hz=>by
     rcases List.mem_cons.1 hz with rfl|hz
     ·exact h
     ·exact hr z hz) (fun M' h1 h2=>hk M' h1 (by simpa using h2))
   ·rw [← e]
    refine fin (fun z hz=>?_)
    rcases List.mem_append.1 hz with hz|hz
    ·have:=(gK.app.1 (gK.app.1 hs).1).2.2 z hz y (by simp)
     exact tH.neg z y x this h
    ·rw [List.mem_singleton] at hz;rw [hz];exact h
 termination_by m=>m
theorem abh (A B:List aF):∀ (m:Nat) (D E:List aF),E.length=m→A.length+D.length+E.length≤1000000000→gK fP D →
  b_ (fun k=>kU.l0 k (A++(D++E)++B) A.length ((A.length+D.length+E.length:Nat):Int) ((A.length+D.length:Nat):Int)) (fun r=>∃ M',r=A++M'++B∧gK fP M'∧gW fP M' (D++E))
 | m,D,[],hm,hl,hs=>by
  refine b_.step (kU.l0.eq_2 _ _ _ _) ?_
  exact b_.neg (by simp) (b_.now ⟨D,by simp,hs,by rw [List.append_nil];exact gW.refl _⟩)
 | m,D,x :: E,hm,hl,hs=>by
  refine b_.step (kU.l0.eq_2 _ _ _ _) ?_
  have lx:(x :: E).length=E.length+1:=by simp
  rw [lx] at hl hm ⊢
  refine b_.pos (by omega) ?_
  have e:A++(D++x :: E)++B=A++(D++x :: [])++(E++B):=by simp
  rw [e]
  refine abj A (E++B) x (A.length+D.length+(E.length+1)) (A.length+D.length) (by omega) (by omega) _ D.length D [] rfl (by simp;omega) (by simpa using hs) (fun y hy=>by cases hy) (fun M' h1 h2=>?_)
  have ln:=gW.len tH _ M' (D++[]++[x]) rfl h2
  have FV:(D++[]++[x]).length=D.length+1:=by simp
  rw [FV] at ln
  have ih:=abh A B E.length M' E rfl (by omega) h1
  rw [show A.length+D.length+1=A.length+M'.length by omega,show A.length+D.length+(E.length+1)=A.length+M'.length+E.length by omega,show A++M'++(E++B)=A++(M'++E)++B by simp]
  refine ih.imp (fun r hr=>?_)
  obtain ⟨M2,e2,s2,t2⟩:=hr
  refine ⟨M2,e2,s2,t2.trans ?_⟩
  have:=h2.app (gW.refl (lt:=fP) E)
  simpa using this
 termination_by m=>m
theorem abk (A M B:List aF) (hl:A.length+M.length≤1000000000) {a b:Int} (ha:a=(A.length:Int)) (hb:b=((A.length+M.length:Nat):Int)) :
  b_ (fun k=>kU.f k (A++M++B) a b ()) (fun r=>∃ M',r=A++M'++B∧gK fP M'∧gW fP M' M):=by
 subst ha hb
 unfold kU.f
 rw [kP A.length (by omega)]
 cases M with
 | nil =>
  refine b_.step (kU.l0.eq_2 _ _ _ _) ?_
  exact b_.neg (by simp;omega) (b_.now ⟨[],rfl,List.Pairwise.nil,gW.refl _⟩)
 | cons x E =>
  have:=abh A B E.length [x] E rfl (by simp at hl ⊢;omega) (by simp [gK])
  have e1:A.length+(x :: E).length=A.length+[x].length+E.length:=by simp;omega
  rw [e1]
  exact this

/-! two pieces change places -/
theorem acP (A C D:List aF) (n:Nat) (hl:A.length+C.length+D.length+2 * n≤1000000000):∀ (m:Nat) (V1 wM vZ V2:List aF),wM.length=m→V2.length=m→vZ.length=V1.length→V1.length+m=n →
  b_ (fun k=>ru.l0 k (A++(V1++wM)++C++(vZ++V2)++D) (A.length:Int) ((A.length+n+C.length:Nat):Int) n (V1.length:Int)) (fun r=>r=A++(V1++V2)++C++(vZ++wM)++D)
 | m,V1,[],vZ,[],h1,h2,h3,h4=>by
  refine b_.step (ru.l0.eq_2 _ _ _ _ _) ?_
  simp at h1
  exact b_.neg (by omega) (b_.now rfl)
 | m,V1,[],vZ,v :: V2,h1,h2,h3,h4=>by simp at h1 h2;omega
 | m,V1,u :: wM,vZ,[],h1,h2,h3,h4=>by simp at h1 h2;omega
 | m,V1,u :: wM,vZ,v :: V2,h1,h2,h3,h4=>by
  refine b_.step (ru.l0.eq_2 _ _ _ _ _) ?_
  rw [List.length_cons] at h1 h2
  have l1:(V1++u :: wM).length=n:=by simp;omega
  have l2:(vZ++v :: V2).length=n:=by simp;omega
  rw [rD (x:=((A.length+n+C.length:Nat):Int)+(V1.length:Int)) (A.length+n+C.length+V1.length) (by omega) (by omega),rD (x:=(A.length:Int)+(V1.length:Int)) (A.length+V1.length) (by omega) (by omega),kP V1.length (by omega)]
  have lt:(A++(V1++u :: wM)++C++(vZ++v :: V2)++D).length=A.length+n+C.length+n+D.length:=by simp only [List.length_append,l1,l2]
  refine b_.pos (by omega) (b_.pos (by omega) (b_.pos (by rw [lt];omega) (b_.pos (by omega) (b_.pos (by rw [lt];omega) ?_))))
  have e:A++(V1++u :: wM)++C++(vZ++v :: V2)++D=(A++V1)++u :: ((wM++C++vZ)++v :: (V2++D)):=by simp
  have q2:((A.length+n+C.length+V1.length:Nat):Int)=(((A++V1).length+1+(wM++C++vZ).length:Nat):Int):=by simp;omega
  have q1:((A.length+V1.length:Nat):Int)=((A++V1).length:Int):=by simp
  rw [e,P7 _ _ _ _ _ q2,ML _ _ _ q1,(Qg (A++V1) u (wM++C++vZ) v (V2++D) q1 q2).1]
  have e2:(A++V1)++v :: ((wM++C++vZ)++u :: (V2++D))=A++((V1++[v])++wM)++C++((vZ++[u])++V2)++D:=by simp
  rw [e2]
  have ih:=acP A C D n hl wM.length (V1++[v]) wM (vZ++[u]) V2 rfl (by omega) (by simp [h3]) (by simp;omega)
  rw [show (V1++[v]).length=V1.length+1 by simp] at ih
  exact ih.imp (fun r hr=>by rw [hr];simp)
 termination_by m=>m
theorem WE (A U C V D:List aF) (n:Nat) (hu:U.length=n) (hv:V.length=n) (hl:A.length+C.length+D.length+2 * n≤1000000000) {a b c:Int} (ha:a=(A.length:Int)) (hb:b=((A.length+n+C.length:Nat):Int)) (hc:c=(n:Int)) :
  b_ (fun k=>ru.f k (A++U++C++V++D) a b c ()) (fun r=>r=A++V++C++U++D):=by
 subst ha hb hc
 unfold ru.f
 have:=acP A C D n hl n [] U [] V hu hv rfl (by simp)
 simpa using this
theorem anA (n:Nat):∀ (A U V D:List aF),U.length+V.length=n→0 < U.length→0 < V.length→A.length+U.length+V.length+D.length≤400000000 →
  b_ (fun k=>wJ.l0 k (A++(U++V)++D) ((A.length+U.length:Nat):Int) () (U.length:Int) (V.length:Int)) (fun r=>r=A++(V++U)++D):=by
 induction n using Nat.strongRecOn with
 | _ n ih =>
  intro A U V D hn hu hv hl
  refine b_.step (wJ.l0.eq_2 _ _ _ _ _) ?_
  rw [rD (x:=((A.length+U.length:Nat):Int) - (U.length:Int)) A.length (by omega) (by omega)]
  by_cases h:U.length=V.length
  ·refine b_.pos (by omega) (b_.bind (P:=fun r=>r=A++(V++U)++D) ?_ (fun r hr=>b_.now hr))
   have:=WE A U [] V D U.length rfl h.symm (by simp;omega) (a:=(A.length:Int)) (b:=((A.length+U.length:Nat):Int)) (c:=(U.length:Int)) rfl (by simp) rfl
   simpa using this
  ·refine b_.neg (by omega) ?_
   by_cases h2:V.length < U.length
   ·refine b_.pos (by omega) (b_.bind (P:=fun r=>r=A++V++U.drop V.length++U.take V.length++D) ?_ (fun r hr=>?_))
    ·have:=WE A (U.take V.length) (U.drop V.length) V D V.length (by simp;omega) rfl (by simp;omega) (a:=(A.length:Int)) (b:=((A.length+U.length:Nat):Int)) (c:=(V.length:Int)) rfl (by simp;omega) rfl
     have e:A++(U++V)++D=A++U.take V.length++U.drop V.length++V++D:=by
      rw [List.append_assoc A (U.take _),List.take_append_drop];simp
     rw [e]
     exact this
    ·subst hr
     rw [rD (x:=(U.length:Int) - (V.length:Int)) (U.length - V.length) (by omega) (by omega)]
     have:=ih U.length (by omega) (A++V) (U.drop V.length) (U.take V.length) D (by simp;omega) (by simp;omega) (by simp;omega) (by simp;omega)
     rw [List.length_drop,List.length_take,Nat.min_eq_left (by omega),show (A++V).length+(U.length - V.length)=A.length+U.length by simp;omega] at this
     have e:A++V++U.drop V.length++U.take V.length++D=A++V++(U.drop V.length++U.take V.length)++D:=by simp
     rw [e]
     refine this.imp (fun r hr=>?_)
     rw [hr,List.take_append_drop];simp
   ·refine b_.neg (by omega) (b_.bind (P:=fun r=>r=A++V.drop (V.length - U.length)++V.take (V.length - U.length)++U++D) ?_ (fun r hr=>?_))
    ·rw [rD (x:=((A.length+U.length:Nat):Int)+(V.length:Int)) (A.length+U.length+V.length) (by omega) (by omega),rD (x:=((A.length+U.length+V.length:Nat):Int) - (U.length:Int)) (A.length+V.length) (by omega) (by omega)]
     have:=WE A U (V.take (V.length - U.length)) (V.drop (V.length - U.length)) D U.length rfl (by simp;omega) (by simp;omega) (a:=(A.length:Int)) (b:=((A.length+V.length:Nat):Int)) (c:=(U.length:Int)) rfl (by simp;omega) rfl
     have e:A++(U++V)++D=A++U++V.take (V.length - U.length)++V.drop (V.length - U.length)++D:=by
      rw [List.append_assoc (A++U) (V.take _),List.take_append_drop];simp
     rw [e]
     exact this
    ·subst hr
     rw [rD (x:=(V.length:Int) - (U.length:Int)) (V.length - U.length) (by omega) (by omega)]
     have:=ih V.length (by omega) A (V.drop (V.length - U.length)) (V.take (V.length - U.length)) (U++D) (by simp <;> omega) (by simp;omega) (by simp;omega) (by simp;omega)
     rw [List.length_drop,List.length_take,Nat.min_eq_left (by omega),show V.length - (V.length - U.length)=U.length by omega] at this
     have e:A++V.drop (V.length - U.length)++V.take (V.length - U.length)++U++D=A++(V.drop (V.length - U.length)++V.take (V.length - U.length))++(U++D):=by simp
     rw [e]
     refine this.imp (fun r hr=>?_)
     rw [hr,List.take_append_drop];simp
theorem anB (A U V D:List aF) (hu:0 < U.length) (hv:0 < V.length) (hl:A.length+U.length+V.length+D.length≤400000000) {a m b:Int} (ha:a=(A.length:Int)) (hm:m=((A.length+U.length:Nat):Int)) (hb:b=((A.length+U.length+V.length:Nat):Int)) :
  b_ (fun k=>wJ.f k (A++(U++V)++D) a m b ()) (fun r=>r=A++(V++U)++D):=by
 subst ha hm hb
 unfold wJ.f
 rw [rD (x:=((A.length+U.length:Nat):Int) - (A.length:Int)) U.length (by omega) (by omega),rD (x:=((A.length+U.length+V.length:Nat):Int) - ((A.length+U.length:Nat):Int)) V.length (by omega) (by omega)]
 exact anA _ A U V D rfl hu hv hl

theorem anj (X:List aF) (i:Nat) (h:i < X.length) {j:Int} (hj:j=(i:Int)):aB X j=X[i]:=by
 subst hj
 unfold aB
 rw [Int.toNat_natCast,List.getD_eq_getElem?_getD,List.getElem?_eq_getElem h]
 rfl
theorem Wy (X:List aF) (a lo hi:Nat) (ha:a < X.length) (hh:hi≤X.length) (hx:X.length≤400000000) (Q:List aF→Prop)
  (hk:∀ i:Nat,lo≤i→i≤hi→(lo < i→fP (aB X ((i - 1:Nat):Int)) (aB X (a:Int))=true)→(i < hi→fP (aB X (i:Int)) (aB X (a:Int))=false)→b_ (fun k=>dS.l1 k X i a) Q) :
  ∀ (m i j:Nat),j - i=m→lo≤i→i≤j→j≤hi→(lo < i→fP (aB X ((i - 1:Nat):Int)) (aB X (a:Int))=true)→(j < hi→fP (aB X (j:Int)) (aB X (a:Int))=false)→b_ (fun k=>dS.l0 k X a i j) Q
 | m,i,j,hm,h1,h2,h3,h4,h5=>by
  refine b_.step (dS.l0.eq_2 _ _ _ _) ?_
  by_cases h:i < j
  ·rw [Oy i j (by omega) (by omega)]
   refine b_.pos (by omega) (b_.pos (by omega) (b_.pos (by omega) (b_.pos (by omega) (b_.pos (by omega) ?_))))
   refine Om _ _ (fun hc=>?_) (fun hc=>?_)
   ·rw [kP _ (by omega)]
    exact Wy X a lo hi ha hh hx Q hk (j - ((i+j) / 2+1)) _ j rfl (by omega) (by omega) h3 (fun _=>hc) h5
   ·exact Wy X a lo hi ha hh hx Q hk ((i+j) / 2 - i) i _ rfl h1 (by omega) (by omega) h4 (fun _=>hc)
  ·have:i=j:=by omega
   subst this
   exact b_.neg (by omega) (hk i h1 h3 h4 h5)
 termination_by m=>m
 decreasing_by all_goals omega
theorem WA (X:List aF) (a lo hi:Nat) (ha:a < X.length) (hh:hi≤X.length) (hx:X.length≤400000000) (Q:List aF→Prop)
  (hk:∀ i:Nat,lo≤i→i≤hi→(lo < i→fP (aB X (a:Int)) (aB X ((i - 1:Nat):Int))=false)→(i < hi→fP (aB X (a:Int)) (aB X (i:Int))=true)→b_ (fun k=>dS.l3 k X i a) Q) :
  ∀ (m i j:Nat),j - i=m→lo≤i→i≤j→j≤hi→(lo < i→fP (aB X (a:Int)) (aB X ((i - 1:Nat):Int))=false)→(j < hi→fP (aB X (a:Int)) (aB X (j:Int))=true)→b_ (fun k=>dS.l2 k X a i j) Q
 | m,i,j,hm,h1,h2,h3,h4,h5=>by
  refine b_.step (dS.l2.eq_2 _ _ _ _) ?_
  by_cases h:i < j
  ·rw [Oy i j (by omega) (by omega)]
   refine b_.pos (by omega) (b_.pos (by omega) (b_.pos (by omega) (b_.pos (by omega) (b_.pos (by omega) ?_))))
   refine Om _ _ (fun hc=>?_) (fun hc=>?_)
   ·exact WA X a lo hi ha hh hx Q hk ((i+j) / 2 - i) i _ rfl h1 (by omega) (by omega) h4 (fun _=>hc)
   ·rw [kP _ (by omega)]
    exact WA X a lo hi ha hh hx Q hk (j - ((i+j) / 2+1)) _ j rfl (by omega) (by omega) h3 (fun _=>hc) h5
  ·have:i=j:=by omega
   subst this
   exact b_.neg (by omega) (hk i h1 h3 h4 h5)
 termination_by m=>m
 decreasing_by all_goals omega
theorem acH (A B:List aF) (x:aF):∀ (P2 P1:List aF) (i kk:Int),A.length+P1.length+P2.length+B.length+1≤400000000→i=((A.length+P1.length+P2.length+1:Nat):Int)→kk=((A.length+P1.length:Nat):Int) →
  b_ (fun k=>dS.l1 k (A++(P1++x :: P2)++B) i kk) (fun r=>r=A++(P1++P2++[x])++B)
 | [],P1,i,kk,hl,hi,hk=>by
  refine b_.step (dS.l1.eq_2 _ _ _) ?_
  subst hi hk
  rw [List.length_nil]
  rw [rD (x:=((A.length+P1.length+0+1:Nat):Int) - 1) (A.length+P1.length) (by omega) (by simp at hl;omega)]
  exact b_.neg (by omega) (b_.now (by simp))
 | y :: P2,P1,i,kk,hl,hi,hk=>by
  refine b_.step (dS.l1.eq_2 _ _ _) ?_
  subst hi hk
  rw [List.length_cons] at hl ⊢
  rw [rD (x:=((A.length+P1.length+(P2.length+1)+1:Nat):Int) - 1) (A.length+P1.length+(P2.length+1)) (by omega) (by omega),kP _ (by omega)]
  have lt:(A++(P1++x :: y :: P2)++B).length=A.length+P1.length+P2.length+2+B.length:=by simp;omega
  refine b_.pos (by omega) (b_.pos (by omega) (b_.pos (by rw [lt];omega) (b_.pos (by omega) (b_.pos (by rw [lt];omega) ?_))))
  have e:A++(P1++x :: y :: P2)++B=(A++P1)++x :: ([]++y :: (P2++B)):=by simp
  have q1:((A.length+P1.length:Nat):Int)=((A++P1).length:Int):=by simp
  have q2:((A.length+P1.length+1:Nat):Int)=(((A++P1).length+1+([]:List aF).length:Nat):Int):=by simp
  rw [e,P7 _ _ _ _ _ q2,ML _ _ _ q1,(Qg (A++P1) x [] y (P2++B) q1 q2).1]
  have e2:(A++P1)++y :: ([]++x :: (P2++B))=A++((P1++[y])++x :: P2)++B:=by simp
  rw [e2]
  exact (acH A B x P2 (P1++[y]) _ _ (by simp;omega) (by simp;omega) (by simp;omega)).imp (fun r hr=>by rw [hr];simp)
theorem anL (A B:List aF) (x:aF) (n:Nat):∀ (P1 P2:List aF) (i kk:Int),P1.length=n→A.length+P1.length+P2.length+B.length+1≤400000000→i=(A.length:Int)→kk=((A.length+P1.length:Nat):Int) →
  b_ (fun k=>dS.l3 k (A++(P1++x :: P2)++B) i kk) (fun r=>r=A++(x :: (P1++P2))++B):=by
 induction n with
 | zero =>
  intro P1 P2 i kk hn hl hi hk
  refine b_.step (dS.l3.eq_2 _ _ _) ?_
  subst hi hk
  have:P1=[]:=List.length_eq_zero_iff.1 hn
  subst this
  exact b_.neg (by simp) (b_.now (by simp))
 | succ n ih =>
  intro P1 P2 i kk hn hl hi hk
  refine b_.step (dS.l3.eq_2 _ _ _) ?_
  subst hi hk
  rcases List.eq_nil_or_concat P1 with rfl|⟨P,y,rfl⟩
  ·simp at hn
  ·rw [List.concat_eq_append] at *
   have lp:(P++[y]).length=P.length+1:=by simp
   rw [lp] at hn hl ⊢
   rw [rD (x:=((A.length+(P.length+1):Nat):Int) - 1) (A.length+P.length) (by omega) (by omega)]
   have lt:(A++(P++[y]++x :: P2)++B).length=A.length+P.length+P2.length+2+B.length:=by simp;omega
   refine b_.pos (by omega) (b_.pos (by omega) (b_.pos (by rw [lt];omega) (b_.pos (by omega) (b_.pos (by rw [lt];omega) ?_))))
   have e:A++(P++[y]++x :: P2)++B=(A++P)++y :: ([]++x :: (P2++B)):=by simp
   have q1:((A.length+P.length:Nat):Int)=((A++P).length:Int):=by simp
   have q2:((A.length+(P.length+1):Nat):Int)=(((A++P).length+1+([]:List aF).length:Nat):Int):=by simp;omega
   rw [e,P7 _ _ _ _ _ q2,ML _ _ _ q1,(Qg (A++P) y [] x (P2++B) q1 q2).2]
   have e2:(A++P)++x :: ([]++y :: (P2++B))=A++(P++x :: (y :: P2))++B:=by simp
   rw [e2]
   exact (ih P (y :: P2) _ _ (by omega) (by simp;omega) rfl rfl).imp (fun r hr=>by rw [hr];simp)

theorem WB (X:List aF) (x1 x2 x3 x18:Int) (n p lo hi:Nat) (hx:X.length≤400000000) (hp:p < X.length+lo) (hp2:p≤1000000000) (hh:hi≤X.length) (hhi:hi≤p+1) (Q:List aF→Prop)
  (hk:∀ i:Nat,lo≤i→i≤hi→(lo < i→fP (aB X ((p - (i - 1):Nat):Int)) (aB X ((i - 1:Nat):Int))=false)→(i < hi→fP (aB X ((p - i:Nat):Int)) (aB X (i:Int))=true) →
   b_ (fun k=>if (i:Int) < x2 then dS.j6 k X x1 x2 x3 () x18 i (wrap64 ((n:Int) - i)) (decide (x2 < wrap64 ((n:Int) - i))) else dS.j6 k X x1 x2 x3 () x18 i (wrap64 ((n:Int) - i)) false) Q) :
  ∀ (m i j:Nat),j - i=m→lo≤i→i≤j→j≤hi→(lo < i→fP (aB X ((p - (i - 1):Nat):Int)) (aB X ((i - 1:Nat):Int))=false)→(j < hi→fP (aB X ((p - j:Nat):Int)) (aB X (j:Int))=true) →
   b_ (fun k=>dS.l4 k X x1 x2 x3 () x18 n i j p) Q
 | m,i,j,hm,h1,h2,h3,h4,h5=>by
  refine b_.step (dS.l4.eq_2 _ _ _ _ _ _ _ _ _ _) ?_
  by_cases h:i < j
  ·rw [Oy i j (by omega) (by omega),rD (x:=(p:Int) - (((i+j) / 2:Nat):Int)) (p - (i+j) / 2) (by omega) (by omega)]
   refine b_.pos (by omega) (b_.pos (by omega) (b_.pos (by omega) (b_.pos (by omega) (b_.pos (by omega) ?_))))
   refine Om _ _ (fun hc=>?_) (fun hc=>?_)
   ·exact WB X x1 x2 x3 x18 n p lo hi hx hp hp2 hh hhi Q hk ((i+j) / 2 - i) i _ rfl h1 (by omega) (by omega) h4 (fun _=>hc)
   ·rw [kP _ (by omega)]
    exact WB X x1 x2 x3 x18 n p lo hi hx hp hp2 hh hhi Q hk (j - ((i+j) / 2+1)) _ j rfl (by omega) (by omega) h3 (fun _=>hc) h5
  ·have:i=j:=by omega
   subst this
   exact b_.neg (by omega) (hk i h1 h3 h4 h5)
 termination_by m=>m
 decreasing_by all_goals omega
theorem JK (A M B:List aF) (i:Nat) (h:i < M.length) {j:Int} (hj:j=((A.length+i:Nat):Int)):aB (A++M++B) j=M[i]:=by
 rw [anj _ (A.length+i) (by simp <;> omega) hj]
 rw [List.getElem_append_left (by simp <;> omega),List.getElem_append_right (by omega)]
 congr 1
 omega
theorem anN (A:List aF) (x:aF) (R B:List aF) (hl:A.length+1+R.length+B.length≤400000000) (hR:gK fP R) :
  b_ (fun k=>dS.l0 k (A++(x :: R)++B) (A.length:Int) ((A.length+1:Nat):Int) ((A.length+1+R.length:Nat):Int)) (fun r=>∃ M',r=A++M'++B∧gK fP M'∧gW fP M' (x :: R)):=by
 refine Wy (A++(x :: R)++B) A.length (A.length+1) (A.length+1+R.length) (by simp <;> omega) (by simp <;> omega) (by simp <;> omega) _ (fun i h1 h2 h3 h4=>?_) _ (A.length+1) _ rfl (by omega) (by omega) (by omega) (fun h=>by omega) (fun h=>by omega)
 obtain ⟨s,rfl⟩:∃ s,i=A.length+1+s:=⟨i - (A.length+1),by omega⟩
 have hx:aB (A++(x :: R)++B) (A.length:Int)=x:=JK A (x :: R) B 0 (by simp) (by simp)
 rw [hx] at h3 h4
 have hr:∀ q (h:q < R.length),aB (A++(x :: R)++B) ((A.length+1+q:Nat):Int)=R[q]:=fun q h=>by
  rw [JK A (x :: R) B (q+1) (by simp <;> omega) (by omega)];rfl
 have hP:∀ y ∈ R.take s,fP y x=true:=fun y hy=>by
  obtain ⟨q,hq,rfl⟩:=List.mem_iff_getElem.1 hy
  rw [List.length_take] at hq
  rw [List.getElem_take]
  have k:=h3 (by omega)
  rw [show A.length+1+s - 1=A.length+1+(s - 1) by omega,hr (s - 1) (by omega)] at k
  have l:=D7 tH hR (i:=q) (j:=s - 1) (by omega) (by omega)
  by_cases hn:fP R[q] x=true
  ·exact hn
  ·have:=tH.neg x R[q] (R[s - 1]'(by omega)) (by simpa using hn) l
   rw [this] at k;cases k
 have hQ:∀ y ∈ R.drop s,fP y x=false:=fun y hy=>by
  obtain ⟨q,hq,rfl⟩:=List.mem_iff_getElem.1 hy
  rw [List.length_drop] at hq
  rw [List.getElem_drop]
  have k:=h4 (by omega)
  rw [hr s (by omega)] at k
  exact tH.neg x (R[s]'(by omega)) _ k (D7 tH hR (i:=s) (j:=s+q) (by omega) (by omega))
 have hs:gK fP (R.take s++R.drop s):=by rw [List.take_append_drop];exact hR
 obtain ⟨z1,z2⟩:=amb tH hs hP hQ
 rw [List.take_append_drop] at z2
 have e:A++(x :: R)++B=A++([]++x :: R.take s)++(R.drop s++B):=by
  have:=List.take_append_drop s R
  simp only [List.nil_append,List.append_assoc,List.cons_append,List.append_cancel_left_eq,List.cons.injEq,true_and]
  rw [← List.append_assoc,this]
 rw [e]
 refine (acH A (R.drop s++B) x (R.take s) [] _ _ (by simp <;> omega) (by simp <;> omega) (by simp)).imp (fun r hr=>⟨R.take s++x :: R.drop s,by rw [hr];simp,z1,z2⟩)
theorem anM (A L:List aF) (x:aF) (B:List aF) (hl:A.length+1+L.length+B.length≤400000000) (hL:gK fP L) :
  b_ (fun k=>dS.l2 k (A++(L++[x])++B) ((A.length+L.length:Nat):Int) (A.length:Int) ((A.length+L.length:Nat):Int)) (fun r=>∃ M',r=A++M'++B∧gK fP M'∧gW fP M' (L++[x])):=by
 refine WA (A++(L++[x])++B) (A.length+L.length) A.length (A.length+L.length) (by simp <;> omega) (by simp <;> omega) (by simp <;> omega) _ (fun i h1 h2 h3 h4=>?_) _ A.length _ rfl (by omega) (by omega) (by omega) (fun h=>by omega) (fun h=>by omega)
 obtain ⟨s,rfl⟩:∃ s,i=A.length+s:=⟨i - A.length,by omega⟩
 have hx:aB (A++(L++[x])++B) ((A.length+L.length:Nat):Int)=x:=by
  rw [JK A (L++[x]) B L.length (by simp) rfl];simp
 rw [hx] at h3 h4
 have hr:∀ q (h:q < L.length),aB (A++(L++[x])++B) ((A.length+q:Nat):Int)=L[q]:=fun q h=>by
  rw [JK A (L++[x]) B q (by simp <;> omega) rfl,List.getElem_append_left h]
 have hP:∀ y ∈ L.take s,fP x y=false:=fun y hy=>by
  obtain ⟨q,hq,rfl⟩:=List.mem_iff_getElem.1 hy
  rw [List.length_take] at hq
  rw [List.getElem_take]
  have k:=h3 (by omega)
  rw [show A.length+s - 1=A.length+(s - 1) by omega,hr (s - 1) (by omega)] at k
  exact tH.neg _ (L[s - 1]'(by omega)) x (D7 tH hL (i:=q) (j:=s - 1) (by omega) (by omega)) k
 have hQ:∀ y ∈ L.drop s,fP x y=true:=fun y hy=>by
  obtain ⟨q,hq,rfl⟩:=List.mem_iff_getElem.1 hy
  rw [List.length_drop] at hq
  rw [List.getElem_drop]
  have k:=h4 (by omega)
  rw [hr s (by omega)] at k
  have l:=D7 tH hL (i:=s) (j:=s+q) (by omega) (by omega)
  by_cases hn:fP x (L[s+q]'(by omega))=true
  ·exact hn
  ·have:=tH.neg (L[s]'(by omega)) (L[s+q]'(by omega)) x l (by simpa using hn)
   rw [this] at k;cases k
 have hs:gK fP (L.take s++L.drop s):=by rw [List.take_append_drop];exact hL
 obtain ⟨z1,z2⟩:=VQ tH hs hP hQ
 rw [List.take_append_drop] at z2
 have e:A++(L++[x])++B=(A++L.take s)++(L.drop s++x :: [])++B:=by
  have:=List.take_append_drop s L
  simp only [List.append_assoc,List.append_cancel_left_eq]
  rw [← List.append_assoc (L.take s),this]
 rw [e]
 refine (anL (A++L.take s) B x _ (L.drop s) [] _ _ rfl (by simp <;> omega) (by simp <;> omega) (by simp <;> omega)).imp (fun r hr=>⟨L.take s++x :: L.drop s,by rw [hr];simp,z1,z2⟩)

theorem acI (n:Nat):∀ (A L R B:List aF),L.length+R.length=n→0 < L.length→0 < R.length→A.length+L.length+R.length+B.length≤100000000→gK fP L→gK fP R →
  b_ (fun k=>dS.f k (A++(L++R)++B) (A.length:Int) ((A.length+L.length:Nat):Int) ((A.length+L.length+R.length:Nat):Int) ()) (fun r=>∃ M',r=A++M'++B∧gK fP M'∧gW fP M' (L++R)):=by
 induction n using Nat.strongRecOn with
 | _ n ih =>
  intro A L R B hn hL hR hl sL sR
  refine b_.step (dS.f.eq_2 _ _ _ _ _) ?_
  rw [rD (x:=((A.length+L.length:Nat):Int) - (A.length:Int)) L.length (by omega) (by omega),rD (x:=((A.length+L.length+R.length:Nat):Int) - ((A.length+L.length:Nat):Int)) R.length (by omega) (by omega)]
  by_cases c1:L.length=1
  ·refine b_.pos (by omega) ?_
   obtain ⟨x,rfl⟩:=List.length_eq_one_iff.1 c1
   exact anN A x R B (by simp at hl;omega) sR
  refine b_.neg (by omega) ?_
  by_cases c2:R.length=1
  ·refine b_.pos (by omega) ?_
   obtain ⟨x,rfl⟩:=List.length_eq_one_iff.1 c2
   exact anM A L x B (by simp at hl;omega) sL
  refine b_.neg (by omega) ?_
  obtain ⟨md,hmd⟩:∃ md:Nat,(A.length+(A.length+L.length+R.length)) / 2=md:=⟨_,rfl⟩
  have e0:wrap64 ((IntKind.u64.wrap (wrap64 ((A.length:Int)+((A.length+L.length+R.length:Nat):Int)))) / 2)=(md:Int):=by rw [Oy _ _ (by omega) (by omega),hmd]
  rw [e0,rD (x:=(md:Int)+((A.length+L.length:Nat):Int)) (md+(A.length+L.length)) (by omega) (by omega)]
  -- what is done behind the search
  have rest:∀ (lo hi:Nat),A.length≤lo→hi≤A.length+L.length→hi≤md→lo≤hi→md≤lo+R.length→(hi=md∨hi=A.length+L.length)→(lo=A.length∨md=lo+R.length) →
    b_ (fun k=>dS.l4 k (A++(L++R)++B) (A.length:Int) ((A.length+L.length:Nat):Int) ((A.length+L.length+R.length:Nat):Int) () (md:Int) ((md+(A.length+L.length):Nat):Int) (lo:Int) (hi:Int) (wrap64 (((md+(A.length+L.length):Nat):Int) - 1)))
     (fun r=>∃ M',r=A++M'++B∧gK fP M'∧gW fP M' (L++R)):=by
   intro lo hi g1 g2 g3 g4 g5 g6 g7
   rw [rD (x:=((md+(A.length+L.length):Nat):Int) - 1) (md+(A.length+L.length) - 1) (by omega) (by omega)]
   refine WB (A++(L++R)++B) _ _ _ _ (md+(A.length+L.length)) (md+(A.length+L.length) - 1) lo hi (by simp;omega) (by simp;omega) (by omega) (by simp;omega) (by omega) _ (fun i h1 h2 h3 h4=>?_) _ lo hi rfl (by omega) g4 (by omega) (fun h=>by omega) (fun h=>by omega)
   have rL:∀ q (h:q < L.length),aB (A++(L++R)++B) ((A.length+q:Nat):Int)=L[q]:=fun q h=>by
    rw [JK A (L++R) B q (by simp;omega) rfl,List.getElem_append_left h]
   have rR:∀ q (h:q < R.length),aB (A++(L++R)++B) ((A.length+L.length+q:Nat):Int)=R[q]:=fun q h=>by
    rw [JK A (L++R) B (L.length+q) (by simp;omega) (by omega),List.getElem_append_right (by omega)]
    congr 1;omega
   obtain ⟨s,rfl⟩:∃ s,i=A.length+s:=⟨i - A.length,by omega⟩
   obtain ⟨e,he⟩:∃ e,md=A.length+s+e:=⟨md - (A.length+s),by omega⟩
   have hsL:s≤L.length:=by omega
   have ai0:e≤R.length:=by omega
   have ck:=afW tH sL sR s e hsL ai0 (fun q1 q2=>by
    have k:=h4 (by omega)
    rw [show md+(A.length+L.length) - 1 - (A.length+s)=A.length+L.length+(e - 1) by omega,rR (e - 1) (by omega),rL s q1] at k
    exact k) (fun q1 q2=>by
    have k:=h3 (by omega)
    rw [show md+(A.length+L.length) - 1 - (A.length+s - 1)=A.length+L.length+e by omega,rR e q2,show A.length+s - 1=A.length+(s - 1) by omega,rL (s - 1) (by omega)] at k
    exact k)
   rw [rD (x:=((md+(A.length+L.length):Nat):Int) - ((A.length+s:Nat):Int)) (A.length+L.length+e) (by omega) (by omega)]
   have abw:(L.take s).length=s:=by rw [List.length_take];omega
   have ams:(L.drop s).length=L.length - s:=List.length_drop
   have abx:(R.take e).length=e:=by rw [List.length_take];omega
   have amu:(R.drop e).length=R.length - e:=List.length_drop
   have Oq:A++(L++R)++B=(A++L.take s)++(L.drop s++R.take e)++(R.drop e++B):=by
    have a1:=List.take_append_drop s L
    have a2:=List.take_append_drop e R
    calc A++(L++R)++B=A++((L.take s++L.drop s)++(R.take e++R.drop e))++B:=by rw [a1,a2]
     _=_:=by simp only [List.append_assoc]
   -- both halves are merged
   have two:b_ (fun k=>dS.j7 k ((A++L.take s)++(R.take e++L.drop s)++(R.drop e++B)) (A.length:Int) ((A.length+L.length+R.length:Nat):Int) () (md:Int) ((A.length+s:Nat):Int) ((A.length+L.length+e:Nat):Int)) (fun r=>∃ M',r=A++M'++B∧gK fP M'∧gW fP M' (L++R)):=by
    refine b_.step (dS.j7.eq_2 _ _ _ _ _ _ _) ?_
    have fin:∀ M1 M2,gK fP M1→gW fP M1 (L.take s++R.take e)→gK fP M2→gW fP M2 (L.drop s++R.drop e)→gK fP (M1++M2)∧gW fP (M1++M2) (L++R):=fun M1 M2 z1 z2 z3 z4=>by
     have:=amK tH (L1:=L.take s) (U:=L.drop s) (V:=R.take e) (R2:=R.drop e) (by rw [List.take_append_drop];exact sL) (by rw [List.take_append_drop];exact sR) ck.1 ck.2 z1 z2 z3 z4
     rw [List.take_append_drop,List.take_append_drop] at this
     exact this
    -- the second half
    have right:∀ M1,M1.length=s+e→gK fP M1→gW fP M1 (L.take s++R.take e)→b_ (fun k=>if (md:Int) < ((A.length+L.length+e:Nat):Int) then (if ((A.length+L.length+e:Nat):Int) < ((A.length+L.length+R.length:Nat):Int) then ((dS.f k (A++M1++(L.drop s++R.drop e)++B) (md:Int) ((A.length+L.length+e:Nat):Int) ((A.length+L.length+R.length:Nat):Int) ()).bind fun t=>(some t)) else (some (A++M1++(L.drop s++R.drop e)++B))) else (some (A++M1++(L.drop s++R.drop e)++B)))
      (fun r=>∃ M',r=A++M'++B∧gK fP M'∧gW fP M' (L++R)):=by
     intro M1 l1 z1 z2
     by_cases k1:s < L.length
     ·refine b_.pos (by omega) ?_
      by_cases k2:e < R.length
      ·refine b_.pos (by omega) ?_
       have q:=ih (L.drop s++R.drop e).length (by simp;omega) (A++M1) (L.drop s) (R.drop e) B (by simp) (by omega) (by omega) (by simp;omega) (Qd sL s) (Qd sR e)
       rw [ams,amu,show (A++M1).length=md by simp;omega,show md+(L.length - s)=A.length+L.length+e by omega,show A.length+L.length+e+(R.length - e)=A.length+L.length+R.length by omega] at q
       refine b_.bind q (fun r hr=>?_)
       obtain ⟨M2,rfl,z3,z4⟩:=hr
       obtain ⟨y1,y2⟩:=fin M1 M2 z1 z2 z3 z4
       exact b_.now ⟨M1++M2,by simp,y1,y2⟩
      ·refine b_.neg (by omega) ?_
       have en:R.drop e=[]:=List.drop_of_length_le (by omega)
       obtain ⟨y1,y2⟩:=fin M1 (L.drop s++R.drop e) z1 z2 (by rw [en,List.append_nil];exact Qd sL s) (gW.refl _)
       exact b_.now ⟨M1++(L.drop s++R.drop e),by simp,y1,y2⟩
     ·refine b_.neg (by omega) ?_
      have en:L.drop s=[]:=List.drop_of_length_le (by omega)
      obtain ⟨y1,y2⟩:=fin M1 (L.drop s++R.drop e) z1 z2 (by rw [en,List.nil_append];exact Qd sR e) (gW.refl _)
      exact b_.now ⟨M1++(L.drop s++R.drop e),by simp,y1,y2⟩
    have af0:(A++L.take s)++(R.take e++L.drop s)++(R.drop e++B)=A++(L.take s++R.take e)++(L.drop s++R.drop e++B):=by simp
    have eZ:∀ M1:List aF,A++M1++(L.drop s++R.drop e++B)=A++M1++(L.drop s++R.drop e)++B:=fun M1=>by simp
    have abP:gK fP (L.take s++R.take e)→b_ (fun k=>dS.j8 k (A++(L.take s++R.take e)++(L.drop s++R.drop e)++B) (A.length:Int) ((A.length+L.length+R.length:Nat):Int) () (md:Int) ((A.length+s:Nat):Int) ((A.length+L.length+e:Nat):Int) false) (fun r=>∃ M',r=A++M'++B∧gK fP M'∧gW fP M' (L++R)):=fun z=>by
     refine b_.step (dS.j8.eq_2 _ _ _ _ _ _ _ _) ?_
     exact b_.neg (by simp) (right _ (by simp;omega) z (gW.refl _))
    rw [af0]
    by_cases k1:0 < s
    ·refine b_.pos (by omega) ?_
     by_cases k2:0 < e
     ·rw [decide_eq_true (by omega:((A.length+s:Nat):Int) < (md:Int))]
      refine b_.step (dS.j8.eq_2 _ _ _ _ _ _ _ _) ?_
      refine b_.pos rfl ?_
      have q:=ih (L.take s++R.take e).length (by simp;omega) A (L.take s) (R.take e) (L.drop s++R.drop e++B) (by simp) (by omega) (by omega) (by simp;omega) (Qe sL s) (Qe sR e)
      rw [abw,abx,show A.length+s+e=md by omega] at q
      refine b_.bind q (fun r hr=>?_)
      obtain ⟨M1,rfl,z1,z2⟩:=hr
      have ll:=gW.len tH _ M1 _ rfl z2
      rw [List.length_append,abw,abx] at ll
      rw [eZ]
      exact right M1 ll z1 z2
     ·rw [decide_eq_false (by omega:¬ ((A.length+s:Nat):Int) < (md:Int)),eZ]
      refine abP ?_
      have:R.take e=[]:=by rw [show e=0 by omega,List.take_zero]
      rw [this,List.append_nil];exact Qe sL s
    ·refine b_.neg (by omega) ?_
     rw [eZ]
     refine abP ?_
     have:L.take s=[]:=by rw [show s=0 by omega,List.take_zero]
     rw [this,List.nil_append];exact Qe sR e
   have abm:(L.drop s=[]∨R.take e=[])→b_ (fun k=>dS.j6 k (A++(L++R)++B) (A.length:Int) ((A.length+L.length:Nat):Int) ((A.length+L.length+R.length:Nat):Int) () (md:Int) ((A.length+s:Nat):Int) ((A.length+L.length+e:Nat):Int) false) (fun r=>∃ M',r=A++M'++B∧gK fP M'∧gW fP M' (L++R)):=fun hz=>by
    refine b_.step (dS.j6.eq_2 _ _ _ _ _ _ _ _ _) ?_
    refine b_.neg (by simp) ?_
    rw [Oq,show L.drop s++R.take e=R.take e++L.drop s by rcases hz with h|h <;> rw [h] <;> simp]
    exact two
   by_cases k1:s < L.length
   ·refine b_.pos (by omega) ?_
    by_cases k2:0 < e
    ·rw [decide_eq_true (by omega:((A.length+L.length:Nat):Int) < ((A.length+L.length+e:Nat):Int))]
     refine b_.step (dS.j6.eq_2 _ _ _ _ _ _ _ _ _) ?_
     refine b_.pos rfl (b_.bind (P:=fun r=>r=(A++L.take s)++(R.take e++L.drop s)++(R.drop e++B)) ?_ (fun r hr=>by rw [hr];exact two))
     rw [Oq]
     exact anB (A++L.take s) (L.drop s) (R.take e) (R.drop e++B) (by omega) (by omega) (by simp;omega) (by simp;omega) (by simp;omega) (by simp;omega)
    ·rw [decide_eq_false (by omega:¬ ((A.length+L.length:Nat):Int) < ((A.length+L.length+e:Nat):Int))]
     exact abm (.inr (by rw [show e=0 by omega,List.take_zero]))
   ·exact b_.neg (by omega) (abm (.inl (List.drop_of_length_le (by omega))))
  by_cases c3:md < A.length+L.length
  ·refine b_.pos (by omega) ?_
   refine b_.step (dS.j4.eq_2 _ _ _ _ _ _ _ _ _) ?_
   rw [rD (x:=((md+(A.length+L.length):Nat):Int) - ((A.length+L.length+R.length:Nat):Int)) (md - R.length) (by omega) (by omega)]
   exact rest (md - R.length) md (by omega) (by omega) (by omega) (by omega) (by omega) (.inl rfl) (.inr (by omega))
  ·refine b_.neg (by omega) ?_
   refine b_.step (dS.j4.eq_2 _ _ _ _ _ _ _ _ _) ?_
   exact rest A.length (A.length+L.length) (by omega) (by omega) (by omega) (by omega) (by omega) (.inr rfl) (.inl rfl)

def zU (n:Nat) (xs:List aF):Prop:=∀ i,gK fP ((xs.drop (i * n)).take n)
theorem KQ {n q:Nat} {A M:List aF} (hA:zU n A) (hl:A.length=q * n) (hM:gK fP M) (hm:M.length≤n):zU n (A++M):=by
 intro i
 rcases Nat.lt_trichotomy i q with h|h|h
 ·have:(i+1) * n≤q * n:=Nat.mul_le_mul_right n h
  rw [Nat.add_mul,Nat.one_mul] at this
  rw [List.drop_append_of_le_length (by omega),List.take_append_of_le_length (by rw [List.length_drop];omega)]
  exact hA i
 ·subst h
  rw [← hl,List.drop_left,List.take_of_length_le hm]
  exact hM
 ·have:(q+1) * n≤i * n:=Nat.mul_le_mul_right n h
  rw [Nat.add_mul,Nat.one_mul] at this
  rw [List.drop_of_length_le (by rw [List.length_append];omega)]
  simp [gK]
theorem Yd (n:Nat):zU n []:=fun i=>by simp [gK]
theorem afw {n:Nat} {B:List aF} (h:zU n B) (j:Nat):zU n (B.drop (j * n)):=fun i=>by
 have:=h (j+i)
 rw [Nat.add_mul] at this
 rw [List.drop_drop]
 exact this
theorem Yb {n:Nat} {B:List aF} (h:zU n B) (hl:B.length≤n):gK fP B:=by
 have:=h 0
 rw [Nat.zero_mul,List.drop_zero,List.take_of_length_le hl] at this
 exact this
theorem anW (n b:Nat) (hb:1≤b) (hbn:b < n) (hn:n≤10000000) (Q:List aF→Prop):∀ (m:Nat) (A B O:List aF) (q:Nat),B.length=m→A.length=q * (2 * b)→A.length+B.length=n→zU (2 * b) A→zU b B→gW fP (A++B) O →
  (∀ X,X.length=n→zU (2 * b) X→gW fP X O→b_ (fun k=>pJ.l1 k X n () ((b * 2:Nat):Int)) Q) →
  b_ (fun k=>pJ.l2 k (A++B) n () b (A.length:Int) ((A.length+2 * b:Nat):Int)) Q:=by
 intro m
 induction m using Nat.strongRecOn with
 | _ m ih =>
  intro A B O q hm hA hl bA bB hS hk
  refine b_.step (pJ.l2.eq_2 _ _ _ _ _ _) ?_
  have w1:wrap64 ((A.length:Int)+(b:Int))=((A.length+b:Nat):Int):=rD _ (by omega) (by omega)
  have w2:wrap64 (2 * (b:Int))=((2 * b:Nat):Int):=rD _ (by omega) (by omega)
  have w3:wrap64 ((b:Int) * 2)=((b * 2:Nat):Int):=rD _ (by omega) (by omega)
  have sL:gK fP (B.take b):=by have:=bB 0;rwa [Nat.zero_mul,List.drop_zero] at this
  by_cases h:A.length+2 * b≤n
  ·refine b_.pos (by omega) ?_
   have sR:gK fP ((B.drop b).take b):=by have:=bB 1;rwa [Nat.one_mul] at this
   have lL:(B.take b).length=b:=by rw [List.length_take];omega
   have lR:((B.drop b).take b).length=b:=by rw [List.length_take,List.length_drop];omega
   have eB:A++B=A++(B.take b++(B.drop b).take b)++(B.drop b).drop b:=by
    rw [List.append_assoc,List.append_assoc,List.take_append_drop,List.take_append_drop]
   have g:=acI _ A (B.take b) ((B.drop b).take b) ((B.drop b).drop b) rfl (by omega) (by omega) (by simp;omega) sL sR
   rw [lL,lR,← eB,show A.length+b+b=A.length+2 * b by omega] at g
   rw [w1,w2,rD (x:=((A.length+2 * b:Nat):Int)+((2 * b:Nat):Int)) (A.length+2 * b+2 * b) (by omega) (by omega)]
   refine b_.bind g (fun r hr=>?_)
   obtain ⟨M,rfl,z1,z2⟩:=hr
   have PO:=gW.len tH _ M _ rfl z2
   rw [List.length_append,lL,lR] at PO
   have FM:(A++M).length=A.length+2 * b:=by rw [List.length_append];omega
   rw [← FM]
   refine ih ((B.drop b).drop b).length (by simp;omega) (A++M) ((B.drop b).drop b) O (q+1) rfl (by rw [FM,Nat.add_mul,Nat.one_mul];omega) (by rw [FM];simp;omega) (KQ bA hA z1 (by omega)) (by rw [List.drop_drop];have:=afw bB 2;rwa [show 2 * b=b+b by omega] at this) ?_ hk
   refine gW.trans ?_ hS
   rw [eB]
   exact ((gW.refl A).app z2).app (gW.refl _)
  ·refine b_.neg (by omega) ?_
   rw [w1,w3]
   by_cases h2:A.length+b < n
   ·refine b_.pos (by omega) ?_
    have lL:(B.take b).length=b:=by rw [List.length_take];omega
    have sR:gK fP (B.drop b):=by
     have:=bB 1
     rwa [Nat.one_mul,List.take_of_length_le (by rw [List.length_drop];omega)] at this
    have g:=acI _ A (B.take b) (B.drop b) [] rfl (by omega) (by rw [List.length_drop];omega) (by simp;omega) sL sR
    rw [List.take_append_drop,List.append_nil,lL,List.length_drop,show A.length+b+(B.length - b)=n by omega] at g
    refine b_.bind g (fun r hr=>?_)
    obtain ⟨M,rfl,z1,z2⟩:=hr
    have PO:=gW.len tH _ M _ rfl z2
    rw [List.append_nil]
    exact hk (A++M) (by rw [List.length_append];omega) (KQ bA hA z1 (by omega)) (((gW.refl A).app z2).trans hS)
   ·refine b_.neg (by omega) ?_
    exact hk (A++B) (by rw [List.length_append];omega) (KQ bA hA (Yb bB (by omega)) (by omega)) hS
theorem anV (n:Nat) (hn:n≤10000000) (O:List aF):∀ (m b:Nat) (X:List aF),n - b=m→1≤b→X.length=n→zU b X→gW fP X O →
  b_ (fun k=>pJ.l1 k X n () b) (fun r=>gK fP r∧gW fP r O):=by
 intro m
 induction m using Nat.strongRecOn with
 | _ m ih =>
  intro b X hm hb hX bX hS
  refine b_.step (pJ.l1.eq_2 _ _ _ _) ?_
  by_cases h:b < n
  ·refine b_.pos (by omega) ?_
   rw [rD (x:=2 * (b:Int)) (2 * b) (by omega) (by omega)]
   have:=anW n b hb h hn (fun r=>gK fP r∧gW fP r O) X.length [] X O 0 rfl (by simp) (by simpa using hX) (Yd _) bX hS (fun Y y1 y2 y3=>ih (n - b * 2) (by omega) (b * 2) Y rfl (by omega) y1 (by rwa [Nat.mul_comm] at y2) y3)
   simpa using this
  ·exact b_.neg (by omega) (b_.now ⟨Yb bX (by omega),hS⟩)
theorem anU (n:Nat) (hn:n≤10000000) (O:List aF):∀ (m:Nat) (A B:List aF) (q:Nat),B.length=m→A.length=q * 20→A.length+B.length=n→zU 20 A→gW fP (A++B) O →
  b_ (fun k=>pJ.l0 k (A++B) n () 20 (A.length:Int) ((A.length+20:Nat):Int)) (fun r=>gK fP r∧gW fP r O):=by
 intro m
 induction m using Nat.strongRecOn with
 | _ m ih =>
  intro A B q hm hA hl bA hS
  refine b_.step (pJ.l0.eq_2 _ _ _ _ _ _) ?_
  by_cases h:A.length+20≤n
  ·refine b_.pos (by omega) ?_
   have lL:(B.take 20).length=20:=by rw [List.length_take];omega
   have eB:A++B=A++B.take 20++B.drop 20:=by rw [List.append_assoc,List.take_append_drop]
   have g:=abk A (B.take 20) (B.drop 20) (by omega) (a:=(A.length:Int)) (b:=((A.length+20:Nat):Int)) rfl (by rw [lL])
   rw [← eB] at g
   rw [rD (x:=((A.length+20:Nat):Int)+20) (A.length+20+20) (by omega) (by omega)]
   refine b_.bind g (fun r hr=>?_)
   obtain ⟨M,rfl,z1,z2⟩:=hr
   have PO:=gW.len tH _ M _ rfl z2
   have FM:(A++M).length=A.length+20:=by rw [List.length_append];omega
   rw [← FM]
   refine ih (B.drop 20).length (by rw [List.length_drop];omega) (A++M) (B.drop 20) (q+1) rfl (by rw [FM];omega) (by rw [FM,List.length_drop];omega) (KQ bA hA z1 (by omega)) (gW.trans ?_ hS)
   rw [eB]
   exact ((gW.refl A).app z2).app (gW.refl _)
  ·refine b_.neg (by omega) ?_
   have g:=abk A B [] (by omega) (a:=(A.length:Int)) (b:=(n:Int)) rfl (by rw [hl])
   rw [List.append_nil] at g
   refine b_.bind g (fun r hr=>?_)
   obtain ⟨M,rfl,z1,z2⟩:=hr
   have PO:=gW.len tH _ M _ rfl z2
   rw [List.append_nil]
   exact anV n hn O (n - 20) 20 (A++M) rfl (by omega) (by rw [List.length_append];omega) (KQ bA hA z1 (by omega)) (((gW.refl A).app z2).trans hS)
theorem anP (X:List aF) (hn:X.length≤10000000):b_ (fun k=>FZ.f k X ()) (fun r=>gK fP r∧gW fP r X):=by
 unfold FZ.f pJ.f
 refine b_.bind (P:=fun r=>gK fP r∧gW fP r X) ?_ (fun r hr=>b_.now hr)
 have:=anU X.length hn X X.length [] X 0 rfl rfl (by simp) (Yd _) (gW.refl _)
 simpa using this

theorem Y7 {x:aF}:∀ out:List aF,gK fP out→∀ y ∈ out.dropWhile (xu x),fP x y=true
 | [],_,y,hy=>by cases hy
 | z :: r,h,y,hy=>by
  obtain ⟨h1,h2⟩:=gK.cons.1 h
  rw [List.dropWhile_cons] at hy
  by_cases hz:xu x z=true
  ·rw [if_pos hz] at hy
   exact Y7 r h2 y hy
  ·rw [if_neg hz] at hy
   have hxz:fP x z=true:=by unfold xu at hz;unfold fP;simpa using hz
   rcases List.mem_cons.1 hy with rfl|hy
   ·exact hxz
   ·by_cases hn:fP x y=true
    ·exact hn
    ·have:=tH.neg z y x (h1 y hy) (by simpa using hn)
     rw [this] at hxz
     cases hxz
theorem acV {x:aF}:∀ out:List aF,∀ y ∈ out.takeWhile (xu x),fP x y=false
 | [],y,hy=>by cases hy
 | z :: r,y,hy=>by
  rw [List.takeWhile_cons] at hy
  by_cases hz:xu x z=true
  ·rw [if_pos hz] at hy
   rcases List.mem_cons.1 hy with rfl|hy
   ·unfold xu at hz;unfold fP;simpa using hz
   ·exact acV r y hy
  ·rw [if_neg hz] at hy
   cases hy
theorem ama {x:aF} {out:List aF} (h:gK fP out):gK fP (Ak x out)∧gW fP (Ak x out) (out++[x]):=by
 have e:=List.takeWhile_append_dropWhile (p:=xu x) (l:=out)
 have hs:gK fP (out.takeWhile (xu x)++out.dropWhile (xu x)):=by rw [e];exact h
 have:=VQ tH hs (acV out) (Y7 out h)
 unfold Ak
 rw [List.append_assoc,List.singleton_append]
 rw [e] at this
 exact this
theorem abN (fr dD:ByteArray):∀ (xs out:List aF),gK fP out→gK fP (x9 fr dD xs out)∧gW fP (x9 fr dD xs out) (out++xs.map (tY fr dD))
 | [],out,h=>⟨h,by rw [List.map_nil,List.append_nil];exact gW.refl _⟩
 | x :: r,out,h=>by
  have h1:=ama (x:=tY fr dD x) h
  have h2:=abN fr dD r (Ak (tY fr dD x) out) h1.1
  refine ⟨h2.1,h2.2.trans ?_⟩
  rw [List.map_cons,show out++tY fr dD x :: r.map (tY fr dD)=(out++[tY fr dD x])++r.map (tY fr dD) by simp]
  exact h1.2.app (gW.refl _)
theorem amP (fr dD:ByteArray) (xs ys:List aF) (h1:gK fP ys) (h2:gW fP ys (xs.map (tY fr dD))):ys=x9 fr dD xs []:=by
 have h:=abN fr dD xs [] (by unfold gK;exact List.Pairwise.nil)
 rw [List.nil_append] at h
 exact acM tH _ _ h1 h.1 (h2.trans h.2.symm)

theorem VN (fr dD:ByteArray) (xs:List aF) (n:Nat) (hn:xs.length=n) (hm:n≤1048577) (ht:dD.size≤4000000) (hf:fr.size≤4000000) (hs:∀ y ∈ xs,y.f0.size≤4000000):∀ (m:Nat) (i:Nat) (X:List aF),n - i=m→i≤n→X=(xs.take i).map (tY fr dD)++xs.drop i →
  Ev (fun k=>mJ.l0 k fr dD (n:Int) (i:Int) X) (x9 fr dD xs [])
 | m,i,X,hi,hle,hX=>by
  refine Ev.step (mJ.l0.eq_2 _ _ _ _ _) ?_
  have aCx:X.length=n:=by rw [hX];simp;omega
  by_cases h:i < n
  ·have hix:i < xs.length:=by omega
   have hxi:X[i]'(by omega)=xs[i]'hix:=by
    subst hX
    rw [List.getElem_append_right (by simp;omega)]
    simp [Nat.min_eq_left (by omega:i≤xs.length)]
   have hme:=hs _ (List.getElem_mem hix)
   have nx:X.set i (tY fr dD (xs[i]'hix))=(xs.take (i+1)).map (tY fr dD)++xs.drop (i+1):=by
    subst hX
    have l1:((xs.take i).map (tY fr dD)).length=i:=by simp;omega
    rw [drop_at xs i hix,List.set_append_right _ _ (by omega),l1,Nat.sub_self,List.set_cons_zero,List.take_succ_eq_append_getElem hix,List.map_append]
    simp
   have same:¬ (xs[i]'hix).f0.toList=fr.toList→¬ zT (xs[i]'hix).f0 fr=true→X=(xs.take (i+1)).map (tY fr dD)++xs.drop (i+1):=fun h1 h2=>by
    rw [← nx]
    have e:tY fr dD (xs[i]'hix)=X[i]'(by omega):=by
     rw [hxi];unfold tY;rw [if_neg (fun c=>c.elim h1 h2)]
    rw [e,List.set_getElem_self]
   have go:(xs[i]'hix).f0.toList=fr.toList∨zT (xs[i]'hix).f0 fr=true→Ev (fun k=>if 0≤(fr.size:Int) then (if (fr.size:Int)≤((xs[i]'hix).f0.size:Int) then ((some ((xs[i]'hix).f0.extract ((fr.size:Int):Int).toNat (xs[i]'hix).f0.size:ByteArray)).bind fun y=>(if dD.size+y.size≤9223372036854775807 then ((some (dD++y:ByteArray)).bind fun z=>(mJ.l0 k fr dD (n:Int) (wrap64 ((i:Int)+1)) (X.set (i:Int).toNat (⟨z,(xs[i]'hix).f1,(xs[i]'hix).f2⟩:aF)))) else none)) else none) else none) (x9 fr dD xs []):=fun hc=>by
    have hl:fr.size≤(xs[i]'hix).f0.size:=by
     rcases hc with hc|hc
     ·rw [toList_inj hc];exact Nat.le_refl _
     ·exact ad1 _ _ hc
    refine aW (by omega) (aW (by omega) (Ev.bind (dM rfl) (aW (by rw [ByteArray.size_extract];omega) (Ev.bind (dM rfl) ?_))))
    rw [kP i (by omega),Int.toNat_natCast,Int.toNat_natCast]
    refine VN fr dD xs n hn hm ht hf hs (n - (i+1)) (i+1) _ rfl (by omega) ?_
    rw [← nx]
    unfold tY
    rw [if_pos hc]
   refine aW (by omega) (aW (by omega) (aW (by omega) ?_))
   rw [t_ X i (by omega),hxi]
   by_cases he:(xs[i]'hix).f0.toList=fr.toList
   ·exact aW he (go (.inl he))
   ·refine dP he (Ev.bind (aa_ _ _ (by omega) (by omega)) ?_)
    by_cases hu:zT (xs[i]'hix).f0 fr=true
    ·exact aW hu (go (.inr hu))
    ·refine dP hu ?_
     rw [kP i (by omega)]
     exact VN fr dD xs n hn hm ht hf hs (n - (i+1)) (i+1) _ rfl (by omega) (same he hu)
  ·refine dP (by omega) ?_
   have Oq:X=xs.map (tY fr dD):=by rw [hX,List.take_of_length_le (by omega),List.drop_of_length_le (by omega),List.append_nil]
   obtain ⟨r,er,s1,s2⟩:=anP X (by omega)
   refine Ev.bind er (dM ?_)
   rw [Oq] at s2
   exact amP fr dD xs r s1 s2
 termination_by m=>m
 decreasing_by all_goals omega
theorem al3 (fr dD:ByteArray) (xs:List aF) (hn:xs.length≤1048577) (ht:dD.size≤4000000) (hf:fr.size≤4000000) (hs:∀ y ∈ xs,y.f0.size≤4000000):Ev (fun k=>mJ.f k xs fr dD) (x9 fr dD xs []):=by
 unfold mJ.f wF.f BI.f
 rw [if_pos (by omega),Option.bind_some]
 refine Ev.bind (dM rfl) ?_
 exact VN fr dD xs xs.length rfl hn ht hf hs xs.length 0 xs (by omega) (by omega) (by simp)

abbrev R6:=List aF × Int × ByteArray × Int × Bool × List ByteArray
def SH (xs:List aF) (c:Int):R6:=(xs,c,⟨#[]⟩,0,false,[])
def lu (xs:List aF) (f g:Nat→Option R6):Prop:=∃ r y,Ev f r∧Ev g y∧y.1.length≤4000000∧(r.1.length≤1048576∧r.2.2.2.2.2.length≤1048576)∧(if y.2.1=0 then y else SH xs y.2.1)=r
section
variable {xs:List aF} {f f' g g':Nat→Option R6}
theorem jJ {c:Prop} [Decidable c] (h:c) (e:lu xs f g):lu xs (fun k=>if c then f k else f' k) g:=by
 obtain ⟨r,y,a,b⟩:=e
 exact ⟨r,y,aW h a,b⟩
theorem mD {c:Prop} [Decidable c] (h:¬ c) (e:lu xs f' g):lu xs (fun k=>if c then f k else f' k) g:=by
 obtain ⟨r,y,a,b⟩:=e
 exact ⟨r,y,dP h a,b⟩
theorem pz {β:Type} {u:Nat→Option β} {v:β} {F:Nat→β→Option R6} (h:Ev u v) (e:lu xs (fun k=>F k v) g):lu xs (fun k=>(u k).bind (F k)) g:=by
 obtain ⟨r,y,a,b⟩:=e
 exact ⟨r,y,Ev.bind h a,b⟩
theorem wz (h:∀ k,f (k+1)=f' k) (e:lu xs f' g):lu xs f g:=by
 obtain ⟨r,y,a,b⟩:=e
 exact ⟨r,y,Ev.step h a,b⟩
theorem lq {c:Prop} [Decidable c] (h:c) (e:lu xs f g):lu xs f (fun k=>if c then g k else g' k):=by
 obtain ⟨r,y,a,b,q⟩:=e
 exact ⟨r,y,a,aW h b,q⟩
theorem nI {c:Prop} [Decidable c] (h:¬ c) (e:lu xs f g'):lu xs f (fun k=>if c then g k else g' k):=by
 obtain ⟨r,y,a,b,q⟩:=e
 exact ⟨r,y,a,dP h b,q⟩
theorem nP {β:Type} {u:Nat→Option β} {v:β} {F:Nat→β→Option R6} (h:Ev u v) (e:lu xs f (fun k=>F k v)):lu xs f (fun k=>(u k).bind (F k)):=by
 obtain ⟨r,y,a,b,q⟩:=e
 exact ⟨r,y,a,Ev.bind h b,q⟩
theorem wB (h:∀ k,g (k+1)=g' k) (e:lu xs f g'):lu xs f g:=by
 obtain ⟨r,y,a,b,q⟩:=e
 exact ⟨r,y,a,Ev.step h b,q⟩
theorem KU (e:lu xs f g):lu xs (fun k=>(f k).bind fun b=>some (b.1,b.2.1,b.2.2.1,b.2.2.2.1,b.2.2.2.2.1,b.2.2.2.2.2)) g:=by
 obtain ⟨r,y,a,b⟩:=e
 exact ⟨r,y,Ev.bind a (dM rfl),b⟩
theorem Dy (e:lu xs f g):lu xs f (fun k=>(g k).bind fun b=>some (b.1,b.2.1,b.2.2.1,b.2.2.2.1,b.2.2.2.2.1,b.2.2.2.2.2)):=by
 obtain ⟨r,y,a,b,q⟩:=e
 exact ⟨r,y,a,Ev.bind b (dM rfl),q⟩
theorem wC {c:Int} {ys:List aF} {u:ByteArray} {z:Int} {b:Bool} {l:List ByteArray} (hc:c≠0) (hx:xs.length≤1048576) (h:ys.length≤4000000):lu xs (fun _=>(oq.f c).bind fun b=>some (xs,b.1,b.2.1,b.2.2.1,b.2.2.2.1,b.2.2.2.2)) (fun _=>some (ys,c,u,z,b,l)) :=
 ⟨SH xs c,(ys,c,u,z,b,l),dM rfl,dM rfl,h,⟨hx,Nat.zero_le _⟩,if_neg hc⟩
theorem zn (r:R6) (h0:r.2.1=0) (h:r.1.length≤1048576) (hl:r.2.2.2.2.2.length≤1048576):lu xs (fun _=>some r) (fun _=>some r) :=
 ⟨r,r,dM rfl,dM rfl,by omega,⟨h,hl⟩,if_pos h0⟩
end
theorem am_ {xs:List aF} {a:ByteArray} (h:yc xs a=0):1≤a.size:=by
 refine Classical.byContradiction fun c=>?_
 have e:a.data.toList=[]:=List.eq_nil_of_length_eq_zero (by rw [wo];omega)
 by_cases h0:(fH a).2=0
 ·obtain ⟨_,⟨h1,_⟩|⟨t,ht,_⟩⟩:=Qc a h0
  ·rw [e] at h1;cases h1
  ·rw [e] at ht;cases ht
 ·unfold yc at h
  rw [if_neg h0] at h
  exact h0 h
theorem new_c (t p ins q:Int) (xs:List aF) (hs:∀ y ∈ xs,y.f0.size≤1048576∧y.f2.size≤1048576) (kd:Int) (pa dD:ByteArray) (off len:Int) (tx:ByteArray) (hp:xs.length+pa.size≤1048576) (i0:ByteArray) (d:Bool) (i2:ByteArray):lu xs (fun k=>rX.f k t p ins q xs kd pa dD off len tx) (fun k=>Fv.f k t p ins q xs kd pa dD off len tx i0 d i2):=by
 have pl:=anb ⟨pa,kd == 2,⟨#[]⟩⟩ xs
 have hP:=al4 pa (kd == 2) ⟨#[]⟩ xs (by omega)
 have bad:∀ c:Int,c≠0→lu xs (fun k=>rX.j1 k c xs kd pa dD off len tx) (fun k=>(zB.f xs pa (kd == 2) ⟨#[]⟩).bind fun b=>some (b,c,(⟨#[]⟩:ByteArray),0,false,([]:List ByteArray))):=fun c hc=>by
  refine wz (rX.j1.eq_2 _ _ _ _ _ _ _ _) ?_
  exact mD hc (pz (iQ (same_eq xs (by omega))) (nP (iQ hP) (wC hc (by omega) (by omega))))
 unfold rX.f Fv.f
 refine pz (acD xs (by omega) pa) (nP (aa8 xs (by omega) (fun y h=>by have:=hs y h;omega) pa (by omega)) ?_)
 by_cases c:yc xs pa=0
 ·have hz:=am_ c
  refine jJ c (lq c ?_)
  rw [c]
  by_cases d:wrap64 ((xs.length:Int)+1) ≥ ins
  ·refine lq d ?_
   refine wz (rX.j0.eq_2 _ _ _ _ _ _ _ _ _) ?_
   exact jJ (by simpa using d) (bad 8 (by decide))
  ·refine nI d ?_
   refine wz (rX.j0.eq_2 _ _ _ _ _ _ _ _ _) ?_
   refine mD (by simpa using d) ?_
   refine wz (rX.j1.eq_2 _ _ _ _ _ _ _ _) ?_
   exact jJ rfl (pz (anI pa (kd == 2) ⟨#[]⟩ xs (by omega)) (nP (iQ hP) (zn _ rfl (by dsimp only;omega) (Nat.zero_le _))))
 ·refine mD c (nI c ?_)
  refine wz (rX.j0.eq_2 _ _ _ _ _ _ _ _ _) ?_
  exact mD (by simp) (bad _ c)
theorem anp (t p ins q:Int) (xs:List aF) (hx:xs.length≤1048576) (hs:∀ y ∈ xs,y.f0.size≤1048576∧y.f2.size≤1048576) (kd:Int) (pa dD:ByteArray) (off len:Int) (tx:ByteArray) (hp:pa.size≤1048576) (hu:dD.size≤1048576) (i0:ByteArray) (d:Bool) (i2:ByteArray):lu xs (fun k=>oI.f k xs kd pa dD off len tx) (fun k=>oP.f k t p ins q xs kd pa dD off len tx i0 d i2):=by
 have es:=same_eq xs (by omega)
 have ml:=abM pa dD xs []
 rw [List.length_nil] at ml
 have aa6:=al3 pa dD xs (by omega) (by omega) (by omega) (fun y h=>by have:=hs y h;omega)
 have sM:=anF pa dD xs (by omega) (by omega) (fun y h=>by have:=hs y h;omega)
 have sP:=acD xs (by omega) dD
 have fl:∀ c:Int,c≠0→lu xs (fun _=>(oq.f c).bind fun b=>some (xs,b.1,b.2.1,b.2.2.1,b.2.2.2.1,b.2.2.2.2)) (fun k=>(mJ.f k xs pa dD).bind fun an=>some (an,c,(⟨#[]⟩:ByteArray),0,false,([]:List ByteArray))):=fun c hc=>nP aa6 (wC hc hx (by omega))
 have bad:∀ c:Int,c≠0→lu xs (fun k=>oI.j0 k c true xs kd pa dD off len tx xs) (fun k=>(mJ.f k xs pa dD).bind fun an=>some (an,c,(⟨#[]⟩:ByteArray),0,false,([]:List ByteArray))):=fun c hc=>by
  refine wz (oI.j0.eq_2 _ _ _ _ _ _ _ _ _ _) ?_
  exact jJ rfl (fl c hc)
 have good:∀ c:Int,lu xs (fun k=>oI.j0 k c false xs kd pa dD off len tx xs) (fun k=>(mJ.f k xs pa dD).bind fun an=>some (an,0,(⟨#[]⟩:ByteArray),0,false,([]:List ByteArray))):=fun c=>by
  refine wz (oI.j0.eq_2 _ _ _ _ _ _ _ _ _ _) ?_
  exact mD (by simp) (pz sM (nP aa6 (zn _ rfl (by dsimp only;omega) (Nat.zero_le _))))
 have j1:∀ x:Int,lu xs (fun k=>if yc xs dD=0 then (oI.j0 k (yc xs dD) false xs kd pa dD off len tx xs) else (if yc xs dD=7 then ((vT.f k dD).bind fun ai=>((vT.f k pa).bind fun aH=>(oI.j0 k (yc xs dD) (ai.toList != aH.toList) xs kd pa dD off len tx xs))) else (oI.j0 k (yc xs dD) true xs kd pa dD off len tx xs))) (fun k=>(mJ.f k xs pa dD).bind fun an=>some (an,x,(⟨#[]⟩:ByteArray),0,false,([]:List ByteArray)))→lu xs (fun k=>oI.f k xs kd pa dD off len tx) (fun k=>oP.j1 k x t p ins q xs kd pa dD off len tx i0 d i2):=fun x hl=>by
  refine wB (oP.j1.eq_2 _ _ _ _ _ _ _ _ _ _ _ _ _ _ _) ?_
  unfold oI.f
  refine pz (iQ es) ?_
  by_cases c1:pa.toList=([47]:List UInt8)
  ·exact jJ c1 (lq c1 (fl 9 (by decide)))
  refine mD c1 (nI c1 (pz (acF _ _) (nP (aa_ _ _ (by omega) (by omega)) ?_)))
  by_cases c2:zT dD pa=true
  ·exact jJ c2 (lq c2 (fl 11 (by decide)))
  exact mD c2 (nI c2 (pz sP hl))
 unfold oP.f
 refine nP (aa8 xs (by omega) (fun y h=>by have:=hs y h;omega) dD (by omega)) ?_
 by_cases c3:yc xs dD=7
 ·rw [c3] at j1 ⊢
  refine lq rfl (nP (Pn pa (by omega)) (nP (Pn dD (by omega)) ?_))
  refine wB (oP.j0.eq_2 _ _ _ _ _ _ _ _ _ _ _ _ _ _ _ _) ?_
  by_cases c4:(qB pa).toList=(qB dD).toList
  ·refine lq (by simpa using c4) (j1 0 (mD (by decide) (jJ rfl (pz (JO _) (pz (JO _) ?_)))))
   rw [show ((qB dD).toList != (qB pa).toList)=false by simp [c4]]
   exact good 7
  ·refine nI (by simpa using c4) (j1 7 (mD (by decide) (jJ rfl (pz (JO _) (pz (JO _) ?_)))))
   rw [show ((qB dD).toList != (qB pa).toList)=true by simpa using fun h=>c4 h.symm]
   exact bad 7 (by decide)
 refine nI c3 ?_
 refine wB (oP.j0.eq_2 _ _ _ _ _ _ _ _ _ _ _ _ _ _ _ _) ?_
 refine nI (by simp) (j1 _ ?_)
 by_cases c5:yc xs dD=0
 ·rw [c5]
  exact jJ rfl (good 0)
 ·exact mD c5 (mD c3 (bad _ c5))
theorem afM (x:Int) (n:Nat) (h:0≤x):Ev (fun k=>yh.f k x 0 (n:Int)) (mn x n):=by
 unfold yh.f mn
 refine dP (by omega) ?_
 refine Ev.step (yh.j0.eq_2 _ _ _ _) ?_
 refine dP (by simpa using h) ?_
 by_cases c:(n:Int) < x
 ·exact lF (aW c (dM rfl)) (if_pos c).symm
 ·exact lF (dP c (dM rfl)) (if_neg c).symm
theorem abK (a b:Int):mn a b≤b∧mn a b≤a:=by unfold mn;split <;> omega
theorem abJ {a b:Int} (h:0≤a) (k:0≤b):0≤mn a b:=by unfold mn;split <;> omega
theorem anl (t p ins q:Int) (xs:List aF) (hx:xs.length≤1048576) (i:Nat) (hi:i < xs.length) (hs:xs[i].f2.size≤1048576) (pa dD:ByteArray) (off len:Int) (tx:ByteArray) (i0:ByteArray):lu xs (fun k=>kV.f k t p ins q xs (i:Int) 6 pa dD off len tx) (fun k=>zC.f t p ins q xs 6 pa dD off len tx i0 false xs[i].f2):=by
 have es:=same_eq xs (by omega)
 unfold kV.f zC.f
 refine jJ (by omega) (jJ (by omega) (jJ rfl (nI (by simp) ?_)))
 rw [t_ xs i hi]
 by_cases c:off < 0
 ·refine jJ c (lq c ?_)
  refine wz (kV.j0.eq_2 _ _ _ _ _ _ _ _ _) ?_
  exact jJ rfl (pz (iQ es) (wC (by decide) hx (by omega)))
 refine mD c (nI c ?_)
 refine wz (kV.j0.eq_2 _ _ _ _ _ _ _ _ _) ?_
 by_cases c2:len < 0
 ·exact jJ (by simpa using c2) (lq c2 (pz (iQ es) (wC (by decide) hx (by omega))))
 have m1:=abK off (xs[i].f2.size:Int)
 have m0:=abJ (a:=off) (b:=(xs[i].f2.size:Int)) (by omega) (by omega)
 refine mD (by simpa using c2) (nI c2 (pz (afM off _ (by omega)) ?_))
 generalize mn off (xs[i].f2.size:Int)=b at m0 m1 ⊢
 obtain ⟨B,rfl⟩:=Int.eq_ofNat_of_zero_le m0
 have ez:(xs[i].f2.extract (B:Int).toNat xs[i].f2.size).size=xs[i].f2.size - B:=by rw [ByteArray.size_extract,Nat.min_self,Int.toNat_natCast]
 rw [ez]
 have q1:=abK len ((xs[i].f2.size - B:Nat):Int)
 have q0:=abJ (a:=len) (b:=((xs[i].f2.size - B:Nat):Int)) (by omega) (by omega)
 refine lq m0 (lq (by omega) (lq q0 (lq (by omega) ?_)))
 obtain ⟨L,rfl⟩:=Int.eq_ofNat_of_zero_le (show 0≤len by omega)
 rw [oW (x:=(xs[i].f2.size:Int) - (B:Int)) (by omega) (by omega)]
 by_cases c3:(L:Int) < (xs[i].f2.size:Int) - (B:Int)
 ·rw [oW (x:=(B:Int)+(L:Int)) (by omega) (by omega)]
  rw [show mn (L:Int) ((xs[i].f2.size - B:Nat):Int)=(L:Int) by unfold mn;rw [if_neg (by omega)]]
  refine jJ c3 (pz (iQ es) (jJ m0 (jJ (by omega) (jJ (by omega) ?_))))
  rw [ByteArray.extract_extract,Int.toNat_natCast,Int.toNat_natCast,show ((B:Int)+(L:Int)).toNat=B+L by omega,Nat.add_zero,Nat.min_eq_left (by omega)]
  exact zn _ rfl hx (Nat.zero_le _)
 ·rw [show mn (L:Int) ((xs[i].f2.size - B:Nat):Int)=((xs[i].f2.size - B:Nat):Int) by unfold mn;split <;> omega]
  refine mD c3 (pz (iQ es) (jJ m0 (jJ (by omega) (jJ (by omega) ?_))))
  rw [ByteArray.extract_extract,Int.toNat_natCast,Int.toNat_natCast,Int.toNat_natCast,Nat.add_zero,show min (B+(xs[i].f2.size - B)) xs[i].f2.size=xs[i].f2.size by omega]
  exact zn _ rfl hx (Nat.zero_le _)
theorem adZ (s:ByteArray) (off:Int) (t:ByteArray) (h:s.size≤1048576):(tw s off t).size≤1048576:=by
 unfold tw
 split
 ·rename_i h
  obtain ⟨_,h0,h1,h2⟩:=h
  unfold lay
  rw [EG]
  simp only [List.length_append,List.length_take,List.length_drop,wo,ByteArray.size_append,Gq]
  omega
 ·exact h
theorem Y5 (s:ByteArray) (n:Int) (h:s.size≤1048576):(Hw s n).size≤1048576:=by
 unfold Hw
 split
 ·rename_i h
  rw [EG]
  simp only [List.length_take,List.length_append,wo,List.length_replicate]
  omega
 ·exact h
theorem DU:∀ (xs:List aF) (a:Int),qO xs a=qO xs 0+a
 | [],a=>by simp [qO]
 | x :: r,a=>by
  simp only [qO]
  split
  ·exact DU r a
  ·rw [DU r (a+_),DU r (0+_)];omega
theorem ab5:∀ (xs:List aF) (i:Nat) (hi:i < xs.length) (u:ByteArray),xs[i].f1=false→qO (xs.set i ⟨xs[i].f0,xs[i].f1,u⟩) 0=qO xs 0 - vS xs[i].f2.size+vS u.size
 | x :: r,0,hi,u,h=>by
  have h:x.f1=false:=h
  show qO (⟨x.f0,x.f1,u⟩ :: r) 0=qO (x :: r) 0 - vS x.f2.size+vS u.size
  simp only [qO]
  rw [if_neg (by simp [h]),if_neg (by simp [h]),DU r (0+vS u.size),DU r (0+vS x.f2.size)];omega
 | x :: r,i+1,hi,u,h=>by
  have hi2:i < r.length:=by simpa using hi
  have ih:=ab5 r i hi2 u h
  show qO (x :: r.set i ⟨r[i].f0,r[i].f1,u⟩) 0=qO (x :: r) 0 - vS r[i].f2.size+vS u.size
  simp only [qO]
  split
  ·exact ih
  ·rw [DU (r.set i _),DU r (0+_),ih];omega
theorem ab4:∀ (xs:List aF),(∀ y ∈ xs,y.f2.size≤1048576)→0≤qO xs 0∧qO xs 0≤32768 * xs.length
 | [],_=>by simp [qO]
 | x :: r,h=>by
  have ih:=ab4 r (fun y hy=>h y (List.mem_cons_of_mem _ hy))
  have hb:=MK (x.f2.size:Int) (by have:=h x List.mem_cons_self;omega)
  simp only [qO,List.length_cons]
  split
  ·omega
  ·rw [DU];omega
open Classical in
noncomputable def J3 (q:Int) (xs:List aF) (i:Nat) (hi:i < xs.length) (u:ByteArray):List aF × Int:=if qO (xs.set i ⟨xs[i].f0,xs[i].f1,u⟩) 0 > q then (xs,13) else (xs.set i ⟨xs[i].f0,xs[i].f1,u⟩,0)
theorem WI (t p ins q:Int) (xs:List aF) (hx:xs.length≤1048576) (hs:∀ y ∈ xs,y.f0.size≤1048576∧y.f2.size≤1048576) (i:Nat) (hi:i < xs.length) (u:ByteArray) (hu:u.size≤1048576):Ev (fun k=>yX.f k t p ins q xs (i:Int) u) (J3 q xs i hi u):=by
 have hb:=anK (n:=1048576) (s:=1048576) ⟨hx,hs⟩ i hi u hu
 unfold yX.f J3
 have e:=anH (xs.set i ⟨xs[i].f0,xs[i].f1,u⟩) (by rw [List.length_set];omega) (fun y hy=>(hb.2 y hy).2)
 by_cases c:qO (xs.set i ⟨xs[i].f0,xs[i].f1,u⟩) 0 > q
 ·rw [if_pos c]
  refine aW (by omega) (aW (by omega) (Ev.bind (iQ (same_eq xs (by omega))) (aW (by omega) (Ev.bind (dM rfl) ?_))))
  rw [t_ xs i hi,Int.toNat_natCast]
  exact Ev.bind e (aW c (Ev.bind (iQ (same_eq xs (by omega))) (dM rfl)))
 ·rw [if_neg c]
  refine aW (by omega) (aW (by omega) (Ev.bind (iQ (same_eq xs (by omega))) (aW (by omega) (Ev.bind (dM rfl) ?_))))
  rw [t_ xs i hi,Int.toNat_natCast]
  exact Ev.bind e (dP c (dM rfl))
theorem copy_eq (xs:List aF) (h:xs.length≤4000000):wF.f xs=some xs:=by
 unfold wF.f BI.f
 rw [if_pos (by omega),Option.bind_some]
theorem Sm (F:Nat→Option R6) (t p ins q:Int) (xs:List aF) (hx:xs.length≤1048576) (hs:∀ y ∈ xs,y.f0.size≤1048576∧y.f2.size≤1048576) (L6:Bool) (u:ByteArray) (z kd:Int) (pa dD:ByteArray) (off len:Int) (tx i0:ByteArray) (i:Nat) (hi:i < xs.length) (hI:Lib.idxBy (oD pa) xs z43=(i:Int)) (hf:xs[i].f1=false) (hu:u.size≤1048576)
  (h0:L6=false→lu xs F (fun _=>some (xs,12,(⟨#[]⟩:ByteArray),0,false,([]:List ByteArray)))) (h1:L6=true→J3 q xs i hi u=(xs,13)→lu xs F (fun _=>some (xs,13,(⟨#[]⟩:ByteArray),0,false,([]:List ByteArray))))
  (h2:L6=true→J3 q xs i hi u=(xs.set i ⟨xs[i].f0,xs[i].f1,u⟩,0)→lu xs F (fun _=>some (xs.set i ⟨xs[i].f0,xs[i].f1,u⟩,0,(⟨#[]⟩:ByteArray),z,false,([]:List ByteArray)))):lu xs F (fun k=>lV.j0 k L6 u z t p ins q xs kd pa dD off len tx i0 false xs[i].f2):=by
 refine wB (lV.j0.eq_2 _ _ _ _ _ _ _ _ _ _ _ _ _ _ _ _ _) ?_
 have hz:=(hs _ (List.getElem_mem hi)).2
 have hb:=ab4 xs (fun y hy=>(hs y hy).2)
 have e1:=MK (xs[i].f2.size:Int) (by omega)
 have e2:=MK (u.size:Int) (by omega)
 refine nP (aa7 xs hx (fun y hy=>(hs y hy).2)) (nP (iQ (LX _ (by omega) (by omega))) (nP (iQ (LX _ (by omega) (by omega))) (nI (by simp) ?_)))
 cases L6 with
 | false=>exact nI (by simp) (h0 rfl)
 | true =>
  have es:=ab5 xs i hi u hf
  refine lq rfl ?_
  rw [oW (x:=qO xs 0 - vS (xs[i].f2.size:Int)) (by omega) (by omega),oW (by omega) (by omega),← es]
  by_cases c:qO (xs.set i ⟨xs[i].f0,xs[i].f1,u⟩) 0 > q
  ·exact lq c (h1 rfl (by unfold J3;rw [if_pos c]))
  ·refine nI c (nP (iQ (copy_eq xs (by omega))) (nP (iQ (Jt xs pa (by omega))) ?_))
   rw [hI]
   refine lq (by omega) (lq (by omega) ?_)
   rw [t_ xs i hi,Int.toNat_natCast]
   exact h2 rfl (by unfold J3;rw [if_neg c])
theorem apw (t p ins q:Int) (xs:List aF) (hx:xs.length≤1048576) (hs:∀ y ∈ xs,y.f0.size≤1048576∧y.f2.size≤1048576) (pa dD:ByteArray) (off len:Int) (tx i0:ByteArray) (ho:(Lit.int .i64 off).wf=true) (ht:tx.size≤200) (i:Nat) (hi:i < xs.length) (hI:Lib.idxBy (oD pa) xs z43=(i:Int)) (hf:xs[i].f1=false):lu xs (fun k=>kV.f k t p ins q xs (i:Int) 7 pa dD off len tx) (fun k=>lV.f k t p ins q xs 7 pa dD off len tx i0 false xs[i].f2):=by
 have es:=same_eq xs (by omega)
 have hz:=(hs _ (List.getElem_mem hi)).2
 have hw:=adZ xs[i].f2 off tx hz
 have bo:=wf64 ho
 unfold kV.f lV.f
 refine jJ (by omega) (jJ (by omega) (mD (by decide) (jJ rfl ?_)))
 refine nP (iQ (Gp _ _ _)) (nP (iQ (VP _ _ (by omega))) (lq rfl (nP (iQ (Gp _ _ _)) (nP (iQ (aa9 _ _ _ (by omega) (by omega) ho)) ?_))))
 rw [t_ xs i hi,oW (x:=128 - (tx.size:Int)) (by omega) (by omega)]
 have no:∀ z:Bool,z=true→lu xs (fun k=>kV.j1 k (i:Int) xs[i].f2 z t p ins q xs 7 pa dD off len tx) (fun _=>some (xs,12,(⟨#[]⟩:ByteArray),0,false,([]:List ByteArray))):=fun z h=>by
  refine wz (kV.j1.eq_2 _ _ _ _ _ _ _ _ _ _ _ _ _ _) ?_
  exact jJ h (pz (iQ es) (wC (by decide) hx (by omega)))
 by_cases c:off < 0
 ·refine jJ c ?_
  exact Sm _ t p ins q xs hx hs _ _ _ 7 pa dD off len tx i0 i hi hI hf hw (fun _=>no true rfl) (fun h=>by simp at h;omega) (fun h=>by simp at h;omega)
 refine mD c ?_
 refine Sm _ t p ins q xs hx hs _ _ _ 7 pa dD off len tx i0 i hi hI hf hw (fun h=>no _ (by simp at h ⊢;omega)) (fun h e=>?_) (fun h e=>?_)
 all_goals
  refine wz (kV.j1.eq_2 _ _ _ _ _ _ _ _ _ _ _ _ _ _) ?_
  have hh:¬ (decide (off > 128 - (tx.size:Int))=true):=by simp at h ⊢;omega
  refine mD hh (pz (anJ _ _ _ (by omega) (by omega) ho) (pz (WI t p ins q xs hx hs i hi _ hw) ?_))
  rw [e]
  dsimp only
 ·exact mD (by decide) (wC (by decide) hx (by omega))
 ·exact jJ rfl (zn _ rfl (by rw [List.length_set];exact hx) (Nat.zero_le _))
theorem cut_c (t p ins q:Int) (xs:List aF) (hx:xs.length≤1048576) (hs:∀ y ∈ xs,y.f0.size≤1048576∧y.f2.size≤1048576) (pa dD:ByteArray) (off len:Int) (tx i0:ByteArray) (i:Nat) (hi:i < xs.length) (hI:Lib.idxBy (oD pa) xs z43=(i:Int)) (hf:xs[i].f1=false):lu xs (fun k=>kV.f k t p ins q xs (i:Int) 8 pa dD off len tx) (fun k=>lV.f k t p ins q xs 8 pa dD off len tx i0 false xs[i].f2):=by
 have es:=same_eq xs (by omega)
 have hz:=(hs _ (List.getElem_mem hi)).2
 have hw:=Y5 xs[i].f2 len hz
 unfold kV.f lV.f
 refine jJ (by omega) (jJ (by omega) (mD (by decide) (mD (by decide) (pz (iQ (JD _ _ _)) ?_))))
 refine nP (iQ (Gp _ _ _)) (nP (iQ (VP _ _ (by omega))) (nI (by decide) ?_))
 rw [t_ xs i hi]
 refine Sm _ t p ins q xs hx hs _ _ _ 8 pa dD off len tx i0 i hi hI hf hw (fun h=>mD (by rw [h];simp) (pz (iQ es) (wC (by decide) hx (by omega)))) (fun h e=>jJ h (pz (acE _ _ (by omega)) (pz (WI t p ins q xs hx hs i hi _ hw) ?_))) (fun h e=>jJ h (pz (acE _ _ (by omega)) (pz (WI t p ins q xs hx hs i hi _ hw) ?_)))
 ·rw [e];dsimp only;exact wC (by decide) hx (by omega)
 ·rw [e];exact zn (xs.set i ⟨xs[i].f0,xs[i].f1,_⟩,0,⟨#[]⟩,0,false,[]) rfl (by rw [List.length_set];exact hx) (Nat.zero_le _)
theorem Y2 (t p ins q:Int) (xs:List aF) (hx:xs.length≤1048576) (hs:∀ y ∈ xs,y.f0.size≤1048576∧y.f2.size≤1048576) (kd:Int) (pa dD:ByteArray) (off len:Int) (tx i0 i2:ByteArray) (ho:(Lit.int .i64 off).wf=true) (ht:tx.size≤200) (hz:i2.size≤1048576):lu xs (fun _=>(oq.f 5).bind fun b=>some (xs,b.1,b.2.1,b.2.2.1,b.2.2.2.1,b.2.2.2.2)) (fun k=>lV.f k t p ins q xs kd pa dD off len tx i0 true i2):=by
 have j:∀ (a:Bool) (u:ByteArray) (z:Int),u.size≤1048576→lu xs (fun _=>(oq.f 5).bind fun b=>some (xs,b.1,b.2.1,b.2.2.1,b.2.2.2.1,b.2.2.2.2)) (fun k=>lV.j0 k a u z t p ins q xs kd pa dD off len tx i0 true i2):=fun a u z hu=>by
  refine wB (lV.j0.eq_2 _ _ _ _ _ _ _ _ _ _ _ _ _ _ _ _ _) ?_
  exact nP (aa7 xs hx (fun y hy=>(hs y hy).2)) (nP (iQ (LX _ (by omega) (by omega))) (nP (iQ (LX _ (by omega) (by omega))) (lq rfl (wC (by decide) hx (by omega)))))
 unfold lV.f
 refine nP (iQ (Gp _ _ _)) (nP (iQ (VP _ _ (by omega))) ?_)
 by_cases c:kd=7
 ·exact lq c (nP (iQ (Gp _ _ _)) (nP (iQ (aa9 _ _ _ (by omega) (by omega) ho)) (j _ _ _ (adZ _ _ _ hz))))
 ·exact nI c (j _ _ _ (Y5 _ _ hz))
theorem ame {F:Nat→Option R6} (t p ins q:Int) (xs:List aF) (hx:xs.length≤1048576) (hs:∀ y ∈ xs,y.f0.size≤1048576∧y.f2.size≤1048576) (kd:Int) (pa dD:ByteArray) (off len:Int) (tx:ByteArray) (hl:zJ xs pa=0)
  (h:∀ (i0:ByteArray) (d:Bool) (i2:ByteArray),d=zo xs pa→i2.size≤1048576→(d=false→pa.toList≠([47]:List UInt8)∧∃ i:Nat,∃ hi:i < xs.length,Lib.idxBy (oD pa) xs z43=(i:Int)∧i2=xs[i].f2∧xs[i].f1=false)→lu xs F (fun k=>jS.j2 k t p ins q xs kd pa dD off len tx i0 d i2)) :
  lu xs F (fun k=>(uy.f xs pa).bind fun al=>(if al ≥ 0 then (jS.j1 k al (pa.toList != ([47]:List UInt8)) t p ins q xs kd pa dD off len tx (⟨#[47]⟩:ByteArray) true (⟨#[]⟩:ByteArray)) else (jS.j1 k al false t p ins q xs kd pa dD off len tx (⟨#[47]⟩:ByteArray) true (⟨#[]⟩:ByteArray)))):=by
 refine nP (iQ (Jt xs pa (by omega))) ?_
 have root:pa.toList=([47]:List UInt8)→lu xs F (fun k=>jS.j2 k t p ins q xs kd pa dD off len tx (⟨#[47]⟩:ByteArray) true (⟨#[]⟩:ByteArray)):=fun hr=>h _ _ _ (by unfold zo;rw [if_pos hr]) (Nat.zero_le _) (fun c=>by cases c)
 by_cases hc:Lib.idxBy (oD pa) xs z43 ≥ 0
 ·refine lq hc ?_
  refine wB (jS.j1.eq_2 _ _ _ _ _ _ _ _ _ _ _ _ _ _ _ _) ?_
  by_cases hr:pa.toList=([47]:List UInt8)
  ·exact nI (by simp [hr]) (root hr)
  ·obtain ⟨i,hi,ei⟩:=al6 pa xs hc
   have hd:zo xs pa=xs[i].f1:=by unfold zo;rw [if_neg hr,if_pos hc,ei,t_ xs i hi]
   rw [ei]
   refine lq (by simpa using hr) (lq (by omega) (lq (by omega) ?_))
   rw [t_ xs i hi]
   exact h _ _ _ hd.symm (hs _ (List.getElem_mem hi)).2 (fun e=>⟨hr,i,hi,ei,rfl,e⟩)
 ·refine nI hc ?_
  refine wB (jS.j1.eq_2 _ _ _ _ _ _ _ _ _ _ _ _ _ _ _ _) ?_
  rcases amy xs pa hl with e|e
  ·exact nI (by simp) (root e)
  ·exact absurd e hc
theorem afo (t p ins q:Int) (xs:List aF) (hs:∀ y ∈ xs,y.f0.size≤1048576∧y.f2.size≤1048576) (kd:Int) (pa dD:ByteArray) (off len:Int) (tx:ByteArray) (hp:xs.length+pa.size≤1048576) (hu:dD.size≤1048576) (ho:(Lit.int .i64 off).wf=true) (ht:tx.size≤200) (hk:kd≤11):lu xs (fun k=>if kd=1 then (oh.j0 k true t p ins q xs kd pa dD off len tx xs) else (oh.j0 k (kd == 2) t p ins q xs kd pa dD off len tx xs)) (fun k=>jS.f k t p ins q xs kd pa dD off len tx (⟨#[]⟩:ByteArray) false (⟨#[]⟩:ByteArray)):=by
 have hx:xs.length≤1048576:=by omega
 unfold jS.f
 have mk:∀ z:Bool,z=true→lu xs (fun k=>oh.j0 k z t p ins q xs kd pa dD off len tx xs) (fun k=>jS.j0 k z t p ins q xs kd pa dD off len tx (⟨#[]⟩:ByteArray) false (⟨#[]⟩:ByteArray)):=fun z h=>by
  refine wz (oh.j0.eq_2 _ _ _ _ _ _ _ _ _ _ _ _ _) ?_
  refine wB (jS.j0.eq_2 _ _ _ _ _ _ _ _ _ _ _ _ _ _ _) ?_
  exact jJ h (lq h (KU (Dy (new_c t p ins q xs hs kd pa dD off len tx hp _ _ _))))
 by_cases k1:kd=1
 ·exact jJ k1 (lq k1 (mk true rfl))
 refine mD k1 (nI k1 ?_)
 by_cases k2:kd=2
 ·exact mk _ (by simpa using k2)
 refine wz (oh.j0.eq_2 _ _ _ _ _ _ _ _ _ _ _ _ _) ?_
 refine wB (jS.j0.eq_2 _ _ _ _ _ _ _ _ _ _ _ _ _ _ _) ?_
 refine mD (by simpa using k2) (nI (by simpa using k2) (pz (acz xs (by omega) pa) (nP (aa4 xs (by omega) pa (by omega)) ?_)))
 by_cases hl:zJ xs pa=0
 case neg=>exact mD hl (nI hl (wC hl hx (by omega)))
 refine jJ hl (lq hl (pz (Wi xs pa (by omega)) (pz (MO xs pa (by omega)) (ame t p ins q xs hx hs kd pa dD off len tx hl (fun i0 d i2 hd hz hf=>?_)))))
 rw [← hd]
 have dl:=Sz pa xs
 have kl:=aml xs pa
 have acp:=anD pa xs (by omega)
 have Js:=aaX pa xs (by omega)
 have acv:=acw xs (by omega) pa
 have aa1:=aa2 xs (by omega) (fun y h=>by have:=hs y h;omega) pa
 refine wB (jS.j2.eq_2 _ _ _ _ _ _ _ _ _ _ _ _ _ _) ?_
 by_cases k3:kd=3
 ·subst k3
  refine jJ rfl (lq rfl ?_)
  refine wB (jS.j3.eq_2 _ _ _ _ _ _ _ _ _ _ _ _ _ _ _ _) ?_
  refine lq rfl (Dy ?_)
  unfold wX.f
  refine lq rfl ?_
  refine wB (wX.j0.eq_2 _ _ _ _ _ _ _ _ _ _ _ _ _ _ _ _) ?_
  cases d with
  | true=>exact jJ rfl (lq rfl (nP (iQ Js) (wC (by decide) hx (by omega))))
  | false=>exact mD (by simp) (nI (by simp) (lq rfl (pz acp (nP (iQ Js) (zn _ rfl (by dsimp only;omega) (Nat.zero_le _))))))
 refine mD k3 (nI k3 ?_)
 refine wB (jS.j3.eq_2 _ _ _ _ _ _ _ _ _ _ _ _ _ _ _ _) ?_
 by_cases k4:kd=4
 ·subst k4
  refine jJ rfl (lq rfl (Dy ?_))
  unfold wX.f
  refine nI (by decide) ?_
  refine wB (wX.j0.eq_2 _ _ _ _ _ _ _ _ _ _ _ _ _ _ _ _) ?_
  refine nI (by simp) (nI (by decide) ?_)
  by_cases r:pa.toList=([47]:List UInt8)
  ·exact jJ r (lq r (nP (iQ Js) (wC (by decide) hx (by omega))))
  refine mD r (nI r ?_)
  cases d with
  | true =>
   refine jJ rfl (lq rfl (pz acv (nP aa1 ?_)))
   by_cases n:((zH xs pa).length:Int) > 0
   ·exact jJ n (lq n (nP (iQ Js) (wC (by decide) hx (by omega))))
   ·exact mD n (nI n (pz acp (nP (iQ Js) (zn _ rfl (by dsimp only;omega) (Nat.zero_le _)))))
  | false=>exact mD (by simp) (nI (by simp) (nP (iQ Js) (wC (by decide) hx (by omega))))
 refine mD k4 (nI (by simpa using k4) ?_)
 by_cases k5:kd=5
 ·exact jJ k5 (lq k5 (KU (Dy (anp t p ins q xs hx hs kd pa dD off len tx (by omega) hu _ _ _))))
 refine mD k5 (nI k5 ?_)
 by_cases k6:kd=6
 ·subst k6
  refine jJ rfl (lq rfl (Dy ?_))
  refine wz (oh.j1.eq_2 _ _ _ _ _ _ _ _ _ _ _ _ _ _ _ _) ?_
  refine jJ rfl ?_
  cases d with
  | true =>
   unfold zC.f
   exact jJ rfl (lq rfl (wC (by decide) hx (by omega)))
  | false =>
   obtain ⟨hr,i,hi,ei,rfl,ef⟩:=hf rfl
   rw [ei]
   exact mD (by simp) (KU (anl t p ins q xs hx i hi hz pa dD off len tx i0))
 refine mD k6 (nI k6 ?_)
 by_cases k7:kd=7
 ·subst k7
  refine jJ rfl (lq rfl ?_)
  refine wz (oh.j1.eq_2 _ _ _ _ _ _ _ _ _ _ _ _ _ _ _ _) ?_
  refine wB (jS.j4.eq_2 _ _ _ _ _ _ _ _ _ _ _ _ _ _ _ _) ?_
  refine jJ rfl (lq rfl (Dy ?_))
  cases d with
  | true=>exact jJ rfl (Y2 t p ins q xs hx hs 7 pa dD off len tx i0 i2 ho ht hz)
  | false =>
   obtain ⟨hr,i,hi,ei,rfl,ef⟩:=hf rfl
   rw [ei]
   exact mD (by simp) (KU (apw t p ins q xs hx hs pa dD off len tx i0 ho ht i hi ei ef))
 refine mD k7 (nI k7 ?_)
 refine wz (oh.j1.eq_2 _ _ _ _ _ _ _ _ _ _ _ _ _ _ _ _) ?_
 refine wB (jS.j4.eq_2 _ _ _ _ _ _ _ _ _ _ _ _ _ _ _ _) ?_
 by_cases k8:kd=8
 ·subst k8
  refine jJ rfl (lq rfl (Dy ?_))
  cases d with
  | true=>exact jJ rfl (Y2 t p ins q xs hx hs 8 pa dD off len tx i0 i2 ho ht hz)
  | false =>
   obtain ⟨hr,i,hi,ei,rfl,ef⟩:=hf rfl
   rw [ei]
   exact mD (by simp) (KU (cut_c t p ins q xs hx hs pa dD off len tx i0 i hi ei ef))
 refine mD (by simpa using k8) (nI (by simpa using k8) ?_)
 by_cases k9:kd=9
 ·refine jJ k9 (lq k9 ?_)
  cases d with
  | true=>exact jJ rfl (lq rfl (zn _ rfl hx (Nat.zero_le _)))
  | false =>
   obtain ⟨hr,i,hi,ei,rfl,ef⟩:=hf rfl
   rw [ei]
   refine mD (by simp) (nI (by simp) (jJ (by omega) (jJ (by omega) ?_)))
   rw [t_ xs i hi]
   exact zn _ rfl hx (Nat.zero_le _)
 refine mD k9 (nI k9 ?_)
 by_cases ka:kd=10
 ·subst ka
  refine jJ rfl (lq rfl (Dy ?_))
  unfold Bj.f
  cases d with
  | true=>exact jJ rfl (lq rfl (pz acv (nP aa1 (zn _ rfl hx (by dsimp only;omega)))))
  | false=>exact mD (by simp) (nI (by simp) (wC (by decide) hx (by omega)))
 exact mD ka (nI ka (zn _ rfl hx (Nat.zero_le _)))
theorem afp (t p ins q:Int) (xs:List aF) (hs:∀ y ∈ xs,y.f0.size≤1048576∧y.f2.size≤1048576) (kd:Int) (pa dD:ByteArray) (off len:Int) (tx:ByteArray) (hp:xs.length+pa.size≤1048576) (hu:dD.size≤1048576) (ho:(Lit.int .i64 off).wf=true):∃ r:R6,Ev (fun k=>oh.f k t p ins q xs kd pa dD off len tx) r∧Ev (fun k=>Cc.f k t p ins q xs kd pa dD off len tx) r∧r.1.length≤1048576∧r.2.2.2.2.2.length≤1048576:=by
 have hx:xs.length≤1048576:=by omega
 unfold oh.f Cc.f
 have ok:∃ b:Bool,F6.f kd pa dD off len tx=some b∧Fh.f kd pa dD off len tx=some b∧(b=true→kd≤11∧tx.size≤200):=by
  unfold F6.f Fh.f
  rw [JD,Gp,Option.bind_some]
  by_cases c:decide ((1:Int)≤kd∧kd≤11)=true
  ·rw [if_pos c]
   exact ⟨_,rfl,rfl,fun h=>by simp at h c;omega⟩
  ·rw [if_neg c]
   exact ⟨_,rfl,rfl,fun h=>by cases h⟩
 obtain ⟨b,e1,e2,hb⟩:=ok
 cases b with
 | false=>exact ⟨SH xs 16,Ev.bind (iQ (same_eq xs (by omega))) (Ev.bind (iQ e1) (dP (by simp) (dM rfl))),Ev.bind (iQ e2) (dP (by simp) (Ev.bind (iQ (copy_eq xs (by omega))) (dM rfl))),hx,Nat.zero_le _⟩
 | true =>
  obtain ⟨k1,k2⟩:=hb rfl
  obtain ⟨r,y,hr,hy,ly,lr,e⟩:=afo t p ins q xs hs kd pa dD off len tx hp hu ho k2 k1
  refine ⟨r,Ev.bind (iQ (same_eq xs (by omega))) (Ev.bind (iQ e1) (aW rfl hr)),Ev.bind (iQ e2) (aW rfl (Ev.bind hy ?_)),lr⟩
  by_cases c:y.2.1=0
  ·rw [if_pos c] at e
   exact aW c (Ev.bind (iQ (copy_eq _ ly)) (dM e))
  ·rw [if_neg c] at e
   exact dP c (Ev.bind (iQ (copy_eq xs (by omega))) (dM e))

theorem amO (n:Nat):∀ o:ByteArray,o.size+40 * (n+1)≤4000000000000000→∃ r:ByteArray,Ev (fun k=>pI.l0 k n o) r:=by
 induction n using Nat.strongRecOn with
 | _ n ih =>
  intro o ho
  by_cases h:(n:Int) > 0
  ·have hd:wrap64 (Int.tdiv (n:Int) 10)=((n / 10:Nat):Int):=by
    rw [Int.tdiv_eq_ediv_of_nonneg (by omega),oW (by omega) (by omega)];omega
   obtain ⟨r,hr⟩:=ih (n / 10) (by omega) (strOfNums [wrap64 (48+Int.tmod (n:Int) 10) % 256]++o) (by rw [ByteArray.size_append,strOfNums_size];simp only [List.length_singleton];omega)
   refine ⟨r,?_⟩
   refine Ev.step (pI.l0.eq_2 _ _) ?_
   refine aW h (Ev.bind (Ev.now _) (aW (by rw [strOfNums_size];simp only [List.length_singleton];omega) ?_))
   rw [hd]
   exact hr
  ·refine ⟨(⟨#[109]⟩:ByteArray)++o,?_⟩
   refine Ev.step (pI.l0.eq_2 _ _) ?_
   exact dP h (aW (by omega) (dM rfl))
noncomputable def JE (n:Nat):ByteArray:=SB ⟨#[]⟩ (fun k=>pI.f k (n:Int))
theorem JF (n:Nat) (hn:n≤40000000):Ev (fun k=>pI.f k (n:Int)) (JE n):=by
 unfold JE
 apply af'
 by_cases h:(n:Int)≤0
 ·exact ⟨_,by unfold pI.f;exact aW h (Ev.now _)⟩
 ·have e0:(⟨#[]⟩:ByteArray).size=0:=rfl
  obtain ⟨r,hr⟩:=amO n ⟨#[]⟩ (by omega)
  exact ⟨r,by unfold pI.f;exact dP h hr⟩
noncomputable def zN (a n:Nat):List ByteArray:=(List.range' a n).map JE
theorem anO (a n:Nat):(zN a n).length=n:=by simp [zN]
theorem abH (n a:Nat) (hn:n≤1048576) (ha:a≤4000000):∀ (i:Nat) (ys:List ByteArray),i≤n→ys.length=n →
  Ev (fun k=>xg.l0 k ys ((a+i:Nat):Int) i) (((a+n:Nat):Int),ys.take i++zN (a+i) (n - i))
 | i,ys,hi,hl=>by
  refine Ev.step (xg.l0.eq_2 _ _ _) ?_
  by_cases h:i < n
  ·refine aW (by omega) (Ev.bind (JF (a+i) (by omega)) (aW (by omega) ?_))
   rw [kP i (by omega),kP (a+i) (by omega),Int.toNat_natCast]
   refine lF (abH n a hn ha (i+1) (ys.set i _) (by omega) (by simp [hl])) ?_
   congr 1
   rw [List.take_succ_eq_append_getElem (by simp;omega)]
   simp only [List.getElem_set_self,List.append_assoc,List.take_set_of_le (Nat.le_refl i)]
   congr 1
   unfold zN
   rw [show n - i=(n - (i+1))+1 by omega,List.range'_succ]
   simp [Nat.add_assoc]
  ·have:i=n:=by omega
   subst this
   refine dP (by omega) (dM ?_)
   simp [zN,← hl]
 termination_by i=>n - i
theorem amI (xs:List ByteArray) (a:Nat) (hn:xs.length≤1048576) (ha:a≤4000000):Ev (fun k=>xg.f k xs (a:Int)) (((a+xs.length:Nat):Int),zN a xs.length):=by
 unfold xg.f
 have:=abH xs.length a hn ha 0 xs (by omega) rfl
 simpa using this

theorem Z7 (n a:Nat) (hn:n≤1048576) (ha:a≤4000000):∀ (i:Nat),i≤n→Ev (fun k=>w_.l0 k (zN a n) ((a+i:Nat):Int) i) ((a+n:Nat):Int)
 | i,hi=>by
  refine Ev.step (w_.l0.eq_2 _ _ _) ?_
  have hl:=anO a n
  by_cases h:i < n
  ·have he:qV ByteArray.empty (zN a n) (i:Int)=JE (a+i):=by
    rw [CS _ _ i (by omega)];simp [zN]
   rw [he]
   refine aW (by omega) (aW (by omega) (Ev.bind (JF (a+i) (by omega)) (aW rfl ?_)))
   rw [kP i (by omega),kP (a+i) (by omega)]
   exact Z7 n a hn ha (i+1) (by omega)
  ·have:i=n:=by omega
   subst this
   exact dP (by omega) (dM rfl)
 termination_by i=>n - i
theorem ai5 (n a:Nat) (hn:n≤1048576) (ha:a≤4000000):Ev (fun k=>w_.f k (zN a n) (a:Int)) ((a+n:Nat):Int):=by
 unfold w_.f
 have:=Z7 n a hn ha 0 (by omega)
 simpa using this


noncomputable def Pv (a i:Nat):aF:=⟨JE (a+3 * i),((Int.tmod (((a+3 * i+1:Nat):Int)) 3) == 0),JE (a+3 * i+2)⟩
noncomputable def Fg (a n:Nat):List aF:=(List.range' 0 n).map (Pv a)
theorem al7 (a n:Nat):(Fg a n).length=n:=by simp [Fg]
theorem acf (ys:List aF) (x:aF) (i:Nat) (h:i < ys.length):aB (ys.set i x) (i:Int)=x:=by rw [t_ _ i (by simpa using h),List.getElem_set_self]
theorem abG (n a:Nat) (hn:n≤1048577) (ha:a≤10):∀ (i:Nat) (ys:List aF),i≤n→ys.length=n →
  Ev (fun k=>x8.l0 k ys ((a+3 * i:Nat):Int) (i:Int)) (((a+3 * n:Nat):Int),ys.take i++(List.range' i (n - i)).map (Pv a))
 | i,ys,hi,hl=>by
  refine Ev.step (x8.l0.eq_2 _ _ _) ?_
  by_cases h:i < n
  ·have e1:wrap64 (((a+3 * i:Nat):Int)+1)=((a+3 * i+1:Nat):Int):=kP _ (by omega)
   have e2:wrap64 (((a+3 * i+1:Nat):Int)+1)=((a+3 * i+2:Nat):Int):=kP _ (by omega)
   have e3:wrap64 (((a+3 * i+2:Nat):Int)+1)=((a+3 * (i+1):Nat):Int):=by rw [show a+3 * (i+1)=a+3 * i+2+1 by omega];exact kP _ (by omega)
   refine aW (by omega) (Ev.bind (JF _ (by omega)) (aW (by omega) (Ev.bind (Ev.now _) (Ev.bind (Ev.now _) ?_))))
   rw [e1,e2,e3,Int.toNat_natCast,kP i (by omega)]
   refine Ev.bind (JF _ (by omega)) ?_
   refine lF (abG n a hn ha (i+1) _ (by omega) (by rw [List.length_set,List.length_set,List.length_set];exact hl)) ?_
   rw [acf ys _ i (by omega),acf (ys.set i _) _ i (by rw [List.length_set];omega)]
   simp only [List.set_set]
   congr 1
   rw [List.take_succ_eq_append_getElem (by simp;omega)]
   simp only [List.getElem_set_self,List.append_assoc,List.take_set_of_le (Nat.le_refl i)]
   congr 1
   rw [show n - i=(n - (i+1))+1 by omega,List.range'_succ]
   rfl
  ·have:i=n:=by omega
   subst this
   refine dP (by omega) (dM ?_)
   simp [← hl]
 termination_by i=>n - i
theorem amJ (xs:List aF) (hn:xs.length≤1048577):Ev (fun k=>CO.f k xs 1) (((1+3 * xs.length:Nat):Int),Fg 1 xs.length):=by
 have he:=abG xs.length 1 hn (by omega) 0 xs (by omega) rfl
 rw [List.take_zero,List.nil_append,Nat.sub_zero] at he
 unfold CO.f x8.f
 exact Ev.bind he (dM rfl)
theorem Z5 (n a:Nat) (hn:n≤1048577) (ha:a≤10):∀ (i:Nat),i≤n→Ev (fun k=>mQ.l0 k (Fg a n) ((a+3 * i:Nat):Int) (i:Int)) ((a+3 * n:Nat):Int)
 | i,hi=>by
  refine Ev.step (mQ.l0.eq_2 _ _ _) ?_
  have hl:=al7 a n
  by_cases h:i < n
  ·have e1:wrap64 (((a+3 * i:Nat):Int)+1)=((a+3 * i+1:Nat):Int):=kP _ (by omega)
   have e2:wrap64 (((a+3 * i+1:Nat):Int)+1)=((a+3 * i+2:Nat):Int):=kP _ (by omega)
   have e3:wrap64 (((a+3 * i+2:Nat):Int)+1)=((a+3 * (i+1):Nat):Int):=by rw [show a+3 * (i+1)=a+3 * i+2+1 by omega];exact kP _ (by omega)
   have he:aB (Fg a n) (i:Int)=Pv a i:=by
    rw [t_ _ i (by omega)];simp [Fg]
   rw [he,e1,e2,e3,kP i (by omega)]
   exact aW (by omega) (aW (by omega) (Ev.bind (JF _ (by omega)) (aW rfl (dP (by simp [Pv]) (Ev.bind (JF _ (by omega)) (aW rfl (Z5 n a hn ha (i+1) (by omega))))))))
  ·have:i=n:=by omega
   subst this
   exact dP (by omega) (dM rfl)
 termination_by i=>n - i
theorem ai6 (n:Nat) (hn:n≤1048577):Ev (fun k=>CJ.f k (Fg 1 n) 1) ((1+3 * n:Nat):Int):=by
 unfold CJ.f mQ.f
 exact Ev.bind (Z5 n 1 hn (by omega) 0 (by omega)) (dP (by omega) (dM rfl))

def J8 (a0:Int) (a1:ByteArray) (a2:ByteArray) (a3:Int) (a4:Int) (a5:ByteArray):Nat:=a1.size+(a2.size+(a5.size+(0)))
theorem an2 (a0:Int) (a1:ByteArray) (a2:ByteArray) (a3:Int) (a4:Int) (a5:ByteArray) (h1:a1.size≤140737488351232) (h2:a2.size≤140737488351232) (h5:a5.size≤140737488351232) (a:Int) (g0:0≤a) (g1:a≤1048576):Ev (fun k=>FQ.f a0 a1 a2 a3 a4 a5 a) (left a (J8 a0 a1 a2 a3 a4 a5)):=by
 unfold FQ.f J8
 have b1:=h1
 rw [oW (x:=a - (a1.size:Int)) (by omega) (by omega)]
 refine SA a (by omega) (fun q1=>?_)
 have b2:=h2
 rw [oW (x:=(a - (a1.size:Int)) - (a2.size:Int)) (by omega) (by omega)]
 refine SA (a - (a1.size:Int)) (by omega) (fun q2=>?_)
 have b5:=h5
 rw [oW (x:=((a - (a1.size:Int)) - (a2.size:Int)) - (a5.size:Int)) (by omega) (by omega)]
 refine SA ((a - (a1.size:Int)) - (a2.size:Int)) (by omega) (fun q5=>?_)
 exact dM (abB (by omega)).symm




theorem Zc (xs:List ByteArray) (hn:xs.length≤1048576):∀ (i:Nat),i≤xs.length→Ev (fun k=>wZ.l0 k xs xs i) true
 | i,hi=>by
  refine Ev.step (wZ.l0.eq_2 _ _ _) ?_
  by_cases h:i < xs.length
  ·refine aW (by omega) (aW (by omega) (aW (by omega) (aW rfl ?_)))
   rw [kP i (by omega)]
   exact Zc xs hn (i+1) (by omega)
  ·exact dP (by omega) (dM rfl)
 termination_by i=>xs.length - i
theorem af8 (xs:List ByteArray) (hn:xs.length≤1048576):Ev (fun k=>wZ.f k xs xs) true:=by
 unfold wZ.f
 exact aW rfl (Zc xs hn 0 (by omega))

theorem af7 (c:Int) (u:ByteArray) (z:Int) (b:Bool) (l:List ByteArray) (h:l.length≤1048576):Ev (fun k=>Au.f k c u z b l c u z b l) true:=by
 unfold Au.f
 exact aW rfl (aW rfl (aW rfl (dP (by simp) (Ev.bind (af8 l h) (aW rfl (dM rfl))))))
theorem amH (c:Int) (u:ByteArray) (z:Int) (b:Bool) (l:List ByteArray) (a:Nat) (h:l.length≤1048576) (ha:a≤4000000):Ev (fun k=>FP.f k c u z b l (a:Int)) (((a+l.length:Nat):Int),zN a l.length):=by
 unfold FP.f
 exact Ev.bind (amI l a h ha) (dM rfl)
theorem ai4 (c:Int) (u:ByteArray) (z:Int) (b:Bool) (n a:Nat) (h:n≤1048576) (ha:a≤4000000):Ev (fun k=>CG.f k c u z b (zN a n) (a:Int)) ((a+n:Nat):Int):=by
 unfold CG.f
 exact Ev.bind (ai5 n a h ha) (dP (by omega) (dM rfl))
theorem an8 (a b c d:Int):Ev (fun _:Nat=>BD.f a b c d) (a,b,c,d):=dM rfl
theorem an7 (a:Int) (b c:ByteArray) (d e:Int) (f:ByteArray):Ev (fun _:Nat=>BA.f a b c d e f) (a,b,c,d,e,f):=dM rfl
theorem FnExactAsked:lY.aeS:=by
 intro t p ins q xs kd pa dD off len tx w0 w1 w2 w3 hx w4 hp hu w5 w6 ht
 apply Ev.rounds
 unfold lY.f
 refine Ev.bind (an5 xs hx _ (by omega) (by omega)) ?_
 by_cases h:left 1048576 (AP xs) < 0
 ·exact aW h (dM rfl)
 have lw:=left_le (show 0≤left 1048576 (AP xs) by omega)
 have nw:=apx (xs:=xs) (a:=1048576) (by omega) (by omega)
 have nx:=nw.1
 refine dP h (Ev.bind (an2 kd pa dD off len tx hp hu ht _ (by omega) (by omega)) ?_)
 by_cases h2:left (left 1048576 (AP xs)) (J8 kd pa dD off len tx) < 0
 ·exact aW h2 (dM rfl)
 have aCz:=left_le (show 0≤left (left 1048576 (AP xs)) (J8 kd pa dD off len tx) by omega)
 refine dP h2 ?_
 have nl:(xs.map DC).length=xs.length:=List.length_map _
 have nz:∀ y ∈ xs.map DC,y.f0.size≤1048576∧y.f2.size≤1048576:=fun y hy=>by
  obtain ⟨z,hz,rfl⟩:=List.mem_map.1 hy
  have:=nw.2 z hz
  unfold C_ at this
  show z.f0.size≤_∧z.f2.size≤_
  omega
 obtain ⟨r,hS,hI,l1,l2⟩:=afp t p ins q (xs.map DC) nz kd pa dD off len tx (by rw [nl];unfold AP J8 at *;omega) (by unfold AP J8 at *;omega) w5
 obtain ⟨rv,rc,aCF,rz,rb,rl⟩:=r
 dsimp only at l1 l2
 repeat' first
  | (with_reducible exact dM rfl)
  | (with_reducible refine Ev.bind (aod xs nx) ?_)
  | (with_reducible refine Ev.bind (an8 _ _ _ _) ?_)
  | (with_reducible refine Ev.bind (an7 _ _ _ _ _ _) ?_)
  | (with_reducible refine Ev.bind (hS) ?_)
  | (with_reducible refine Ev.bind (hI) ?_)
  | (with_reducible refine Ev.bind (af9 _ (by omega)) ?_)
  | (with_reducible refine Ev.bind (af7 _ _ _ _ _ (by omega)) ?_)
  | (with_reducible refine Ev.bind (amJ _ (by omega)) ?_)
  | (with_reducible refine Ev.bind (amH _ _ _ _ _ _ (by omega) (by omega)) ?_)
  | (with_reducible refine Ev.bind (ai6 _ (by omega)) ?_)
  | (with_reducible refine Ev.bind (ai4 _ _ _ _ _ _ (by omega) (by omega)) ?_)
  | (with_reducible refine aW rfl ?_)
  | ((with_reducible refine aW ?c_ ?_);(case c_=>first|rfl|omega|(dsimp only;omega)|(simp only [decide_eq_true_eq];omega)|(simp;done)))
  | ((with_reducible refine dP ?c_ ?_);(case c_=>first|rfl|omega|(dsimp only;omega)|(simp only [decide_eq_true_eq];omega)|(simp;done)))
  | (refine Ev.step (lY.j0.eq_2 _ _ _ _ _ _ _ _ _ _ _ _ _ _ _ _ _ _ _ _ _ _ _ _ _) ?_)
  | (refine Ev.step (lY.j1.eq_2 _ _ _ _ _ _ _ _ _ _ _ _ _ _ _ _ _ _ _ _ _ _ _ _) ?_)
  | (refine Ev.step (lY.j2.eq_2 _ _ _ _ _ _ _ _) ?_)
  | ((with_reducible refine dM ?c_);(case c_=>first|rfl|(simp;done)))
  | (dsimp only)

end Go.Proofs.YthejdhjpbpamoaaGreatDoor.Pure
