/- The pure statement of FnExactReadPart is proved: for all arguments within the row's own bounds the Lean function that the law's walk comes to answers true. Conditions: none beyond these bounds. -/
import Derived.Test.YtleoknilacjakaaGreatDoorStFnExactReadPart
import Derived.Test.YtleoknilacjakaaGreatDoorBase
namespace Go.Proofs.YtleoknilacjakaaGreatDoor.Pure
open Go.RowKit Go.Proofs.YtleoknilacjakaaGreatDoor.PFnExactReadPart Go.Proofs.YtleoknilacjakaaGreatDoorW.PrintWords Go.Proofs.YtleoknilacjakaaGreatDoorW.PrintLast Go.Proofs.YtleoknilacjakaaGreatDoor.Base
set_option linter.unusedVariables false
set_option linter.unusedSimpArgs false

def wiEntry (x:S90):Nat:=x.f1.size+(0)

def wiEntryS (xs:List S90):Nat:=xs.length+sumBy wiEntry xs




theorem rdiEntry (xs:List S90) (i:Nat) (h:i < xs.length):rd_T90 xs (i:Int)=xs[i]:=getD_at _ xs i h


theorem eqEntry_ev (x:S90):Ev (fun _=>laws_eqEntry.f x.f0 x.f1 x.f0 x.f1) true:=ev_eq (by simp [laws_eqEntry.f])
theorem eqEntryS_l (xs:List S90) (hn:wiEntryS xs≤4000000):∀ (i:Nat),i≤xs.length→Ev (fun k=>laws_eqEntryS.l0 k xs xs i) true
 | i,hi=>by
  have hn2:xs.length≤4000000:=by unfold wiEntryS at hn;omega
  refine Ev.step (laws_eqEntryS.l0.eq_2 _ _ _) ?_
  by_cases h:i < xs.length
  ·refine ev_pos (by omega) (ev_pos (by omega) (ev_pos (by omega) ?_))
   rw [w64s i (by omega),rdiEntry xs i h]
   exact Ev.bind (eqEntry_ev _) (ev_pos rfl (eqEntryS_l xs hn (i+1) (by omega)))
  ·exact ev_neg (by omega) (ev_now rfl)
 termination_by i=>xs.length - i
theorem eqEntryS_ev (xs:List S90) (hn:wiEntryS xs≤4000000):Ev (fun k=>laws_eqEntryS.f k xs xs) true:=by
 unfold laws_eqEntryS.f
 exact ev_pos rfl (eqEntryS_l xs hn 0 (by omega))



def wiRec (x:S86):Nat:=x.f2.size+(0)

def wiRecS (xs:List S86):Nat:=xs.length+sumBy wiRec xs




theorem rdiRec (xs:List S86) (i:Nat) (h:i < xs.length):rd_T86 xs (i:Int)=xs[i]:=getD_at _ xs i h


theorem eqRec_ev (x:S86):Ev (fun _=>laws_eqRec.f x.f0 x.f1 x.f2 x.f0 x.f1 x.f2) true:=ev_eq (by simp [laws_eqRec.f])
theorem eqRecS_l (xs:List S86) (hn:wiRecS xs≤4000000):∀ (i:Nat),i≤xs.length→Ev (fun k=>laws_eqRecS.l0 k xs xs i) true
 | i,hi=>by
  have hn2:xs.length≤4000000:=by unfold wiRecS at hn;omega
  refine Ev.step (laws_eqRecS.l0.eq_2 _ _ _) ?_
  by_cases h:i < xs.length
  ·refine ev_pos (by omega) (ev_pos (by omega) (ev_pos (by omega) ?_))
   rw [w64s i (by omega),rdiRec xs i h]
   exact Ev.bind (eqRec_ev _) (ev_pos rfl (eqRecS_l xs hn (i+1) (by omega)))
  ·exact ev_neg (by omega) (ev_now rfl)
 termination_by i=>xs.length - i
theorem eqRecS_ev (xs:List S86) (hn:wiRecS xs≤4000000):Ev (fun k=>laws_eqRecS.f k xs xs) true:=by
 unfold laws_eqRecS.f
 exact ev_pos rfl (eqRecS_l xs hn 0 (by omega))



def wiInode (x:S62):Nat:=x.f3.size+(wiRecS x.f4+(wiEntryS x.f5+(0)))

def wiInodeS (xs:List S62):Nat:=xs.length+sumBy wiInode xs




theorem rdiInode (xs:List S62) (i:Nat) (h:i < xs.length):rd_T62 xs (i:Int)=xs[i]:=getD_at _ xs i h




theorem eqInode_ev (x:S62) (hw:wiInode x≤4000000):Ev (fun k=>laws_eqInode.f k x.f0 x.f1 x.f2 x.f3 x.f4 x.f5 x.f0 x.f1 x.f2 x.f3 x.f4 x.f5) true:=by
 unfold wiInode at hw
 unfold laws_eqInode.f
 refine ev_pos rfl ?_
 refine ev_pos rfl ?_
 refine ev_pos rfl ?_
 refine ev_pos rfl ?_
 refine Ev.bind (eqRecS_ev x.f4 (by omega)) (ev_pos rfl ?_)
 refine Ev.bind (eqEntryS_ev x.f5 (by omega)) (ev_pos rfl ?_)
 exact ev_now rfl

theorem eqInodeS_l (xs:List S62) (hn:wiInodeS xs≤4000000):∀ (i:Nat),i≤xs.length→Ev (fun k=>laws_eqInodeS.l0 k xs xs i) true
 | i,hi=>by
  have hn2:xs.length≤4000000:=by unfold wiInodeS at hn;omega
  refine Ev.step (laws_eqInodeS.l0.eq_2 _ _ _) ?_
  by_cases h:i < xs.length
  ·refine ev_pos (by omega) (ev_pos (by omega) (ev_pos (by omega) ?_))
   rw [w64s i (by omega),rdiInode xs i h]
   exact Ev.bind (eqInode_ev _ (by have:=sumBy_mem (f:=wiInode) (List.getElem_mem h);unfold wiInodeS at hn;omega)) (ev_pos rfl (eqInodeS_l xs hn (i+1) (by omega)))
  ·exact ev_neg (by omega) (ev_now rfl)
 termination_by i=>xs.length - i
theorem eqInodeS_ev (xs:List S62) (hn:wiInodeS xs≤4000000):Ev (fun k=>laws_eqInodeS.f k xs xs) true:=by
 unfold laws_eqInodeS.f
 exact ev_pos rfl (eqInodeS_l xs hn 0 (by omega))


theorem l01In_eq (a b c:Int):spec_l01In.f a b c=some (decide (b≤a∧a≤c)):=by
 unfold spec_l01In.f
 by_cases h:a ≥ b
 ·rw [if_pos h];congr 1;simp;omega
 ·rw [if_neg h];congr 1;simp;omega

theorem within_eq (a b c:Int):impl_within.f a b c=some (decide (b≤a∧a≤c)):=by
 unfold impl_within.f
 by_cases h:a ≥ b
 ·rw [if_pos h];congr 1;simp;omega
 ·rw [if_neg h];congr 1;simp;omega

def gOk (t p i q:Int):Bool:=decide ((1≤t∧t≤3)∧(5≤p∧p≤12)∧(2≤i∧i≤6)∧(1≤q∧q≤p - 4))
theorem gOk_parts {t p i q:Int} (h:gOk t p i q=true):(1≤t∧t≤3)∧(5≤p∧p≤12)∧(2≤i∧i≤6)∧(1≤q∧q≤p - 4):=by simpa [gOk] using h
theorem sGeo_eq (t p i q:Int):spec_GeoOk.f t p i q=some (gOk t p i q):=by
 unfold spec_GeoOk.f gOk
 rw [l01In_eq,Option.bind_some]
 by_cases h1:1≤t∧t≤3
 ·rw [if_pos (by simpa using h1),l01In_eq,Option.bind_some]
  by_cases h2:5≤p∧p≤12
  ·rw [if_pos (by simpa using h2),l01In_eq,Option.bind_some]
   by_cases h3:2≤i∧i≤6
   ·rw [if_pos (by simpa using h3),w64 (x:=p - 4) (by omega) (by omega),l01In_eq,Option.bind_some]
    congr 1
    simp [h1,h2,h3]
   ·rw [if_neg (by simpa using h3)];congr 1;symm;rw [decide_eq_false_iff_not];exact fun h=>h3 h.2.2.1
  ·rw [if_neg (by simpa using h2)];congr 1;symm;rw [decide_eq_false_iff_not];exact fun h=>h2 h.2.1
 ·rw [if_neg (by simpa using h1)];congr 1;symm;rw [decide_eq_false_iff_not];exact fun h=>h1 h.1
theorem iGeo_eq (t p i q:Int):impl_GeoOk.f t p i q=some (gOk t p i q):=by
 unfold impl_GeoOk.f gOk
 rw [within_eq,Option.bind_some]
 by_cases h1:1≤t∧t≤3
 ·rw [if_pos (by simpa using h1),within_eq,Option.bind_some]
  by_cases h2:5≤p∧p≤12
  ·rw [if_pos (by simpa using h2),within_eq,Option.bind_some]
   by_cases h3:2≤i∧i≤6
   ·rw [if_pos (by simpa using h3),w64 (x:=p - 4) (by omega) (by omega),within_eq,Option.bind_some]
    congr 1
    simp [h1,h2,h3]
   ·rw [if_neg (by simpa using h3)];congr 1;symm;rw [decide_eq_false_iff_not];exact fun h=>h3 h.2.2.1
  ·rw [if_neg (by simpa using h2)];congr 1;symm;rw [decide_eq_false_iff_not];exact fun h=>h2 h.2.1
 ·rw [if_neg (by simpa using h1)];congr 1;symm;rw [decide_eq_false_iff_not];exact fun h=>h1 h.1
def pW (p i:Int):Int:=38+8 * i+4 * p

theorem sPW_eq {t p i q:Int} (h:gOk t p i q=true):spec_PartWords.f t p i q=some (pW p i):=by
 obtain ⟨h1,h2,h3,h4⟩:=gOk_parts h
 unfold spec_PartWords.f pW
 rw [sGeo_eq,h,Option.bind_some,if_pos rfl,w64 (x:=8 * i) (by omega) (by omega),w64 (x:=4 * p) (by omega) (by omega),w64 (x:=38+8 * i) (by omega) (by omega),w64 (by omega) (by omega)]
theorem iPW_eq {t p i q:Int} (h:gOk t p i q=true):impl_Geo_partWords.f t p i q=some (pW p i):=by
 obtain ⟨h1,h2,h3,h4⟩:=gOk_parts h
 unfold impl_Geo_partWords.f pW
 rw [w64 (x:=8 * i) (by omega) (by omega),w64 (x:=4 * p) (by omega) (by omega),w64 (x:=38+8 * i) (by omega) (by omega),w64 (by omega) (by omega)]
theorem mul3 {a w:Int} (h0:0≤a) (h1:a≤2) (hw0:0≤w) (hw:w≤200):0≤a * w∧a * w≤400:=by
 have:a=0∨a=1∨a=2:=by omega
 rcases this with h|h|h <;> subst h <;> omega
def wtCell (x:S76):Nat:=x.f1.size+(0)
def wiCell (x:S78):Nat:=x.f1.size+(0)
def wtCellS (xs:List S76):Nat:=xs.length+sumBy wtCell xs
def wiCellS (xs:List S78):Nat:=xs.length+sumBy wiCell xs
def cvCell (x:S76):S78:=⟨x.f0,x.f1,x.f2⟩
theorem wiCell_cv (x:S76):wiCell (cvCell x)=wtCell x:=by simp only [wiCell,wtCell,cvCell]
theorem wiCellS_cv (xs:List S76):wiCellS (xs.map cvCell)=wtCellS xs:=by
 unfold wiCellS wtCellS sumBy
 rw [List.length_map,List.map_map,List.map_congr_left (f:=wiCell ∘ cvCell) (g:=wtCell) (fun x _=>wiCell_cv x)]
theorem rdlCell (xs:List S76) (i:Nat) (h:i < xs.length):rd_T76 xs (i:Int)=xs[i]:=getD_at _ xs i h
theorem rdiCell (xs:List S78) (i:Nat) (h:i < xs.length):rd_T78 xs (i:Int)=xs[i]:=getD_at _ xs i h
theorem szCell_ev (x:S76) (hx:Wf76 x) (a:Int) (g0:0≤a) (g1:a≤1048576):Ev (fun k=>laws_szCell.f x.f0 x.f1 x.f2 a) (left a (wtCell x)):=by
 unfold laws_szCell.f wtCell
 have b1:=(hx.2.1)
 rw [w64 (x:=a - (x.f1.size:Int)) (by omega) (by omega)]
 refine ev_sub a (by omega) (fun q1=>?_)
 exact ev_now (left_zero (by omega)).symm
theorem szCellS_l (xs:List S76) (hn:xs.length≤1048576) (hw:∀ y ∈ xs,Wf76 y):∀ (i:Nat) (a:Int),i≤xs.length→0≤a→a≤1048576→Ev (fun k=>laws_szCellS.l0 k xs a i) (left a (sumBy wtCell (xs.drop i)))
 | i,a,hi,h0,h1=>by
  refine Ev.step (laws_szCellS.l0.eq_2 _ _ _) ?_
  by_cases h:i < xs.length
  ·refine ev_pos (by omega) (ev_pos (by omega) ?_)
   rw [rdlCell xs i h,w64s i (by omega),drop_at xs i h,sumBy_cons]
   refine Ev.bind (szCell_ev _ (hw _ (List.getElem_mem h)) a h0 h1) (ev_call (fun q=>?_))
   have:=left_le q
   exact szCellS_l xs hn hw (i+1) _ (by omega) (by omega) (by omega)
  ·refine ev_neg (by omega) (ev_now ?_)
   rw [List.drop_of_length_le (by omega),sumBy_nil,left_zero h0]
 termination_by i=>xs.length - i
theorem szCellS_ev (xs:List S76) (hb:xs.length≤140737488351232) (hw:∀ y ∈ xs,Wf76 y) (a:Int) (h0:0≤a) (h1:a≤1048576):Ev (fun k=>laws_szCellS.f k xs a) (left a (wtCellS xs)):=by
 unfold laws_szCellS.f wtCellS
 rw [w64 (x:=a - (xs.length:Int)) (by omega) (by omega)]
 refine ev_sub a h0 (fun q=>?_)
 have:=szCellS_l xs (by omega) hw 0 (a - xs.length) (by omega) (by omega) (by omega)
 rw [List.drop_zero] at this
 exact this

theorem toCellS_l (xs:List S76) (hn:wtCellS xs≤1048576):∀ (i:Nat) (ys:List S78),i≤xs.length→ys.length=xs.length→ys.take i=(xs.map cvCell).take i→Ev (fun k=>laws_toCellS.l0 k xs ys i) (xs.map cvCell)
 | i,ys,hi,hl,ht=>by
  have hn2:xs.length≤1048576:=by unfold wtCellS at hn;omega
  refine Ev.step (laws_toCellS.l0.eq_2 _ _ _) ?_
  by_cases h:i < xs.length
  ·refine ev_pos (by omega) (ev_pos (by omega) ?_)
   have hx:wtCell xs[i]≤1048576:=by have:=sumBy_mem (f:=wtCell) (List.getElem_mem h);unfold wtCellS at hn;omega
   rw [rdlCell xs i h,w64s i (by omega)]
   refine Ev.bind (ev_eq rfl) (ev_pos (by omega) ?_)
   rw [Int.toNat_natCast]
   exact toCellS_l xs hn (i+1) _ (by omega) (by simp [hl]) (take_set (by simp [hl]) ht (by simpa using h) (by simp [cvCell]))
  ·have:i=xs.length:=by omega
   subst this
   exact ev_neg (by omega) (ev_now (take_all (by simp [hl]) (by simpa using ht)))
 termination_by i=>xs.length - i
theorem toCellS_ev (xs:List S76) (hn:wtCellS xs≤1048576):Ev (fun k=>laws_toCellS.f k xs) (xs.map cvCell):=by
 have hn2:xs.length≤1048576:=by unfold wtCellS at hn;omega
 unfold laws_toCellS.f
 exact ev_pos (by omega) (ev_pos (by omega) (toCellS_l xs hn 0 _ (by omega) (by simp) (by simp)))

theorem eqCell_ev (x:S78):Ev (fun _=>laws_eqCell.f x.f0 x.f1 x.f2 x.f0 x.f1 x.f2) true:=ev_eq (by simp [laws_eqCell.f])
theorem eqCellS_l (xs:List S78) (hn:wiCellS xs≤4000000):∀ (i:Nat),i≤xs.length→Ev (fun k=>laws_eqCellS.l0 k xs xs i) true
 | i,hi=>by
  have hn2:xs.length≤4000000:=by unfold wiCellS at hn;omega
  refine Ev.step (laws_eqCellS.l0.eq_2 _ _ _) ?_
  by_cases h:i < xs.length
  ·refine ev_pos (by omega) (ev_pos (by omega) (ev_pos (by omega) ?_))
   rw [w64s i (by omega),rdiCell xs i h]
   exact Ev.bind (eqCell_ev _) (ev_pos rfl (eqCellS_l xs hn (i+1) (by omega)))
  ·exact ev_neg (by omega) (ev_now rfl)
 termination_by i=>xs.length - i
theorem eqCellS_ev (xs:List S78) (hn:wiCellS xs≤4000000):Ev (fun k=>laws_eqCellS.f k xs xs) true:=by
 unfold laws_eqCellS.f
 exact ev_pos rfl (eqCellS_l xs hn 0 (by omega))


def wtMemory (a0:ByteArray) (a1:List S76):Nat:=a0.size+(wtCellS a1+(0))
def wiMemory (a0:ByteArray) (a1:List S78):Nat:=a0.size+(wiCellS a1+(0))
theorem szMemory_ev (a0:ByteArray) (a1:List S76) (h0:a0.size≤140737488351232) (h1:a1.length≤140737488351232∧∀ y ∈ a1,Wf76 y) (a:Int) (g0:0≤a) (g1:a≤1048576):Ev (fun k=>laws_szMemory.f k a0 a1 a) (left a (wtMemory a0 a1)):=by
 unfold laws_szMemory.f wtMemory
 have b0:=h0
 rw [w64 (x:=a - (a0.size:Int)) (by omega) (by omega)]
 refine ev_sub a (by omega) (fun q0=>?_)
 refine Ev.bind (szCellS_ev a1 (by have:=(h1).1;omega) (h1).2 (a - (a0.size:Int)) (by omega) (by omega)) (ev_call (fun q1=>?_))
 have r1:=left_le q1
 exact ev_now (left_zero (by omega)).symm

theorem toMemory_ev (a0:ByteArray) (a1:List S76) (hw:wtMemory a0 a1≤1048576):Ev (fun k=>laws_toMemory.f k a0 a1) (a0,(a1.map cvCell)):=by
 unfold wtMemory at hw
 unfold laws_toMemory.f
 refine Ev.bind (toCellS_ev a1 (by omega)) ?_
 exact ev_now rfl

theorem eqMemory_ev (a0:ByteArray) (a1:List S78) (hw:wiMemory a0 a1≤4000000):Ev (fun k=>laws_eqMemory.f k a0 a1 a0 a1) true:=by
 unfold wiMemory at hw
 unfold laws_eqMemory.f
 refine ev_pos rfl ?_
 refine Ev.bind (eqCellS_ev a1 (by omega)) (ev_pos rfl ?_)
 exact ev_now rfl


def cOk (b:ByteArray) (xs:List S78) (i:Nat):Prop:=∃ h:i < xs.length,(0≤xs[i].f0∧xs[i].f0≤(b.size:Int) / 16 - 1)∧xs[i].f1.size=16∧(0 < i→xs[i - 1].f0 < xs[i].f0)
def csOk (b:ByteArray) (xs:List S78) (i:Nat):Prop:=∀ j,i≤j→j < xs.length→cOk b xs j
open Classical in
noncomputable def csB (b:ByteArray) (xs:List S78) (i:Nat):Bool:=decide (csOk b xs i)
theorem csB_pos {b:ByteArray} {xs:List S78} {i:Nat} (h:cOk b xs i):csB b xs i=csB b xs (i+1):=by
 unfold csB
 congr 1
 refine propext ⟨fun g j hj hl=>g j (by omega) hl,fun g j hj hl=>?_⟩
 by_cases e:j=i
 ·subst e;exact h
 ·exact g j (by omega) hl
theorem csB_neg {b:ByteArray} {xs:List S78} {i:Nat} (hi:i < xs.length) (h:¬ cOk b xs i):csB b xs i=false:=by
 have:¬ csOk b xs i:=fun g=>h (g i (by omega) hi)
 unfold csB
 simp [this]
theorem csB_end {b:ByteArray} {xs:List S78} {i:Nat} (hi:xs.length≤i):csB b xs i=true:=by
 have:csOk b xs i:=fun j hj hl=>by omega
 unfold csB
 simp [this]
noncomputable def mOk (b:ByteArray) (xs:List S78):Bool:=decide (b.size % 16=0∧b.size≤16000) && csB b xs 0
theorem sMem_l (b:ByteArray) (xs:List S78) (hb:b.size≤4000000) (hn:xs.length≤4000000):∀ i:Nat,i≤xs.length→Ev (fun k=>spec_MemoryOk.l0 k i b xs) (csB b xs i)
 | i,hi=>by
  refine Ev.step (spec_MemoryOk.l0.eq_2 _ _ _) ?_
  by_cases h:i < xs.length
  ·refine ev_pos (by omega) (ev_pos (by omega) ?_)
   unfold spec_l10Size.f
   refine Ev.bind (Ev.now _) (ev_neg (by omega) ?_)
   rw [rdiCell xs i h,w64 (x:=(b.size:Int) / 16) (by omega) (by omega),w64 (x:=(b.size:Int) / 16 - 1) (by omega) (by omega)]
   refine Ev.bind (ev_eq (l01In_eq _ _ _)) ?_
   have next:=sMem_l b xs hb hn (i+1) (by omega)
   rw [w64s i (by omega)]
   by_cases h1:0≤xs[i].f0∧xs[i].f0≤(b.size:Int) / 16 - 1
   ·refine ev_pos (by simpa using h1) (Ev.bind (Ev.now _) ?_)
    by_cases h2:(xs[i].f1.size:Int)=16
    ·refine ev_pos h2 ?_
     by_cases h3:(i:Int) > 0
     ·refine ev_pos h3 ?_
      rw [w64 (x:=(i:Int) - 1) (by omega) (by omega),show (i:Int) - 1=((i - 1:Nat):Int) by omega,rdiCell xs (i - 1) (by omega)]
      refine ev_pos (by omega) (ev_pos (by omega) ?_)
      by_cases h4:xs[i - 1].f0 ≥ xs[i].f0
      ·exact ev_pos h4 (ev_now (csB_neg h (fun ⟨_,_,_,g⟩=>by have:=g (by omega);omega)).symm)
      ·exact ev_neg h4 (ev_to next (csB_pos ⟨h,h1,by omega,fun _=>by omega⟩).symm)
     ·exact ev_neg h3 (ev_to next (csB_pos ⟨h,h1,by omega,fun g=>by omega⟩).symm)
    ·exact ev_neg h2 (ev_now (csB_neg h (fun ⟨_,_,g,_⟩=>h2 (by omega))).symm)
   ·exact ev_neg (by simpa using h1) (ev_now (csB_neg h (fun ⟨_,g,_⟩=>h1 g)).symm)
  ·exact ev_neg (by omega) (ev_now (csB_end (by omega)).symm)
 termination_by i=>xs.length - i
theorem sMem_ev (b:ByteArray) (xs:List S78) (hb:b.size≤4000000) (hn:xs.length≤4000000):Ev (fun k=>spec_MemoryOk.f k b xs) (mOk b xs):=by
 unfold spec_MemoryOk.f spec_l10Size.f mOk
 refine Ev.bind (Ev.now _) (ev_neg (by omega) ?_)
 by_cases h1:(b.size:Int) % 16=0
 ·refine ev_pos h1 (Ev.bind (Ev.now _) ?_)
  rw [w64 (x:=1000 * 16) (by omega) (by omega)]
  refine Ev.step (spec_MemoryOk.j0.eq_2 _ _ _) ?_
  by_cases h2:(b.size:Int) > 1000 * 16
  ·exact ev_pos (by simpa using h2) (ev_now (by rw [decide_eq_false (by omega)];rfl))
  ·exact ev_neg (by simpa using h2) (ev_to (sMem_l b xs hb hn 0 (by omega)) (by rw [decide_eq_true ⟨by omega,by omega⟩];rfl))
 ·refine ev_neg h1 ?_
  refine Ev.step (spec_MemoryOk.j0.eq_2 _ _ _) ?_
  exact ev_pos rfl (ev_now (by rw [decide_eq_false (by omega)];rfl))
theorem iMem_l (b:ByteArray) (xs:List S78) (hb:b.size≤4000000) (hn:xs.length≤4000000):∀ i:Nat,i≤xs.length→Ev (fun k=>impl_MemoryOk.l0 k xs xs.length i b xs) (decide (b.size % 16=0∧b.size≤16000) && csB b xs i)
 | i,hi=>by
  refine Ev.step (impl_MemoryOk.l0.eq_2 _ _ _ _ _) ?_
  by_cases h:i < xs.length
  ·refine ev_pos (by omega) (ev_pos (by omega) (ev_pos (by omega) ?_))
   rw [rdiCell xs i h,w64 (x:=(b.size:Int) / 16) (by omega) (by omega),w64 (x:=(b.size:Int) / 16 - 1) (by omega) (by omega)]
   refine Ev.bind (ev_eq (within_eq _ _ _)) ?_
   have next:=iMem_l b xs hb hn (i+1) (by omega)
   rw [w64s i (by omega)]
   by_cases h1:0≤xs[i].f0∧xs[i].f0≤(b.size:Int) / 16 - 1
   ·refine ev_pos (by simpa using h1) ?_
    by_cases h2:(xs[i].f1.size:Int)=16
    ·refine ev_pos h2 ?_
     by_cases h3:(i:Int) > 0
     ·refine ev_pos h3 ?_
      rw [w64 (x:=(i:Int) - 1) (by omega) (by omega),show (i:Int) - 1=((i - 1:Nat):Int) by omega,rdiCell xs (i - 1) (by omega)]
      refine ev_pos (by omega) (ev_pos (by omega) ?_)
      by_cases h4:xs[i].f0≤xs[i - 1].f0
      ·exact ev_pos h4 (ev_now (by rw [csB_neg h (fun ⟨_,_,_,g⟩=>by have:=g (by omega);omega),Bool.and_false]))
      ·exact ev_neg h4 (ev_to next (by rw [csB_pos ⟨h,h1,by omega,fun _=>by omega⟩]))
     ·exact ev_neg h3 (ev_to next (by rw [csB_pos ⟨h,h1,by omega,fun g=>by omega⟩]))
    ·exact ev_neg h2 (ev_now (by rw [csB_neg h (fun ⟨_,_,g,_⟩=>h2 (by omega)),Bool.and_false]))
   ·exact ev_neg (by simpa using h1) (ev_now (by rw [csB_neg h (fun ⟨_,g,_⟩=>h1 g),Bool.and_false]))
  ·refine ev_neg (by omega) ?_
   rw [csB_end (by omega),Bool.and_true]
   by_cases h1:(b.size:Int) % 16=0
   ·refine ev_pos h1 (ev_now ?_)
    by_cases h2:(b.size:Int)≤16000
    ·rw [decide_eq_true h2,decide_eq_true ⟨by omega,by omega⟩]
    ·rw [decide_eq_false h2,decide_eq_false (by omega)]
   ·exact ev_neg h1 (ev_now (by rw [decide_eq_false (by omega)]))
 termination_by i=>xs.length - i
theorem iMem_ev (b:ByteArray) (xs:List S78) (hb:b.size≤4000000) (hn:xs.length≤4000000):Ev (fun k=>impl_MemoryOk.f k b xs) (mOk b xs):=by
 unfold impl_MemoryOk.f
 exact iMem_l b xs hb hn 0 (by omega)
theorem mOk_parts {b:ByteArray} {xs:List S78} (h:mOk b xs=true):b.size % 16=0∧b.size≤16000∧csOk b xs 0:=by
 unfold mOk csB at h
 simp only [Bool.and_eq_true,decide_eq_true_eq] at h
 exact ⟨h.1.1,h.1.2,h.2⟩
theorem csOk_lt {b:ByteArray} {xs:List S78} (h:csOk b xs 0):∀ (d i:Nat) (hj:i+d+1 < xs.length),xs[i].f0 < xs[i+d+1].f0
 | 0,i,hj=>by
  obtain ⟨_,_,_,g⟩:=h (i+0+1) (by omega) hj
  exact g (by omega)
 | d+1,i,hj=>by
  have h1:=csOk_lt h d i (by omega)
  obtain ⟨_,_,_,g⟩:=h (i+(d+1)+1) (by omega) hj
  have h2:=g (by omega)
  simp only [show i+(d+1)+1 - 1=i+d+1 by omega] at h2
  omega

theorem u64c {x:Int} (h0:0≤x) (h1:x < 18446744073709551616):IntKind.u64.wrap x=x:=by
 have b:IntKind.u64.bits=64:=rfl
 have s:IntKind.u64.signed=false:=rfl
 simp only [IntKind.wrap,b,s,Bool.false_and,Bool.false_eq_true,if_false]
 omega
def cAt (a:Int):List S78→Nat→Int
 | [],_=>-1
 | x :: r,i=>if x.f0=a then i else cAt a r (i+1)
theorem cAt_none (a:Int):∀ (xs:List S78) (i:Nat),(∀ y ∈ xs,y.f0≠a)→cAt a xs i = -1
 | [],_,_=>rfl
 | x :: r,i,h=>by
  simp only [cAt]
  rw [if_neg (h x (by simp))]
  exact cAt_none a r (i+1) (fun y hy=>h y (by simp [hy]))
theorem cAt_some (a:Int):∀ (xs:List S78) (i m:Nat) (hm:m < xs.length),xs[m].f0=a→(∀ j,(hj:j < m)→xs[j].f0≠a)→cAt a xs i=(i:Int)+m
 | [],_,m,hm,_,_=>absurd hm (Nat.not_lt_zero _)
 | x :: r,i,0,hm,he,_=>by simp only [cAt];rw [if_pos (show x.f0=a from he)];omega
 | x :: r,i,m+1,hm,he,hj=>by
  simp only [cAt]
  rw [if_neg (show ¬ x.f0=a from hj 0 (by omega))]
  rw [cAt_some a r (i+1) m (by simpa using hm) he (fun j h=>hj (j+1) (by omega))]
  omega
theorem sCell_l (b:ByteArray) (xs:List S78) (hn:xs.length≤4000000) (a:Int):∀ i:Nat,i≤xs.length→Ev (fun k=>spec_l10Cell.l0 k a i b xs) (cAt a (xs.drop i) i)
 | i,hi=>by
  refine Ev.step (spec_l10Cell.l0.eq_2 _ _ _ _) ?_
  by_cases h:i < xs.length
  ·refine ev_pos (by omega) (ev_pos (by omega) ?_)
   rw [rdiCell xs i h,w64s i (by omega),drop_at xs i h]
   simp only [cAt]
   by_cases he:xs[i].f0=a
   ·exact ev_pos he (ev_now (by rw [if_pos he]))
   ·exact ev_neg he (ev_to (sCell_l b xs hn a (i+1) (by omega)) (by rw [if_neg he]))
  ·refine ev_neg (by omega) (ev_now ?_)
   rw [List.drop_of_length_le (by omega)];rfl
 termination_by i=>xs.length - i
theorem sCell_ev (b:ByteArray) (xs:List S78) (hn:xs.length≤4000000) (a:Int):Ev (fun k=>spec_l10Cell.f k b xs a) (cAt a xs 0):=by
 unfold spec_l10Cell.f
 have:=sCell_l b xs hn a 0 (by omega)
 rw [List.drop_zero] at this
 exact this
theorem cmp_eq (x y:Int):cmp_Compare_int.f x y=some (if x < y then -1 else if x > y then 1 else 0):=by
 unfold cmp_Compare_int.f cmp_isNaN_int.f
 simp only [bne_self_eq_false,Option.bind_some,Bool.false_eq_true,if_false]
 split
 ·rfl
 ·split <;> rfl
theorem cl_eq (x:S78) (a:Int):impl_Memory_findCell_1.f x.f0 x.f1 x.f2 a=some (if x.f0 < a then -1 else if x.f0 > a then 1 else 0):=by
 unfold impl_Memory_findCell_1.f
 rw [cmp_eq,Option.bind_some]
def bsV (xs:List S78) (a:Int) (r:Int × Bool):Prop:=(r.2=true∧r.1=cAt a xs 0∧∃ m:Nat,r.1=m∧m < xs.length)∨(r.2=false∧cAt a xs 0 = -1)
theorem bs_l (b:ByteArray) (xs:List S78) (hn:xs.length≤4000000) (hs:csOk b xs 0) (a:Int):∀ (d lo hi:Nat),hi - lo≤d→lo≤hi→hi≤xs.length→(∀ j,(hj:j < xs.length)→j < lo→xs[j].f0 < a)→(∀ j,(hj:j < xs.length)→hi≤j→a≤xs[j].f0)→∃ r,Ev (fun k=>slices_BinarySearchFunc_int.l0 k xs a xs.length lo hi) r∧bsV xs a r
 | d,lo,hi,hd,h1,h2,hL,hR=>by
  by_cases h:lo < hi
  ·have hm:wrap64 ((IntKind.u64.wrap (wrap64 ((lo:Int)+(hi:Int)))) / 2)=(((lo+hi) / 2:Nat):Int):=by
    rw [w64 (x:=(lo:Int)+hi) (by omega) (by omega),u64c (by omega) (by omega),w64 (by omega) (by omega)]
    omega
   have hml:(lo+hi) / 2 < xs.length:=by omega
   cases d with
   | zero=>omega
   | succ d =>
    by_cases hc:xs[(lo+hi) / 2].f0 < a
    ·obtain ⟨r,e,v⟩:=bs_l b xs hn hs a d ((lo+hi) / 2+1) hi (by omega) (by omega) h2 (fun j hj hlt=>by
      by_cases q:j=(lo+hi) / 2
      ·subst q;exact hc
      ·obtain ⟨w,hw⟩:∃ w,j+w+1=(lo+hi) / 2:=⟨(lo+hi) / 2 - j - 1,by omega⟩
       have:=csOk_lt hs w j (by omega)
       simp only [hw] at this
       omega) hR
     refine ⟨r,?_,v⟩
     refine Ev.step (slices_BinarySearchFunc_int.l0.eq_2 _ _ _ _ _) ?_
     rw [hm,rdiCell xs _ hml,cl_eq,if_pos hc]
     refine ev_pos (by omega) (ev_pos (by omega) (ev_pos (by omega) (Ev.bind (Ev.now _) (ev_pos (by omega) ?_))))
     rw [w64s _ (by omega)]
     exact e
    ·obtain ⟨r,e,v⟩:=bs_l b xs hn hs a d lo ((lo+hi) / 2) (by omega) (by omega) (by omega) hL (fun j hj hlt=>by
      by_cases q:j=(lo+hi) / 2
      ·subst q;omega
      ·obtain ⟨w,hw⟩:∃ w,(lo+hi) / 2+w+1=j:=⟨j - (lo+hi) / 2 - 1,by omega⟩
       have:=csOk_lt hs w ((lo+hi) / 2) (by omega)
       simp only [hw] at this
       omega)
     refine ⟨r,?_,v⟩
     refine Ev.step (slices_BinarySearchFunc_int.l0.eq_2 _ _ _ _ _) ?_
     rw [hm,rdiCell xs _ hml,cl_eq,if_neg hc]
     refine ev_pos (by omega) (ev_pos (by omega) (ev_pos (by omega) (Ev.bind (Ev.now _) (ev_neg (by split <;> omega) ?_))))
     exact e
  ·have he:lo=hi:=by omega
   subst he
   by_cases hl:lo < xs.length
   ·by_cases ha:xs[lo].f0=a
    ·have hv:cAt a xs 0=(lo:Int):=by
      have:=cAt_some a xs 0 lo hl ha (fun j hj=>by have:=hL j (by omega) hj;omega)
      omega
     refine ⟨((lo:Int),true),?_,Or.inl ⟨rfl,hv.symm,lo,rfl,hl⟩⟩
     refine Ev.step (slices_BinarySearchFunc_int.l0.eq_2 _ _ _ _ _) ?_
     refine ev_neg (by omega) (ev_pos (by omega) (ev_pos (by omega) (ev_pos (by omega) ?_)))
     rw [rdiCell xs lo hl,cl_eq,if_neg (by omega),if_neg (by omega)]
     exact Ev.bind (Ev.now _) (ev_now rfl)
    ·have hv:cAt a xs 0 = -1:=cAt_none a xs 0 (fun y hy=>by
      obtain ⟨j,hj,rfl⟩:=List.getElem_of_mem hy
      by_cases q:j < lo
      ·have:=hL j hj q;omega
      ·have g:=hR lo hl (Nat.le_refl _)
       by_cases q2:j=lo
       ·subst q2;exact ha
       ·obtain ⟨w,hw⟩:∃ w,lo+w+1=j:=⟨j - lo - 1,by omega⟩
        have:=csOk_lt hs w lo (by omega)
        simp only [hw] at this
        omega)
     refine ⟨((lo:Int),false),?_,Or.inr ⟨rfl,hv⟩⟩
     refine Ev.step (slices_BinarySearchFunc_int.l0.eq_2 _ _ _ _ _) ?_
     have hg:=hR lo hl (Nat.le_refl _)
     refine ev_neg (by omega) (ev_pos (by omega) (ev_pos (by omega) (ev_pos (by omega) ?_)))
     rw [rdiCell xs lo hl,cl_eq,if_neg (by omega),if_pos (by omega)]
     exact Ev.bind (Ev.now _) (ev_now rfl)
   ·have hv:cAt a xs 0 = -1:=cAt_none a xs 0 (fun y hy=>by
     obtain ⟨j,hj,rfl⟩:=List.getElem_of_mem hy
     have:=hL j hj (by omega);omega)
    refine ⟨((lo:Int),false),?_,Or.inr ⟨rfl,hv⟩⟩
    refine Ev.step (slices_BinarySearchFunc_int.l0.eq_2 _ _ _ _ _) ?_
    exact ev_neg (by omega) (ev_neg (by omega) (ev_now rfl))
theorem find_ev (b:ByteArray) (xs:List S78) (hn:xs.length≤4000000) (hs:csOk b xs 0) (a:Int):∃ r,Ev (fun k=>impl_Memory_findCell.f k b xs a) r∧bsV xs a r:=by
 obtain ⟨r,e,v⟩:=bs_l b xs hn hs a xs.length 0 xs.length (by omega) (by omega) (by omega) (fun j hj h=>by omega) (fun j hj h=>by omega)
 refine ⟨r,?_,v⟩
 unfold impl_Memory_findCell.f slices_BinarySearchFunc_int.f
 exact Ev.bind e (ev_now rfl)
noncomputable def lnV (b:ByteArray) (xs:List S78) (a:Int):ByteArray:=if 0≤cAt a xs 0 then (rd_T78 xs (cAt a xs 0)).f1 else b.extract (a * 16).toNat ((a+1) * 16).toNat
theorem cAt_range (a:Int) (xs:List S78) (h:0≤cAt a xs 0):∃ m:Nat,cAt a xs 0=m∧m < xs.length:=by
 have:∀ (xs:List S78) (i:Nat),cAt a xs i = -1∨∃ m:Nat,cAt a xs i=(i:Int)+m∧m < xs.length:=by
  intro xs
  induction xs with
  | nil=>intro i;exact Or.inl rfl
  | cons x r ih =>
   intro i
   simp only [cAt]
   by_cases he:x.f0=a
   ·rw [if_pos he];exact Or.inr ⟨0,by omega,by simp⟩
   ·rw [if_neg he]
    rcases ih (i+1) with g|⟨m,g,l⟩
    ·exact Or.inl g
    ·exact Or.inr ⟨m+1,by omega,by simpa using l⟩
 rcases this xs 0 with g|⟨m,g,l⟩
 ·omega
 ·exact ⟨m,by omega,l⟩
theorem lnV_size (b:ByteArray) (xs:List S78) (hs:csOk b xs 0) (a:Int) (h0:0≤a) (h1:(a+1) * 16≤b.size):(lnV b xs a).size=16:=by
 unfold lnV
 by_cases h:0≤cAt a xs 0
 ·rw [if_pos h]
  obtain ⟨m,e,hm⟩:=cAt_range a xs h
  rw [e,rdiCell xs m hm]
  obtain ⟨_,_,g,_⟩:=hs m (by omega) hm
  exact g
 ·rw [if_neg h,ByteArray.size_extract];omega
theorem sLine_ev (b:ByteArray) (xs:List S78) (hb:b.size≤4000000) (hn:xs.length≤4000000) (a:Int) (h0:0≤a) (h1:(a+1) * 16≤b.size):Ev (fun k=>spec_l10Line.f k b xs a) (lnV b xs a):=by
 unfold spec_l10Line.f spec_l10Size.f
 refine Ev.bind (sCell_ev b xs hn a) ?_
 by_cases h:0≤cAt a xs 0
 ·obtain ⟨m,e,hm⟩:=cAt_range a xs h
  have hv:lnV b xs a=(rd_T78 xs (cAt a xs 0)).f1:=by unfold lnV;rw [if_pos h]
  exact ev_pos h (ev_pos h (ev_pos (by omega) (ev_now hv.symm)))
 ·have hv:lnV b xs a=b.extract (a * 16).toNat ((a+1) * 16).toNat:=by unfold lnV;rw [if_neg h]
  refine ev_neg h (Ev.bind (Ev.now _) (Ev.bind (Ev.now _) ?_))
  rw [w64 (x:=a * 16) (by omega) (by omega),w64 (x:=a+1) (by omega) (by omega),w64 (x:=(a+1) * 16) (by omega) (by omega)]
  exact ev_pos (by omega) (ev_pos (by omega) (ev_pos h1 (Ev.bind (Ev.now _) (ev_now hv.symm))))
theorem iLine_ev (b:ByteArray) (xs:List S78) (hb:b.size≤4000000) (hn:xs.length≤4000000) (hs:csOk b xs 0) (a:Int) (h0:0≤a) (h1:(a+1) * 16≤b.size):Ev (fun k=>impl_Memory_line.f k b xs a) (lnV b xs a):=by
 unfold impl_Memory_line.f
 obtain ⟨r,e,v⟩:=find_ev b xs hn hs a
 refine Ev.bind e ?_
 rcases v with ⟨v1,v2,m,v3,v4⟩|⟨v1,v2⟩
 ·have hv:lnV b xs a=(rd_T78 xs r.1).f1:=by unfold lnV;rw [if_pos (by omega),v2]
  exact ev_pos v1 (ev_pos (by omega) (ev_pos (by omega) (ev_now hv.symm)))
 ·have hv:lnV b xs a=b.extract (a * 16).toNat ((a+1) * 16).toNat:=by unfold lnV;rw [if_neg (by omega)]
  refine ev_neg (by rw [v1];simp) ?_
  rw [w64 (x:=a * 16) (by omega) (by omega),w64 (x:=a+1) (by omega) (by omega),w64 (x:=(a+1) * 16) (by omega) (by omega)]
  exact ev_pos (by omega) (ev_pos (by omega) (ev_pos h1 (Ev.bind (Ev.now _) (ev_now hv.symm))))
noncomputable def wdV (b:ByteArray) (xs:List S78) (a:Int):ByteArray:=(lnV b xs (a / 2)).extract (a % 2 * 8).toNat (a % 2 * 8+8).toNat
theorem wdV_size (b:ByteArray) (xs:List S78) (hs:csOk b xs 0) (a:Int) (h0:0≤a) (h1:(a / 2+1) * 16≤b.size):(wdV b xs a).size=8:=by
 unfold wdV
 rw [ByteArray.size_extract,lnV_size b xs hs _ (by omega) h1]
 omega
theorem sWd_ev (b:ByteArray) (xs:List S78) (hb:b.size≤4000000) (hn:xs.length≤4000000) (hs:csOk b xs 0) (a:Int) (h0:0≤a) (h1:(a / 2+1) * 16≤b.size):Ev (fun k=>spec_l10Word.f k b xs a) (wdV b xs a):=by
 unfold spec_l10Word.f
 rw [Int.tdiv_eq_ediv_of_nonneg h0,Int.tmod_eq_emod_of_nonneg h0,w64 (x:=a / 2) (by omega) (by omega),w64 (x:=a % 2 * 8) (by omega) (by omega),w64 (x:=a % 2 * 8+8) (by omega) (by omega)]
 have hz:=lnV_size b xs hs (a / 2) (by omega) h1
 exact Ev.bind (sLine_ev b xs hb hn _ (by omega) h1) (ev_pos (by omega) (ev_pos (by omega) (ev_pos (by omega) (Ev.bind (Ev.now _) (ev_now rfl)))))
theorem iWd_ev (b:ByteArray) (xs:List S78) (hb:b.size≤4000000) (hn:xs.length≤4000000) (hs:csOk b xs 0) (a:Int) (h0:0≤a) (h1:(a / 2+1) * 16≤b.size):Ev (fun k=>impl_Memory_word.f k b xs a) (wdV b xs a):=by
 unfold impl_Memory_word.f
 rw [Int.tdiv_eq_ediv_of_nonneg h0,Int.tmod_eq_emod_of_nonneg h0,w64 (x:=a / 2) (by omega) (by omega),w64 (x:=a % 2 * 8) (by omega) (by omega),w64 (x:=a % 2 * 8+8) (by omega) (by omega)]
 have hz:=lnV_size b xs hs (a / 2) (by omega) h1
 exact Ev.bind (iLine_ev b xs hb hn hs _ (by omega) h1) (ev_pos (by omega) (ev_pos (by omega) (ev_pos (by omega) (Ev.bind (Ev.now _) (ev_now rfl)))))

noncomputable def plV (b:ByteArray) (xs:List S78) (t p i q:Int):Bool:=mOk b xs && (gOk t p i q && decide (t * pW p i / 2≤(b.size:Int) / 16))
theorem tpW {t p i q:Int} (h:gOk t p i q=true):0≤t * pW p i∧t * pW p i≤600∧t * pW p i % 2=0:=by
 obtain ⟨h1,h2,h3,h4⟩:=gOk_parts h
 unfold pW
 have:t=1∨t=2∨t=3:=by omega
 rcases this with e|e|e <;> subst e <;> omega
theorem iHas_ev (b:ByteArray) (xs:List S78) (t p i q:Int) (hb:b.size≤4000000) (hn:xs.length≤4000000):Ev (fun k=>impl_isPlaced.f k b xs t p i q) (plV b xs t p i q):=by
 unfold impl_isPlaced.f plV
 refine Ev.bind (iMem_ev b xs hb hn) ?_
 by_cases hm:mOk b xs=true
 ·refine ev_pos hm (Ev.bind (ev_eq (iGeo_eq t p i q)) ?_)
  by_cases hg:gOk t p i q=true
  ·have hw:=tpW hg
   unfold impl_Geo_lines.f
   rw [iPW_eq hg,Option.bind_some,w64 (x:=t * pW p i) (by omega) (by omega),Int.tdiv_eq_ediv_of_nonneg hw.1,w64 (x:=t * pW p i / 2) (by omega) (by omega),w64 (x:=(b.size:Int) / 16) (by omega) (by omega)]
   refine ev_pos hg (Ev.bind (Ev.now _) (ev_now ?_))
   rw [hg,hm,Bool.true_and,Bool.true_and]
  ·exact ev_neg hg (ev_now (by rw [Bool.eq_false_iff.2 hg,Bool.false_and,Bool.and_false]))
 ·exact ev_neg hm (ev_now (by rw [Bool.eq_false_iff.2 hm];rfl))
noncomputable def wdL (b:ByteArray) (xs:List S78) (a:Int):Nat→List ByteArray
 | 0=>[]
 | n+1=>wdL b xs a n++[wdV b xs (a+n)]
theorem wdL_len (b:ByteArray) (xs:List S78) (a:Int) (n:Nat):(wdL b xs a n).length=n:=by
 induction n with
 | zero=>rfl
 | succ n ih=>simp [wdL,ih]
theorem sAt_eq {t p i q a:Int} (hg:gOk t p i q=true) (ha:0≤a∧a≤t - 1) (m:Int) (h0:0≤m) (h1:m≤200):spec_l11At.f t p i q a m=some (a * pW p i+m):=by
 obtain ⟨g1,g2,g3,g4⟩:=gOk_parts hg
 have hm:=mul3 (a:=a) (w:=pW p i) ha.1 (by omega) (by unfold pW;omega) (by unfold pW;omega)
 unfold spec_l11At.f
 rw [sGeo_eq,Option.bind_some,if_pos hg,w64 (x:=t - 1) (by omega) (by omega),l01In_eq,Option.bind_some,if_pos (by simpa using ha),sPW_eq hg,Option.bind_some,w64 (x:=a * pW p i) (by omega) (by omega),w64 (by omega) (by omega)]
theorem sCommit_eq {t p i q:Int} (hg:gOk t p i q=true) (a:Int):spec_CommitAt.f t p i q a=some (if 0≤a∧a≤t - 1 then a * pW p i else -1):=by
 obtain ⟨g1,g2,g3,g4⟩:=gOk_parts hg
 unfold spec_CommitAt.f
 by_cases ha:0≤a∧a≤t - 1
 ·rw [sAt_eq hg ha 0 (by omega) (by omega),Option.bind_some,if_pos ha,Int.add_zero]
 ·unfold spec_l11At.f
  rw [sGeo_eq,Option.bind_some,if_pos hg,w64 (x:=t - 1) (by omega) (by omega),l01In_eq,Option.bind_some,if_neg (by simpa using ha),Option.bind_some,if_neg ha]
theorem sCommit_no {t p i q:Int} (hg:¬ gOk t p i q=true) (a:Int):spec_CommitAt.f t p i q a=some (-1):=by
 unfold spec_CommitAt.f spec_l11At.f
 rw [sGeo_eq,Option.bind_some,if_neg hg,Option.bind_some]
theorem iTen_eq {t p i q:Int} (hg:gOk t p i q=true) (a:Int):impl_isTenant.f t p i q a=some (decide (0≤a∧a≤t - 1)):=by
 obtain ⟨g1,g2,g3,g4⟩:=gOk_parts hg
 unfold impl_isTenant.f
 rw [iGeo_eq,Option.bind_some,if_pos hg,w64 (x:=t - 1) (by omega) (by omega),within_eq,Option.bind_some]
theorem iIn_eq {t p i q a:Int} (hg:gOk t p i q=true) (ha:0≤a∧a≤t - 1) (m:Int) (h0:0≤m) (h1:m≤200):impl_inPart.f t p i q a true m=some (a * pW p i+m):=by
 obtain ⟨g1,g2,g3,g4⟩:=gOk_parts hg
 have hm:=mul3 (a:=a) (w:=pW p i) ha.1 (by omega) (by unfold pW;omega) (by unfold pW;omega)
 unfold impl_inPart.f
 rw [iTen_eq hg,Option.bind_some,if_pos (by simpa using ha),if_pos rfl,iPW_eq hg,Option.bind_some,w64 (x:=a * pW p i) (by omega) (by omega),w64 (by omega) (by omega)]
theorem iStAt_eq {t p i q a:Int} (hg:gOk t p i q=true) (ha:0≤a∧a≤t - 1):impl_statesAt.f t p i q a=some (a * pW p i+36):=by
 unfold impl_statesAt.f
 rw [iIn_eq hg ha 36 (by omega) (by omega),Option.bind_some]
theorem sInAt_eq {t p i q a:Int} (hg:gOk t p i q=true) (ha:0≤a∧a≤t - 1) (k:Int) (hk:0≤k∧k≤i - 1):spec_InodeAt.f t p i q a k=some (a * pW p i+(38+8 * k)):=by
 obtain ⟨g1,g2,g3,g4⟩:=gOk_parts hg
 unfold spec_InodeAt.f
 rw [sGeo_eq,Option.bind_some,if_pos hg,w64 (x:=i - 1) (by omega) (by omega),l01In_eq,Option.bind_some,if_pos (by simpa using hk),w64 (x:=8 * k) (by omega) (by omega),w64 (x:=38+8 * k) (by omega) (by omega),sAt_eq hg ha _ (by omega) (by omega),Option.bind_some]
theorem iInAt_eq {t p i q a:Int} (hg:gOk t p i q=true) (ha:0≤a∧a≤t - 1) (k:Int) (hk:0≤k∧k≤i - 1):impl_InodeAt.f t p i q a k=some (a * pW p i+(38+8 * k)):=by
 obtain ⟨g1,g2,g3,g4⟩:=gOk_parts hg
 unfold impl_InodeAt.f
 rw [w64 (x:=i - 1) (by omega) (by omega),within_eq,Option.bind_some,decide_eq_true hk,w64 (x:=8 * k) (by omega) (by omega),w64 (x:=38+8 * k) (by omega) (by omega),iIn_eq hg ha _ (by omega) (by omega),Option.bind_some]

def okL:List Int→Bool
 | []=>true
 | n :: r=>decide (0≤n∧n≤2) && okL r
theorem okL_mem:∀ {xs:List Int},okL xs=true→∀ n ∈ xs,0≤n∧n≤2
 | [],_,n,h=>by cases h
 | x :: r,ho,n,h=>by
  simp only [okL,Bool.and_eq_true,decide_eq_true_eq] at ho
  rcases List.mem_cons.1 h with rfl|h
  ·exact ho.1
  ·exact okL_mem ho.2 n h
def stB (xs:List Int) (p:Int):Bool:=okL xs && (decide ((xs.length:Int)=p) && decide (1≤p∧p≤12))

def stB16 (xs:List Int):List Int:=xs++List.replicate (16 - xs.length) 0
def stW (xs:List Int):List ByteArray:=if stB xs xs.length=true then [strOfNums ((stB16 xs).take 8),strOfNums ((stB16 xs).drop 8)] else []
theorem stW_len (xs:List Int):(stW xs).length≤2:=by unfold stW;split <;> simp
theorem stB_parts {xs:List Int} (h:stB xs xs.length=true):xs.length≤12∧∀ n ∈ xs,0≤n∧n≤2:=by
 simp only [stB,Bool.and_eq_true,decide_eq_true_eq] at h
 exact ⟨by omega,okL_mem h.1⟩
theorem son_cut (l:List Int) (i j:Nat):(strOfNums l).extract i j=strOfNums ((l.take j).drop i):=by
 refine b_inj ?_
 rw [b_cut,strOfNums_data,strOfNums_data,List.map_drop,List.map_take]
theorem son_zeros (l:List Int) (n:Nat):strOfNums (l++List.replicate n 0)=strOfNums l++zb n:=by
 refine b_inj ?_
 rw [b_app,strOfNums_data,strOfNums_data,zb_list,List.map_append,List.map_replicate]
 rfl

theorem drop_eq_iff {α:Type} (xs ys:List α) (i:Nat) (h1:i < xs.length) (h2:i < ys.length):xs.drop i=ys.drop i ↔ xs[i]=ys[i]∧xs.drop (i+1)=ys.drop (i+1):=by
 rw [drop_at xs i h1,drop_at ys i h2,List.cons.injEq]
open Classical in
noncomputable def eqW (xs ys:List ByteArray):Bool:=decide (xs=ys)
open Classical in
theorem sWords_l (xs ys:List ByteArray) (hl:xs.length=ys.length) (hn:xs.length≤4000000):∀ i:Nat,i≤xs.length→Ev (fun k=>spec_l12Words.l0 k xs ys i) (eqW (xs.drop i) (ys.drop i))
 | i,hi=>by
  refine Ev.step (spec_l12Words.l0.eq_2 _ _ _) ?_
  by_cases h:i < xs.length
  ·refine ev_pos (by omega) (ev_pos (by omega) (ev_pos (by omega) ?_))
   rw [rdOf_at _ xs i h,rdOf_at _ ys i (by omega),w64s i (by omega)]
   by_cases he:xs[i]=ys[i]'(by omega)
   ·refine ev_pos (by rw [he]) (ev_to (sWords_l xs ys hl hn (i+1) (by omega)) ?_)
    unfold eqW
    simp only [drop_eq_iff xs ys i h (by omega),he,true_and]
   ·refine ev_neg (fun hc=>he (toList_inj hc)) (ev_now ?_)
    unfold eqW
    simp only [drop_eq_iff xs ys i h (by omega),he,false_and,decide_false]
  ·refine ev_neg (by omega) (ev_now ?_)
   rw [List.drop_of_length_le (by omega),List.drop_of_length_le (by omega)]
   unfold eqW;simp
 termination_by i=>xs.length - i
theorem sWords_ev (xs ys:List ByteArray) (hn:xs.length≤4000000):Ev (fun k=>spec_l12Words.f k xs ys) (eqW xs ys):=by
 unfold spec_l12Words.f
 by_cases h:xs.length=ys.length
 ·have:=sWords_l xs ys h hn 0 (by omega)
  rw [List.drop_zero,List.drop_zero] at this
  exact ev_pos (by omega) this
 ·refine ev_neg (by omega) (ev_now ?_)
  unfold eqW
  rw [decide_eq_false (fun hc=>h (by rw [hc]))]

theorem iWords_l (xs ys:List ByteArray) (hl:xs.length=ys.length) (hn:xs.length≤4000000):∀ i:Nat,i≤xs.length→Ev (fun k=>slices_Equal_string.l0 k xs ys xs.length i) (eqW (xs.drop i) (ys.drop i))
 | i,hi=>by
  refine Ev.step (slices_Equal_string.l0.eq_2 _ _ _ _) ?_
  by_cases h:i < xs.length
  ·refine ev_pos (by omega) (ev_pos (by omega) (ev_pos (by omega) (ev_pos (by omega) ?_)))
   rw [rdOf_at _ xs i h,rdOf_at _ ys i (by omega),w64s i (by omega)]
   by_cases he:xs[i]=ys[i]'(by omega)
   ·refine ev_pos (by rw [he]) (ev_to (iWords_l xs ys hl hn (i+1) (by omega)) ?_)
    unfold eqW
    simp only [drop_eq_iff xs ys i h (by omega),he,true_and]
   ·refine ev_neg (fun hc=>he (toList_inj hc)) (ev_now ?_)
    unfold eqW
    simp only [drop_eq_iff xs ys i h (by omega),he,false_and,decide_false]
  ·refine ev_neg (by omega) (ev_now ?_)
   rw [List.drop_of_length_le (by omega),List.drop_of_length_le (by omega)]
   unfold eqW;simp
 termination_by i=>xs.length - i
theorem iWords_ev (xs ys:List ByteArray) (hn:xs.length≤4000000):Ev (fun k=>slices_Equal_string.f k xs ys) (eqW xs ys):=by
 unfold slices_Equal_string.f
 by_cases h:xs.length=ys.length
 ·have:=iWords_l xs ys h hn 0 (by omega)
  rw [List.drop_zero,List.drop_zero] at this
  exact ev_pos (by omega) this
 ·refine ev_neg (by omega) (ev_now ?_)
  unfold eqW
  rw [decide_eq_false (fun hc=>h (by rw [hc]))]

def pre (y:ByteArray):Nat→List Int
 | 0=>[]
 | n+1=>pre y n++[wrap64 (bt y (n:Int))]
theorem pre_len (y:ByteArray) (n:Nat):(pre y n).length=n:=by
 induction n with
 | zero=>rfl
 | succ n ih=>simp [pre,ih]
noncomputable def rsT (ws:List ByteArray) (p:Nat) (y:ByteArray):List Int × Bool:=if eqW (stW (pre y p)) ws=true then (pre y p,true) else ([],false)
noncomputable def rsY (ws:List ByteArray):ByteArray:=rdOf ByteArray.empty ws 0++rdOf ByteArray.empty ws 1
def rsOk (ws:List ByteArray) (p:Int):Prop:=ws.length=2∧(rdOf ByteArray.empty ws 0).size=8∧(rdOf ByteArray.empty ws 1).size=8∧1≤p∧p≤12
open Classical in
noncomputable def rsV (ws:List ByteArray) (p:Int):List Int × Bool:=if rsOk ws p then rsT ws p.toNat (rsY ws) else ([],false)
theorem rsV_len (ws:List ByteArray) (p:Int):(rsV ws p).1.length≤12:=by
 unfold rsV
 split
 ·rename_i h
  unfold rsT
  split
  ·rw [pre_len];have:=h.2.2.2;omega
  ·simp
 ·simp

theorem sStatesOk_l (xs:List Int) (p:Int) (hn:xs.length≤4000000):∀ i:Nat,i≤xs.length→Ev (fun k=>spec_StatesOk.l0 k xs p i) (okL (xs.drop i) && (decide ((xs.length:Int)=p) && decide (1≤p∧p≤12)))
 | i,hi=>by
  refine Ev.step (spec_StatesOk.l0.eq_2 _ _ _) ?_
  by_cases h:i < xs.length
  ·refine ev_pos (by omega) (ev_pos (by omega) (Ev.bind (ev_eq (l01In_eq _ _ _)) ?_))
   rw [rd_at _ i h,drop_at xs i h,w64s i (by omega)]
   simp only [okL]
   by_cases hv:0≤xs[i]∧xs[i]≤2
   ·rw [decide_eq_true hv]
    exact ev_pos rfl (ev_to (sStatesOk_l xs p hn (i+1) (by omega)) (by simp))
   ·rw [decide_eq_false hv]
    exact ev_neg (by simp) (ev_now (by simp))
  ·refine ev_neg (by omega) ?_
   rw [List.drop_of_length_le (by omega)]
   by_cases hp:(xs.length:Int)=p
   ·exact ev_pos hp (Ev.bind (ev_eq (l01In_eq _ _ _)) (ev_now (by simp [okL,hp])))
   ·exact ev_neg hp (ev_now (by simp [hp]))
 termination_by i=>xs.length - i
theorem sStatesOk_ev (xs:List Int) (p:Int) (hn:xs.length≤4000000):Ev (fun k=>spec_StatesOk.f k xs p) (stB xs p):=by
 unfold spec_StatesOk.f
 have:=sStatesOk_l xs p hn 0 (by omega)
 rw [List.drop_zero] at this
 exact this

theorem sSW_l (xs:List Int) (hl:xs.length≤12) (hv:∀ n ∈ xs,0≤n∧n≤2):∀ i:Nat,i≤xs.length→Ev (fun k=>spec_StatesWords.l0 k xs (xs.take i++List.replicate (16 - i) 0) i) [strOfNums ((stB16 xs).take 8),strOfNums ((stB16 xs).drop 8)]
 | i,hi=>by
  refine Ev.step (spec_StatesWords.l0.eq_2 _ _ _) ?_
  have hlen:(xs.take i++List.replicate (16 - i) (0:Int)).length=16:=by simp;omega
  by_cases h:i < xs.length
  ·refine ev_pos (by omega) (ev_pos (by omega) (ev_pos (by omega) ?_))
   have hb:=hv _ (List.getElem_mem h)
   rw [rd_at _ i h,w64s i (by omega),Int.toNat_natCast,show xs[i] % 256=xs[i] by omega]
   have e:(xs.take i++List.replicate (16 - i) (0:Int)).set i xs[i]=xs.take (i+1)++List.replicate (16 - (i+1)) 0:=by
    rw [List.set_append_right _ _ (by simp;omega),List.length_take,Nat.min_eq_left (by omega),Nat.sub_self,show 16 - i=(16 - (i+1))+1 by omega,List.replicate_succ,List.set_cons_zero,List.take_succ_eq_append_getElem h,List.append_assoc]
    rfl
   rw [e]
   exact sSW_l xs hl hv (i+1) (by omega)
  ·have:i=xs.length:=by omega
   subst this
   rw [List.take_length]
   refine ev_neg (by omega) (ev_pos ?_ (ev_now rfl))
   rw [List.take_length] at hlen
   omega
 termination_by i=>xs.length - i
theorem sSW_ev (xs:List Int) (hn:xs.length≤4000000):Ev (fun k=>spec_StatesWords.f k xs) (stW xs):=by
 unfold spec_StatesWords.f
 refine Ev.bind (sStatesOk_ev xs xs.length hn) ?_
 unfold stW
 by_cases h:stB xs xs.length=true
 ·obtain ⟨h1,h2⟩:=stB_parts h
  have:=sSW_l xs h1 h2 0 (by omega)
  exact ev_pos h (ev_to this (by rw [if_pos h]))
 ·exact ev_neg h (ev_now (by rw [if_neg h]))

theorem sRS_l (ws:List ByteArray) (p:Nat) (hp:p≤12) (hw:ws.length≤4000000) (y:ByteArray) (hy:y.size=16):∀ i:Nat,i≤p→Ev (fun k=>spec_ReadStates.l0 k ws p y (pre y i) i) (rsT ws p y)
 | i,hi=>by
  refine Ev.step (spec_ReadStates.l0.eq_2 _ _ _ _ _) ?_
  have hl:=pre_len y i
  by_cases h:i < p
  ·refine ev_pos (by omega) (ev_pos (by omega) (ev_pos (by omega) (ev_pos (by omega) ?_)))
   rw [w64s i (by omega)]
   exact sRS_l ws p hp hw y hy (i+1) (by omega)
  ·have:i=p:=by omega
   subst this
   refine ev_neg (by omega) (Ev.bind (sSW_ev _ (by omega)) (Ev.bind (sWords_ev _ _ (by have:=stW_len (pre y i);omega)) ?_))
   by_cases he:eqW (stW (pre y i)) ws=true
   ·exact ev_pos he (ev_now (by unfold rsT;rw [if_pos he]))
   ·exact ev_neg he (ev_now (by unfold rsT;rw [if_neg he]))
 termination_by i=>p - i
theorem sRS_j (ws:List ByteArray) (p:Int) (h:rsOk ws p):Ev (fun k=>spec_ReadStates.j0 k ws p false) (rsV ws p):=by
 have hv:rsV ws p=rsT ws p.toNat (rsY ws):=by unfold rsV;rw [if_pos h]
 obtain ⟨h1,h2,h3,h4,h5⟩:=h
 refine Ev.step (spec_ReadStates.j0.eq_2 _ _ _) ?_
 refine ev_neg (by simp) (ev_pos (by omega) (ev_pos (by omega) (ev_pos (by omega) (Ev.bind (Ev.now _) ?_))))
 rw [hv]
 have hy:(rsY ws).size=16:=by unfold rsY;rw [ByteArray.size_append];omega
 have:=sRS_l ws p.toNat (by omega) (by omega) (rsY ws) hy 0 (by omega)
 rw [show ((p.toNat:Nat):Int)=p by omega] at this
 exact this
theorem sRS_ev (ws:List ByteArray) (p:Int):Ev (fun k=>spec_ReadStates.f k ws p) (rsV ws p):=by
 have bad:¬ rsOk ws p→Ev (fun k=>spec_ReadStates.j0 k ws p true) (rsV ws p):=by
  intro h
  refine Ev.step (spec_ReadStates.j0.eq_2 _ _ _) ?_
  exact ev_pos rfl (ev_now (by unfold rsV;rw [if_neg h]))
 unfold spec_ReadStates.f
 by_cases h1:(ws.length:Int)=2
 ·refine ev_pos h1 (ev_pos (by omega) ?_)
  by_cases h2:((rdOf ByteArray.empty ws 0).size:Int)=8
  ·refine ev_pos h2 (ev_pos (by omega) ?_)
   by_cases h3:((rdOf ByteArray.empty ws 1).size:Int)=8
   ·refine ev_pos h3 (Ev.bind (ev_eq (l01In_eq _ _ _)) ?_)
    by_cases h4:1≤p∧p≤12
    ·rw [decide_eq_true h4]
     exact sRS_j ws p ⟨by omega,by omega,by omega,h4.1,h4.2⟩
    ·rw [decide_eq_false h4]
     exact bad (fun h=>h4 h.2.2.2)
   ·exact ev_neg h3 (bad (fun h=>h3 (by have:=h.2.2.1;omega)))
  ·exact ev_neg h2 (bad (fun h=>h2 (by have:=h.2.1;omega)))
 ·exact ev_neg h1 (bad (fun h=>h1 (by have:=h.1;omega)))

theorem repeat_eq (n:Nat) (h:n≤1048576):strings_Repeat.f (⟨#[0]⟩:ByteArray) (n:Int)=some (zb n):=by
 unfold strings_Repeat.f
 have h1:(⟨#[0]⟩:ByteArray).size=1:=rfl
 rw [if_pos ⟨by omega,by omega,by rw [Int.toNat_natCast,h1];omega⟩]
 congr 1
 unfold zb
 rw [← repeat_zero,Int.toNat_natCast]
theorem padded_eq (s:ByteArray) (n:Int) (h0:0≤n) (h1:n≤1048576) (hs:s.size≤4000000):impl_padded.f s n=some (s++zb (n - s.size).toNat):=by
 unfold impl_padded.f
 rw [w64 (by omega) (by omega)]
 have hm:mx 0 (n - (s.size:Int))=(((n - s.size).toNat:Nat):Int):=by
  show (if (0:Int) < n - (s.size:Int) then n - (s.size:Int) else 0)=_
  split <;> omega
 rw [hm,repeat_eq _ (by omega),Option.bind_some,if_pos (by rw [zb_size];omega)]

theorem pad8 (s:ByteArray) (h:s.size=8):impl_padded.f s 8=some s:=by
 rw [padded_eq s 8 (by omega) (by omega) (by omega),h]
 congr 1
 refine b_inj ?_
 rw [b_app,show (8 - ((8:Nat):Int)).toNat=0 from rfl,zb_list]
 simp
theorem wordsOf16 (l:List Int) (hl:l.length=16):Ev (fun k=>impl_wordsOf.f k (strOfNums l)) [strOfNums (l.take 8),strOfNums (l.drop 8)]:=by
 have hz:(strOfNums l).size=16:=by rw [strOfNums_size,hl]
 have w1:wrap64 (0+8)=8:=by have:=w64 (x:=0+8) (by omega) (by omega);omega
 have w2:wrap64 (8+8)=16:=by have:=w64 (x:=8+8) (by omega) (by omega);omega
 have m1:mn (wrap64 (0+8)) (((strOfNums l).size:Nat):Int)=8:=by rw [hz,w1];decide
 have m2:mn (wrap64 (8+8)) (((strOfNums l).size:Nat):Int)=16:=by rw [hz,w2];decide
 have e1:(strOfNums l).extract (0:Int).toNat (8:Int).toNat=strOfNums (l.take 8):=by rw [son_cut];simp
 have e2:(strOfNums l).extract (8:Int).toNat (16:Int).toNat=strOfNums (l.drop 8):=by rw [son_cut,List.take_of_length_le (show l.length≤(16:Int).toNat by rw [hl];decide)];rfl
 have s1:(strOfNums (l.take 8)).size=8:=by rw [strOfNums_size,List.length_take];omega
 have s2:(strOfNums (l.drop 8)).size=8:=by rw [strOfNums_size,List.length_drop];omega
 unfold impl_wordsOf.f
 refine Ev.step (impl_wordsOf.l0.eq_2 _ _ _) ?_
 rw [m1,e1,pad8 _ s1]
 refine ev_pos (by omega) (ev_pos (by omega) (ev_pos (by omega) (ev_pos (by omega) (Ev.bind (Ev.now _) (ev_pos (by simp) ?_)))))
 rw [w1]
 refine Ev.step (impl_wordsOf.l0.eq_2 _ _ _) ?_
 rw [m2,e2,pad8 _ s2]
 refine ev_pos (by omega) (ev_pos (by omega) (ev_pos (by omega) (ev_pos (by omega) (Ev.bind (Ev.now _) (ev_pos (by simp) ?_)))))
 rw [w2]
 refine Ev.step (impl_wordsOf.l0.eq_2 _ _ _) ?_
 exact ev_neg (by omega) (ev_now rfl)

theorem iBad_l (xs:List Int) (hn:xs.length≤4000000):∀ i:Nat,i≤xs.length→∃ r:Int,Ev (fun k=>slices_IndexFunc_int.l0 k xs xs.length i) r∧(okL (xs.drop i)=true→r = -1)∧(okL (xs.drop i)=false→0≤r)
 | i,hi=>by
  by_cases h:i < xs.length
  ·by_cases hv:0≤xs[i]∧xs[i]≤2
   ·obtain ⟨r,h1,h2,h3⟩:=iBad_l xs hn (i+1) (by omega)
    refine ⟨r,?_,?_,?_⟩
    ·refine Ev.step (slices_IndexFunc_int.l0.eq_2 _ _ _) ?_
     refine ev_pos (by omega) (ev_pos (by omega) (ev_pos (by omega) ?_))
     rw [rd_at _ i h,w64s i (by omega)]
     refine Ev.bind (a:=false) (by unfold impl_StatesOk_1.f;exact Ev.bind (ev_eq (within_eq _ _ _)) (ev_now (by rw [decide_eq_true hv];rfl))) (ev_neg (by simp) h1)
    ·rw [drop_at xs i h];simp only [okL,decide_eq_true hv,Bool.true_and];exact h2
    ·rw [drop_at xs i h];simp only [okL,decide_eq_true hv,Bool.true_and];exact h3
   ·refine ⟨i,?_,?_,?_⟩
    ·refine Ev.step (slices_IndexFunc_int.l0.eq_2 _ _ _) ?_
     refine ev_pos (by omega) (ev_pos (by omega) (ev_pos (by omega) ?_))
     rw [rd_at _ i h]
     refine Ev.bind (a:=true) (by unfold impl_StatesOk_1.f;exact Ev.bind (ev_eq (within_eq _ _ _)) (ev_now (by rw [decide_eq_false hv];rfl))) (ev_pos rfl (ev_now rfl))
    ·rw [drop_at xs i h];simp only [okL,decide_eq_false hv,Bool.false_and];intro hc;cases hc
    ·intro _;omega
  ·refine ⟨-1,?_,fun _=>rfl,?_⟩
   ·refine Ev.step (slices_IndexFunc_int.l0.eq_2 _ _ _) ?_
    exact ev_neg (by omega) (ev_now rfl)
   ·rw [List.drop_of_length_le (by omega)];intro hc;cases hc
 termination_by i=>xs.length - i
theorem iStatesOk_ev (xs:List Int) (p:Int) (hn:xs.length≤4000000):Ev (fun k=>impl_StatesOk.f k xs p) (stB xs p):=by
 obtain ⟨r,h1,h2,h3⟩:=iBad_l xs hn 0 (by omega)
 rw [List.drop_zero] at h2 h3
 unfold impl_StatesOk.f
 refine Ev.bind (ev_eq (within_eq _ _ _)) ?_
 unfold stB
 by_cases hp:1≤p∧p≤12
 ·refine ev_pos (by simpa using hp) ?_
  by_cases hl:(xs.length:Int)=p
  ·refine ev_pos hl ?_
   refine Ev.bind (a:=decide (r ≥ 0)) (by unfold slices_ContainsFunc_int.f slices_IndexFunc_int.f;exact Ev.bind h1 (ev_now rfl)) (ev_now ?_)
   cases ho:okL xs with
   | true=>rw [h2 ho];simp [hl,hp]
   | false=>have:=h3 ho;simp;omega
  ·exact ev_neg hl (ev_now (by simp [hl]))
 ·exact ev_neg (by simpa using hp) (ev_now (by rw [decide_eq_false hp];simp))

theorem iSW_l (xs:List Int) (hl:xs.length≤12) (hv:∀ n ∈ xs,0≤n∧n≤2):∀ i:Nat,i≤xs.length→Ev (fun k=>impl_StatesWords.l0 k (xs.take i) xs xs.length i) [strOfNums ((stB16 xs).take 8),strOfNums ((stB16 xs).drop 8)]
 | i,hi=>by
  refine Ev.step (impl_StatesWords.l0.eq_2 _ _ _ _) ?_
  by_cases h:i < xs.length
  ·have hb:=hv _ (List.getElem_mem h)
   refine ev_pos (by omega) (ev_pos (by omega) (ev_pos (by omega) (ev_pos (by rw [List.length_take];omega) ?_)))
   rw [rd_at _ i h,w64s i (by omega),show xs[i] % 256=xs[i] by omega,← List.take_succ_eq_append_getElem h]
   exact iSW_l xs hl hv (i+1) (by omega)
  ·have:i=xs.length:=by omega
   subst this
   rw [List.take_length]
   have hz:(strOfNums xs).size=xs.length:=strOfNums_size xs
   have e:strOfNums xs++zb ((16:Int) - ((strOfNums xs).size:Int)).toNat=strOfNums (stB16 xs):=by
    unfold stB16
    rw [son_zeros,hz]
    congr 2
    omega
   refine ev_neg (by omega) (Ev.bind (ev_eq (padded_eq _ 16 (by omega) (by omega) (by omega))) ?_)
   rw [e]
   exact Ev.bind (wordsOf16 _ (by unfold stB16;simp;omega)) (ev_now rfl)
 termination_by i=>xs.length - i
theorem iSW_ev (xs:List Int) (hn:xs.length≤4000000):Ev (fun k=>impl_StatesWords.f k xs) (stW xs):=by
 unfold impl_StatesWords.f
 refine Ev.bind (iStatesOk_ev xs xs.length hn) ?_
 unfold stW
 by_cases h:stB xs xs.length=true
 ·obtain ⟨h1,h2⟩:=stB_parts h
  have:=iSW_l xs h1 h2 0 (by omega)
  exact ev_pos h (ev_to this (by rw [if_pos h]))
 ·exact ev_neg h (ev_now (by rw [if_neg h]))

theorem iRS_l (ws:List ByteArray) (p:Nat) (hp:p≤12) (hw:ws.length≤4000000) (y:ByteArray) (hy:y.size=16):∀ i:Nat,i≤p→Ev (fun k=>impl_ReadStates.l0 k ws y (pre y i) p i) (rsT ws p y)
 | i,hi=>by
  refine Ev.step (impl_ReadStates.l0.eq_2 _ _ _ _ _) ?_
  have hl:=pre_len y i
  by_cases h:i < p
  ·refine ev_pos (by omega) (ev_pos (by omega) (ev_pos (by omega) (ev_pos (by omega) ?_)))
   rw [w64s i (by omega)]
   exact iRS_l ws p hp hw y hy (i+1) (by omega)
  ·have:i=p:=by omega
   subst this
   refine ev_neg (by omega) (Ev.bind (iSW_ev _ (by omega)) (Ev.bind (iWords_ev _ _ (by have:=stW_len (pre y i);omega)) ?_))
   by_cases he:eqW (stW (pre y i)) ws=true
   ·exact ev_pos he (ev_now (by unfold rsT;rw [if_pos he]))
   ·exact ev_neg he (ev_now (by unfold rsT;rw [if_neg he]))
 termination_by i=>p - i
theorem iRS_j (ws:List ByteArray) (p:Int) (h:rsOk ws p):Ev (fun k=>impl_ReadStates.j0 k ws p false) (rsV ws p):=by
 have hv:rsV ws p=rsT ws p.toNat (rsY ws):=by unfold rsV;rw [if_pos h]
 obtain ⟨h1,h2,h3,h4,h5⟩:=h
 refine Ev.step (impl_ReadStates.j0.eq_2 _ _ _) ?_
 refine ev_neg (by simp) (ev_pos (by omega) (ev_pos (by omega) (ev_pos (by omega) (Ev.bind (Ev.now _) ?_))))
 rw [hv]
 have hy:(rsY ws).size=16:=by unfold rsY;rw [ByteArray.size_append];omega
 have:=iRS_l ws p.toNat (by omega) (by omega) (rsY ws) hy 0 (by omega)
 rw [show ((p.toNat:Nat):Int)=p by omega] at this
 exact this
theorem iRS_ev (ws:List ByteArray) (p:Int):Ev (fun k=>impl_ReadStates.f k ws p) (rsV ws p):=by
 have bad:¬ rsOk ws p→Ev (fun k=>impl_ReadStates.j0 k ws p true) (rsV ws p):=by
  intro h
  refine Ev.step (impl_ReadStates.j0.eq_2 _ _ _) ?_
  exact ev_pos rfl (ev_now (by unfold rsV;rw [if_neg h]))
 unfold impl_ReadStates.f
 by_cases h1:(ws.length:Int)=2
 ·refine ev_pos h1 (ev_pos (by omega) ?_)
  by_cases h2:((rdOf ByteArray.empty ws 0).size:Int)=8
  ·refine ev_pos h2 (ev_pos (by omega) ?_)
   by_cases h3:((rdOf ByteArray.empty ws 1).size:Int)=8
   ·refine ev_pos h3 (Ev.bind (ev_eq (within_eq _ _ _)) ?_)
    by_cases h4:1≤p∧p≤12
    ·rw [decide_eq_true h4]
     exact iRS_j ws p ⟨by omega,by omega,by omega,h4.1,h4.2⟩
    ·rw [decide_eq_false h4]
     exact bad (fun h=>h4 h.2.2.2)
   ·exact ev_neg h3 (bad (fun h=>h3 (by have:=h.2.2.1;omega)))
  ·exact ev_neg h2 (bad (fun h=>h2 (by have:=h.2.1;omega)))
 ·exact ev_neg h1 (bad (fun h=>h1 (by have:=h.1;omega)))

theorem u64w (x:Int) (h0:0≤x) (h1:x < 18446744073709551616):IntKind.u64.wrap x=x:=by
 have b:IntKind.u64.bits=64:=rfl
 have s:IntKind.u64.signed=false:=rfl
 simp only [IntKind.wrap,b,s,Bool.false_and,Bool.false_eq_true,if_false]
 omega
def dg (n:Int) (i:Nat):Int:=n / 2 ^ (8 * i) % 256
def dn (n:Int):Nat→List Int
 | 0=>[]
 | i+1=>dg n i :: dn n i
theorem dn_len (n:Int) (w:Nat):(dn n w).length=w:=by
 induction w with
 | zero=>rfl
 | succ w ih=>simp [dn,ih]
theorem dn_get (n:Int):∀ (w p:Nat) (h:p < (dn n w).length),(dn n w)[p]=dg n (w - 1 - p)
 | 0,p,h=>by simp [dn] at h
 | w+1,0,h=>by simp [dn]
 | w+1,p+1,h=>by
  simp only [dn,List.getElem_cons_succ]
  rw [dn_get n w p (by simpa [dn] using h)]
  congr 1;omega
theorem shr_eq (n:Int) (i:Nat) (h:i≤7) (y:Int) (hy:y=8 * (i:Int)):shr .i64 n y=n / 2 ^ (8 * i):=by
 subst hy
 have e:(8 * (i:Int)).toNat=8 * i:=by omega
 have b:IntKind.i64.bits=64:=rfl
 unfold shr
 rw [e,b,Nat.min_eq_left (by omega)]
def ntOk (n:Int) (w:Nat):Prop:=0≤n∧1≤w∧w≤7∧n < 2 ^ (8 * w)
open Classical in
noncomputable def nt (n:Int) (w:Nat):ByteArray:=if ntOk n w then strOfNums (dn n w) else ⟨#[]⟩
theorem sNum_l (n:Int) (w:Nat) (hw:w≤7):∀ (i:Nat) (o:List Int),i≤w→o.length≤7→o.length+i≤7→Ev (fun k=>spec_NumText.l0 k n o ((i:Int) - 1)) (strOfNums (o++dn n i))
 | 0,o,hi,ho,hs=>by
  refine Ev.step (spec_NumText.l0.eq_2 _ _ _) ?_
  refine ev_neg (by omega) (ev_now ?_)
  simp [dn]
 | i+1,o,hi,ho,hs=>by
  refine Ev.step (spec_NumText.l0.eq_2 _ _ _) ?_
  have e:((i+1:Nat):Int) - 1=(i:Int):=by omega
  rw [e,u64w (i:Int) (by omega) (by omega),u64w (8 * (i:Int)) (by omega) (by omega),shr_eq n i (by omega) _ rfl,w64 (x:=(i:Int) - 1) (by omega) (by omega)]
  refine ev_pos (by omega) (ev_pos (by omega) (ev_pos (by omega) (ev_to (sNum_l n w hw i _ (by omega) (by simp;omega) (by simp;omega)) ?_)))
  simp [dn,dg]
theorem pow_le (w:Nat) (h:w≤7):(1:Int)≤2 ^ (8 * w)∧(2:Int) ^ (8 * w)≤72057594037927936:=by
 have:w=0∨w=1∨w=2∨w=3∨w=4∨w=5∨w=6∨w=7:=by omega
 rcases this with h|h|h|h|h|h|h|h <;> subst h <;> decide
theorem div_pos (n:Int) (w:Nat) (hw:w≤7) (h0:0≤n):n / 2 ^ (8 * w) > 0 ↔ ¬ n < 2 ^ (8 * w):=by
 have hp:=pow_le w hw
 constructor
 ·intro h hl
  have:=Int.ediv_eq_zero_of_lt h0 hl
  omega
 ·intro h
  exact (Int.le_ediv_iff_mul_le (by omega)).2 (by omega)
theorem sNum_ev (n:Int) (w:Nat) (hw:w≤7) (h1:1≤w):Ev (fun k=>spec_NumText.f k n (w:Int)) (nt n w):=by
 unfold spec_NumText.f
 have bad:¬ ntOk n w→Ev (fun k=>spec_NumText.j0 k n w true) (nt n w):=by
  intro h
  unfold nt
  rw [if_neg h]
  refine Ev.step (spec_NumText.j0.eq_2 _ _ _) ?_
  exact ev_pos rfl (ev_now rfl)
 by_cases h0:n < 0
 ·exact ev_pos h0 (bad (fun h=>by have:=h.1;omega))
 ·refine ev_neg h0 (Ev.bind (ev_eq (l01In_eq _ _ _)) (ev_pos (by simp;omega) ?_))
  rw [u64w (w:Int) (by omega) (by omega),u64w (8 * (w:Int)) (by omega) (by omega),shr_eq n w hw _ rfl]
  refine ev_pos (by omega) ?_
  by_cases hl:n < 2 ^ (8 * w)
  ·have hz:¬ n / 2 ^ (8 * w) > 0:=fun h=>(div_pos n w hw (by omega)).1 h hl
   rw [decide_eq_false hz]
   refine Ev.step (spec_NumText.j0.eq_2 _ _ _) ?_
   refine ev_neg (by simp) ?_
   rw [w64 (by omega) (by omega)]
   refine ev_to (sNum_l n w hw w [] (Nat.le_refl _) (by simp) (by simp;omega)) ?_
   unfold nt
   rw [if_pos ⟨by omega,h1,hw,hl⟩]
   simp
  ·have hz:n / 2 ^ (8 * w) > 0:=(div_pos n w hw (by omega)).2 hl
   rw [decide_eq_true hz]
   exact bad (fun h=>hl h.2.2.2)
theorem iNum_l (n:Int) (w:Nat) (hw:w≤7):∀ (p:Nat) (ys:List Int),p≤w→ys.length=w→ys.take p=(dn n w).take p→Ev (fun k=>impl_NumText.l0 k n w ys w p) (strOfNums (dn n w))
 | p,ys,hp,hl,ht=>by
  have hd:=dn_len n w
  refine Ev.step (impl_NumText.l0.eq_2 _ _ _ _ _) ?_
  by_cases h:p < w
  ·rw [w64 (x:=(w:Int) - 1) (by omega) (by omega),w64 (x:=(w:Int) - 1 - p) (by omega) (by omega),w64 (x:=8 * ((w:Int) - 1 - p)) (by omega) (by omega),w64s p (by omega),shr_eq n (w - 1 - p) (by omega) _ (by omega),Int.toNat_natCast]
   refine ev_pos (by omega) (ev_pos (by omega) (ev_pos (by omega) (ev_pos (by omega) ?_)))
   exact iNum_l n w hw (p+1) _ (by omega) (by simp [hl]) (take_set (by omega) ht (by omega) (by rw [dn_get];rfl))
  ·have:p=w:=by omega
   subst this
   refine ev_neg (by omega) (ev_now ?_)
   rw [show ys=dn n p from take_all (xs:=dn n p) (by omega) (by rw [hd];exact ht)]
 termination_by p=>w - p
theorem shl_eq (w:Nat) (hw:w≤7):shl .i64 1 (8 * (w:Int))=2 ^ (8 * w):=by
 have:w=0∨w=1∨w=2∨w=3∨w=4∨w=5∨w=6∨w=7:=by omega
 rcases this with h|h|h|h|h|h|h|h <;> subst h <;> decide
theorem iNum_ev (n:Int) (w:Nat) (hw:w≤7) (h1:1≤w):Ev (fun k=>impl_NumText.f k n (w:Int)) (nt n w):=by
 unfold impl_NumText.f
 have bad:¬ ntOk n w→Ev (fun k=>impl_NumText.j0 k n w true) (nt n w):=by
  intro h
  unfold nt
  rw [if_neg h]
  refine Ev.step (impl_NumText.j0.eq_2 _ _ _) ?_
  exact ev_pos rfl (ev_now rfl)
 by_cases h0:n < 0
 ·exact ev_pos h0 (bad (fun h=>by have:=h.1;omega))
 ·refine ev_neg h0 (Ev.bind (ev_eq (within_eq _ _ _)) (ev_pos (by simp;omega) ?_))
  rw [w64 (x:=8 * (w:Int)) (by omega) (by omega),shl_eq w hw]
  refine ev_pos (by omega) ?_
  by_cases hl:n < 2 ^ (8 * w)
  ·rw [decide_eq_false (by omega)]
   refine Ev.step (impl_NumText.j0.eq_2 _ _ _) ?_
   refine ev_neg (by simp) (ev_pos (by omega) (ev_pos (by omega) (Ev.bind (Ev.now _) ?_)))
   rw [Int.toNat_natCast]
   have:=iNum_l n w hw 0 (List.replicate w 0) (by omega) (by simp) (by simp)
   rw [List.length_replicate]
   refine ev_to this ?_
   unfold nt
   rw [if_pos ⟨by omega,h1,hw,hl⟩]
  ·rw [decide_eq_true (by omega)]
   exact bad (fun h=>hl h.2.2.2)
theorem nt_size (n:Int) (w:Nat):(nt n w).size≤w:=by
 unfold nt
 split
 ·have:=dn_len n w
  unfold strOfNums
  rw [b_size,List.length_map];omega
 ·show 0≤w;omega

theorem long_l (n:Nat) (hn:n≤1048576):∀ (i:Nat) (ys:List Int),i≤n→ys.length=n→(∀ y ∈ ys,y=0)→Ev (fun k=>spec_l01Long.l0 k n 0 ys i) (strOfNums ys)
 | i,ys,hi,hl,hz=>by
  refine Ev.step (spec_l01Long.l0.eq_2 _ _ _ _) ?_
  by_cases h:i < n
  ·refine ev_pos (by omega) (ev_pos (by omega) (ev_pos (by omega) ?_))
   rw [w64s i (by omega),Int.toNat_natCast]
   have e:ys.set i 0=ys:=by
    apply List.ext_getElem (by simp)
    intro j h1 h2
    rw [List.getElem_set]
    split
    ·exact (hz _ (List.getElem_mem h2)).symm
    ·rfl
   rw [e]
   exact long_l n hn (i+1) ys (by omega) hl hz
  ·exact ev_neg (by omega) (ev_now rfl)
 termination_by i=>n - i
theorem long_ev (n:Nat) (hn:n≤1048576):Ev (fun k=>spec_l01Long.f k n 0) (zb n):=by
 unfold spec_l01Long.f
 refine ev_pos (by omega) (ev_pos (by omega) (ev_to (long_l n hn 0 _ (by omega) (by simp) (by simp)) ?_))
 simp [strOfNums,zb]
theorem zeroText_ev (n:Nat) (hn:n≤20000):Ev (fun k=>spec_ZeroText.f k (n:Int)) (zb n):=by
 unfold spec_ZeroText.f
 exact Ev.bind (ev_eq (l01In_eq _ _ _)) (ev_pos (by simp;omega) (Ev.bind (long_ev n (by omega)) (ev_now rfl)))

def wdT (s:ByteArray):ByteArray:=if s.size > 8 then ⟨#[]⟩ else s++zb (8 - s.size)
theorem sWord_ev (s:ByteArray) (hs:s.size≤4000000):Ev (fun k=>spec_WordText.f k s) (wdT s):=by
 unfold spec_WordText.f wdT
 by_cases h:s.size > 8
 ·rw [if_pos h];exact ev_pos (by omega) (ev_now rfl)
 ·rw [if_neg h]
  refine ev_neg (by omega) ?_
  rw [show (8:Int) - (s.size:Int)=((8 - s.size:Nat):Int) by omega]
  exact Ev.bind (zeroText_ev _ (by omega)) (ev_pos (by rw [zb_size];omega) (ev_now rfl))
theorem iWord_eq (s:ByteArray) (hs:s.size≤4000000):impl_WordText.f s=some (wdT s):=by
 unfold impl_WordText.f wdT
 by_cases h:s.size > 8
 ·rw [if_pos h,if_pos (by omega)]
 ·rw [if_neg h,if_neg (by omega),padded_eq s 8 (by omega) (by omega) hs,Option.bind_some,show ((8:Int) - (s.size:Int)).toNat=8 - s.size by omega]

theorem btn (a:ByteArray) (i:Nat) (h:i < a.data.toList.length):bt a (i:Int)=((a.data.toList[i]).toNat:Int):=by
 have h2:i < a.size:=by rw [b_len] at h;exact h
 rw [← bt_at a (i:Int) (by simpa using h2)]
 simp only [Int.toNat_natCast];rfl

def nmB (b:Int):Bool:=decide (97≤b∧b≤122) || decide (48≤b∧b≤57)
def nmV (a:ByteArray):Bool:=a.data.toList.all (fun x=>nmB (x.toNat:Int)) && decide (1≤(a.size:Int)∧(a.size:Int)≤7)
theorem nm_step (a:ByteArray) (i:Nat) (h:i < a.data.toList.length):(a.data.toList.drop i).all (fun x=>nmB (x.toNat:Int))=(nmB (bt a (i:Int)) && (a.data.toList.drop (i+1)).all (fun x=>nmB (x.toNat:Int))):=by
 rw [btn a i h]
 rw [show a.data.toList.drop i=a.data.toList[i] :: a.data.toList.drop (i+1) from List.drop_eq_getElem_cons h,List.all_cons]
theorem bt_byte (a:ByteArray) (i:Nat) (h:i < a.data.toList.length):0≤bt a (i:Int)∧bt a (i:Int)≤255:=by
 rw [btn a i h]
 have:=(a.data.toList[i]).toNat_lt
 omega
theorem sName_l (a:ByteArray) (ha:a.size≤4000000):∀ i:Nat,i≤a.size→Ev (fun k=>spec_NameOk.l0 k a (i:Int)) ((a.data.toList.drop i).all (fun x=>nmB (x.toNat:Int)) && decide (1≤(a.size:Int)∧(a.size:Int)≤7))
 | i,hi=>by
  have hl:=b_len a
  refine Ev.step (spec_NameOk.l0.eq_2 _ _) ?_
  by_cases h:i < a.size
  ·have hb:=bt_byte a i (by omega)
   rw [nm_step a i (by omega)]
   refine ev_pos (by omega) (ev_pos (by omega) ?_)
   rw [w64 (x:=bt a (i:Int)) (by omega) (by omega),l01In_eq,w64s i (by omega)]
   refine Ev.bind (Ev.now _) ?_
   have ih:=sName_l a ha (i+1) (by omega)
   unfold nmB at ih ⊢
   by_cases h1:97≤bt a (i:Int)∧bt a (i:Int)≤122
   ·exact ev_pos (decide_eq_true h1) (ev_to ih (by simp [h1]))
   ·rw [l01In_eq]
    refine ev_neg (by simpa using h1) (Ev.bind (Ev.now _) ?_)
    by_cases h2:48≤bt a (i:Int)∧bt a (i:Int)≤57
    ·exact ev_pos (decide_eq_true h2) (ev_to ih (by simp [h2]))
    ·exact ev_neg (by simpa using h2) (ev_now (by rw [decide_eq_false h1,decide_eq_false h2];simp))
  ·rw [l01In_eq (a.size:Int) 1 7,List.drop_of_length_le (by omega)]
   exact ev_neg (by omega) (Ev.bind (Ev.now _) (ev_now (by simp)))
 termination_by i=>a.size - i
theorem sName_ev (a:ByteArray) (ha:a.size≤4000000):Ev (fun k=>spec_NameOk.f k a) (nmV a):=by
 unfold spec_NameOk.f nmV
 exact ev_to (sName_l a ha 0 (by omega)) (by rw [List.drop_zero])
theorem iName_l (a:ByteArray) (ha:a.size≤4000000):∀ i:Nat,i≤a.size→Ev (fun k=>impl_NameOk.l0 k a (a.size:Int) (i:Int)) ((a.data.toList.drop i).all (fun x=>nmB (x.toNat:Int)) && decide (1≤(a.size:Int)∧(a.size:Int)≤7))
 | i,hi=>by
  have hl:=b_len a
  refine Ev.step (impl_NameOk.l0.eq_2 _ _ _) ?_
  by_cases h:i < a.size
  ·have hb:=bt_byte a i (by omega)
   rw [nm_step a i (by omega)]
   refine ev_pos (by omega) (ev_pos (by omega) (ev_pos (by omega) ?_))
   rw [w64s i (by omega)]
   have ih:=iName_l a ha (i+1) (by omega)
   unfold nmB at ih ⊢
   have low:Ev (fun k=>if bt a (i:Int) ≥ 48 then (if bt a (i:Int)≤57 then impl_NameOk.l0 k a (a.size:Int) ((i+1:Nat):Int) else some false) else some false) (decide (48≤bt a (i:Int)∧bt a (i:Int)≤57) && ((a.data.toList.drop (i+1)).all (fun x=>decide (97≤(x.toNat:Int)∧(x.toNat:Int)≤122) || decide (48≤(x.toNat:Int)∧(x.toNat:Int)≤57)) && decide (1≤(a.size:Int)∧(a.size:Int)≤7))):=by
    by_cases h1:bt a (i:Int) ≥ 48
    ·by_cases h2:bt a (i:Int)≤57
     ·exact ev_pos h1 (ev_pos h2 (ev_to ih (by rw [decide_eq_true (show 48≤bt a (i:Int)∧bt a (i:Int)≤57 from ⟨h1,h2⟩),Bool.true_and])))
     ·exact ev_pos h1 (ev_neg h2 (ev_now (by rw [decide_eq_false (fun hc=>h2 hc.2),Bool.false_and])))
    ·exact ev_neg h1 (ev_now (by rw [decide_eq_false (fun hc=>h1 hc.1),Bool.false_and]))
   by_cases h1:bt a (i:Int) ≥ 97
   ·by_cases h2:bt a (i:Int)≤122
    ·exact ev_pos h1 (ev_pos h2 (ev_to ih (by rw [decide_eq_true (show 97≤bt a (i:Int)∧bt a (i:Int)≤122 from ⟨h1,h2⟩),Bool.true_or,Bool.true_and])))
    ·exact ev_pos h1 (ev_neg h2 (ev_to low (by rw [decide_eq_false (show ¬ (97≤bt a (i:Int)∧bt a (i:Int)≤122) from fun hc=>h2 hc.2),Bool.false_or,Bool.and_assoc])))
   ·exact ev_neg h1 (ev_to low (by rw [decide_eq_false (show ¬ (97≤bt a (i:Int)∧bt a (i:Int)≤122) from fun hc=>h1 hc.1),Bool.false_or,Bool.and_assoc]))
  ·rw [within_eq,List.drop_of_length_le (by omega)]
   exact ev_neg (by omega) (Ev.bind (Ev.now _) (ev_now (by simp)))
 termination_by i=>a.size - i
theorem iName_ev (a:ByteArray) (ha:a.size≤4000000):Ev (fun k=>impl_NameOk.f k a) (nmV a):=by
 unfold impl_NameOk.f nmV
 exact ev_to (iName_l a ha 0 (by omega)) (by rw [List.drop_zero])
noncomputable def enV (a:Int) (t:ByteArray):ByteArray:=if (1≤a∧a≤5)∧nmV t=true then wdT (nt a 1++t) else ⟨#[]⟩
theorem sEnt_j (a:Int) (t:ByteArray) (ht:t.size≤2000000) (z:Bool):Ev (fun k=>spec_EntryWord.j0 k z a t) (if z=true then ⟨#[]⟩ else wdT (nt a 1++t)):=by
 refine Ev.step (spec_EntryWord.j0.eq_2 _ _ _) ?_
 have z1:=nt_size a 1
 cases z with
 | true=>exact ev_pos rfl (ev_now rfl)
 | false=>exact ev_neg (by simp) (Ev.bind (sNum_ev a 1 (by omega) (by omega)) (ev_pos (by omega) (Ev.bind (sWord_ev _ (by rw [ByteArray.size_append];omega)) (ev_now rfl))))
theorem sEnt_ev (a:Int) (t:ByteArray) (ht:t.size≤2000000):Ev (fun k=>spec_EntryWord.f k a t) (enV a t):=by
 unfold spec_EntryWord.f enV
 rw [l01In_eq]
 refine Ev.bind (Ev.now _) ?_
 by_cases h1:1≤a∧a≤5
 ·refine ev_pos (decide_eq_true h1) (Ev.bind (sName_ev t (by omega)) (ev_to (sEnt_j a t ht _) ?_))
  by_cases h2:nmV t=true
  ·rw [if_neg (by simp [h2]),if_pos ⟨h1,h2⟩]
  ·rw [if_pos (by simp at h2;simp [h2]),if_neg (fun h=>h2 h.2)]
 ·exact ev_neg (by simpa using h1) (ev_to (sEnt_j a t ht true) (by rw [if_pos rfl,if_neg (fun h=>h1 h.1)]))
theorem iEnt_j (a:Int) (t:ByteArray) (ht:t.size≤2000000) (z:Bool):Ev (fun k=>impl_EntryWord.j0 k z a t) (if z=true then ⟨#[]⟩ else wdT (nt a 1++t)):=by
 refine Ev.step (impl_EntryWord.j0.eq_2 _ _ _) ?_
 have z1:=nt_size a 1
 cases z with
 | true=>exact ev_pos rfl (ev_now rfl)
 | false=>exact ev_neg (by simp) (Ev.bind (iNum_ev a 1 (by omega) (by omega)) (ev_pos (by omega) (Ev.bind (ev_eq (iWord_eq _ (by rw [ByteArray.size_append];omega))) (ev_now rfl))))
theorem iEnt_ev (a:Int) (t:ByteArray) (ht:t.size≤2000000):Ev (fun k=>impl_EntryWord.f k a t) (enV a t):=by
 unfold impl_EntryWord.f enV
 rw [within_eq]
 refine Ev.bind (Ev.now _) ?_
 by_cases h1:1≤a∧a≤5
 ·refine ev_pos (decide_eq_true h1) (Ev.bind (iName_ev t (by omega)) (ev_to (iEnt_j a t ht _) ?_))
  by_cases h2:nmV t=true
  ·rw [if_neg (by simp [h2]),if_pos ⟨h1,h2⟩]
  ·rw [if_pos (by simp at h2;simp [h2]),if_neg (fun h=>h2 h.2)]
 ·exact ev_neg (by simpa using h1) (ev_to (iEnt_j a t ht true) (by rw [if_pos rfl,if_neg (fun h=>h1 h.1)]))

def naG (s:ByteArray):Nat→Nat→Int→Int
 | 0,_,n=>n
 | f+1,i,n=>naG s f (i+1) (256 * n+bt s (i:Int))
def naB:Nat→Int
 | 0=>16777215
 | 1=>65535
 | 2=>255
 | _=>0
theorem naB_step (f:Nat) (n b:Int) (h:n≤naB (f+1)) (hf:f+1≤3) (hb:b≤255):256 * n+b≤naB f∧n≤65535:=by
 have:f=0∨f=1∨f=2:=by omega
 rcases this with rfl|rfl|rfl <;> simp only [naB] at h ⊢ <;> omega
theorem naB_nn (w:Nat):0≤naB w:=by
 unfold naB
 split <;> omega
theorem or_add (x y:Int) (h0:0≤x) (h1:x≤65535) (y0:0≤y) (y1:y≤255):Go.bits .or .i64 (x * 256) y=256 * x+y:=by
 have p33:(2:Int) ^ 33=8589934592:=by decide
 have p8:(2:Int) ^ 8=256:=by decide
 have hw:∀ n:Int,0≤n→n < 2 ^ 33→IntKind.i64.wrap n=n:=by
  intro n a b
  rw [i64_w]
  exact w64 (by omega) (by omega)
 have hj:=Go.bits_join .i64 33 (by decide) hw 8 (x * 256) y (by omega) (by omega) (by omega) y0 (by omega) (by omega)
 rw [hj]
 omega
theorem sNA_l (s:ByteArray) (hs:s.size≤4000000) (a w:Nat):∀ (f i:Nat) (n:Int),f≤3→0≤n→n≤naB f→i+f=a+w→a+w≤s.size→Ev (fun k=>spec_NumAt.l0 k s (a:Int) (w:Int) n (i:Int)) (naG s f i n,true)
 | 0,i,n,hf,h0,h1,hi,hl=>by
  refine Ev.step (spec_NumAt.l0.eq_2 _ _ _ _ _) ?_
  rw [w64 (x:=(a:Int)+(w:Int)) (by omega) (by omega)]
  exact ev_neg (by omega) (ev_now rfl)
 | f+1,i,n,hf,h0,h1,hi,hl=>by
  refine Ev.step (spec_NumAt.l0.eq_2 _ _ _ _ _) ?_
  have hb:=bt_byte s i (by rw [b_len];omega)
  have hq:=naB_step f n (bt s (i:Int)) h1 hf hb.2
  rw [w64 (x:=(a:Int)+(w:Int)) (by omega) (by omega),w64 (x:=256 * n) (by omega) (by omega),w64 (x:=bt s (i:Int)) (by omega) (by omega),w64 (x:=256 * n+bt s (i:Int)) (by omega) (by omega),w64s i (by omega)]
  exact ev_pos (by omega) (ev_pos (by omega) (ev_pos (by omega) (sNA_l s hs a w f (i+1) _ (by omega) (by omega) hq.1 (by omega) hl)))
theorem sNA_ev (s:ByteArray) (hs:s.size≤4000000) (a w:Nat) (h1:1≤w) (h3:w≤3) (hl:a+w≤s.size):Ev (fun k=>spec_NumAt.f k s (a:Int) (w:Int)) (naG s w a 0,true):=by
 unfold spec_NumAt.f
 rw [l01In_eq]
 refine Ev.bind (Ev.now _) (ev_pos (decide_eq_true (by omega)) ?_)
 rw [l01In_eq,w64 (x:=(s.size:Int) - (w:Int)) (by omega) (by omega)]
 refine Ev.bind (Ev.now _) ?_
 rw [decide_eq_true (show (0:Int)≤(a:Int)∧(a:Int)≤(s.size:Int) - (w:Int) by omega)]
 refine Ev.step (spec_NumAt.j0.eq_2 _ _ _ _) ?_
 exact ev_neg (by simp) (sNA_l s hs a w w a 0 (by omega) (by omega) (naB_nn w) rfl hl)

theorem iNA_l (s:ByteArray) (hs:s.size≤4000000) (a w:Nat):∀ (f j:Nat) (n:Int),f≤3→0≤n→n≤naB f→j+f=w→a+w≤s.size→Ev (fun k=>impl_NumAt.l0 k s (a:Int) n (w:Int) (j:Int)) (naG s f (a+j) n,true)
 | 0,j,n,hf,h0,h1,hi,hl=>by
  refine Ev.step (impl_NumAt.l0.eq_2 _ _ _ _ _) ?_
  exact ev_neg (by omega) (ev_now rfl)
 | f+1,j,n,hf,h0,h1,hi,hl=>by
  refine Ev.step (impl_NumAt.l0.eq_2 _ _ _ _ _) ?_
  have hb:=bt_byte s (a+j) (by rw [b_len];omega)
  have hq:=naB_step f n (bt s ((a+j:Nat):Int)) h1 hf hb.2
  rw [w64 (x:=(a:Int)+(j:Int)) (by omega) (by omega),show (a:Int)+(j:Int)=((a+j:Nat):Int) by omega,w64 (x:=n * 256) (by omega) (by omega),w64 (x:=bt s ((a+j:Nat):Int)) (by omega) (by omega),or_add n _ h0 hq.2 hb.1 hb.2,w64s j (by omega)]
  exact ev_pos (by omega) (ev_pos (by omega) (ev_pos (by omega) (iNA_l s hs a w f (j+1) _ (by omega) (by omega) hq.1 (by omega) hl)))
theorem iNA_ev (s:ByteArray) (hs:s.size≤4000000) (a w:Nat) (h1:1≤w) (h3:w≤3) (hl:a+w≤s.size):Ev (fun k=>impl_NumAt.f k s (a:Int) (w:Int)) (naG s w a 0,true):=by
 unfold impl_NumAt.f
 refine ev_neg (by omega) ?_
 rw [within_eq,w64 (x:=(s.size:Int) - (w:Int)) (by omega) (by omega)]
 refine Ev.bind (Ev.now _) (ev_pos (decide_eq_true (by omega)) ?_)
 rw [decide_eq_false (show ¬ ((a:Int) > (s.size:Int) - (w:Int)) by omega)]
 refine Ev.step (impl_NumAt.j0.eq_2 _ _ _ _) ?_
 exact ev_neg (by simp) (iNA_l s hs a w w 0 0 (by omega) (by omega) (naB_nn w) (by omega) hl)


noncomputable def recV (a b:Int) (t:ByteArray):ByteArray:=if (1≤a∧a≤12)∧(1≤b∧b≤16777215)∧t.size=4 then nt a 1++nt b 3++t else ⟨#[]⟩
theorem sRec_j (a b:Int) (t:ByteArray) (ht:t.size≤4000000) (z:Bool):Ev (fun k=>spec_RecWord.j0 k z a b t) (if z=true then ⟨#[]⟩ else nt a 1++nt b 3++t):=by
 refine Ev.step (spec_RecWord.j0.eq_2 _ _ _ _) ?_
 have z1:=nt_size a 1
 have z3:=nt_size b 3
 cases z with
 | true=>exact ev_pos rfl (ev_now rfl)
 | false=>exact ev_neg (by simp) (Ev.bind (sNum_ev a 1 (by omega) (by omega)) (Ev.bind (sNum_ev b 3 (by omega) (by omega)) (ev_pos (by omega) (ev_pos (by rw [ByteArray.size_append];omega) (ev_now rfl)))))
theorem sRec_ev (a b:Int) (t:ByteArray) (ht:t.size≤4000000):Ev (fun k=>spec_RecWord.f k a b t) (recV a b t):=by
 unfold spec_RecWord.f recV
 rw [l01In_eq]
 refine Ev.bind (Ev.now _) ?_
 by_cases h1:1≤a∧a≤12
 ·rw [l01In_eq]
  refine ev_pos (decide_eq_true h1) (Ev.bind (Ev.now _) ?_)
  by_cases h2:1≤b∧b≤16777215
  ·refine ev_pos (decide_eq_true h2) (ev_to (sRec_j a b t ht _) ?_)
   by_cases h3:t.size=4
   ·rw [if_neg (by simp [h3]),if_pos ⟨h1,h2,h3⟩]
   ·rw [if_pos (by simp;omega),if_neg (fun h=>h3 h.2.2)]
  ·exact ev_neg (by simpa using h2) (ev_to (sRec_j a b t ht true) (by rw [if_pos rfl,if_neg (fun h=>h2 h.2.1)]))
 ·exact ev_neg (by simpa using h1) (ev_to (sRec_j a b t ht true) (by rw [if_pos rfl,if_neg (fun h=>h1 h.1)]))
theorem iRec_j (a b:Int) (t:ByteArray) (ht:t.size≤4000000) (z:Bool):Ev (fun k=>impl_RecWord.j0 k z a b t) (if z=true then ⟨#[]⟩ else nt a 1++nt b 3++t):=by
 refine Ev.step (impl_RecWord.j0.eq_2 _ _ _ _) ?_
 have z1:=nt_size a 1
 have z3:=nt_size b 3
 cases z with
 | true=>exact ev_pos rfl (ev_now rfl)
 | false=>exact ev_neg (by simp) (Ev.bind (iNum_ev a 1 (by omega) (by omega)) (Ev.bind (iNum_ev b 3 (by omega) (by omega)) (ev_pos (by omega) (ev_pos (by rw [ByteArray.size_append];omega) (ev_now rfl)))))
theorem iRec_ev (a b:Int) (t:ByteArray) (ht:t.size≤4000000):Ev (fun k=>impl_RecWord.f k a b t) (recV a b t):=by
 unfold impl_RecWord.f recV
 rw [within_eq]
 refine Ev.bind (Ev.now _) ?_
 by_cases h1:1≤a∧a≤12
 ·rw [within_eq]
  refine ev_pos (decide_eq_true h1) (Ev.bind (Ev.now _) ?_)
  by_cases h2:1≤b∧b≤16777215
  ·refine ev_pos (decide_eq_true h2) (ev_to (iRec_j a b t ht _) ?_)
   by_cases h3:t.size=4
   ·rw [if_neg (by simp [h3]),if_pos ⟨h1,h2,h3⟩]
   ·rw [if_pos (by simp;omega),if_neg (fun h=>h3 h.2.2)]
  ·exact ev_neg (by simpa using h2) (ev_to (iRec_j a b t ht true) (by rw [if_pos rfl,if_neg (fun h=>h2 h.2.1)]))
 ·exact ev_neg (by simpa using h1) (ev_to (iRec_j a b t ht true) (by rw [if_pos rfl,if_neg (fun h=>h1 h.1)]))

noncomputable def rrV (w:ByteArray):Int × Int × ByteArray × Bool:=if w.size=8∧(recV (naG w 1 0 0) (naG w 3 1 0) (w.extract 4 w.size)).toList=w.toList then (naG w 1 0 0,naG w 3 1 0,w.extract 4 w.size,true) else (0,0,⟨#[]⟩,false)
theorem sRR_ev (w:ByteArray) (hw:w.size≤4000000):Ev (fun k=>spec_ReadRec.f k w) (rrV w):=by
 unfold spec_ReadRec.f rrV
 by_cases h8:w.size=8
 ·refine ev_pos (by omega) (Ev.bind (sNA_ev w hw 0 1 (by omega) (by omega) (by omega)) (Ev.bind (sNA_ev w hw 1 3 (by omega) (by omega) (by omega)) (ev_pos (by omega) (Ev.bind (sRec_ev _ _ _ (by rw [ByteArray.size_extract];omega)) ?_))))
  by_cases he:(recV (naG w 1 0 0) (naG w 3 1 0) (w.extract 4 w.size)).toList=w.toList
  ·exact ev_pos he (ev_now (if_pos ⟨h8,he⟩).symm)
  ·exact ev_neg he (ev_now (if_neg (fun h=>he h.2)).symm)
 ·exact ev_neg (by omega) (ev_now (if_neg (fun h=>h8 h.1)).symm)

theorem iRR_ev (w:ByteArray) (hw:w.size≤4000000):Ev (fun k=>impl_ReadRec.f k w) (rrV w):=by
 unfold impl_ReadRec.f rrV
 by_cases h8:w.size=8
 ·refine ev_pos (by omega) (Ev.bind (iNA_ev w hw 0 1 (by omega) (by omega) (by omega)) (Ev.bind (iNA_ev w hw 1 3 (by omega) (by omega) (by omega)) (ev_pos (by omega) (Ev.bind (iRec_ev _ _ _ (by rw [ByteArray.size_extract];omega)) ?_))))
  by_cases he:(recV (naG w 1 0 0) (naG w 3 1 0) (w.extract 4 w.size)).toList=w.toList
  ·exact ev_pos he (ev_now (if_pos ⟨h8,he⟩).symm)
  ·exact ev_neg he (ev_now (if_neg (fun h=>he h.2)).symm)
 ·exact ev_neg (by omega) (ev_now (if_neg (fun h=>h8 h.1)).symm)


def trE (w:ByteArray):Nat→Nat
 | 0=>0
 | e+1=>if 1≤e∧bt w (e:Int)=0 then trE w e else e+1
noncomputable def rnX (w:ByteArray) (m:Nat):Int × ByteArray × Bool:=if (enV (bt w 0) (w.extract 1 m)).toList=w.toList then (bt w 0,w.extract 1 m,true) else (0,⟨#[]⟩,false)
noncomputable def rnV (w:ByteArray):Int × ByteArray × Bool:=if w.size=8 then rnX w (trE w 8) else (0,⟨#[]⟩,false)
theorem sRN_l (w:ByteArray) (h8:w.size=8):∀ e:Nat,1≤e→e≤8→Ev (fun k=>spec_ReadEntry.l0 k w (e:Int)) (rnX w (trE w e))
 | 0,h1,_=>by omega
 | e+1,h1,h2=>by
  refine Ev.step (spec_ReadEntry.l0.eq_2 _ _) ?_
  have hl:=b_len w
  have hb0:=bt_byte w 0 (by omega)
  have tail:∀ F:Nat→Option (Int × ByteArray × Bool),(∀ k,F k=if 0 < (w.size:Int) then (if 1≤((e+1:Nat):Int) then (if ((e+1:Nat):Int)≤(w.size:Int) then ((spec_EntryWord.f k (wrap64 (bt w 0)) (w.extract 1 (((e+1:Nat):Int):Int).toNat)).bind fun t140=>(if t140.toList=w.toList then (some (wrap64 (bt w 0),w.extract 1 (((e+1:Nat):Int):Int).toNat,true)) else (some (0,(⟨#[]⟩:ByteArray),false)))) else (none)) else (none)) else (none))→Ev F (rnX w (e+1)):=by
   intro F hF
   refine Ev.congr hF ?_
   rw [w64 (x:=bt w 0) (by have:=hb0.1;simpa using (by omega:(-9223372036854775808:Int)≤bt w ((0:Nat):Int))) (by have:=hb0.2;simpa using (by omega:bt w ((0:Nat):Int) < (9223372036854775808:Int))),Int.toNat_natCast]
   refine ev_pos (by omega) (ev_pos (by omega) (ev_pos (by omega) (Ev.bind (sEnt_ev _ _ (by rw [ByteArray.size_extract];omega)) ?_)))
   unfold rnX
   by_cases he:(enV (bt w 0) (w.extract 1 (e+1))).toList=w.toList
   ·exact ev_pos he (ev_now (if_pos he).symm)
   ·exact ev_neg he (ev_now (if_neg he).symm)
  have e1:wrap64 (((e+1:Nat):Int) - 1)=(e:Int):=by rw [w64 (by omega) (by omega)];omega
  rw [e1]
  unfold trE
  by_cases c1:1≤e
  ·refine ev_pos (by omega) (ev_pos (by omega) (ev_pos (by omega) ?_))
   by_cases c2:bt w (e:Int)=0
   ·rw [if_pos ⟨c1,c2⟩]
    exact ev_pos c2 (sRN_l w h8 e c1 (by omega))
   ·rw [if_neg (fun h=>c2 h.2)]
    exact ev_neg c2 (tail _ (fun _=>rfl))
  ·rw [if_neg (fun h=>c1 h.1)]
   exact ev_neg (by omega) (tail _ (fun _=>rfl))
theorem sRN_ev (w:ByteArray):Ev (fun k=>spec_ReadEntry.f k w) (rnV w):=by
 unfold spec_ReadEntry.f rnV
 by_cases h8:w.size=8
 ·rw [if_pos h8];exact ev_pos (by omega) (sRN_l w h8 8 (by omega) (by omega))
 ·rw [if_neg h8];exact ev_neg (by omega) (ev_now rfl)

theorem trim_snoc (xs:List UInt8) (b:UInt8):Lib.trimRightB (xs++[b]) 0=if b=0 then Lib.trimRightB xs 0 else xs++[b]:=by
 unfold Lib.trimRightB
 rw [List.reverse_append,List.reverse_singleton,List.singleton_append,List.dropWhile_cons]
 by_cases h:b=0
 ·rw [if_pos h,if_pos (by simp [h])]
 ·rw [if_neg h,if_neg (by simp [h])];simp
theorem trim_l (w:ByteArray) (h8:w.size=8):∀ e:Nat,e≤7→Lib.trimRightB ((w.data.toList.drop 1).take e) 0=(w.data.toList.drop 1).take (trE w (e+1) - 1)
 | 0,_=>by simp [trE,Lib.trimRightB]
 | e+1,h=>by
  have hl:=b_len w
  have ih:=trim_l w h8 e (by omega)
  have hd:e < (w.data.toList.drop 1).length:=by rw [List.length_drop];omega
  rw [List.take_succ_eq_append_getElem hd,trim_snoc,List.getElem_drop]
  have hb:bt w ((e+1:Nat):Int)=((w.data.toList[1+e]'(by omega)).toNat:Int):=by
   rw [btn w (e+1) (by omega)];congr 2;congr 1;omega
  show _=(w.data.toList.drop 1).take ((if 1≤e+1∧bt w ((e+1:Nat):Int)=0 then trE w (e+1) else e+1+1) - 1)
  by_cases hz:w.data.toList[1+e]'(by omega)=0
  ·rw [if_pos hz,if_pos ⟨by omega,by rw [hb,hz];rfl⟩,ih]
  ·rw [if_neg hz,if_neg,show e+1+1 - 1=e+1 from rfl,List.take_succ_eq_append_getElem hd,List.getElem_drop]
   rintro ⟨_,hc⟩
   rw [hb] at hc
   exact hz (UInt8.toNat_inj.1 (by have:(w.data.toList[1+e]'(by omega)).toNat=0:=(by omega);rw [this];rfl))
theorem trE_le (w:ByteArray):∀ e:Nat,trE w e≤e
 | 0=>Nat.le_refl _
 | e+1=>by
  unfold trE
  split
  ·have:=trE_le w e;omega
  ·omega
theorem trE_pos (w:ByteArray):∀ e:Nat,1≤e→1≤trE w e
 | 0,h=>by omega
 | e+1,_=>by
  unfold trE
  split
  ·rename_i h;exact trE_pos w e h.1
  ·omega
theorem trim_eq (w:ByteArray) (h8:w.size=8):strings_TrimRight.f (w.extract 1 w.size) (⟨#[0]⟩:ByteArray)=some (w.extract 1 (trE w 8)):=by
 have hl:=b_len w
 unfold strings_TrimRight.f
 rw [if_pos ⟨rfl,by rw [ByteArray.size_extract];omega⟩]
 congr 1
 refine b_inj ?_
 have h7:=trim_l w h8 7 (by omega)
 have hp:=trE_pos w 8 (by omega)
 have hq:=trE_le w 8
 have e1:(w.extract 1 w.size).data.toList=(w.data.toList.drop 1).take 7:=by
  rw [b_cut,List.take_of_length_le (by omega),List.take_of_length_le (by rw [List.length_drop];omega)]
 have e2:(w.extract 1 (trE w 8)).data.toList=(w.data.toList.drop 1).take (trE w 8 - 1):=by
  rw [b_cut,List.drop_take]
 rw [e1,e2,h7]
theorem iRN_ev (w:ByteArray):Ev (fun k=>impl_ReadEntry.f k w) (rnV w):=by
 unfold impl_ReadEntry.f rnV
 by_cases h8:w.size=8
 ·have hl:=b_len w
  have hb0:=bt_byte w 0 (by omega)
  rw [if_pos h8,trim_eq w h8,w64 (x:=bt w 0) (by have:=hb0.1;simpa using (by omega:(-9223372036854775808:Int)≤bt w ((0:Nat):Int))) (by have:=hb0.2;simpa using (by omega:bt w ((0:Nat):Int) < (9223372036854775808:Int)))]
  refine ev_pos (by omega) (ev_pos (by omega) (ev_pos (by omega) (Ev.bind (Ev.now _) (Ev.bind (iEnt_ev _ _ (by rw [ByteArray.size_extract];omega)) ?_))))
  unfold rnX
  by_cases he:(enV (bt w 0) (w.extract 1 (trE w 8))).toList=w.toList
  ·exact ev_pos he (ev_now (if_pos he).symm)
  ·exact ev_neg he (ev_now (if_neg he).symm)
 ·rw [if_neg h8];exact ev_neg (by omega) (ev_now rfl)


def pgF (n:Int):Int:=if n≤0 then 0 else (n - 1) / 32+1
theorem sPagesFor_eq (n:Int) (h:0≤n) (h1:n≤1048576):spec_PagesFor.f n=some (pgF n):=by
 unfold spec_PagesFor.f pgF
 split
 ·rfl
 ·rw [w64 (x:=n - 1) (by omega) (by omega),Int.tdiv_eq_ediv_of_nonneg (by omega),w64 (x:=(n - 1) / 32) (by omega) (by omega),w64 (by omega) (by omega)]
theorem iPagesFor_eq (n:Int) (h:0≤n) (h1:n≤1048576):impl_PagesFor.f n=some (pgF n):=by
 unfold impl_PagesFor.f pgF
 rw [if_neg (by omega),Int.tdiv_eq_ediv_of_nonneg h,Int.tmod_eq_emod_of_nonneg h,w64 (x:=n / 32) (by omega) (by omega),w64 (x:=n / 32+1) (by omega) (by omega)]
 split <;> split <;> congr 1 <;> omega

def dupR (rs:List S86) (i:Nat):Bool:=(rs.take i).any (fun y=>y.f0 == (rd_T86 rs (i:Int)).f0)
noncomputable def rcAll (rs:List S86):Nat→Nat→Bool
 | 0,_=>true
 | f+1,i=>if (recV (rd_T86 rs (i:Int)).f0 (rd_T86 rs (i:Int)).f1 (rd_T86 rs (i:Int)).f2).toList=([]:List UInt8) then false else if dupR rs i=true then false else rcAll rs f (i+1)
def ascE (es:List S90) (i:Nat):Bool:=if (i:Int) > 0 then Op.bytesLess ((rd_T90 es ((i:Int) - 1)).f1).toList ((rd_T90 es (i:Int)).f1).toList else true
noncomputable def enAll (es:List S90):Nat→Nat→Bool
 | 0,_=>true
 | f+1,i=>if (enV (rd_T90 es (i:Int)).f0 (rd_T90 es (i:Int)).f1).toList=([]:List UInt8) then false else if ascE es i=true then enAll es f (i+1) else false
noncomputable def okI (kd sz ct:Int) (mk:ByteArray) (rs:List S86) (es:List S90):Bool :=
 decide (0≤ct∧ct≤65535) && (if kd=0 then decide (sz=0∧mk.toList=[]∧rs.length=0∧es.length=0)
  else if kd=1 then decide ((0≤sz∧sz≤128)∧(mk.size:Int)=8∧(rs.length:Int)=pgF sz∧es.length=0) && rcAll rs rs.length 0
  else if kd=2 then decide (sz=0∧mk.toList=[]∧rs.length=0∧es.length≤6) && enAll es es.length 0
  else false)
theorem drop_any (rs:List S86) (i j:Nat) (hj:j < i) (hi:i < rs.length) (p:S86→Bool):((rs.take i).drop j).any p=(p rs[j] || ((rs.take i).drop (j+1)).any p):=by
 have hl:(rs.take i).length=i:=by rw [List.length_take];omega
 rw [List.drop_eq_getElem_cons (by omega),List.any_cons,List.getElem_take]
theorem sOk_l1 (kd sz ct:Int) (mk:ByteArray) (rs:List S86) (es:List S90) (hr:rs.length≤4000000) (i:Nat) (hi:i < rs.length) (N:Bool) (next:Ev (fun k=>spec_InodeOk.l0 k ((i+1:Nat):Int) kd sz ct mk rs es) N):∀ j:Nat,j≤i→Ev (fun k=>spec_InodeOk.l1 k (i:Int) (j:Int) kd sz ct mk rs es) (if ((rs.take i).drop j).any (fun y=>y.f0 == (rd_T86 rs (i:Int)).f0)=true then false else N)
 | j,hj=>by
  refine Ev.step (spec_InodeOk.l1.eq_2 _ _ _ _ _ _ _ _) ?_
  by_cases h:j < i
  ·refine ev_pos (by omega) (ev_pos (by omega) (ev_pos (by omega) (ev_pos (by omega) (ev_pos (by omega) ?_))))
   rw [drop_any rs i j h hi,rdiRec rs j (by omega),w64s j (by omega)]
   by_cases he:rs[j].f0=(rd_T86 rs (i:Int)).f0
   ·exact ev_pos he (ev_now (by rw [if_pos (by simp [he])]))
   ·refine ev_neg he (ev_to (sOk_l1 kd sz ct mk rs es hr i hi N next (j+1) (by omega)) ?_)
    rw [beq_false_of_ne he,Bool.false_or]
  ·have:j=i:=by omega
   subst this
   rw [w64s j (by omega)]
   refine ev_neg (by omega) (ev_to next ?_)
   rw [List.drop_of_length_le (by rw [List.length_take];omega)]
   simp
 termination_by j=>i - j
theorem sOk_l0 (kd sz ct:Int) (mk:ByteArray) (rs:List S86) (es:List S90) (hr:rs.length≤4000000) (hs:∀ y ∈ rs,y.f2.size≤4000000):∀ (f i:Nat),i+f=rs.length→Ev (fun k=>spec_InodeOk.l0 k (i:Int) kd sz ct mk rs es) (rcAll rs f i)
 | f,i,hf=>by
  refine Ev.step (spec_InodeOk.l0.eq_2 _ _ _ _ _ _ _) ?_
  cases f with
  | zero=>exact ev_neg (by omega) (ev_now rfl)
  | succ f =>
   have hz:(rd_T86 rs (i:Int)).f2.size≤4000000:=by rw [rdiRec rs i (by omega)];exact hs _ (List.getElem_mem _)
   refine ev_pos (by omega) (ev_pos (by omega) (Ev.bind (sRec_ev _ _ _ hz) ?_))
   unfold rcAll
   by_cases h:(recV (rd_T86 rs (i:Int)).f0 (rd_T86 rs (i:Int)).f1 (rd_T86 rs (i:Int)).f2).toList=([]:List UInt8)
   ·exact ev_to (ev_pos h (ev_now rfl)) (if_pos h).symm
   ·refine ev_to (ev_neg h (sOk_l1 kd sz ct mk rs es hr i (by omega) _ (sOk_l0 kd sz ct mk rs es hr hs f (i+1) (by omega)) 0 (by omega))) ?_
    rw [if_neg h]
    unfold dupR
    rw [List.drop_zero]
theorem sOk_l2 (kd sz ct:Int) (mk:ByteArray) (rs:List S86) (es:List S90) (hr:es.length≤4000000) (hs:∀ y ∈ es,y.f1.size≤2000000):∀ (f i:Nat),i+f=es.length→Ev (fun k=>spec_InodeOk.l2 k (i:Int) kd sz ct mk rs es) (enAll es f i)
 | f,i,hf=>by
  refine Ev.step (spec_InodeOk.l2.eq_2 _ _ _ _ _ _ _) ?_
  cases f with
  | zero=>exact ev_neg (by omega) (ev_now rfl)
  | succ f =>
   have hz:(rd_T90 es (i:Int)).f1.size≤2000000:=by rw [rdiEntry es i (by omega)];exact hs _ (List.getElem_mem _)
   refine ev_pos (by omega) (ev_pos (by omega) (Ev.bind (sEnt_ev _ _ hz) ?_))
   unfold enAll
   have ih:=sOk_l2 kd sz ct mk rs es hr hs f (i+1) (by omega)
   rw [w64s i (by omega)]
   by_cases h:(enV (rd_T90 es (i:Int)).f0 (rd_T90 es (i:Int)).f1).toList=([]:List UInt8)
   ·exact ev_to (ev_pos h (ev_now rfl)) (if_pos h).symm
   ·refine ev_to (ev_neg h ?_) (if_neg h).symm
    unfold ascE
    by_cases h0:(i:Int) > 0
    ·rw [if_pos h0,w64 (x:=(i:Int) - 1) (by omega) (by omega)]
     refine ev_pos h0 (ev_pos (by omega) (ev_pos (by omega) ?_))
     by_cases h2:Op.bytesLess ((rd_T90 es ((i:Int) - 1)).f1).toList ((rd_T90 es (i:Int)).f1).toList=true
     ·exact ev_to (ev_pos h2 ih) (if_pos h2).symm
     ·exact ev_to (ev_neg h2 (ev_now rfl)) (if_neg h2).symm
    ·rw [if_neg h0]
     exact ev_to (ev_neg h0 ih) (by simp)
theorem sOkI_ev (kd sz ct:Int) (mk:ByteArray) (rs:List S86) (es:List S90) (hr:rs.length≤4000000) (he:es.length≤4000000) (hs:∀ y ∈ rs,y.f2.size≤4000000) (hz:∀ y ∈ es,y.f1.size≤2000000):Ev (fun k=>spec_InodeOk.f k kd sz ct mk rs es) (okI kd sz ct mk rs es):=by
 unfold spec_InodeOk.f okI
 rw [l01In_eq]
 refine Ev.bind (Ev.now _) ?_
 by_cases h0:0≤ct∧ct≤65535
 ·rw [decide_eq_true h0,Bool.true_and]
  refine ev_pos rfl ?_
  by_cases k0:kd=0
  ·refine ev_to (ev_pos k0 ?_) (if_pos k0).symm
   by_cases a1:sz=0
   ·by_cases a2:mk.toList=([]:List UInt8)
    ·by_cases a3:(rs.length:Int)=0
     ·refine ev_pos a1 (ev_pos a2 (ev_pos a3 (ev_now ?_)))
      rw [Bool.eq_iff_iff,beq_iff_eq,decide_eq_true_eq]
      exact ⟨fun h=>⟨a1,a2,by omega,by omega⟩,fun h=>by have:=h.2.2.2;omega⟩
     ·exact ev_pos a1 (ev_pos a2 (ev_neg a3 (ev_now (by rw [decide_eq_false (fun h=>a3 (by have:=h.2.2.1;omega))]))))
    ·exact ev_pos a1 (ev_neg a2 (ev_now (by rw [decide_eq_false (fun h=>a2 h.2.1)])))
   ·exact ev_neg a1 (ev_now (by rw [decide_eq_false (fun h=>a1 h.1)]))
  refine ev_to (ev_neg k0 ?_) (if_neg k0).symm
  by_cases k1:kd=1
  ·refine ev_to (ev_pos k1 ?_) (if_pos k1).symm
   have bad:¬ ((0≤sz∧sz≤128)∧(mk.size:Int)=8∧(rs.length:Int)=pgF sz∧es.length=0)→∀ z:Bool,z=true→Ev (fun k=>spec_InodeOk.j0 k z kd sz ct mk rs es) (decide ((0≤sz∧sz≤128)∧(mk.size:Int)=8∧(rs.length:Int)=pgF sz∧es.length=0) && rcAll rs rs.length 0):=by
    intro hc z hz
    rw [decide_eq_false hc,Bool.false_and]
    refine Ev.step (spec_InodeOk.j0.eq_2 _ _ _ _ _ _ _) ?_
    exact ev_pos hz (ev_now rfl)
   rw [l01In_eq]
   refine Ev.bind (Ev.now _) ?_
   by_cases b1:0≤sz∧sz≤128
   ·refine ev_pos (decide_eq_true b1) ?_
    by_cases b2:(mk.size:Int)=8
    ·refine ev_pos b2 (Ev.bind (ev_eq (sPagesFor_eq sz b1.1 (by omega))) ?_)
     by_cases b3:(rs.length:Int)=pgF sz
     ·refine ev_pos b3 ?_
      by_cases b4:(es.length:Int) > 0
      ·exact bad (fun h=>by have:=h.2.2.2;omega) _ (decide_eq_true b4)
      ·rw [decide_eq_true (show (0≤sz∧sz≤128)∧(mk.size:Int)=8∧(rs.length:Int)=pgF sz∧es.length=0 from ⟨b1,b2,b3,by omega⟩),Bool.true_and]
       refine Ev.step (spec_InodeOk.j0.eq_2 _ _ _ _ _ _ _) ?_
       exact ev_neg (by simpa using b4) (sOk_l0 kd sz ct mk rs es hr hs rs.length 0 (by omega))
     ·exact ev_neg b3 (bad (fun h=>b3 h.2.2.1) _ rfl)
    ·exact ev_neg b2 (bad (fun h=>b2 h.2.1) _ rfl)
   ·exact ev_neg (by simpa using b1) (bad (fun h=>b1 h.1) _ rfl)
  refine ev_to (ev_neg k1 ?_) (if_neg k1).symm
  by_cases k2:kd=2
  ·refine ev_to (ev_pos k2 ?_) (if_pos k2).symm
   have bad:¬ (sz=0∧mk.toList=[]∧rs.length=0∧es.length≤6)→∀ z:Bool,z=true→Ev (fun k=>spec_InodeOk.j3 k z kd sz ct mk rs es) (decide (sz=0∧mk.toList=[]∧rs.length=0∧es.length≤6) && enAll es es.length 0):=by
    intro hc z hz
    rw [decide_eq_false hc,Bool.false_and]
    refine Ev.step (spec_InodeOk.j3.eq_2 _ _ _ _ _ _ _) ?_
    exact ev_pos hz (ev_now rfl)
   by_cases b1:sz=0
   ·refine ev_pos b1 ?_
    by_cases b2:mk.toList=([]:List UInt8)
    ·refine ev_pos b2 ?_
     by_cases b3:(rs.length:Int) > 0
     ·exact ev_pos b3 (bad (fun h=>by have:=h.2.2.1;omega) _ rfl)
     ·refine ev_neg b3 ?_
      by_cases b4:(es.length:Int) > 6
      ·exact bad (fun h=>by have:=h.2.2.2;omega) _ (decide_eq_true b4)
      ·rw [decide_eq_true (show sz=0∧mk.toList=[]∧rs.length=0∧es.length≤6 from ⟨b1,b2,by omega,by omega⟩),Bool.true_and]
       refine Ev.step (spec_InodeOk.j3.eq_2 _ _ _ _ _ _ _) ?_
       exact ev_neg (by rw [decide_eq_true_eq];exact b4) (sOk_l2 kd sz ct mk rs es he hz es.length 0 (by omega))
    ·exact ev_neg b2 (bad (fun h=>b2 h.2.1) _ rfl)
   ·exact ev_neg b1 (bad (fun h=>b1 h.1) _ rfl)
  ·exact ev_to (ev_neg k2 (ev_now rfl)) (if_neg k2).symm
 ·exact ev_neg (by simpa using h0) (ev_now (by rw [decide_eq_false h0,Bool.false_and]))
theorem idx_any (rs:List S86) (p:S86→Bool):∀ i:Nat,decide (Lib.idxByFrom (fun _ y=>p y) z86 rs i ≥ 0)=rs.any p:=by
 induction rs with
 | nil=>intro i;simp [Lib.idxByFrom]
 | cons x r ih =>
  intro i
  unfold Lib.idxByFrom
  rw [List.any_cons]
  by_cases h:p x=true
  ·rw [if_pos h,h,Bool.true_or];first|(simp;done)|(simp;omega)
  ·rw [if_neg h,ih (i+1)];simp at h;rw [h,Bool.false_or]
theorem iCont_eq (rs:List S86) (a b:Int) (t:ByteArray) (hn:rs.length≤4000000):slices_ContainsFunc_Rec_g124.f rs a b t=some (rs.any (fun y=>y.f0 == a)):=by
 unfold slices_ContainsFunc_Rec_g124.f
 rw [if_pos (by omega)]
 congr 1
 exact idx_any rs (fun y=>y.f0 == a) 0
theorem iFile_l (kd sz ct:Int) (mk:ByteArray) (rs:List S86) (es:List S90) (hr:rs.length≤4000000) (hs:∀ y ∈ rs,y.f2.size≤4000000) (N:Bool) (fin:Ev (fun k=>(impl_within.f sz 0 128).bind fun t246=>(if t246=true then (if (mk.size:Int)=8 then ((impl_PagesFor.f sz).bind fun t247=>(if (rs.length:Int)=t247 then (some ((es.length:Int) == 0)) else (some false))) else (some false)) else (some false))) N):∀ (f i:Nat),i+f=rs.length→Ev (fun k=>impl_isFile.l0 k rs (rs.length:Int) (i:Int) kd sz ct mk rs es) (rcAll rs f i && N)
 | f,i,hf=>by
  refine Ev.step (impl_isFile.l0.eq_2 _ _ _ _ _ _ _ _ _) ?_
  cases f with
  | zero=>exact ev_neg (by omega) (ev_to fin (by simp [rcAll]))
  | succ f =>
   have hz:(rd_T86 rs (i:Int)).f2.size≤4000000:=by rw [rdiRec rs i (by omega)];exact hs _ (List.getElem_mem _)
   refine ev_pos (by omega) (ev_pos (by omega) (ev_pos (by omega) (Ev.bind (iRec_ev _ _ _ hz) ?_)))
   unfold rcAll
   rw [w64s i (by omega),Int.toNat_natCast]
   by_cases h:(recV (rd_T86 rs (i:Int)).f0 (rd_T86 rs (i:Int)).f1 (rd_T86 rs (i:Int)).f2).toList=([]:List UInt8)
   ·exact ev_pos h (ev_now (by rw [if_pos h,Bool.false_and]))
   ·refine ev_neg h (ev_pos (by omega) (Ev.bind (ev_eq (iCont_eq (rs.take i) _ _ _ (by rw [List.length_take];omega))) ?_))
    rw [if_neg h]
    unfold dupR
    by_cases hd:((rs.take i).any fun y=>y.f0 == (rd_T86 rs (i:Int)).f0)=true
    ·exact ev_pos hd (ev_now (by rw [if_pos hd,Bool.false_and]))
    ·exact ev_neg hd (ev_to (iFile_l kd sz ct mk rs es hr hs N fin f (i+1) (by omega)) (by rw [if_neg hd]))
theorem iFile_ev (kd sz ct:Int) (mk:ByteArray) (rs:List S86) (es:List S90) (hr:rs.length≤4000000) (hs:∀ y ∈ rs,y.f2.size≤4000000):Ev (fun k=>impl_isFile.f k kd sz ct mk rs es) (decide ((0≤sz∧sz≤128)∧(mk.size:Int)=8∧(rs.length:Int)=pgF sz∧es.length=0) && rcAll rs rs.length 0):=by
 unfold impl_isFile.f
 refine ev_to (iFile_l kd sz ct mk rs es hr hs (decide ((0≤sz∧sz≤128)∧(mk.size:Int)=8∧(rs.length:Int)=pgF sz∧es.length=0)) ?_ rs.length 0 (by omega)) (Bool.and_comm _ _)
 rw [within_eq]
 refine Ev.bind (Ev.now _) ?_
 by_cases b1:0≤sz∧sz≤128
 ·refine ev_pos (decide_eq_true b1) ?_
  by_cases b2:(mk.size:Int)=8
  ·refine ev_pos b2 (Ev.bind (ev_eq (iPagesFor_eq sz b1.1 (by omega))) ?_)
   by_cases b3:(rs.length:Int)=pgF sz
   ·refine ev_pos b3 (ev_now ?_)
    rw [Bool.eq_iff_iff,beq_iff_eq,decide_eq_true_eq]
    exact ⟨fun h=>⟨b1,b2,b3,by omega⟩,fun h=>by have:=h.2.2.2;omega⟩
   ·exact ev_neg b3 (ev_now (by rw [decide_eq_false (fun h=>b3 h.2.2.1)]))
  ·exact ev_neg b2 (ev_now (by rw [decide_eq_false (fun h=>b2 h.2.1)]))
 ·exact ev_neg (by simpa using b1) (ev_now (by rw [decide_eq_false (fun h=>b1 h.1)]))
theorem iDir_l (kd sz ct:Int) (mk:ByteArray) (rs:List S86) (es:List S90) (hr:es.length≤4000000) (hs:∀ y ∈ es,y.f1.size≤2000000):∀ (f i:Nat),i+f=es.length→Ev (fun k=>impl_isDir.l0 k es (es.length:Int) (i:Int) kd sz ct mk rs es) (enAll es f i && decide (sz=0∧mk.toList=[]∧rs.length=0∧es.length≤6))
 | f,i,hf=>by
  refine Ev.step (impl_isDir.l0.eq_2 _ _ _ _ _ _ _ _ _) ?_
  cases f with
  | zero =>
   refine ev_neg (by omega) ?_
   rw [show enAll es 0 i=true from rfl,Bool.true_and]
   by_cases b1:sz=0
   ·by_cases b2:mk.toList=([]:List UInt8)
    ·by_cases b3:(rs.length:Int)=0
     ·refine ev_pos b1 (ev_pos b2 (ev_pos b3 (ev_now ?_)))
      rw [Bool.eq_iff_iff,decide_eq_true_eq,decide_eq_true_eq]
      exact ⟨fun h=>⟨b1,b2,by omega,by omega⟩,fun h=>by have:=h.2.2.2;omega⟩
     ·exact ev_pos b1 (ev_pos b2 (ev_neg b3 (ev_now (by rw [decide_eq_false (fun h=>b3 (by have:=h.2.2.1;omega))]))))
    ·exact ev_pos b1 (ev_neg b2 (ev_now (by rw [decide_eq_false (fun h=>b2 h.2.1)])))
   ·exact ev_neg b1 (ev_now (by rw [decide_eq_false (fun h=>b1 h.1)]))
  | succ f =>
   have hz:(rd_T90 es (i:Int)).f1.size≤2000000:=by rw [rdiEntry es i (by omega)];exact hs _ (List.getElem_mem _)
   refine ev_pos (by omega) (ev_pos (by omega) (ev_pos (by omega) (Ev.bind (iEnt_ev _ _ hz) ?_)))
   unfold enAll
   have ih:=iDir_l kd sz ct mk rs es hr hs f (i+1) (by omega)
   rw [w64s i (by omega)]
   by_cases h:(enV (rd_T90 es (i:Int)).f0 (rd_T90 es (i:Int)).f1).toList=([]:List UInt8)
   ·exact ev_pos h (ev_now (by rw [if_pos h,Bool.false_and]))
   ·refine ev_neg h ?_
    rw [if_neg h]
    unfold ascE
    by_cases h0:(i:Int) > 0
    ·rw [if_pos h0,w64 (x:=(i:Int) - 1) (by omega) (by omega)]
     refine ev_pos h0 (ev_pos (by omega) (ev_pos (by omega) ?_))
     by_cases h2:Op.bytesLess ((rd_T90 es ((i:Int) - 1)).f1).toList ((rd_T90 es (i:Int)).f1).toList=true
     ·exact ev_pos h2 (ev_to ih (by rw [if_pos h2]))
     ·exact ev_neg h2 (ev_now (by rw [if_neg h2,Bool.false_and]))
    ·rw [if_neg h0]
     exact ev_neg h0 (ev_to ih (by rw [if_pos rfl]))
theorem iOkI_ev (kd sz ct:Int) (mk:ByteArray) (rs:List S86) (es:List S90) (hr:rs.length≤4000000) (he:es.length≤4000000) (hs:∀ y ∈ rs,y.f2.size≤4000000) (hz:∀ y ∈ es,y.f1.size≤2000000):Ev (fun k=>impl_InodeOk.f k kd sz ct mk rs es) (okI kd sz ct mk rs es):=by
 unfold impl_InodeOk.f okI
 rw [within_eq]
 refine Ev.bind (Ev.now _) ?_
 by_cases h0:0≤ct∧ct≤65535
 ·rw [decide_eq_true h0,Bool.true_and]
  refine ev_pos rfl ?_
  by_cases k0:kd=0
  ·refine ev_to (ev_pos k0 ?_) (if_pos k0).symm
   by_cases a1:sz=0
   ·by_cases a2:mk.toList=([]:List UInt8)
    ·by_cases a3:(rs.length:Int)=0
     ·refine ev_pos a1 (ev_pos a2 (ev_pos a3 (ev_now ?_)))
      rw [Bool.eq_iff_iff,beq_iff_eq,decide_eq_true_eq]
      exact ⟨fun h=>⟨a1,a2,by omega,by omega⟩,fun h=>by have:=h.2.2.2;omega⟩
     ·exact ev_pos a1 (ev_pos a2 (ev_neg a3 (ev_now (by rw [decide_eq_false (fun h=>a3 (by have:=h.2.2.1;omega))]))))
    ·exact ev_pos a1 (ev_neg a2 (ev_now (by rw [decide_eq_false (fun h=>a2 h.2.1)])))
   ·exact ev_neg a1 (ev_now (by rw [decide_eq_false (fun h=>a1 h.1)]))
  refine ev_to (ev_neg k0 ?_) (if_neg k0).symm
  by_cases k1:kd=1
  ·exact ev_to (ev_pos k1 (Ev.bind (iFile_ev kd sz ct mk rs es hr hs) (ev_now rfl))) (if_pos k1).symm
  refine ev_to (ev_neg k1 ?_) (if_neg k1).symm
  by_cases k2:kd=2
  ·refine ev_to (ev_pos k2 (Ev.bind ?_ (ev_now rfl))) (if_pos k2).symm
   unfold impl_isDir.f
   exact ev_to (iDir_l kd sz ct mk rs es he hz es.length 0 (by omega)) (Bool.and_comm _ _)
  ·exact ev_to (ev_neg k2 (ev_now rfl)) (if_neg k2).symm
 ·exact ev_neg (by simpa using h0) (ev_now (by rw [decide_eq_false h0,Bool.false_and]))

def fil8:List ByteArray→List ByteArray:=fun ws=>ws++List.replicate (8 - ws.length) (zb 8)
noncomputable def rcW (rs:List S86):List ByteArray:=rs.map (fun y=>recV y.f0 y.f1 y.f2)
noncomputable def enW (es:List S90):List ByteArray:=es.map (fun y=>enV y.f0 y.f1)
noncomputable def iwV (kd sz ct:Int) (mk:ByteArray) (rs:List S86) (es:List S90):List ByteArray:=if okI kd sz ct mk rs es=true then fil8 ([wdT (nt kd 1++nt sz 2++nt ct 2),wdT mk]++rcW rs++enW es) else []
theorem fil8_step (ws:List ByteArray) (h:ws.length < 8):fil8 (ws++[zb 8])=fil8 ws:=by
 unfold fil8
 rw [show 8 - ws.length=(8 - (ws++[zb 8]).length)+1 by simp;omega,List.replicate_succ,List.append_assoc,List.singleton_append]
theorem sIW_l2:∀ (f:Nat) (ws:List ByteArray),ws.length≤8000008→8≤f+ws.length→Ev (fun k=>spec_InodeWords.l2 k ws) (fil8 ws)
 | f,ws,hb,hf=>by
  refine Ev.step (spec_InodeWords.l2.eq_2 _) ?_
  by_cases h:(ws.length:Int) < 8
  ·cases f with
   | zero=>omega
   | succ f=>exact ev_pos h (Ev.bind (zeroText_ev 8 (by omega)) (ev_pos (by omega) (ev_to (sIW_l2 f (ws++[zb 8]) (by simp;omega) (by simp;omega)) (fil8_step ws (by omega)))))
  ·refine ev_neg h (ev_now ?_)
   unfold fil8
   rw [show 8 - ws.length=0 by omega];simp
theorem sIW_l1 (kd sz ct:Int) (mk:ByteArray) (rs:List S86) (es:List S90) (hr:es.length≤4000000) (hs:∀ y ∈ es,y.f1.size≤2000000):∀ (i:Nat) (ws:List ByteArray),i≤es.length→ws.length≤4000002+i→Ev (fun k=>spec_InodeWords.l1 k ws (i:Int) kd sz ct mk rs es) (fil8 (ws++enW (es.drop i)))
 | i,ws,hi,hw=>by
  refine Ev.step (spec_InodeWords.l1.eq_2 _ _ _ _ _ _ _ _) ?_
  by_cases h:i < es.length
  ·refine ev_pos (by omega) (ev_pos (by omega) ?_)
   rw [rdiEntry es i h,w64s i (by omega),drop_at es i h]
   refine Ev.bind (sEnt_ev _ _ (hs _ (List.getElem_mem _))) (ev_pos (by omega) (ev_to (sIW_l1 kd sz ct mk rs es hr hs (i+1) _ (by omega) (by simp;omega)) ?_))
   unfold enW;rw [List.map_cons,List.append_assoc,List.singleton_append]
  ·refine ev_neg (by omega) (ev_to (sIW_l2 8 ws (by omega) (by omega)) ?_)
   rw [List.drop_of_length_le (by omega)];simp [enW]
 termination_by i=>es.length - i
theorem sIW_l0 (kd sz ct:Int) (mk:ByteArray) (rs:List S86) (es:List S90) (hr:rs.length≤4000000) (he:es.length≤4000000) (hs:∀ y ∈ rs,y.f2.size≤4000000) (hz:∀ y ∈ es,y.f1.size≤2000000):∀ (i:Nat) (ws:List ByteArray),i≤rs.length→ws.length≤2+i→Ev (fun k=>spec_InodeWords.l0 k ws (i:Int) kd sz ct mk rs es) (fil8 (ws++rcW (rs.drop i)++enW es))
 | i,ws,hi,hw=>by
  refine Ev.step (spec_InodeWords.l0.eq_2 _ _ _ _ _ _ _ _) ?_
  by_cases h:i < rs.length
  ·refine ev_pos (by omega) (ev_pos (by omega) ?_)
   rw [rdiRec rs i h,w64s i (by omega),drop_at rs i h]
   refine Ev.bind (sRec_ev _ _ _ (hs _ (List.getElem_mem _))) (ev_pos (by omega) (ev_to (sIW_l0 kd sz ct mk rs es hr he hs hz (i+1) _ (by omega) (by simp;omega)) ?_))
   unfold rcW;rw [List.map_cons,List.append_assoc ws,List.singleton_append]
  ·refine ev_neg (by omega) (ev_to (sIW_l1 kd sz ct mk rs es he hz 0 ws (Nat.zero_le _) (by omega)) ?_)
   rw [List.drop_zero,List.drop_of_length_le (show rs.length≤i by omega)];simp [rcW]
 termination_by i=>rs.length - i
theorem sIW_ev (kd sz ct:Int) (mk:ByteArray) (rs:List S86) (es:List S90) (hm:mk.size≤4000000) (hr:rs.length≤4000000) (he:es.length≤4000000) (hs:∀ y ∈ rs,y.f2.size≤4000000) (hz:∀ y ∈ es,y.f1.size≤2000000):Ev (fun k=>spec_InodeWords.f k kd sz ct mk rs es) (iwV kd sz ct mk rs es):=by
 unfold spec_InodeWords.f iwV
 refine Ev.bind (sOkI_ev kd sz ct mk rs es hr he hs hz) ?_
 by_cases h:okI kd sz ct mk rs es=true
 ·have z1:=nt_size kd 1
  have z2:=nt_size sz 2
  have z3:=nt_size ct 2
  rw [if_pos h]
  refine ev_pos h (Ev.bind (sNum_ev kd 1 (by omega) (by omega)) (Ev.bind (sNum_ev sz 2 (by omega) (by omega)) (ev_pos (by omega) (Ev.bind (sNum_ev ct 2 (by omega) (by omega)) (ev_pos (by rw [ByteArray.size_append];omega) (Ev.bind (sWord_ev _ (by rw [ByteArray.size_append,ByteArray.size_append];omega)) (Ev.bind (sWord_ev mk hm) ?_)))))))
  exact ev_to (sIW_l0 kd sz ct mk rs es hr he hs hz 0 _ (by omega) (by simp)) (by rw [List.drop_zero])
 ·rw [if_neg h];exact ev_neg h (ev_now rfl)
theorem zeroWord_eq:impl_zeroWord.f=some (zb 8):=by
 unfold impl_zeroWord.f
 rw [padded_eq _ 8 (by omega) (by omega) (by decide),Option.bind_some]
 congr 1
theorem iIW_l2:∀ (f:Nat) (ws:List ByteArray),ws.length≤8000008→8≤f+ws.length→Ev (fun k=>impl_inodeText.l2 k ws) (fil8 ws)
 | f,ws,hb,hf=>by
  refine Ev.step (impl_inodeText.l2.eq_2 _) ?_
  by_cases h:(ws.length:Int) < 8
  ·cases f with
   | zero=>omega
   | succ f=>exact ev_pos h (Ev.bind (ev_eq zeroWord_eq) (ev_pos (by omega) (ev_to (iIW_l2 f (ws++[zb 8]) (by simp;omega) (by simp;omega)) (fil8_step ws (by omega)))))
  ·refine ev_neg h (ev_now ?_)
   unfold fil8
   rw [show 8 - ws.length=0 by omega];simp
theorem iIW_l1 (es:List S90) (hr:es.length≤4000000) (hs:∀ y ∈ es,y.f1.size≤2000000):∀ (i:Nat) (ws:List ByteArray),i≤es.length→ws.length≤4000002+i→Ev (fun k=>impl_inodeText.l1 k ws es (es.length:Int) (i:Int)) (fil8 (ws++enW (es.drop i)))
 | i,ws,hi,hw=>by
  refine Ev.step (impl_inodeText.l1.eq_2 _ _ _ _) ?_
  by_cases h:i < es.length
  ·refine ev_pos (by omega) (ev_pos (by omega) (ev_pos (by omega) ?_))
   rw [rdiEntry es i h,w64s i (by omega),drop_at es i h]
   refine Ev.bind (iEnt_ev _ _ (hs _ (List.getElem_mem _))) (ev_pos (by omega) (ev_to (iIW_l1 es hr hs (i+1) _ (by omega) (by simp;omega)) ?_))
   unfold enW;rw [List.map_cons,List.append_assoc,List.singleton_append]
  ·refine ev_neg (by omega) (ev_to (iIW_l2 8 ws (by omega) (by omega)) ?_)
   rw [List.drop_of_length_le (by omega)];simp [enW]
 termination_by i=>es.length - i
theorem iIW_l0 (kd sz ct:Int) (mk:ByteArray) (rs:List S86) (es:List S90) (hr:rs.length≤4000000) (he:es.length≤4000000) (hs:∀ y ∈ rs,y.f2.size≤4000000) (hz:∀ y ∈ es,y.f1.size≤2000000):∀ (i:Nat) (ws:List ByteArray),i≤rs.length→ws.length≤2+i→Ev (fun k=>impl_inodeText.l0 k ws rs (rs.length:Int) (i:Int) kd sz ct mk rs es) (fil8 (ws++rcW (rs.drop i)++enW es))
 | i,ws,hi,hw=>by
  refine Ev.step (impl_inodeText.l0.eq_2 _ _ _ _ _ _ _ _ _ _) ?_
  by_cases h:i < rs.length
  ·refine ev_pos (by omega) (ev_pos (by omega) (ev_pos (by omega) ?_))
   rw [rdiRec rs i h,w64s i (by omega),drop_at rs i h]
   refine Ev.bind (iRec_ev _ _ _ (hs _ (List.getElem_mem _))) (ev_pos (by omega) (ev_to (iIW_l0 kd sz ct mk rs es hr he hs hz (i+1) _ (by omega) (by simp;omega)) ?_))
   unfold rcW;rw [List.map_cons,List.append_assoc ws,List.singleton_append]
  ·refine ev_neg (by omega) (ev_to (iIW_l1 es he hz 0 ws (Nat.zero_le _) (by omega)) ?_)
   rw [List.drop_zero,List.drop_of_length_le (show rs.length≤i by omega)];simp [rcW]
 termination_by i=>rs.length - i
theorem iIT_ev (kd sz ct:Int) (mk:ByteArray) (rs:List S86) (es:List S90) (hm:mk.size≤4000000) (hr:rs.length≤4000000) (he:es.length≤4000000) (hs:∀ y ∈ rs,y.f2.size≤4000000) (hz:∀ y ∈ es,y.f1.size≤2000000):Ev (fun k=>impl_inodeText.f k kd sz ct mk rs es) (fil8 ([wdT (nt kd 1++nt sz 2++nt ct 2),wdT mk]++rcW rs++enW es)):=by
 have z1:=nt_size kd 1
 have z2:=nt_size sz 2
 have z3:=nt_size ct 2
 unfold impl_inodeText.f
 refine Ev.bind (iNum_ev kd 1 (by omega) (by omega)) (Ev.bind (iNum_ev sz 2 (by omega) (by omega)) (ev_pos (by omega) (Ev.bind (iNum_ev ct 2 (by omega) (by omega)) (ev_pos (by rw [ByteArray.size_append];omega) (Ev.bind (ev_eq (iWord_eq _ (by rw [ByteArray.size_append,ByteArray.size_append];omega))) (Ev.bind (ev_eq (iWord_eq mk hm)) ?_))))))
 exact ev_to (iIW_l0 kd sz ct mk rs es hr he hs hz 0 _ (by omega) (by simp)) (by rw [List.drop_zero])

theorem iwV_len (kd sz ct:Int) (mk:ByteArray) (rs:List S86) (es:List S90):(iwV kd sz ct mk rs es).length≤10+rs.length+es.length:=by
 unfold iwV
 split
 ·unfold fil8 rcW enW;simp;omega
 ·simp
theorem naG1 (w:ByteArray):naG w 1 0 0=bt w 0:=by
 show 256 * 0+bt w ((0:Nat):Int)=bt w 0
 rw [Int.mul_zero,Int.zero_add];rfl
theorem rrV_size (w:ByteArray):(rrV w).2.2.1.size≤8:=by
 unfold rrV
 split
 ·rename_i h;show (w.extract 4 w.size).size≤8;rw [ByteArray.size_extract];omega
 ·exact Nat.zero_le _
theorem rnV_size (w:ByteArray):(rnV w).2.1.size≤8:=by
 unfold rnV
 split
 ·unfold rnX
  split
  ·have:=trE_le w 8
   show (w.extract 1 (trE w 8)).size≤8
   rw [ByteArray.size_extract];omega
  ·exact Nat.zero_le _
 ·exact Nat.zero_le _
abbrev RI:=Int × Int × Int × ByteArray × List S86 × List S90 × Bool
def riF:RI:=(0,0,0,⟨#[]⟩,[],[],false)
noncomputable def riT (ws:List ByteArray) (kd sz ct:Int) (mk:ByteArray) (rs:List S86) (es:List S90):RI:=if eqW (iwV kd sz ct mk rs es) ws=true then (kd,sz,ct,mk,rs,es,true) else riF
noncomputable def scV (kd:Int):List ByteArray→List S86→List S90→Option (List S86 × List S90)
 | [],rs,es=>some (rs,es)
 | w :: r,rs,es=>if w.toList=(zb 8).toList then some (rs,es) else if kd=1 then (if (rrV w).2.2.2=true then scV kd r (rs++[⟨(rrV w).1,(rrV w).2.1,(rrV w).2.2.1⟩]) es else none) else if kd=2 then (if (rnV w).2.2=true then scV kd r rs (es++[⟨(rnV w).1,(rnV w).2.1⟩]) else none) else scV kd r rs es
noncomputable def riM (ws:List ByteArray) (kd sz ct:Int) (mk:ByteArray) (o:Option (List S86 × List S90)):RI:=match o with|some p=>riT ws kd sz ct mk p.1 p.2|none=>riF
def riA (ws:List ByteArray):ByteArray:=rdOf ByteArray.empty ws 0
noncomputable def riV (ws:List ByteArray):RI:=if ws.length=8∧∀ w ∈ ws,w.size=8 then riM ws (naG (riA ws) 1 0 0) (naG (riA ws) 2 1 0) (naG (riA ws) 2 3 0) (if naG (riA ws) 1 0 0=1 then rdOf ByteArray.empty ws 1 else ⟨#[]⟩) (scV (naG (riA ws) 1 0 0) (ws.drop 2) [] []) else riF
theorem scV_other (kd:Int) (h1:kd≠1) (h2:kd≠2):∀ (ws:List ByteArray) (rs:List S86) (es:List S90),scV kd ws rs es=some (rs,es)
 | [],_,_=>rfl
 | w :: r,rs,es=>by
  unfold scV
  split
  ·rfl
  ·first
   | exact scV_other kd h1 h2 r rs es
   | (rw [if_neg h1,if_neg h2];exact scV_other kd h1 h2 r rs es)
theorem recG {kd:Int}:∀ (ws:List ByteArray) (rs:List S86) (es:List S90) (p:List S86 × List S90),scV kd ws rs es=some p→(∀ y ∈ rs,y.f2.size≤8)→(∀ y ∈ es,y.f1.size≤8)→p.1.length≤rs.length+ws.length∧p.2.length≤es.length+ws.length∧(∀ y ∈ p.1,y.f2.size≤8)∧(∀ y ∈ p.2,y.f1.size≤8)
 | [],rs,es,p,h,hr,he=>by
  cases h;exact ⟨Nat.le_refl _,Nat.le_refl _,hr,he⟩
 | w :: r,rs,es,p,h,hr,he=>by
  unfold scV at h
  split at h
  ·cases h;exact ⟨Nat.le_add_right _ _,Nat.le_add_right _ _,hr,he⟩
  ·split at h
   ·split at h
    ·have:=recG r _ _ p h (by
      intro y hy
      rcases List.mem_append.1 hy with hy|hy
      ·exact hr y hy
      ·rw [List.mem_singleton.1 hy];exact rrV_size w) he
     simp only [List.length_append,List.length_cons,List.length_nil] at this ⊢
     exact ⟨by omega,by omega,this.2.2⟩
    ·cases h
   ·split at h
    ·split at h
     ·have:=recG r _ _ p h hr (by
       intro y hy
       rcases List.mem_append.1 hy with hy|hy
       ·exact he y hy
       ·rw [List.mem_singleton.1 hy];exact rnV_size w)
      simp only [List.length_append,List.length_cons,List.length_nil] at this ⊢
      exact ⟨by omega,by omega,this.2.2⟩
     ·cases h
    ·have:=recG r _ _ p h hr he
     simp only [List.length_cons]
     exact ⟨by omega,by omega,this.2.2⟩
def RIs (v:RI):Prop:=v.2.2.2.2.1.length≤8∧v.2.2.2.2.2.1.length≤8∧(∀ y ∈ v.2.2.2.2.1,y.f2.size≤8)∧(∀ y ∈ v.2.2.2.2.2.1,y.f1.size≤8)∧v.2.2.2.1.size≤8
theorem riF_s:RIs riF:=by
 unfold RIs riF;exact ⟨Nat.zero_le _,Nat.zero_le _,by simp,by simp,Nat.zero_le _⟩
theorem riT_s (ws:List ByteArray) (kd sz ct:Int) (mk:ByteArray) (rs:List S86) (es:List S90) (hm:mk.size≤8) (hr:rs.length≤8) (he:es.length≤8) (hs:∀ y ∈ rs,y.f2.size≤8) (hz:∀ y ∈ es,y.f1.size≤8):RIs (riT ws kd sz ct mk rs es):=by
 unfold riT
 split
 ·exact ⟨hr,he,hs,hz,hm⟩
 ·exact riF_s
theorem riV_small (ws:List ByteArray):RIs (riV ws):=by
 unfold riV
 split
 ·rename_i hw
  have hm:(if naG (riA ws) 1 0 0=1 then rdOf ByteArray.empty ws 1 else (⟨#[]⟩:ByteArray)).size≤8:=by
   split
   ·rw [show (1:Int)=((1:Nat):Int) from rfl,rdOf_at _ ws 1 (by omega),hw.2 _ (List.getElem_mem _)];omega
   ·exact Nat.zero_le _
  cases hs:scV (naG (riA ws) 1 0 0) (ws.drop 2) [] [] with
  | none=>exact riF_s
  | some p =>
   have hg:=recG _ _ _ p hs (by simp) (by simp)
   have hl:(ws.drop 2).length=6:=by rw [List.length_drop];omega
   rw [hl] at hg
   have h1:p.1.length≤8:=by have:=hg.1;simp at this;omega
   have h2:p.2.length≤8:=by have:=hg.2.1;simp at this;omega
   exact riT_s ws _ _ _ _ p.1 p.2 hm h1 h2 hg.2.2.1 hg.2.2.2
 ·exact riF_s
theorem eq_riT (ws:List ByteArray) (kd sz ct:Int) (mk:ByteArray) (rs:List S86) (es:List S90) {F:Nat→Option RI} (h:eqW (iwV kd sz ct mk rs es) ws=true→Ev F (kd,sz,ct,mk,rs,es,true)) (h':¬ eqW (iwV kd sz ct mk rs es) ws=true→Ev F riF):Ev F (riT ws kd sz ct mk rs es):=by
 unfold riT
 by_cases c:eqW (iwV kd sz ct mk rs es) ws=true
 ·rw [if_pos c];exact h c
 ·rw [if_neg c];exact h' c
theorem sRI_end (ws:List ByteArray) (z:ByteArray) (i:Int) (kd sz ct:Int) (mk:ByteArray) (rs:List S86) (es:List S90) (hm:mk.size≤8) (hr:rs.length≤8) (he:es.length≤8) (hs:∀ y ∈ rs,y.f2.size≤8) (hz:∀ y ∈ es,y.f1.size≤8):Ev (fun k=>spec_ReadInode.j3 k ws z i false kd sz ct mk rs es) (riT ws kd sz ct mk rs es):=by
 refine Ev.step (spec_ReadInode.j3.eq_2 _ _ _ _ _ _ _ _ _ _) ?_
 have hl:=iwV_len kd sz ct mk rs es
 refine ev_neg (by simp) (Ev.bind (sIW_ev kd sz ct mk rs es (by omega) (by omega) (by omega) (fun y hy=>by have:=hs y hy;omega) (fun y hy=>by have:=hz y hy;omega)) (Ev.bind (sWords_ev _ _ (by omega)) ?_))
 exact eq_riT ws kd sz ct mk rs es (fun c=>ev_pos c (ev_now rfl)) (fun c=>ev_neg c (ev_now rfl))
theorem sRI_l (ws:List ByteArray) (h8:ws.length=8) (hw:∀ w ∈ ws,w.size=8) (kd sz ct:Int) (mk:ByteArray) (hm:mk.size≤8):∀ (f i:Nat) (rs:List S86) (es:List S90),i+f=8→rs.length≤i→es.length≤i→(∀ y ∈ rs,y.f2.size≤8)→(∀ y ∈ es,y.f1.size≤8)→Ev (fun k=>spec_ReadInode.l1 k ws (zb 8) (i:Int) kd sz ct mk rs es) (riM ws kd sz ct mk (scV kd (ws.drop i) rs es))
 | 0,i,rs,es,hi,lr,le,hs,hz=>by
  refine Ev.step (spec_ReadInode.l1.eq_2 _ _ _ _ _ _ _ _ _) ?_
  refine ev_neg (by omega) (ev_to (sRI_end ws (zb 8) (i:Int) kd sz ct mk rs es hm (by omega) (by omega) hs hz) ?_)
  rw [List.drop_of_length_le (by omega)];rfl
 | f+1,i,rs,es,hi,lr,le,hs,hz=>by
  refine Ev.step (spec_ReadInode.l1.eq_2 _ _ _ _ _ _ _ _ _) ?_
  refine ev_pos (by omega) (ev_pos (by omega) (ev_pos (by omega) ?_))
  have hsz:=hw ws[i] (List.getElem_mem _)
  rw [rdOf_at _ ws i (by omega),drop_at ws i (by omega)]
  unfold scV
  by_cases z:ws[i].toList=(zb 8).toList
  ·rw [if_pos z,show (ws[i].toList != (zb 8).toList)=false by simp [z]]
   exact sRI_end ws (zb 8) (i:Int) kd sz ct mk rs es hm (by omega) (by omega) hs hz
  rw [if_neg z,show (ws[i].toList != (zb 8).toList)=true from bne_iff_ne.mpr z]
  refine Ev.step (spec_ReadInode.j3.eq_2 _ _ _ _ _ _ _ _ _ _) ?_
  refine ev_pos rfl ?_
  by_cases k1:kd=1
  ·rw [if_pos k1,rdOf_at _ ws i (by omega)]
   refine ev_pos k1 (ev_pos (by omega) (ev_pos (by omega) (Ev.bind (sRR_ev ws[i] (by omega)) ?_)))
   by_cases ok:(rrV ws[i]).2.2.2=true
   ·rw [if_pos ok]
    refine ev_pos ok (ev_pos (by omega) ?_)
    refine Ev.step (spec_ReadInode.j4.eq_2 _ _ _ _ _ _ _ _ _) ?_
    refine ev_neg (by omega) ?_
    rw [w64s i (by omega)]
    refine sRI_l ws h8 hw kd sz ct mk hm f (i+1) _ _ (by omega) (by simp;omega) (by omega) ?_ hz
    intro y hy
    rcases List.mem_append.1 hy with hy|hy
    ·exact hs y hy
    ·rw [List.mem_singleton.1 hy];exact rrV_size _
   ·rw [if_neg ok];exact ev_neg ok (ev_now rfl)
  rw [if_neg k1]
  refine ev_neg k1 ?_
  refine Ev.step (spec_ReadInode.j4.eq_2 _ _ _ _ _ _ _ _ _) ?_
  rw [w64s i (by omega)]
  by_cases k2:kd=2
  ·rw [if_pos k2,rdOf_at _ ws i (by omega)]
   refine ev_pos k2 (ev_pos (by omega) (ev_pos (by omega) (Ev.bind (sRN_ev ws[i]) ?_)))
   by_cases ok:(rnV ws[i]).2.2=true
   ·rw [if_pos ok]
    refine ev_pos ok (ev_pos (by omega) ?_)
    refine sRI_l ws h8 hw kd sz ct mk hm f (i+1) _ _ (by omega) (by omega) (by simp;omega) hs ?_
    intro y hy
    rcases List.mem_append.1 hy with hy|hy
    ·exact hz y hy
    ·rw [List.mem_singleton.1 hy];exact rnV_size _
   ·rw [if_neg ok];exact ev_neg ok (ev_now rfl)
  ·rw [if_neg k2]
   exact ev_neg k2 (sRI_l ws h8 hw kd sz ct mk hm f (i+1) rs es (by omega) (by omega) (by omega) hs hz)
theorem sRI_bad (ws:List ByteArray) (h8:ws.length=8):∀ (f i:Nat),i+f=8→(∃ w ∈ ws.drop i,w.size≠8)→Ev (fun k=>spec_ReadInode.l0 k ws (i:Int)) riF
 | 0,i,hi,hx=>by
  rw [List.drop_of_length_le (by omega)] at hx
  obtain ⟨w,hw,_⟩:=hx
  cases hw
 | f+1,i,hi,hx=>by
  refine Ev.step (spec_ReadInode.l0.eq_2 _ _) ?_
  refine ev_pos (by omega) (ev_pos (by omega) (ev_pos (by omega) ?_))
  rw [rdOf_at _ ws i (by omega),w64s i (by omega)]
  by_cases c:ws[i].size=8
  ·refine ev_pos (by omega) (sRI_bad ws h8 f (i+1) (by omega) ?_)
   rw [drop_at ws i (by omega)] at hx
   obtain ⟨w,hw,hn⟩:=hx
   rcases List.mem_cons.1 hw with rfl|hw
   ·exact absurd c hn
   ·exact ⟨w,hw,hn⟩
  ·exact ev_neg (by omega) (ev_now rfl)
theorem sRI_good (ws:List ByteArray) (h8:ws.length=8) (hw:∀ w ∈ ws,w.size=8):∀ (f i:Nat),i+f=8→Ev (fun k=>spec_ReadInode.l0 k ws (i:Int)) (riV ws)
 | 0,i,hi=>by
  refine Ev.step (spec_ReadInode.l0.eq_2 _ _) ?_
  have hA:riA ws=ws[0]:=rdOf_at _ ws 0 (by omega)
  have hA8:(riA ws).size=8:=by rw [hA];exact hw _ (List.getElem_mem _)
  have hl:=b_len (riA ws)
  have hb:=bt_byte (riA ws) 0 (by omega)
  unfold riV
  rw [if_pos ⟨h8,hw⟩]
  show Ev _ (riM ws _ _ _ _ _)
  have hA0:rdOf ByteArray.empty ws 0=riA ws:=rfl
  rw [hA0]
  refine ev_neg (by omega) (ev_pos (by omega) (ev_pos (by omega) (Ev.bind (sNA_ev (riA ws) (by omega) 1 2 (by omega) (by omega) (by omega)) (Ev.bind (sNA_ev (riA ws) (by omega) 3 2 (by omega) (by omega) (by omega)) (Ev.bind (zeroText_ev 8 (by omega)) ?_)))))
  rw [naG1,w64 (x:=bt (riA ws) 0) (by have:=hb.1;simpa using (by omega:(-9223372036854775808:Int)≤bt (riA ws) ((0:Nat):Int))) (by have:=hb.2;simpa using (by omega:bt (riA ws) ((0:Nat):Int) < (9223372036854775808:Int)))]
  by_cases k1:bt (riA ws) 0=1
  ·rw [if_pos k1]
   refine ev_pos k1 (ev_pos (by omega) ?_)
   refine Ev.step (spec_ReadInode.j1.eq_2 _ _ _ _ _ _) ?_
   refine sRI_l ws h8 hw _ _ _ _ ?_ 6 2 [] [] (by omega) (by simp) (by simp) (by simp) (by simp)
   rw [show (1:Int)=((1:Nat):Int) from rfl,rdOf_at _ ws 1 (by omega),hw _ (List.getElem_mem _)]
   exact Nat.le_refl _
  ·rw [if_neg k1]
   refine ev_neg k1 ?_
   refine Ev.step (spec_ReadInode.j1.eq_2 _ _ _ _ _ _) ?_
   exact sRI_l ws h8 hw _ _ _ _ (Nat.zero_le _) 6 2 [] [] (by omega) (by simp) (by simp) (by simp) (by simp)
 | f+1,i,hi=>by
  refine Ev.step (spec_ReadInode.l0.eq_2 _ _) ?_
  refine ev_pos (by omega) (ev_pos (by omega) (ev_pos (by omega) ?_))
  rw [rdOf_at _ ws i (by omega),w64s i (by omega)]
  have:=hw ws[i] (List.getElem_mem _)
  exact ev_pos (by omega) (sRI_good ws h8 hw f (i+1) (by omega))
theorem sRI_ev (ws:List ByteArray):Ev (fun k=>spec_ReadInode.f k ws) (riV ws):=by
 unfold spec_ReadInode.f
 by_cases h8:ws.length=8
 ·refine ev_pos (by omega) ?_
  by_cases hw:∀ w ∈ ws,w.size=8
  ·exact sRI_good ws h8 hw 8 0 (by omega)
  ·refine ev_to (sRI_bad ws h8 8 0 (by omega) ?_) (if_neg (fun h=>hw h.2)).symm
   rw [List.drop_zero]
   simpa using hw
 ·exact ev_neg (by omega) (ev_now (if_neg (fun h=>h8 h.1)).symm)

theorem cf_all (ws:List ByteArray) (hn:ws.length≤4000000) (hw:∀ w ∈ ws,w.size=8):∀ (f i:Nat),i+f=ws.length→Ev (fun k=>slices_IndexFunc_string.l0 k ws (ws.length:Int) (i:Int)) (-1)
 | 0,i,hi=>by
  refine Ev.step (slices_IndexFunc_string.l0.eq_2 _ _ _) ?_
  exact ev_neg (by omega) (ev_now rfl)
 | f+1,i,hi=>by
  refine Ev.step (slices_IndexFunc_string.l0.eq_2 _ _ _) ?_
  have:=hw ws[i] (List.getElem_mem _)
  rw [rdOf_at _ ws i (by omega),w64s i (by omega)]
  refine ev_pos (by omega) (ev_pos (by omega) (ev_pos (by omega) (Ev.bind (ev_eq rfl) (ev_neg (by simp [this]) (cf_all ws hn hw f (i+1) (by omega))))))
theorem cf_some (ws:List ByteArray) (hn:ws.length≤4000000):∀ (f i:Nat),i+f=ws.length→(∃ w ∈ ws.drop i,w.size≠8)→∃ m:Nat,Ev (fun k=>slices_IndexFunc_string.l0 k ws (ws.length:Int) (i:Int)) (m:Int)
 | 0,i,hi,hx=>by
  rw [List.drop_of_length_le (by omega)] at hx
  obtain ⟨w,hw,_⟩:=hx
  cases hw
 | f+1,i,hi,hx=>by
  by_cases c:ws[i].size=8
  ·obtain ⟨m,hm⟩:=cf_some ws hn f (i+1) (by omega) (by
    rw [drop_at ws i (by omega)] at hx
    obtain ⟨w,hw,hn⟩:=hx
    rcases List.mem_cons.1 hw with rfl|hw
    ·exact absurd c hn
    ·exact ⟨w,hw,hn⟩)
   refine ⟨m,?_⟩
   refine Ev.step (slices_IndexFunc_string.l0.eq_2 _ _ _) ?_
   rw [rdOf_at _ ws i (by omega),w64s i (by omega)]
   exact ev_pos (by omega) (ev_pos (by omega) (ev_pos (by omega) (Ev.bind (ev_eq rfl) (ev_neg (by simp [c]) hm))))
  ·refine ⟨i,?_⟩
   refine Ev.step (slices_IndexFunc_string.l0.eq_2 _ _ _) ?_
   rw [rdOf_at _ ws i (by omega)]
   exact ev_pos (by omega) (ev_pos (by omega) (ev_pos (by omega) (Ev.bind (ev_eq rfl) (ev_pos (by simpa using (by omega:¬ ((ws[i].size:Int)=8))) (ev_now rfl)))))
theorem iRI_end (ws:List ByteArray) (h8:ws.length=8) (kd sz ct:Int) (mk:ByteArray) (rs:List S86) (es:List S90) (hm:mk.size≤8) (hr:rs.length≤8) (he:es.length≤8) (hs:∀ y ∈ rs,y.f2.size≤8) (hz:∀ y ∈ es,y.f1.size≤8):Ev (fun k=>impl_ReadInode.j4 k ws kd sz ct mk rs es) (riT ws kd sz ct mk rs es):=by
 refine Ev.step (impl_ReadInode.j4.eq_2 _ _ _ _ _ _ _) ?_
 have hl:=iwV_len kd sz ct mk rs es
 refine Ev.bind (iOkI_ev kd sz ct mk rs es (by omega) (by omega) (fun y hy=>by have:=hs y hy;omega) (fun y hy=>by have:=hz y hy;omega)) ?_
 have hv:iwV kd sz ct mk rs es=if okI kd sz ct mk rs es=true then fil8 ([wdT (nt kd 1++nt sz 2++nt ct 2),wdT mk]++rcW rs++enW es) else []:=rfl
 by_cases c:okI kd sz ct mk rs es=true
 ·rw [if_pos c] at hv
  refine ev_pos c (Ev.bind (iIT_ev kd sz ct mk rs es (by omega) (by omega) (by omega) (fun y hy=>by have:=hs y hy;omega) (fun y hy=>by have:=hz y hy;omega)) ?_)
  rw [← hv]
  refine Ev.bind (iWords_ev _ _ (by omega)) ?_
  exact eq_riT ws kd sz ct mk rs es (fun c=>ev_pos c (ev_now rfl)) (fun c=>ev_neg c (ev_now rfl))
 ·rw [if_neg c] at hv
  refine ev_neg c (ev_now ?_)
  unfold riT
  rw [if_neg]
  ·rfl
  ·intro hc
   unfold eqW at hc
   have:=of_decide_eq_true hc
   rw [← this,hv] at h8
   cases h8
theorem iRI_l (ws:List ByteArray) (h8:ws.length=8) (hw:∀ w ∈ ws,w.size=8) (kd sz ct:Int) (mk:ByteArray) (hm:mk.size≤8) (hk:kd=1∨kd=2):∀ (f i:Nat) (rs:List S86) (es:List S90),i+f=6→rs.length≤i→es.length≤i→(∀ y ∈ rs,y.f2.size≤8)→(∀ y ∈ es,y.f1.size≤8)→Ev (fun k=>impl_ReadInode.l0 k ws (ws.drop 2) ((ws.drop 2).length:Int) (i:Int) kd sz ct mk rs es) (riM ws kd sz ct mk (scV kd ((ws.drop 2).drop i) rs es))
 | 0,i,rs,es,hi,lr,le,hs,hz=>by
  have hd:(ws.drop 2).length=6:=by rw [List.length_drop];omega
  refine Ev.step (impl_ReadInode.l0.eq_2 _ _ _ _ _ _ _ _ _ _) ?_
  refine ev_neg (by omega) (ev_to (iRI_end ws h8 kd sz ct mk rs es hm (by omega) (by omega) hs hz) ?_)
  rw [show (ws.drop 2).drop i=[] from List.drop_of_length_le (by omega)];rfl
 | f+1,i,rs,es,hi,lr,le,hs,hz=>by
  have hd:(ws.drop 2).length=6:=by rw [List.length_drop];omega
  refine Ev.step (impl_ReadInode.l0.eq_2 _ _ _ _ _ _ _ _ _ _) ?_
  refine ev_pos (by omega) (ev_pos (by omega) (ev_pos (by omega) (Ev.bind (ev_eq zeroWord_eq) ?_)))
  have hsz:((ws.drop 2)[i]'(by omega)).size=8:=hw _ (List.mem_of_mem_drop (List.getElem_mem _))
  rw [rdOf_at _ (ws.drop 2) i (by omega),drop_at (ws.drop 2) i (by omega)]
  generalize (ws.drop 2)[i]'(by omega)=w at hsz
  unfold scV
  by_cases z:w.toList=(zb 8).toList
  ·rw [if_pos z]
   exact ev_pos z (iRI_end ws h8 kd sz ct mk rs es hm (by omega) (by omega) hs hz)
  rw [if_neg z]
  refine ev_neg z (Ev.bind (iRR_ev w (by omega)) (Ev.bind (iRN_ev w) ?_))
  rcases hk with k1|k2
  ·rw [if_pos k1]
   refine ev_pos k1 ?_
   refine Ev.step (impl_ReadInode.j3.eq_2 _ _ _ _ _ _ _ _ _ _ _ _ _ _ _ _ _) ?_
   by_cases ok:(rrV w).2.2.2=true
   ·rw [if_pos ok]
    refine ev_pos ok (ev_pos (by omega) ?_)
    rw [w64s i (by omega)]
    refine iRI_l ws h8 hw kd sz ct mk hm (.inl k1) f (i+1) _ _ (by omega) (by simp;omega) (by omega) ?_ hz
    intro y hy
    rcases List.mem_append.1 hy with hy|hy
    ·exact hs y hy
    ·rw [List.mem_singleton.1 hy];exact rrV_size _
   ·rw [if_neg ok];exact ev_neg ok (ev_neg (by omega) (ev_now rfl))
  ·rw [if_neg (by omega:¬ kd=1),if_pos k2]
   refine ev_neg (by omega) ?_
   refine Ev.step (impl_ReadInode.j3.eq_2 _ _ _ _ _ _ _ _ _ _ _ _ _ _ _ _ _) ?_
   refine ev_neg (by simp) (ev_pos k2 ?_)
   by_cases ok:(rnV w).2.2=true
   ·rw [if_pos ok]
    refine ev_pos ok (ev_pos (by omega) ?_)
    rw [w64s i (by omega)]
    refine iRI_l ws h8 hw kd sz ct mk hm (.inr k2) f (i+1) _ _ (by omega) (by omega) (by simp;omega) hs ?_
    intro y hy
    rcases List.mem_append.1 hy with hy|hy
    ·exact hz y hy
    ·rw [List.mem_singleton.1 hy];exact rnV_size _
   ·rw [if_neg ok];exact ev_neg ok (ev_now rfl)
theorem iwV_none (ws:List ByteArray) (h8:ws.length=8) (kd sz ct:Int) (mk:ByteArray) (h:eqW (iwV kd sz ct mk [] []) ws=true):ws[2].toList=(zb 8).toList:=by
 unfold eqW at h
 have h:=of_decide_eq_true h
 unfold iwV at h
 split at h
 ·unfold fil8 rcW enW at h
  subst h
  simp
 ·rw [← h] at h8;cases h8
theorem iRI_o (ws:List ByteArray) (h8:ws.length=8) (hw:∀ w ∈ ws,w.size=8) (kd sz ct:Int) (mk:ByteArray) (hm:mk.size≤8) (k1:kd≠1) (k2:kd≠2):Ev (fun k=>impl_ReadInode.l0 k ws (ws.drop 2) ((ws.drop 2).length:Int) 0 kd sz ct mk [] []) (riT ws kd sz ct mk [] []):=by
 have hd:(ws.drop 2).length=6:=by rw [List.length_drop];omega
 refine Ev.step (impl_ReadInode.l0.eq_2 _ _ _ _ _ _ _ _ _ _) ?_
 refine ev_pos (by omega) (ev_pos (by omega) (ev_pos (by omega) (Ev.bind (ev_eq zeroWord_eq) ?_)))
 have hr:rdOf ByteArray.empty (ws.drop 2) 0=ws[2]:=by
  rw [show (0:Int)=((0:Nat):Int) from rfl,rdOf_at _ (ws.drop 2) 0 (by omega),List.getElem_drop]
 rw [hr]
 have hsz:=hw ws[2] (List.getElem_mem _)
 by_cases z:ws[2].toList=(zb 8).toList
 ·exact ev_pos z (iRI_end ws h8 kd sz ct mk [] [] hm (by simp) (by simp) (by simp) (by simp))
 ·refine ev_neg z (Ev.bind (iRR_ev _ (by omega)) (Ev.bind (iRN_ev _) (ev_neg k1 ?_)))
  refine Ev.step (impl_ReadInode.j3.eq_2 _ _ _ _ _ _ _ _ _ _ _ _ _ _ _ _ _) ?_
  refine ev_neg (by simp) (ev_neg k2 (ev_now ?_))
  unfold riT
  rw [if_neg (fun hc=>z (iwV_none ws h8 kd sz ct mk hc))]
  rfl
theorem iRI_main (ws:List ByteArray) (h8:ws.length=8) (hw:∀ w ∈ ws,w.size=8):Ev (fun k=>impl_ReadInode.j0 k ws false) (riV ws):=by
 refine Ev.step (impl_ReadInode.j0.eq_2 _ _) ?_
 have hA:riA ws=ws[0]:=rdOf_at _ ws 0 (by omega)
 have hA8:(riA ws).size=8:=by rw [hA];exact hw _ (List.getElem_mem _)
 have hA0:rdOf ByteArray.empty ws 0=riA ws:=rfl
 unfold riV
 rw [if_pos ⟨h8,hw⟩,hA0]
 refine ev_neg (by simp) (ev_pos (by omega) (Ev.bind (iNA_ev (riA ws) (by omega) 0 1 (by omega) (by omega) (by omega)) (Ev.bind (iNA_ev (riA ws) (by omega) 1 2 (by omega) (by omega) (by omega)) (Ev.bind (iNA_ev (riA ws) (by omega) 3 2 (by omega) (by omega) (by omega)) ?_))))
 have main:∀ (kd sz ct:Int) (mk:ByteArray),mk.size≤8→Ev (fun k=>impl_ReadInode.j1 k ws kd sz ct mk) (riM ws kd sz ct mk (scV kd (ws.drop 2) [] [])):=by
  intro kd sz ct mk hm
  refine Ev.step (impl_ReadInode.j1.eq_2 _ _ _ _ _) ?_
  refine ev_pos (by omega) ?_
  by_cases hk:kd=1∨kd=2
  ·exact iRI_l ws h8 hw kd sz ct mk hm hk 6 0 [] [] (by omega) (by simp) (by simp) (by simp) (by simp)
  ·rw [scV_other kd (by omega) (by omega)]
   exact iRI_o ws h8 hw kd sz ct mk hm (by omega) (by omega)
 by_cases k1:naG (riA ws) 1 0 0=1
 ·rw [if_pos k1]
  refine ev_pos k1 (ev_pos (by omega) (main _ _ _ _ ?_))
  rw [show (1:Int)=((1:Nat):Int) from rfl,rdOf_at _ ws 1 (by omega),hw _ (List.getElem_mem _)]
  exact Nat.le_refl _
 ·rw [if_neg k1]
  exact ev_neg k1 (main _ _ _ _ (Nat.zero_le _))
theorem iRI_ev (ws:List ByteArray) (hn:ws.length≤4000000):Ev (fun k=>impl_ReadInode.f k ws) (riV ws):=by
 unfold impl_ReadInode.f
 by_cases h8:ws.length=8
 ·refine ev_pos (by omega) ?_
  unfold slices_ContainsFunc_string.f slices_IndexFunc_string.f
  by_cases hw:∀ w ∈ ws,w.size=8
  ·exact Ev.bind (Ev.bind (cf_all ws hn hw ws.length 0 (by omega)) (ev_now rfl)) (ev_to (iRI_main ws h8 hw) rfl)
  ·obtain ⟨m,hm⟩:=cf_some ws hn ws.length 0 (by omega) (by rw [List.drop_zero];simpa using hw)
   refine Ev.bind (Ev.bind hm (ev_now rfl)) ?_
   rw [decide_eq_true (show (m:Int) ≥ 0 by omega)]
   refine Ev.step (impl_ReadInode.j0.eq_2 _ _) ?_
   exact ev_pos rfl (ev_now (if_neg (fun h=>hw h.2)).symm)
 ·refine ev_neg (by omega) ?_
  refine Ev.step (impl_ReadInode.j0.eq_2 _ _) ?_
  exact ev_pos rfl (ev_now (if_neg (fun h=>h8 h.1)).symm)

noncomputable def swV (n:Int):ByteArray:=if 0≤n∧n≤16777215 then wdT (nt n 3) else ⟨#[]⟩
theorem sSer_ev (n:Int):Ev (fun k=>spec_SerialWord.f k n) (swV n):=by
 unfold spec_SerialWord.f swV
 refine Ev.bind (ev_eq (l01In_eq _ _ _)) ?_
 by_cases h:0≤n∧n≤16777215
 ·have hs:=nt_size n 3
  rw [if_pos h]
  exact ev_pos (by simpa using h) (Ev.bind (sNum_ev n 3 (by omega) (by omega)) (Ev.bind (sWord_ev _ (by omega)) (ev_now rfl)))
 ·rw [if_neg h]
  exact ev_neg (by simpa using h) (ev_now rfl)
theorem iSer_ev (n:Int):Ev (fun k=>impl_SerialWord.f k n) (swV n):=by
 unfold impl_SerialWord.f swV
 refine Ev.bind (ev_eq (within_eq _ _ _)) ?_
 by_cases h:0≤n∧n≤16777215
 ·have hs:=nt_size n 3
  rw [if_pos h]
  exact ev_pos (by simpa using h) (Ev.bind (iNum_ev n 3 (by omega) (by omega)) (Ev.bind (ev_eq (iWord_eq _ (by omega))) (ev_now rfl)))
 ·rw [if_neg h]
  exact ev_neg (by simpa using h) (ev_now rfl)
theorem pl_in {b:ByteArray} {xs:List S78} {t p i q a:Int} (hp:plV b xs t p i q=true) (ha:0≤a∧a≤t - 1) (m:Int) (h0:0≤m) (h1:m < pW p i):0≤a * pW p i+m∧a * pW p i+m≤1000∧csOk b xs 0∧((a * pW p i+m) / 2+1) * 16≤(b.size:Int)∧a * pW p i+m≤(b.size:Int) / 8 - 1:=by
 unfold plV at hp
 simp only [Bool.and_eq_true,decide_eq_true_eq] at hp
 obtain ⟨hm,hg,hl⟩:=hp
 obtain ⟨m1,m2,m3⟩:=mOk_parts hm
 have hw:=tpW hg
 obtain ⟨g1,g2,g3,g4⟩:=gOk_parts hg
 have ht:t=1∨t=2∨t=3:=by omega
 have ha2:a=0∨a=1∨a=2:=by omega
 unfold pW at hw hl h1 ⊢
 refine ⟨?_,?_,m3,?_,?_⟩
 ·rcases ha2 with e|e|e <;> subst e <;> omega
 ·rcases ha2 with e|e|e <;> subst e <;> omega
 ·rcases ha2 with e|e|e <;> subst e <;> rcases ht with e|e|e <;> subst e <;> omega
 ·rcases ha2 with e|e|e <;> subst e <;> rcases ht with e|e|e <;> subst e <;> omega
theorem pl_parts {b:ByteArray} {xs:List S78} {t p i q:Int} (hp:plV b xs t p i q=true):mOk b xs=true∧gOk t p i q=true:=by
 unfold plV at hp
 simp only [Bool.and_eq_true] at hp
 exact ⟨hp.1,hp.2.1⟩
section
variable {b:ByteArray} {xs:List S78} {t p i q a:Int}
theorem sWA_ev (hb:b.size≤4000000) (hn:xs.length≤4000000) (hp:plV b xs t p i q=true) (ha:0≤a∧a≤t - 1) (m:Int) (h0:0≤m) (h1:m < pW p i):Ev (fun k=>spec_WordAt.f k b xs (a * pW p i+m)) (wdV b xs (a * pW p i+m)):=by
 obtain ⟨r0,r1,r2,r3,r4⟩:=pl_in hp ha m h0 h1
 unfold spec_WordAt.f spec_l10Words.f
 refine Ev.bind (sMem_ev b xs hb hn) (ev_pos (pl_parts hp).1 ?_)
 rw [w64 (x:=(b.size:Int) / 8) (by omega) (by omega)]
 refine Ev.bind (Ev.now _) ?_
 rw [w64 (x:=(b.size:Int) / 8 - 1) (by omega) (by omega)]
 exact Ev.bind (ev_eq (l01In_eq _ _ _)) (ev_pos (by simpa using And.intro r0 r4) (Ev.bind (sWd_ev b xs hb hn r2 _ r0 r3) (ev_now rfl)))
theorem iWA_ev (hb:b.size≤4000000) (hn:xs.length≤4000000) (hp:plV b xs t p i q=true) (ha:0≤a∧a≤t - 1) (m:Int) (h0:0≤m) (h1:m < pW p i):Ev (fun k=>impl_Memory_word.f k b xs (a * pW p i+m)) (wdV b xs (a * pW p i+m)):=by
 obtain ⟨r0,r1,r2,r3,r4⟩:=pl_in hp ha m h0 h1
 exact iWd_ev b xs hb hn r2 _ r0 r3
theorem sLWd_ev (hb:b.size≤4000000) (hn:xs.length≤4000000) (hp:plV b xs t p i q=true) (ha:0≤a∧a≤t - 1) (m:Int) (h0:0≤m) (w:Nat) (h1:m+w≤pW p i):Ev (fun k=>spec_l14Words.f k b xs (a * pW p i+m) (w:Int)) (wdL b xs (a * pW p i+m) w):=by
 have hpw:pW p i≤200:=by have:=gOk_parts (pl_parts hp).2;unfold pW;omega
 have key:∀ (f n:Nat),n+f=w→Ev (fun k=>spec_l14Words.l0 k (a * pW p i+m) (w:Int) (wdL b xs (a * pW p i+m) n) (n:Int) b xs) (wdL b xs (a * pW p i+m) w):=by
  intro f
  induction f with
  | zero =>
   intro n hf
   have e:n=w:=by omega
   subst e
   refine Ev.step (spec_l14Words.l0.eq_2 _ _ _ _ _ _) ?_
   exact ev_neg (by omega) (ev_now rfl)
  | succ f ih =>
   intro n hf
   have hl:=wdL_len b xs (a * pW p i+m) n
   obtain ⟨r0,r1,r2,r3,r4⟩:=pl_in hp ha (m+(n:Int)) (by omega) (by omega)
   have e:a * pW p i+m+(n:Int)=a * pW p i+(m+(n:Int)):=by omega
   refine Ev.step (spec_l14Words.l0.eq_2 _ _ _ _ _ _) ?_
   refine ev_pos (by omega) ?_
   rw [w64 (x:=a * pW p i+m+(n:Int)) (by omega) (by omega),w64s n (by omega),e]
   refine Ev.bind (sWA_ev hb hn hp ha (m+(n:Int)) (by omega) (by omega)) (ev_pos (by omega) ?_)
   rw [← e]
   exact ih (n+1) (by omega)
 unfold spec_l14Words.f
 exact key w 0 (by omega)
theorem iLWd_ev (hb:b.size≤4000000) (hn:xs.length≤4000000) (hp:plV b xs t p i q=true) (ha:0≤a∧a≤t - 1) (m:Int) (h0:0≤m) (w:Nat) (h1:m+w≤pW p i):Ev (fun k=>impl_readWords.f k b xs (a * pW p i+m) (w:Int)) (wdL b xs (a * pW p i+m) w):=by
 have hpw:pW p i≤200:=by have:=gOk_parts (pl_parts hp).2;unfold pW;omega
 have key:∀ (f n:Nat),n+f=w→Ev (fun k=>impl_readWords.l0 k (a * pW p i+m) (wdL b xs (a * pW p i+m) n) (w:Int) (n:Int) b xs) (wdL b xs (a * pW p i+m) w):=by
  intro f
  induction f with
  | zero =>
   intro n hf
   have e:n=w:=by omega
   subst e
   refine Ev.step (impl_readWords.l0.eq_2 _ _ _ _ _ _) ?_
   exact ev_neg (by omega) (ev_now rfl)
  | succ f ih =>
   intro n hf
   have hl:=wdL_len b xs (a * pW p i+m) n
   obtain ⟨r0,r1,r2,r3,r4⟩:=pl_in hp ha (m+(n:Int)) (by omega) (by omega)
   have e:a * pW p i+m+(n:Int)=a * pW p i+(m+(n:Int)):=by omega
   refine Ev.step (impl_readWords.l0.eq_2 _ _ _ _ _ _) ?_
   refine ev_pos (by omega) ?_
   rw [w64 (x:=a * pW p i+m+(n:Int)) (by omega) (by omega),w64s n (by omega),e]
   refine Ev.bind (iWA_ev hb hn hp ha (m+(n:Int)) (by omega) (by omega)) (ev_pos (by omega) ?_)
   rw [← e]
   exact ih (n+1) (by omega)
 unfold impl_readWords.f
 exact key w 0 (by omega)
abbrev PRt:=Int × List Int × List S62 × Bool
def prF:PRt:=(0,[],[],false)
noncomputable def rpL (b:ByteArray) (xs:List S78) (A s:Int) (st:List Int):Nat→Nat→List S62→PRt
 | 0,_,out=>(s,st,out,true)
 | f+1,j,out=>let v:=riV (wdL b xs (A+(38+8 * (j:Int))) 8);if v.2.2.2.2.2.2=true then rpL b xs A s st f (j+1) (out++[⟨v.1,v.2.1,v.2.2.1,v.2.2.2.1,v.2.2.2.2.1,v.2.2.2.2.2.1⟩]) else prF
noncomputable def rpM (b:ByteArray) (xs:List S78) (t p i q a:Int):PRt :=
 let w:=wdV b xs (a * pW p i+2);let n:=naG w 3 0 0;let v:=rsV (wdL b xs (a * pW p i+36) 2) p
 if w.toList=(swV n).toList∧v.2=true then rpL b xs (a * pW p i) n v.1 i.toNat 0 [] else prF
open Classical in
noncomputable def rpV (b:ByteArray) (xs:List S78) (t p i q a:Int):PRt:=if plV b xs t p i q=true∧0≤a∧a≤t - 1 then rpM b xs t p i q a else prF
theorem sRP_l (hb:b.size≤4000000) (hn:xs.length≤4000000) (hp:plV b xs t p i q=true) (ha:0≤a∧a≤t - 1) (s:Int) (st:List Int):∀ (f j:Nat) (out:List S62),j+f=i.toNat→out.length≤j→Ev (fun k=>spec_ReadPart.l0 k a (j:Int) b xs t p i q s st out) (rpL b xs (a * pW p i) s st f j out):=by
 obtain ⟨g1,g2,g3,g4⟩:=gOk_parts (pl_parts hp).2
 intro f
 induction f with
 | zero =>
  intro j out hj ho
  refine Ev.step (spec_ReadPart.l0.eq_2 _ _ _ _ _ _ _ _ _ _ _) ?_
  exact ev_neg (by omega) (ev_now rfl)
 | succ f ih =>
  intro j out hj ho
  refine Ev.step (spec_ReadPart.l0.eq_2 _ _ _ _ _ _ _ _ _ _ _) ?_
  refine ev_pos (by omega) (Ev.bind (ev_eq (sInAt_eq (pl_parts hp).2 ha (j:Int) ⟨by omega,by omega⟩)) ?_)
  refine Ev.bind (sLWd_ev hb hn hp ha (38+8 * (j:Int)) (by omega) 8 (by unfold pW;omega)) (Ev.bind (sRI_ev _) ?_)
  unfold rpL
  by_cases h:(riV (wdL b xs (a * pW p i+(38+8 * (j:Int))) 8)).2.2.2.2.2.2=true
  ·rw [w64s j (by omega)]
   refine ev_pos h (ev_pos (by omega) ?_)
   simp only [if_pos h]
   exact ih (j+1) _ (by omega) (by simp;omega)
  ·refine ev_neg h (ev_now ?_)
   simp only [if_neg h]
   rfl
theorem iRP_l (hb:b.size≤4000000) (hn:xs.length≤4000000) (hp:plV b xs t p i q=true) (ha:0≤a∧a≤t - 1) (s:Int) (st:List Int):∀ (f j:Nat) (out:List S62),j+f=i.toNat→out.length≤j→Ev (fun k=>impl_readPart.l0 k a i (j:Int) b xs t p i q s st out) (rpL b xs (a * pW p i) s st f j out):=by
 obtain ⟨g1,g2,g3,g4⟩:=gOk_parts (pl_parts hp).2
 intro f
 induction f with
 | zero =>
  intro j out hj ho
  refine Ev.step (impl_readPart.l0.eq_2 _ _ _ _ _ _ _ _ _ _ _ _) ?_
  exact ev_neg (by omega) (ev_now rfl)
 | succ f ih =>
  intro j out hj ho
  refine Ev.step (impl_readPart.l0.eq_2 _ _ _ _ _ _ _ _ _ _ _ _) ?_
  refine ev_pos (by omega) (Ev.bind (ev_eq (iInAt_eq (pl_parts hp).2 ha (j:Int) ⟨by omega,by omega⟩)) ?_)
  refine Ev.bind (iLWd_ev hb hn hp ha (38+8 * (j:Int)) (by omega) 8 (by unfold pW;omega)) (Ev.bind (iRI_ev _ (by rw [wdL_len];omega)) ?_)
  unfold rpL
  by_cases h:(riV (wdL b xs (a * pW p i+(38+8 * (j:Int))) 8)).2.2.2.2.2.2=true
  ·rw [w64s j (by omega)]
   refine ev_pos h (ev_pos (by omega) ?_)
   simp only [if_pos h]
   exact ih (j+1) _ (by omega) (by simp;omega)
  ·refine ev_neg h (ev_now ?_)
   simp only [if_neg h]
   rfl
theorem sRP_bad (k1:Bool) (hk:k1=true):Ev (fun k=>spec_ReadPart.j0 k a k1 b xs t p i q) prF:=by
 refine Ev.step (spec_ReadPart.j0.eq_2 _ _ _ _ _ _ _ _) ?_
 exact ev_pos hk (ev_now rfl)
theorem sRP_good (hb:b.size≤4000000) (hn:xs.length≤4000000) (hp:plV b xs t p i q=true) (ha:0≤a∧a≤t - 1):Ev (fun k=>spec_ReadPart.j0 k a false b xs t p i q) (rpM b xs t p i q a):=by
 obtain ⟨g1,g2,g3,g4⟩:=gOk_parts (pl_parts hp).2
 obtain ⟨r0,r1,r2,r3,r4⟩:=pl_in hp ha 2 (by omega) (by unfold pW;omega)
 have hz:=wdV_size b xs r2 _ r0 r3
 refine Ev.step (spec_ReadPart.j0.eq_2 _ _ _ _ _ _ _ _) ?_
 refine ev_neg (by simp) ?_
 unfold spec_SerialAt.f
 refine Ev.bind (ev_eq (by rw [sAt_eq (pl_parts hp).2 ha 2 (by omega) (by omega),Option.bind_some])) ?_
 refine Ev.bind (sWA_ev hb hn hp ha 2 (by omega) (by unfold pW;omega)) ?_
 refine Ev.bind (sNA_ev _ (by omega) 0 3 (by omega) (by omega) (by omega)) ?_
 refine Ev.bind (ev_eq (sAt_eq (pl_parts hp).2 ha 36 (by omega) (by omega))) ?_
 refine Ev.bind (sLWd_ev hb hn hp ha 36 (by omega) 2 (by unfold pW;omega)) ?_
 refine Ev.bind (sRS_ev _ _) (Ev.bind (sSer_ev _) ?_)
 unfold rpM
 by_cases h:(wdV b xs (a * pW p i+2)).toList=(swV (naG (wdV b xs (a * pW p i+2)) 3 0 0)).toList
 ·refine ev_pos h ?_
  refine Ev.step (spec_ReadPart.j1.eq_2 _ _ _ _ _ _ _ _ _ _) ?_
  by_cases h2:(rsV (wdL b xs (a * pW p i+36) 2) p).2=true
  ·refine ev_neg (by rw [h2];simp) ?_
   simp only [if_pos (And.intro h h2)]
   exact sRP_l hb hn hp ha _ _ i.toNat 0 [] (by omega) (by simp)
  ·refine ev_pos (by simpa using h2) (ev_now ?_)
   simp only [if_neg (fun c:_∧_=>h2 c.2)]
   rfl
 ·refine ev_neg h ?_
  refine Ev.step (spec_ReadPart.j1.eq_2 _ _ _ _ _ _ _ _ _ _) ?_
  refine ev_pos rfl (ev_now ?_)
  simp only [if_neg (fun c:_∧_=>h c.1)]
  rfl
theorem sRP_ev (hb:b.size≤4000000) (hn:xs.length≤4000000):Ev (fun k=>spec_ReadPart.f k b xs t p i q a) (rpV b xs t p i q a):=by
 unfold spec_ReadPart.f rpV
 by_cases hg:gOk t p i q=true
 ·refine Ev.bind (ev_eq (sCommit_eq hg a)) ?_
  obtain ⟨g1,g2,g3,g4⟩:=gOk_parts hg
  by_cases ha:0≤a∧a≤t - 1
  ·have hm:=mul3 (a:=a) (w:=pW p i) ha.1 (by omega) (by unfold pW;omega) (by unfold pW;omega)
   rw [if_pos ha]
   refine ev_neg (by omega) (Ev.bind (sMem_ev b xs hb hn) ?_)
   by_cases hk:mOk b xs=true
   ·obtain ⟨m1,m2,m3⟩:=mOk_parts hk
    have hw:=tpW hg
    unfold spec_l10Words.f
    rw [w64 (x:=(b.size:Int) / 8) (by omega) (by omega)]
    refine ev_pos hk (Ev.bind (Ev.now _) (Ev.bind (ev_eq (sPW_eq hg)) ?_))
    rw [w64 (x:=t * pW p i) (by omega) (by omega)]
    by_cases hp:plV b xs t p i q=true
    ·rw [if_pos ⟨hp,ha⟩]
     have hl:t * pW p i / 2≤(b.size:Int) / 16:=by
      unfold plV at hp
      simp only [Bool.and_eq_true,decide_eq_true_eq] at hp
      exact hp.2.2
     rw [decide_eq_false (by omega)]
     exact sRP_good hb hn hp ha
    ·rw [if_neg (fun c=>hp c.1)]
     refine sRP_bad _ (decide_eq_true ?_)
     have:¬ t * pW p i / 2≤(b.size:Int) / 16:=by
      intro c
      apply hp
      unfold plV
      rw [hk,hg,decide_eq_true c]
      rfl
     omega
   ·rw [if_neg (fun c=>hk (pl_parts c.1).1)]
    exact ev_neg hk (sRP_bad _ rfl)
  ·rw [if_neg ha,if_neg (fun c=>ha c.2)]
   exact ev_pos (by omega) (sRP_bad _ rfl)
 ·rw [if_neg (fun c=>hg (pl_parts c.1).2)]
  refine Ev.bind (ev_eq (sCommit_no hg a)) ?_
  exact ev_pos (by omega) (sRP_bad _ rfl)
theorem iRP_ev (hb:b.size≤4000000) (hn:xs.length≤4000000):Ev (fun k=>impl_ReadPart.f k b xs t p i q a) (rpV b xs t p i q a):=by
 unfold impl_ReadPart.f rpV
 refine Ev.bind (iHas_ev b xs t p i q hb hn) ?_
 by_cases hp:plV b xs t p i q=true
 ·obtain ⟨hk,hg⟩:=pl_parts hp
  obtain ⟨g1,g2,g3,g4⟩:=gOk_parts hg
  refine ev_pos hp (Ev.bind (ev_eq (iTen_eq hg a)) ?_)
  by_cases ha:0≤a∧a≤t - 1
  ·rw [if_pos ⟨hp,ha⟩]
   obtain ⟨r0,r1,r2,r3,r4⟩:=pl_in hp ha 2 (by omega) (by unfold pW;omega)
   have hz:=wdV_size b xs r2 _ r0 r3
   refine ev_pos (decide_eq_true ha) (Ev.bind (a:=rpM b xs t p i q a) ?_ (ev_now rfl))
   unfold impl_readPart.f impl_SerialAt.f impl_readSerial.f
   refine Ev.bind (ev_eq (by rw [iIn_eq hg ha 2 (by omega) (by omega),Option.bind_some])) ?_
   refine Ev.bind (iWA_ev hb hn hp ha 2 (by omega) (by unfold pW;omega)) ?_
   refine Ev.bind (Ev.bind (iNA_ev _ (by omega) 0 3 (by omega) (by omega) (by omega)) (Ev.bind (iSer_ev _) (Ev.now _))) ?_
   refine Ev.bind (ev_eq (iStAt_eq hg ha)) ?_
   refine Ev.bind (iLWd_ev hb hn hp ha 36 (by omega) 2 (by unfold pW;omega)) (Ev.bind (iRS_ev _ _) ?_)
   unfold rpM
   by_cases h:(wdV b xs (a * pW p i+2)).toList=(swV (naG (wdV b xs (a * pW p i+2)) 3 0 0)).toList
   ·refine ev_pos (by simpa using h.symm) ?_
    refine Ev.step (impl_readPart.j0.eq_2 _ _ _ _ _ _ _ _ _ _) ?_
    by_cases h2:(rsV (wdL b xs (a * pW p i+36) 2) p).2=true
    ·refine ev_neg (by rw [h2];simp) ?_
     simp only [if_pos (And.intro h h2)]
     exact iRP_l hb hn hp ha _ _ i.toNat 0 [] (by omega) (by simp)
    ·refine ev_pos (by simpa using h2) (ev_now ?_)
     simp only [if_neg (fun c:_∧_=>h2 c.2)]
     rfl
   ·refine ev_neg (by simpa using fun c=>h c.symm) ?_
    refine Ev.step (impl_readPart.j0.eq_2 _ _ _ _ _ _ _ _ _ _) ?_
    refine ev_pos rfl (ev_now ?_)
    simp only [if_neg (fun c:_∧_=>h c.1)]
    rfl
  ·rw [if_neg (fun c=>ha c.2)]
   exact ev_neg (by simpa using ha) (ev_now rfl)
 ·rw [if_neg (fun c=>hp c.1)]
  exact ev_neg hp (ev_now rfl)
end
theorem wiR8:∀ (rs:List S86),(∀ y ∈ rs,y.f2.size≤8)→wiRecS rs≤9 * rs.length
 | [],_=>by simp [wiRecS,sumBy]
 | y :: r,h=>by
  have ih:=wiR8 r (fun z hz=>h z (List.mem_cons_of_mem _ hz))
  have hy:=h y (List.mem_cons_self ..)
  unfold wiRecS at ih ⊢
  rw [sumBy_cons,List.length_cons]
  unfold wiRec at ih ⊢
  omega
theorem wiE8:∀ (rs:List S90),(∀ y ∈ rs,y.f1.size≤8)→wiEntryS rs≤9 * rs.length
 | [],_=>by simp [wiEntryS,sumBy]
 | y :: r,h=>by
  have ih:=wiE8 r (fun z hz=>h z (List.mem_cons_of_mem _ hz))
  have hy:=h y (List.mem_cons_self ..)
  unfold wiEntryS at ih ⊢
  rw [sumBy_cons,List.length_cons]
  unfold wiEntry at ih ⊢
  omega
def inSm (x:S62):Prop:=wiInode x≤152∧x.f4.length≤8∧x.f5.length≤8
theorem ri_sm (ws:List ByteArray):inSm ⟨(riV ws).1,(riV ws).2.1,(riV ws).2.2.1,(riV ws).2.2.2.1,(riV ws).2.2.2.2.1,(riV ws).2.2.2.2.2.1⟩:=by
 obtain ⟨lr,le,hr,he,hm⟩:=riV_small ws
 revert lr le hr he hm
 generalize riV ws=v
 obtain ⟨kd,sz,ct,mk,rs,es,ok⟩:=v
 dsimp only
 intro lr le hr he hm
 have w1:=wiR8 rs hr
 have w2:=wiE8 es he
 refine ⟨?_,lr,le⟩
 unfold wiInode
 dsimp only
 omega
theorem rpL_sm (b:ByteArray) (xs:List S78) (A s:Int) (st:List Int) (hs:st.length≤12):∀ (f j:Nat) (out:List S62),(∀ x ∈ out,inSm x)→(rpL b xs A s st f j out).2.1.length≤12∧(rpL b xs A s st f j out).2.2.1.length≤out.length+f∧∀ x ∈ (rpL b xs A s st f j out).2.2.1,inSm x
 | 0,_,out,h=>⟨hs,by simp [rpL],h⟩
 | f+1,j,out,h=>by
  unfold rpL
  by_cases hk:(riV (wdL b xs (A+(38+8 * (j:Int))) 8)).2.2.2.2.2.2=true
  ·simp only [if_pos hk]
   have hr:=ri_sm (wdL b xs (A+(38+8 * (j:Int))) 8)
   revert hr
   generalize riV (wdL b xs (A+(38+8 * (j:Int))) 8)=v
   intro hr
   have:=rpL_sm b xs A s st hs f (j+1) (out++[⟨v.1,v.2.1,v.2.2.1,v.2.2.2.1,v.2.2.2.2.1,v.2.2.2.2.2.1⟩]) (fun x hx=>by
    rcases List.mem_append.1 hx with hx|hx
    ·exact h x hx
    ·rw [List.mem_singleton] at hx
     subst hx
     exact hr)
   refine ⟨this.1,?_,this.2.2⟩
   have h2:=this.2.1
   rw [List.length_append,List.length_singleton] at h2
   omega
  ·simp only [if_neg hk]
   exact ⟨by simp [prF],by simp [prF],by simp [prF]⟩
theorem rpV_sm (b:ByteArray) (xs:List S78) (t p i q a:Int):(rpV b xs t p i q a).2.1.length≤12∧(rpV b xs t p i q a).2.2.1.length≤6∧∀ x ∈ (rpV b xs t p i q a).2.2.1,inSm x:=by
 have hF:prF.2.1.length≤12∧prF.2.2.1.length≤6∧∀ x ∈ prF.2.2.1,inSm x:=⟨by simp [prF],by simp [prF],by simp [prF]⟩
 unfold rpV
 split
 ·rename_i h
  obtain ⟨g1,g2,g3,g4⟩:=gOk_parts (pl_parts h.1).2
  unfold rpM
  dsimp only
  split
  ·have:=rpL_sm b xs (a * pW p i) (naG (wdV b xs (a * pW p i+2)) 3 0 0) (rsV (wdL b xs (a * pW p i+36) 2) p).1 (rsV_len _ _) i.toNat 0 [] (by simp)
   refine ⟨this.1,?_,this.2.2⟩
   have h2:=this.2.1
   rw [List.length_nil] at h2
   omega
  ·exact hF
 ·exact hF

theorem mt_l (n:Nat):∀ o:ByteArray,o.size+40 * (n+1)≤4000000000000000→∃ r:ByteArray,Ev (fun k=>laws_markText.l0 k n o) r:=by
 induction n using Nat.strongRecOn with
 | _ n ih =>
  intro o ho
  by_cases h:(n:Int) > 0
  ·have hd:wrap64 (Int.tdiv (n:Int) 10)=((n / 10:Nat):Int):=by
    rw [Int.tdiv_eq_ediv_of_nonneg (by omega),w64 (by omega) (by omega)];omega
   obtain ⟨r,hr⟩:=ih (n / 10) (by omega) (strOfNums [wrap64 (48+Int.tmod (n:Int) 10) % 256]++o) (by rw [ByteArray.size_append,strOfNums_size];simp only [List.length_singleton];omega)
   refine ⟨r,?_⟩
   refine Ev.step (laws_markText.l0.eq_2 _ _) ?_
   refine ev_pos h (Ev.bind (Ev.now _) (ev_pos (by rw [strOfNums_size];simp only [List.length_singleton];omega) ?_))
   rw [hd]
   exact hr
  ·refine ⟨(⟨#[109]⟩:ByteArray)++o,?_⟩
   refine Ev.step (laws_markText.l0.eq_2 _ _) ?_
   exact ev_neg h (ev_pos (by omega) (ev_now rfl))
noncomputable def mtx (n:Nat):ByteArray:=evv ⟨#[]⟩ (fun k=>laws_markText.f k (n:Int))
theorem mtx_ev (n:Nat) (hn:n≤40000000):Ev (fun k=>laws_markText.f k (n:Int)) (mtx n):=by
 unfold mtx
 apply evv_ev
 by_cases h:(n:Int)≤0
 ·exact ⟨_,by unfold laws_markText.f;exact ev_pos h (Ev.now _)⟩
 ·have e0:(⟨#[]⟩:ByteArray).size=0:=rfl
  obtain ⟨r,hr⟩:=mt_l n ⟨#[]⟩ (by omega)
  exact ⟨r,by unfold laws_markText.f;exact ev_neg h hr⟩
noncomputable def cmk (a i:Nat):S78:=⟨((a+3 * i:Nat):Int),mtx (a+3 * i+1),(Int.tmod (((a+3 * i+2:Nat):Int)) 3) == 0⟩
theorem rd_setC (ys:List S78) (x:S78) (i:Nat) (h:i < ys.length):rd_T78 (ys.set i x) (i:Int)=x:=by rw [rdiCell _ i (by simpa using h),List.getElem_set_self]
theorem markCellS_m (n a:Nat) (hn:a+3 * n≤40000000):∀ (i:Nat) (ys:List S78),i≤n→ys.length=n→∃ zs:List S78,Ev (fun k=>laws_markCellS.l0 k ys ((a+3 * i:Nat):Int) (i:Int)) (((a+3 * n:Nat):Int),zs)
 | i,ys,hi,hl=>by
  by_cases h:i < n
  ·have e1:wrap64 (((a+3 * i:Nat):Int)+1)=((a+3 * i+1:Nat):Int):=w64s _ (by omega)
   have e2:wrap64 (((a+3 * i+1:Nat):Int)+1)=((a+3 * i+2:Nat):Int):=w64s _ (by omega)
   have e3:wrap64 (((a+3 * i+2:Nat):Int)+1)=((a+3 * (i+1):Nat):Int):=by rw [show a+3 * (i+1)=a+3 * i+2+1 by omega];exact w64s _ (by omega)
   have ih:=fun zs hz=>markCellS_m n a hn (i+1) zs (by omega) hz
   refine Classical.byContradiction fun hno=>?_
   refine hno ?_
   have:=ih (((ys.set i (⟨((a+3 * i:Nat):Int),(rd_T78 ys (i:Int)).f1,(rd_T78 ys (i:Int)).f2⟩:S78)).set i (⟨((a+3 * i:Nat):Int),mtx (a+3 * i+1),(rd_T78 ys (i:Int)).f2⟩:S78)).set i (cmk a i)) (by simp [hl])
   obtain ⟨zs,he⟩:=this
   refine ⟨zs,?_⟩
   refine Ev.step (laws_markCellS.l0.eq_2 _ _ _) ?_
   refine ev_pos (by omega) (ev_pos (by omega) (Ev.bind (Ev.now _) ?_))
   rw [e1,e2,e3,Int.toNat_natCast,w64s i (by omega)]
   refine Ev.bind (mtx_ev _ (by omega)) (Ev.bind (Ev.now _) ?_)
   rw [rd_setC ys _ i (by omega),rd_setC (ys.set i _) _ i (by rw [List.length_set];omega)]
   exact he
  ·have:i=n:=by omega
   subst this
   exact ⟨ys,by
    refine Ev.step (laws_markCellS.l0.eq_2 _ _ _) ?_
    exact ev_neg (by omega) (ev_now rfl)⟩
 termination_by i=>n - i
theorem markMem_ev (b:ByteArray) (xs:List S78) (h:1+3 * xs.length≤40000000):∃ zs:List S78,Ev (fun k=>laws_markMemory.f k b xs 1) (((1+3 * xs.length:Nat):Int),zs):=by
 obtain ⟨zs,he⟩:=markCellS_m xs.length 1 h 0 xs (by omega) rfl
 refine ⟨zs,?_⟩
 unfold laws_markMemory.f laws_markCellS.f
 exact Ev.bind he (ev_now rfl)

noncomputable def rmk (a i:Nat):S86:=⟨((a+3 * i:Nat):Int),((a+3 * i+1:Nat):Int),mtx (a+3 * i+2)⟩
noncomputable def rmarks (a n:Nat):List S86:=(List.range' 0 n).map (rmk a)
theorem rmarks_len (a n:Nat):(rmarks a n).length=n:=by simp [rmarks]
noncomputable def emk (a i:Nat):S90:=⟨((a+2 * i:Nat):Int),mtx (a+2 * i+1)⟩
noncomputable def emarks (a n:Nat):List S90:=(List.range' 0 n).map (emk a)
theorem emarks_len (a n:Nat):(emarks a n).length=n:=by simp [emarks]
theorem rd_setR (ys:List S86) (x:S86) (i:Nat) (h:i < ys.length):rd_T86 (ys.set i x) (i:Int)=x:=by rw [rdiRec _ i (by simpa using h),List.getElem_set_self]
theorem rd_setE (ys:List S90) (x:S90) (i:Nat) (h:i < ys.length):rd_T90 (ys.set i x) (i:Int)=x:=by rw [rdiEntry _ i (by simpa using h),List.getElem_set_self]
theorem markRecS_m (n a:Nat) (hn:a+3 * n≤40000000):∀ (i:Nat) (ys:List S86),i≤n→ys.length=n →
  Ev (fun k=>laws_markRecS.l0 k ys ((a+3 * i:Nat):Int) (i:Int)) (((a+3 * n:Nat):Int),ys.take i++(List.range' i (n - i)).map (rmk a))
 | i,ys,hi,hl=>by
  refine Ev.step (laws_markRecS.l0.eq_2 _ _ _) ?_
  by_cases h:i < n
  ·have e1:wrap64 (((a+3 * i:Nat):Int)+1)=((a+3 * i+1:Nat):Int):=w64s _ (by omega)
   have e2:wrap64 (((a+3 * i+1:Nat):Int)+1)=((a+3 * i+2:Nat):Int):=w64s _ (by omega)
   have e3:wrap64 (((a+3 * i+2:Nat):Int)+1)=((a+3 * (i+1):Nat):Int):=by rw [show a+3 * (i+1)=a+3 * i+2+1 by omega];exact w64s _ (by omega)
   refine ev_pos (by omega) (ev_pos (by omega) (Ev.bind (Ev.now _) (Ev.bind (Ev.now _) ?_)))
   rw [e1,e2,e3,Int.toNat_natCast,w64s i (by omega)]
   refine Ev.bind (mtx_ev _ (by omega)) ?_
   refine ev_to (markRecS_m n a hn (i+1) _ (by omega) (by rw [List.length_set,List.length_set,List.length_set];exact hl)) ?_
   rw [rd_setR ys _ i (by omega),rd_setR (ys.set i _) _ i (by rw [List.length_set];omega)]
   simp only [List.set_set]
   congr 1
   rw [List.take_succ_eq_append_getElem (by simp;omega)]
   simp only [List.getElem_set_self,List.append_assoc,List.take_set_of_le (Nat.le_refl i)]
   congr 1
   rw [show n - i=(n - (i+1))+1 by omega,List.range'_succ]
   rfl
  ·have:i=n:=by omega
   subst this
   refine ev_neg (by omega) (ev_now ?_)
   simp [← hl]
 termination_by i=>n - i
theorem markEntryS_m (n a:Nat) (hn:a+2 * n≤40000000):∀ (i:Nat) (ys:List S90),i≤n→ys.length=n →
  Ev (fun k=>laws_markEntryS.l0 k ys ((a+2 * i:Nat):Int) (i:Int)) (((a+2 * n:Nat):Int),ys.take i++(List.range' i (n - i)).map (emk a))
 | i,ys,hi,hl=>by
  refine Ev.step (laws_markEntryS.l0.eq_2 _ _ _) ?_
  by_cases h:i < n
  ·have e1:wrap64 (((a+2 * i:Nat):Int)+1)=((a+2 * i+1:Nat):Int):=w64s _ (by omega)
   have e2:wrap64 (((a+2 * i+1:Nat):Int)+1)=((a+2 * (i+1):Nat):Int):=by rw [show a+2 * (i+1)=a+2 * i+1+1 by omega];exact w64s _ (by omega)
   refine ev_pos (by omega) (ev_pos (by omega) (Ev.bind (Ev.now _) ?_))
   rw [e1,e2,Int.toNat_natCast,w64s i (by omega)]
   refine Ev.bind (mtx_ev _ (by omega)) ?_
   refine ev_to (markEntryS_m n a hn (i+1) _ (by omega) (by rw [List.length_set,List.length_set];exact hl)) ?_
   rw [rd_setE ys _ i (by omega)]
   simp only [List.set_set]
   congr 1
   rw [List.take_succ_eq_append_getElem (by simp;omega)]
   simp only [List.getElem_set_self,List.append_assoc,List.take_set_of_le (Nat.le_refl i)]
   congr 1
   rw [show n - i=(n - (i+1))+1 by omega,List.range'_succ]
   rfl
  ·have:i=n:=by omega
   subst this
   refine ev_neg (by omega) (ev_now ?_)
   simp [← hl]
 termination_by i=>n - i
theorem heldRecS_l (n a:Nat) (hn:a+3 * n≤40000000):∀ (i:Nat),i≤n→Ev (fun k=>laws_heldRecS.l0 k (rmarks a n) ((a+3 * i:Nat):Int) (i:Int)) ((a+3 * n:Nat):Int)
 | i,hi=>by
  refine Ev.step (laws_heldRecS.l0.eq_2 _ _ _) ?_
  have hl:=rmarks_len a n
  by_cases h:i < n
  ·have e1:wrap64 (((a+3 * i:Nat):Int)+1)=((a+3 * i+1:Nat):Int):=w64s _ (by omega)
   have e2:wrap64 (((a+3 * i+1:Nat):Int)+1)=((a+3 * i+2:Nat):Int):=w64s _ (by omega)
   have e3:wrap64 (((a+3 * i+2:Nat):Int)+1)=((a+3 * (i+1):Nat):Int):=by rw [show a+3 * (i+1)=a+3 * i+2+1 by omega];exact w64s _ (by omega)
   have he:rd_T86 (rmarks a n) (i:Int)=rmk a i:=by
    rw [rdiRec _ i (by omega)];simp [rmarks]
   rw [he,e1,e2,e3,w64s i (by omega)]
   exact ev_pos (by omega) (ev_pos (by omega) (ev_pos rfl (ev_pos rfl (Ev.bind (mtx_ev _ (by omega)) (ev_pos rfl (heldRecS_l n a hn (i+1) (by omega)))))))
  ·have:i=n:=by omega
   subst this
   exact ev_neg (by omega) (ev_now rfl)
 termination_by i=>n - i
theorem heldEntryS_l (n a:Nat) (hn:a+2 * n≤40000000):∀ (i:Nat),i≤n→Ev (fun k=>laws_heldEntryS.l0 k (emarks a n) ((a+2 * i:Nat):Int) (i:Int)) ((a+2 * n:Nat):Int)
 | i,hi=>by
  refine Ev.step (laws_heldEntryS.l0.eq_2 _ _ _) ?_
  have hl:=emarks_len a n
  by_cases h:i < n
  ·have e1:wrap64 (((a+2 * i:Nat):Int)+1)=((a+2 * i+1:Nat):Int):=w64s _ (by omega)
   have e2:wrap64 (((a+2 * i+1:Nat):Int)+1)=((a+2 * (i+1):Nat):Int):=by rw [show a+2 * (i+1)=a+2 * i+1+1 by omega];exact w64s _ (by omega)
   have he:rd_T90 (emarks a n) (i:Int)=emk a i:=by
    rw [rdiEntry _ i (by omega)];simp [emarks]
   rw [he,e1,e2,w64s i (by omega)]
   exact ev_pos (by omega) (ev_pos (by omega) (ev_pos rfl (Ev.bind (mtx_ev _ (by omega)) (ev_pos rfl (heldEntryS_l n a hn (i+1) (by omega))))))
  ·have:i=n:=by omega
   subst this
   exact ev_neg (by omega) (ev_now rfl)
 termination_by i=>n - i
def marks (a n:Nat):List Int:=(List.range' a n).map (fun j:Nat=>(j:Int))
theorem marks_len (a n:Nat):(marks a n).length=n:=by simp [marks]
theorem markIntS_l (n a:Nat) (hn:n≤1048576) (ha:a≤4000000000000):∀ (i:Nat) (ys:List Int),i≤n→ys.length=n →
  Ev (fun k=>laws_markIntS.l0 k ys ((a+i:Nat):Int) i) (((a+n:Nat):Int),ys.take i++marks (a+i) (n - i))
 | i,ys,hi,hl=>by
  refine Ev.step (laws_markIntS.l0.eq_2 _ _ _) ?_
  by_cases h:i < n
  ·refine ev_pos (by omega) (ev_pos (by omega) ?_)
   rw [w64s i (by omega),w64s (a+i) (by omega),Int.toNat_natCast]
   refine ev_to (markIntS_l n a hn ha (i+1) (ys.set i _) (by omega) (by simp [hl])) ?_
   congr 1
   rw [List.take_succ_eq_append_getElem (by simp;omega)]
   simp only [List.getElem_set_self,List.append_assoc,List.take_set_of_le (Nat.le_refl i)]
   congr 1
   unfold marks
   rw [show n - i=(n - (i+1))+1 by omega,List.range'_succ]
   simp [Nat.add_assoc]
  ·have:i=n:=by omega
   subst this
   refine ev_neg (by omega) (ev_now ?_)
   simp [marks,← hl]
 termination_by i=>n - i
theorem markIntS_ev (xs:List Int) (a:Nat) (hn:xs.length≤1048576) (ha:a≤4000000000000):Ev (fun k=>laws_markIntS.f k xs (a:Int)) (((a+xs.length:Nat):Int),marks a xs.length):=by
 unfold laws_markIntS.f
 have:=markIntS_l xs.length a hn ha 0 xs (by omega) rfl
 simpa using this
theorem heldIntS_l (n a:Nat) (hn:n≤1048576) (ha:a≤4000000000000):∀ (i:Nat),i≤n→Ev (fun k=>laws_heldIntS.l0 k (marks a n) ((a+i:Nat):Int) i) ((a+n:Nat):Int)
 | i,hi=>by
  refine Ev.step (laws_heldIntS.l0.eq_2 _ _ _) ?_
  have hl:=marks_len a n
  by_cases h:i < n
  ·refine ev_pos (by omega) (ev_pos (by omega) (ev_pos ?_ ?_))
   ·rw [rd_at _ i (by omega)]
    simp [marks]
   ·rw [w64s i (by omega),w64s (a+i) (by omega)]
    exact heldIntS_l n a hn ha (i+1) (by omega)
  ·have:i=n:=by omega
   subst this
   exact ev_neg (by omega) (ev_now rfl)
 termination_by i=>n - i
theorem heldIntS_ev (n a:Nat) (hn:n≤1048576) (ha:a≤4000000000000):Ev (fun k=>laws_heldIntS.f k (marks a n) (a:Int)) ((a+n:Nat):Int):=by
 unfold laws_heldIntS.f
 have:=heldIntS_l n a hn ha 0 (by omega)
 simpa using this






theorem eqIntS_l (xs:List Int) (hn:xs.length≤4000000):∀ (i:Nat),i≤xs.length→Ev (fun k=>laws_eqIntS.l0 k xs xs i) true
 | i,hi=>by
  refine Ev.step (laws_eqIntS.l0.eq_2 _ _ _) ?_
  by_cases h:i < xs.length
  ·refine ev_pos (by omega) (ev_pos (by omega) (ev_pos (by omega) (ev_pos rfl ?_)))
   rw [w64s i (by omega)]
   exact eqIntS_l xs hn (i+1) (by omega)
  ·exact ev_neg (by omega) (ev_now rfl)
 termination_by i=>xs.length - i
theorem eqIntS_ev (xs:List Int) (hn:xs.length≤4000000):Ev (fun k=>laws_eqIntS.f k xs xs) true:=by
 unfold laws_eqIntS.f
 exact ev_pos rfl (eqIntS_l xs hn 0 (by omega))


def wiPart (a0:Int) (a1:List Int) (a2:List S62):Nat:=a1.length+(wiInodeS a2+(0))


theorem eqPart_ev (a0:Int) (a1:List Int) (a2:List S62) (hw:wiPart a0 a1 a2≤4000000):Ev (fun k=>laws_eqPart.f k a0 a1 a2 a0 a1 a2) true:=by
 unfold wiPart at hw
 unfold laws_eqPart.f
 refine ev_pos rfl ?_
 refine Ev.bind (eqIntS_ev a1 (by omega)) (ev_pos rfl ?_)
 refine Ev.bind (eqInodeS_ev a2 (by omega)) (ev_pos rfl ?_)
 exact ev_now rfl


def ncI (x:S62):Nat:=4+3 * x.f4.length+2 * x.f5.length
def ncS (xs:List S62):Nat:=sumBy ncI xs
noncomputable def inmk (a:Nat) (x:S62):S62:=⟨((a:Nat):Int),((a+1:Nat):Int),((a+2:Nat):Int),mtx (a+3),rmarks (a+4) x.f4.length,emarks (a+4+3 * x.f4.length) x.f5.length⟩
noncomputable def inmarks:Nat→List S62→List S62
 | _,[]=>[]
 | a,x :: r=>inmk a x :: inmarks (a+ncI x) r
theorem w64s4 (a:Nat) (h:a+4 < 4611686018427387904):wrap64 (((a:Nat):Int)+1)=((a+1:Nat):Int)∧wrap64 (((a+1:Nat):Int)+1)=((a+2:Nat):Int)∧wrap64 (((a+2:Nat):Int)+1)=((a+3:Nat):Int)∧wrap64 (((a+3:Nat):Int)+1)=((a+4:Nat):Int) :=
 ⟨w64s _ (by omega),w64s _ (by omega),w64s _ (by omega),w64s _ (by omega)⟩
theorem rd_mid (p:List S62) (x:S62) (r:List S62):rd_T62 (p++x :: r) (p.length:Int)=x:=by
 rw [rdiInode _ _ (by simp)]
 simp
theorem set_mid (p:List S62) (x y:S62) (r:List S62):(p++x :: r).set p.length y=p++y :: r:=by
 rw [List.set_append_right _ _ (Nat.le_refl _),Nat.sub_self]
 rfl
theorem recsS_ev (rs:List S86) (a:Nat) (h:a+3 * rs.length≤40000000):Ev (fun k=>laws_markRecS.f k rs ((a:Nat):Int)) (((a+3 * rs.length:Nat):Int),rmarks a rs.length):=by
 have h1:=markRecS_m rs.length a h 0 rs (by omega) rfl
 rw [List.take_zero,List.nil_append,Nat.sub_zero] at h1
 unfold laws_markRecS.f
 exact h1
theorem entsS_ev (es:List S90) (a:Nat) (h:a+2 * es.length≤40000000):Ev (fun k=>laws_markEntryS.f k es ((a:Nat):Int)) (((a+2 * es.length:Nat):Int),emarks a es.length):=by
 have h1:=markEntryS_m es.length a h 0 es (by omega) rfl
 rw [List.take_zero,List.nil_append,Nat.sub_zero] at h1
 unfold laws_markEntryS.f
 exact h1
theorem markInodeS_l (r:List S62):∀ (p:List S62) (a:Nat),a+ncS r≤39999999→p.length+r.length≤4000000 →
  Ev (fun k=>laws_markInodeS.l0 k (p++r) ((a:Nat):Int) ((p.length:Nat):Int)) (((a+ncS r:Nat):Int),p++inmarks a r):=by
 induction r with
 | nil =>
  intro p a ha hp
  refine Ev.step (laws_markInodeS.l0.eq_2 _ _ _) ?_
  refine ev_neg (by simp) (ev_now ?_)
  simp [ncS,sumBy,inmarks]
 | cons x r ih =>
  intro p a ha hp
  have hn:ncS (x :: r)=ncI x+ncS r:=by simp [ncS,sumBy_cons]
  have hx:ncI x=4+3 * x.f4.length+2 * x.f5.length:=rfl
  rw [hn] at ha ⊢
  simp only [List.length_cons] at hp
  obtain ⟨e1,e2,e3,e4⟩:=w64s4 a (by omega)
  refine Ev.step (laws_markInodeS.l0.eq_2 _ _ _) ?_
  refine ev_pos (by rw [List.length_append,List.length_cons];omega) (ev_pos (Int.natCast_nonneg _) ?_)
  rw [Int.toNat_natCast,e1,e2,e3,e4]
  clear e1 e2 e3 e4
  rw [w64s _ (by omega)]
  refine Ev.bind (Ev.now _) ?_
  simp only [rd_mid,set_mid]
  refine Ev.bind (Ev.now _) ?_
  simp only [rd_mid,set_mid]
  refine Ev.bind (Ev.now _) ?_
  simp only [rd_mid,set_mid]
  refine Ev.bind (mtx_ev _ (by omega)) ?_
  refine Ev.bind (Ev.now _) ?_
  simp only [rd_mid,set_mid]
  refine Ev.bind (recsS_ev _ _ (by omega)) ?_
  refine Ev.bind (Ev.now _) ?_
  simp only [rd_mid,set_mid]
  refine Ev.bind (entsS_ev _ _ (by omega)) ?_
  refine Ev.bind (Ev.now _) ?_
  simp only [rd_mid,set_mid]
  have ih:=ih (p++[inmk a x]) (a+ncI x) (by omega) (by simp;omega)
  rw [List.append_assoc,List.append_assoc,List.length_append,List.length_singleton] at ih
  have e5:a+4+3 * x.f4.length+2 * x.f5.length=a+ncI x:=by omega
  rw [e5]
  refine ev_to ih ?_
  rw [show a+(ncI x+ncS r)=a+ncI x+ncS r by omega]
  rfl
theorem markInodeS_ev (xs:List S62) (a:Nat) (h:a+ncS xs≤39999999) (h2:xs.length≤4000000):Ev (fun k=>laws_markInodeS.f k xs ((a:Nat):Int)) (((a+ncS xs:Nat):Int),inmarks a xs):=by
 unfold laws_markInodeS.f
 exact markInodeS_l xs [] a h (by simpa using h2)
theorem markPart_m (s:Int) (b:List Int) (xs:List S62) (a:Nat) (h:a+b.length+ncS xs≤39999999) (hb:b.length≤1048576) (h2:xs.length≤4000000):Ev (fun k=>laws_markPart.f k s b xs ((a:Nat):Int)) (((a+b.length+ncS xs:Nat):Int),marks a b.length,inmarks (a+b.length) xs):=by
 unfold laws_markPart.f
 exact Ev.bind (markIntS_ev b a hb (by omega)) (Ev.bind (markInodeS_ev xs _ h h2) (ev_now rfl))
theorem heldRS_ev (n a:Nat) (h:a+3 * n≤40000000):Ev (fun k=>laws_heldRecS.f k (rmarks a n) ((a:Nat):Int)) ((a+3 * n:Nat):Int):=by
 unfold laws_heldRecS.f
 exact heldRecS_l n a h 0 (by omega)
theorem heldES_ev (n a:Nat) (h:a+2 * n≤40000000):Ev (fun k=>laws_heldEntryS.f k (emarks a n) ((a:Nat):Int)) ((a+2 * n:Nat):Int):=by
 unfold laws_heldEntryS.f
 exact heldEntryS_l n a h 0 (by omega)
theorem heldInodeS_l (r:List S62):∀ (p:List S62) (a:Nat),a+ncS r≤39999999→p.length+r.length≤4000000 →
  Ev (fun k=>laws_heldInodeS.l0 k (p++inmarks a r) ((a:Nat):Int) ((p.length:Nat):Int)) ((a+ncS r:Nat):Int):=by
 induction r with
 | nil =>
  intro p a ha hp
  refine Ev.step (laws_heldInodeS.l0.eq_2 _ _ _) ?_
  refine ev_neg (by simp [inmarks]) (ev_now ?_)
  simp [ncS,sumBy]
 | cons x r ih =>
  intro p a ha hp
  have hn:ncS (x :: r)=ncI x+ncS r:=by simp [ncS,sumBy_cons]
  have hx:ncI x=4+3 * x.f4.length+2 * x.f5.length:=rfl
  rw [hn] at ha ⊢
  simp only [List.length_cons] at hp
  obtain ⟨e1,e2,e3,e4⟩:=w64s4 a (by omega)
  rw [show inmarks a (x :: r)=inmk a x :: inmarks (a+ncI x) r from rfl]
  refine Ev.step (laws_heldInodeS.l0.eq_2 _ _ _) ?_
  refine ev_pos (by rw [List.length_append,List.length_cons];omega) (ev_pos (Int.natCast_nonneg _) ?_)
  simp only [rd_mid]
  rw [e1,e2,e3,e4]
  clear e1 e2 e3 e4
  rw [w64s _ (by omega)]
  refine ev_pos rfl (ev_pos rfl (ev_pos rfl (Ev.bind (mtx_ev _ (by omega)) (ev_pos rfl ?_))))
  refine Ev.bind (heldRS_ev x.f4.length (a+4) (by omega)) (ev_neg (by omega) ?_)
  refine Ev.bind (heldES_ev x.f5.length (a+4+3 * x.f4.length) (by omega)) (ev_neg (by omega) ?_)
  have ih:=ih (p++[inmk a x]) (a+ncI x) (by omega) (by simp;omega)
  rw [List.append_assoc,List.length_append,List.length_singleton] at ih
  have e5:a+4+3 * x.f4.length+2 * x.f5.length=a+ncI x:=by omega
  rw [e5]
  refine ev_to ih ?_
  rw [show a+(ncI x+ncS r)=a+ncI x+ncS r by omega]
theorem heldInodeS_ev (xs:List S62) (a:Nat) (h:a+ncS xs≤39999999) (h2:xs.length≤4000000):Ev (fun k=>laws_heldInodeS.f k (inmarks a xs) ((a:Nat):Int)) ((a+ncS xs:Nat):Int):=by
 unfold laws_heldInodeS.f
 exact heldInodeS_l xs [] a h (by simpa using h2)
theorem heldPart_m (s:Int) (n:Nat) (xs:List S62) (a:Nat) (h:a+n+ncS xs≤39999999) (hb:n≤1048576) (h2:xs.length≤4000000):Ev (fun k=>laws_heldPart.f k s (marks a n) (inmarks (a+n) xs) ((a:Nat):Int)) ((a+n+ncS xs:Nat):Int):=by
 unfold laws_heldPart.f
 exact Ev.bind (heldIntS_ev n a hb (by omega)) (ev_neg (by omega) (Ev.bind (heldInodeS_ev xs _ h h2) (ev_neg (by omega) (ev_now rfl))))
theorem sm_wi:∀ xs:List S62,(∀ x ∈ xs,inSm x)→wiInodeS xs≤153 * xs.length∧ncS xs≤44 * xs.length
 | [],_=>by simp [wiInodeS,ncS,sumBy]
 | x :: r,h=>by
  have ih:=sm_wi r (fun z hz=>h z (List.mem_cons_of_mem _ hz))
  obtain ⟨h1,h2,h3⟩:=h x (List.mem_cons_self ..)
  unfold wiInodeS ncS at ih ⊢
  rw [sumBy_cons,sumBy_cons,List.length_cons]
  unfold ncI at ih ⊢
  omega
theorem FnExactReadPart:laws_FnExactReadPart.Law:=by
 intro b xs t p i q a hb hx _ _ _ _ _
 apply Ev.rounds
 unfold laws_FnExactReadPart.f
 refine Ev.bind (szMemory_ev b xs hb ⟨by omega,hx.2⟩ 1048576 (by omega) (by omega)) ?_
 by_cases h:left 1048576 (wtMemory b xs) < 0
 ·exact ev_pos h (ev_now rfl)
 have hw:=(left_le (a:=1048576) (t:=wtMemory b xs) (by omega)).1
 have hi:wiMemory b (xs.map cvCell)=wtMemory b xs:=by simp only [wiMemory,wtMemory,wiCellS_cv]
 have hz:b.size≤4000000:=by unfold wtMemory at hw;omega
 have hn:(xs.map cvCell).length≤1048576:=by unfold wtMemory wtCellS at hw;rw [List.length_map];omega
 have hto:=toMemory_ev b xs (by omega)
 have hge:laws_toGeo.f t p i q=some (t,p,i,q):=rfl
 have heqm:=eqMemory_ev b (xs.map cvCell) (by omega)
 have hS:=sRP_ev (t:=t) (p:=p) (i:=i) (q:=q) (a:=a) hz (by omega:(xs.map cvCell).length≤4000000)
 have hI:=iRP_ev (t:=t) (p:=p) (i:=i) (q:=q) (a:=a) hz (by omega:(xs.map cvCell).length≤4000000)
 obtain ⟨s1,s2,s3⟩:=rpV_sm b (xs.map cvCell) t p i q a
 obtain ⟨zs,hmm⟩:=markMem_ev b (xs.map cvCell) (by omega)
 revert hS hI s1 s2 s3
 generalize rpV b (xs.map cvCell) t p i q a=v
 obtain ⟨s,st,ns,ok⟩:=v
 dsimp only
 intro hS hI s1 s2 s3
 obtain ⟨n1,n2⟩:=sm_wi ns s3
 have heq:=eqPart_ev s st ns (by unfold wiPart;omega)
 have hmk:=markPart_m s st ns 1 (by omega) (by omega) (by omega)
 have hhd:=heldPart_m s st.length ns 1 (by omega) (by omega) (by omega)
 refine ev_neg h (Ev.bind hto (Ev.bind (ev_eq hge) (Ev.bind hS (Ev.bind hto (Ev.bind (ev_eq hge) (Ev.bind hI (Ev.bind heq (ev_pos rfl ?_))))))))
 refine Ev.step (laws_FnExactReadPart.j0.eq_2 _ _ _ _ _ _ _ _ _ _ _ _ _ _ _ _ _ _) ?_
 refine ev_neg (by simp) (Ev.bind hto (Ev.bind heqm (ev_pos rfl (Ev.bind hmm (ev_neg (by dsimp only;omega) (Ev.bind heq (ev_pos rfl ?_)))))))
 refine Ev.step (laws_FnExactReadPart.j1.eq_2 _ _ _ _ _ _ _ _ _ _ _ _ _ _ _) ?_
 refine ev_neg (by simp) (Ev.bind hmk (Ev.bind hhd (ev_neg (by omega) (ev_pos rfl ?_))))
 refine Ev.bind hto (Ev.bind (ev_eq hge) (Ev.bind hI (Ev.bind heq (ev_pos rfl ?_))))
 refine Ev.step (laws_FnExactReadPart.j2.eq_2 _ _ _ _ _) ?_
 exact ev_neg (by simp) (Ev.bind hhd (ev_neg (by omega) (ev_pos rfl (ev_now rfl))))

end Go.Proofs.YtleoknilacjakaaGreatDoor.Pure
