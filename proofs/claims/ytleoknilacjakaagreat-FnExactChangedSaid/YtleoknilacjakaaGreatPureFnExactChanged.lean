/- The pure statement of FnExactChanged is proved: for all arguments within the row's own bounds the Lean function that the law's walk comes to answers true. Conditions: none beyond these bounds. -/
import Derived.Test.YtleoknilacjakaaGreatStFnExactChanged
import Derived.Test.YtleoknilacjakaaGreatBase
namespace Go.Proofs.YtleoknilacjakaaGreat.Pure
open Go.RowKit Go.Proofs.YtleoknilacjakaaGreat.PFnExactChanged Go.Proofs.YtleoknilacjakaaGreatW.PrintWords Go.Proofs.YtleoknilacjakaaGreatW.PrintLast Go.Proofs.YtleoknilacjakaaGreat.Base
set_option linter.unusedVariables false
set_option linter.unusedSimpArgs false
def wtEntry (x:S109):Nat:=x.f1.size+(0)

def wiEntry (x:S72):Nat:=x.f1.size+(0)
def wtEntryS (xs:List S109):Nat:=xs.length+sumBy wtEntry xs

def wiEntryS (xs:List S72):Nat:=xs.length+sumBy wiEntry xs
def cvEntry (x:S109):S72:=⟨x.f0,x.f1⟩

theorem wiEntry_cv (x:S109):wiEntry (cvEntry x)=wtEntry x:=by simp only [wiEntry,wtEntry,cvEntry]

theorem wiEntryS_cv (xs:List S109):wiEntryS (xs.map cvEntry)=wtEntryS xs:=by
 unfold wiEntryS wtEntryS sumBy
 rw [List.length_map,List.map_map,List.map_congr_left (f:=wiEntry ∘ cvEntry) (g:=wtEntry) (fun x _=>wiEntry_cv x)]

theorem rdlEntry (xs:List S109) (i:Nat) (h:i < xs.length):rd_T109 xs (i:Int)=xs[i]:=getD_at _ xs i h

theorem rdiEntry (xs:List S72) (i:Nat) (h:i < xs.length):rd_T72 xs (i:Int)=xs[i]:=getD_at _ xs i h
theorem szEntry_ev (x:S109) (hx:Wf109 x) (a:Int) (g0:0≤a) (g1:a≤1048576):Ev (fun k=>laws_szEntry.f x.f0 x.f1 a) (left a (wtEntry x)):=by
 unfold laws_szEntry.f wtEntry
 have b1:=(hx.2)
 rw [w64 (x:=a - (x.f1.size:Int)) (by omega) (by omega)]
 refine ev_sub a (by omega) (fun q1=>?_)
 exact ev_now (left_zero (by omega)).symm
theorem szEntryS_l (xs:List S109) (hn:xs.length≤1048576) (hw:∀ y ∈ xs,Wf109 y):∀ (i:Nat) (a:Int),i≤xs.length→0≤a→a≤1048576→Ev (fun k=>laws_szEntryS.l0 k xs a i) (left a (sumBy wtEntry (xs.drop i)))
 | i,a,hi,h0,h1=>by
  refine Ev.step (laws_szEntryS.l0.eq_2 _ _ _) ?_
  by_cases h:i < xs.length
  ·refine ev_pos (by omega) (ev_pos (by omega) ?_)
   rw [rdlEntry xs i h,w64s i (by omega),drop_at xs i h,sumBy_cons]
   refine Ev.bind (szEntry_ev _ (hw _ (List.getElem_mem h)) a h0 h1) (ev_call (fun q=>?_))
   have:=left_le q
   exact szEntryS_l xs hn hw (i+1) _ (by omega) (by omega) (by omega)
  ·refine ev_neg (by omega) (ev_now ?_)
   rw [List.drop_of_length_le (by omega),sumBy_nil,left_zero h0]
 termination_by i=>xs.length - i
theorem szEntryS_ev (xs:List S109) (hb:xs.length≤140737488351232) (hw:∀ y ∈ xs,Wf109 y) (a:Int) (h0:0≤a) (h1:a≤1048576):Ev (fun k=>laws_szEntryS.f k xs a) (left a (wtEntryS xs)):=by
 unfold laws_szEntryS.f wtEntryS
 rw [w64 (x:=a - (xs.length:Int)) (by omega) (by omega)]
 refine ev_sub a h0 (fun q=>?_)
 have:=szEntryS_l xs (by omega) hw 0 (a - xs.length) (by omega) (by omega) (by omega)
 rw [List.drop_zero] at this
 exact this

theorem toEntryS_l (xs:List S109) (hn:wtEntryS xs≤1048576):∀ (i:Nat) (ys:List S72),i≤xs.length→ys.length=xs.length→ys.take i=(xs.map cvEntry).take i→Ev (fun k=>laws_toEntryS.l0 k xs ys i) (xs.map cvEntry)
 | i,ys,hi,hl,ht=>by
  have hn2:xs.length≤1048576:=by unfold wtEntryS at hn;omega
  refine Ev.step (laws_toEntryS.l0.eq_2 _ _ _) ?_
  by_cases h:i < xs.length
  ·refine ev_pos (by omega) (ev_pos (by omega) ?_)
   have hx:wtEntry xs[i]≤1048576:=by have:=sumBy_mem (f:=wtEntry) (List.getElem_mem h);unfold wtEntryS at hn;omega
   rw [rdlEntry xs i h,w64s i (by omega)]
   refine Ev.bind (ev_eq rfl) (ev_pos (by omega) ?_)
   rw [Int.toNat_natCast]
   exact toEntryS_l xs hn (i+1) _ (by omega) (by simp [hl]) (take_set (by simp [hl]) ht (by simpa using h) (by simp [cvEntry]))
  ·have:i=xs.length:=by omega
   subst this
   exact ev_neg (by omega) (ev_now (take_all (by simp [hl]) (by simpa using ht)))
 termination_by i=>xs.length - i
theorem toEntryS_ev (xs:List S109) (hn:wtEntryS xs≤1048576):Ev (fun k=>laws_toEntryS.f k xs) (xs.map cvEntry):=by
 have hn2:xs.length≤1048576:=by unfold wtEntryS at hn;omega
 unfold laws_toEntryS.f
 exact ev_pos (by omega) (ev_pos (by omega) (toEntryS_l xs hn 0 _ (by omega) (by simp) (by simp)))

theorem eqEntry_ev (x:S72):Ev (fun _=>laws_eqEntry.f x.f0 x.f1 x.f0 x.f1) true:=ev_eq (by simp [laws_eqEntry.f])
theorem eqEntryS_l (xs:List S72) (hn:wiEntryS xs≤4000000):∀ (i:Nat),i≤xs.length→Ev (fun k=>laws_eqEntryS.l0 k xs xs i) true
 | i,hi=>by
  have hn2:xs.length≤4000000:=by unfold wiEntryS at hn;omega
  refine Ev.step (laws_eqEntryS.l0.eq_2 _ _ _) ?_
  by_cases h:i < xs.length
  ·refine ev_pos (by omega) (ev_pos (by omega) (ev_pos (by omega) ?_))
   rw [w64s i (by omega),rdiEntry xs i h]
   exact Ev.bind (eqEntry_ev _) (ev_pos rfl (eqEntryS_l xs hn (i+1) (by omega)))
  ·exact ev_neg (by omega) (ev_now rfl)
 termination_by i=>xs.length - i
theorem eqEntryS_ev (xs:List S72) (hn:wiEntryS xs≤4000000):Ev (fun k=>laws_eqEntryS.f k xs xs) true:=by
 unfold laws_eqEntryS.f
 exact ev_pos rfl (eqEntryS_l xs hn 0 (by omega))


def wtRec (x:S107):Nat:=x.f2.size+(0)

def wiRec (x:S89):Nat:=x.f2.size+(0)
def wtRecS (xs:List S107):Nat:=xs.length+sumBy wtRec xs

def wiRecS (xs:List S89):Nat:=xs.length+sumBy wiRec xs
def cvRec (x:S107):S89:=⟨x.f0,x.f1,x.f2⟩

theorem wiRec_cv (x:S107):wiRec (cvRec x)=wtRec x:=by simp only [wiRec,wtRec,cvRec]

theorem wiRecS_cv (xs:List S107):wiRecS (xs.map cvRec)=wtRecS xs:=by
 unfold wiRecS wtRecS sumBy
 rw [List.length_map,List.map_map,List.map_congr_left (f:=wiRec ∘ cvRec) (g:=wtRec) (fun x _=>wiRec_cv x)]

theorem rdlRec (xs:List S107) (i:Nat) (h:i < xs.length):rd_T107 xs (i:Int)=xs[i]:=getD_at _ xs i h

theorem rdiRec (xs:List S89) (i:Nat) (h:i < xs.length):rd_T89 xs (i:Int)=xs[i]:=getD_at _ xs i h
theorem szRec_ev (x:S107) (hx:Wf107 x) (a:Int) (g0:0≤a) (g1:a≤1048576):Ev (fun k=>laws_szRec.f x.f0 x.f1 x.f2 a) (left a (wtRec x)):=by
 unfold laws_szRec.f wtRec
 have b2:=(hx.2.2)
 rw [w64 (x:=a - (x.f2.size:Int)) (by omega) (by omega)]
 refine ev_sub a (by omega) (fun q2=>?_)
 exact ev_now (left_zero (by omega)).symm
theorem szRecS_l (xs:List S107) (hn:xs.length≤1048576) (hw:∀ y ∈ xs,Wf107 y):∀ (i:Nat) (a:Int),i≤xs.length→0≤a→a≤1048576→Ev (fun k=>laws_szRecS.l0 k xs a i) (left a (sumBy wtRec (xs.drop i)))
 | i,a,hi,h0,h1=>by
  refine Ev.step (laws_szRecS.l0.eq_2 _ _ _) ?_
  by_cases h:i < xs.length
  ·refine ev_pos (by omega) (ev_pos (by omega) ?_)
   rw [rdlRec xs i h,w64s i (by omega),drop_at xs i h,sumBy_cons]
   refine Ev.bind (szRec_ev _ (hw _ (List.getElem_mem h)) a h0 h1) (ev_call (fun q=>?_))
   have:=left_le q
   exact szRecS_l xs hn hw (i+1) _ (by omega) (by omega) (by omega)
  ·refine ev_neg (by omega) (ev_now ?_)
   rw [List.drop_of_length_le (by omega),sumBy_nil,left_zero h0]
 termination_by i=>xs.length - i
theorem szRecS_ev (xs:List S107) (hb:xs.length≤140737488351232) (hw:∀ y ∈ xs,Wf107 y) (a:Int) (h0:0≤a) (h1:a≤1048576):Ev (fun k=>laws_szRecS.f k xs a) (left a (wtRecS xs)):=by
 unfold laws_szRecS.f wtRecS
 rw [w64 (x:=a - (xs.length:Int)) (by omega) (by omega)]
 refine ev_sub a h0 (fun q=>?_)
 have:=szRecS_l xs (by omega) hw 0 (a - xs.length) (by omega) (by omega) (by omega)
 rw [List.drop_zero] at this
 exact this

theorem toRecS_l (xs:List S107) (hn:wtRecS xs≤1048576):∀ (i:Nat) (ys:List S89),i≤xs.length→ys.length=xs.length→ys.take i=(xs.map cvRec).take i→Ev (fun k=>laws_toRecS.l0 k xs ys i) (xs.map cvRec)
 | i,ys,hi,hl,ht=>by
  have hn2:xs.length≤1048576:=by unfold wtRecS at hn;omega
  refine Ev.step (laws_toRecS.l0.eq_2 _ _ _) ?_
  by_cases h:i < xs.length
  ·refine ev_pos (by omega) (ev_pos (by omega) ?_)
   have hx:wtRec xs[i]≤1048576:=by have:=sumBy_mem (f:=wtRec) (List.getElem_mem h);unfold wtRecS at hn;omega
   rw [rdlRec xs i h,w64s i (by omega)]
   refine Ev.bind (ev_eq rfl) (ev_pos (by omega) ?_)
   rw [Int.toNat_natCast]
   exact toRecS_l xs hn (i+1) _ (by omega) (by simp [hl]) (take_set (by simp [hl]) ht (by simpa using h) (by simp [cvRec]))
  ·have:i=xs.length:=by omega
   subst this
   exact ev_neg (by omega) (ev_now (take_all (by simp [hl]) (by simpa using ht)))
 termination_by i=>xs.length - i
theorem toRecS_ev (xs:List S107) (hn:wtRecS xs≤1048576):Ev (fun k=>laws_toRecS.f k xs) (xs.map cvRec):=by
 have hn2:xs.length≤1048576:=by unfold wtRecS at hn;omega
 unfold laws_toRecS.f
 exact ev_pos (by omega) (ev_pos (by omega) (toRecS_l xs hn 0 _ (by omega) (by simp) (by simp)))

theorem eqRec_ev (x:S89):Ev (fun _=>laws_eqRec.f x.f0 x.f1 x.f2 x.f0 x.f1 x.f2) true:=ev_eq (by simp [laws_eqRec.f])
theorem eqRecS_l (xs:List S89) (hn:wiRecS xs≤4000000):∀ (i:Nat),i≤xs.length→Ev (fun k=>laws_eqRecS.l0 k xs xs i) true
 | i,hi=>by
  have hn2:xs.length≤4000000:=by unfold wiRecS at hn;omega
  refine Ev.step (laws_eqRecS.l0.eq_2 _ _ _) ?_
  by_cases h:i < xs.length
  ·refine ev_pos (by omega) (ev_pos (by omega) (ev_pos (by omega) ?_))
   rw [w64s i (by omega),rdiRec xs i h]
   exact Ev.bind (eqRec_ev _) (ev_pos rfl (eqRecS_l xs hn (i+1) (by omega)))
  ·exact ev_neg (by omega) (ev_now rfl)
 termination_by i=>xs.length - i
theorem eqRecS_ev (xs:List S89) (hn:wiRecS xs≤4000000):Ev (fun k=>laws_eqRecS.f k xs xs) true:=by
 unfold laws_eqRecS.f
 exact ev_pos rfl (eqRecS_l xs hn 0 (by omega))


def wtInode (x:S62):Nat:=x.f3.size+(wtRecS x.f4+(wtEntryS x.f5+(0)))

def wiInode (x:S69):Nat:=x.f3.size+(wiRecS x.f4+(wiEntryS x.f5+(0)))
def wtInodeS (xs:List S62):Nat:=xs.length+sumBy wtInode xs

def wiInodeS (xs:List S69):Nat:=xs.length+sumBy wiInode xs
def cvInode (x:S62):S69:=⟨x.f0,x.f1,x.f2,x.f3,(x.f4.map cvRec),(x.f5.map cvEntry)⟩

theorem wiInode_cv (x:S62):wiInode (cvInode x)=wtInode x:=by simp only [wiInode,wtInode,cvInode,wiRecS_cv,wiEntryS_cv]

theorem wiInodeS_cv (xs:List S62):wiInodeS (xs.map cvInode)=wtInodeS xs:=by
 unfold wiInodeS wtInodeS sumBy
 rw [List.length_map,List.map_map,List.map_congr_left (f:=wiInode ∘ cvInode) (g:=wtInode) (fun x _=>wiInode_cv x)]

theorem rdlInode (xs:List S62) (i:Nat) (h:i < xs.length):rd_T62 xs (i:Int)=xs[i]:=getD_at _ xs i h

theorem rdiInode (xs:List S69) (i:Nat) (h:i < xs.length):rd_T69 xs (i:Int)=xs[i]:=getD_at _ xs i h
theorem szInode_ev (x:S62) (hx:Wf62 x) (a:Int) (g0:0≤a) (g1:a≤1048576):Ev (fun k=>laws_szInode.f k x.f0 x.f1 x.f2 x.f3 x.f4 x.f5 a) (left a (wtInode x)):=by
 unfold laws_szInode.f wtInode
 have b3:=(hx.2.2.2.1)
 rw [w64 (x:=a - (x.f3.size:Int)) (by omega) (by omega)]
 refine ev_sub a (by omega) (fun q3=>?_)
 refine Ev.bind (szRecS_ev x.f4 (by have:=((hx.2.2.2.2.1)).1;omega) ((hx.2.2.2.2.1)).2 (a - (x.f3.size:Int)) (by omega) (by omega)) (ev_call (fun q4=>?_))
 have r4:=left_le q4
 refine Ev.bind (szEntryS_ev x.f5 (by have:=((hx.2.2.2.2.2)).1;omega) ((hx.2.2.2.2.2)).2 (left (a - (x.f3.size:Int)) (wtRecS x.f4)) (by omega) (by omega)) (ev_call (fun q5=>?_))
 have r5:=left_le q5
 exact ev_now (left_zero (by omega)).symm

theorem szInodeS_l (xs:List S62) (hn:xs.length≤1048576) (hw:∀ y ∈ xs,Wf62 y):∀ (i:Nat) (a:Int),i≤xs.length→0≤a→a≤1048576→Ev (fun k=>laws_szInodeS.l0 k xs a i) (left a (sumBy wtInode (xs.drop i)))
 | i,a,hi,h0,h1=>by
  refine Ev.step (laws_szInodeS.l0.eq_2 _ _ _) ?_
  by_cases h:i < xs.length
  ·refine ev_pos (by omega) (ev_pos (by omega) ?_)
   rw [rdlInode xs i h,w64s i (by omega),drop_at xs i h,sumBy_cons]
   refine Ev.bind (szInode_ev _ (hw _ (List.getElem_mem h)) a h0 h1) (ev_call (fun q=>?_))
   have:=left_le q
   exact szInodeS_l xs hn hw (i+1) _ (by omega) (by omega) (by omega)
  ·refine ev_neg (by omega) (ev_now ?_)
   rw [List.drop_of_length_le (by omega),sumBy_nil,left_zero h0]
 termination_by i=>xs.length - i
theorem szInodeS_ev (xs:List S62) (hb:xs.length≤140737488351232) (hw:∀ y ∈ xs,Wf62 y) (a:Int) (h0:0≤a) (h1:a≤1048576):Ev (fun k=>laws_szInodeS.f k xs a) (left a (wtInodeS xs)):=by
 unfold laws_szInodeS.f wtInodeS
 rw [w64 (x:=a - (xs.length:Int)) (by omega) (by omega)]
 refine ev_sub a h0 (fun q=>?_)
 have:=szInodeS_l xs (by omega) hw 0 (a - xs.length) (by omega) (by omega) (by omega)
 rw [List.drop_zero] at this
 exact this

theorem toInode_ev (x:S62) (hw:wtInode x≤1048576):Ev (fun k=>laws_toInode.f k x.f0 x.f1 x.f2 x.f3 x.f4 x.f5) (x.f0,x.f1,x.f2,x.f3,(x.f4.map cvRec),(x.f5.map cvEntry)):=by
 unfold wtInode at hw
 unfold laws_toInode.f
 refine Ev.bind (toRecS_ev x.f4 (by omega)) ?_
 refine Ev.bind (toEntryS_ev x.f5 (by omega)) ?_
 exact ev_now rfl

theorem toInodeS_l (xs:List S62) (hn:wtInodeS xs≤1048576):∀ (i:Nat) (ys:List S69),i≤xs.length→ys.length=xs.length→ys.take i=(xs.map cvInode).take i→Ev (fun k=>laws_toInodeS.l0 k xs ys i) (xs.map cvInode)
 | i,ys,hi,hl,ht=>by
  have hn2:xs.length≤1048576:=by unfold wtInodeS at hn;omega
  refine Ev.step (laws_toInodeS.l0.eq_2 _ _ _) ?_
  by_cases h:i < xs.length
  ·refine ev_pos (by omega) (ev_pos (by omega) ?_)
   have hx:wtInode xs[i]≤1048576:=by have:=sumBy_mem (f:=wtInode) (List.getElem_mem h);unfold wtInodeS at hn;omega
   rw [rdlInode xs i h,w64s i (by omega)]
   refine Ev.bind (toInode_ev _ (by omega)) (ev_pos (by omega) ?_)
   rw [Int.toNat_natCast]
   exact toInodeS_l xs hn (i+1) _ (by omega) (by simp [hl]) (take_set (by simp [hl]) ht (by simpa using h) (by simp [cvInode]))
  ·have:i=xs.length:=by omega
   subst this
   exact ev_neg (by omega) (ev_now (take_all (by simp [hl]) (by simpa using ht)))
 termination_by i=>xs.length - i
theorem toInodeS_ev (xs:List S62) (hn:wtInodeS xs≤1048576):Ev (fun k=>laws_toInodeS.f k xs) (xs.map cvInode):=by
 have hn2:xs.length≤1048576:=by unfold wtInodeS at hn;omega
 unfold laws_toInodeS.f
 exact ev_pos (by omega) (ev_pos (by omega) (toInodeS_l xs hn 0 _ (by omega) (by simp) (by simp)))

theorem eqInode_ev (x:S69) (hw:wiInode x≤4000000):Ev (fun k=>laws_eqInode.f k x.f0 x.f1 x.f2 x.f3 x.f4 x.f5 x.f0 x.f1 x.f2 x.f3 x.f4 x.f5) true:=by
 unfold wiInode at hw
 unfold laws_eqInode.f
 refine ev_pos rfl ?_
 refine ev_pos rfl ?_
 refine ev_pos rfl ?_
 refine ev_pos rfl ?_
 refine Ev.bind (eqRecS_ev x.f4 (by omega)) (ev_pos rfl ?_)
 refine Ev.bind (eqEntryS_ev x.f5 (by omega)) (ev_pos rfl ?_)
 exact ev_now rfl

theorem eqInodeS_l (xs:List S69) (hn:wiInodeS xs≤4000000):∀ (i:Nat),i≤xs.length→Ev (fun k=>laws_eqInodeS.l0 k xs xs i) true
 | i,hi=>by
  have hn2:xs.length≤4000000:=by unfold wiInodeS at hn;omega
  refine Ev.step (laws_eqInodeS.l0.eq_2 _ _ _) ?_
  by_cases h:i < xs.length
  ·refine ev_pos (by omega) (ev_pos (by omega) (ev_pos (by omega) ?_))
   rw [w64s i (by omega),rdiInode xs i h]
   exact Ev.bind (eqInode_ev _ (by have:=sumBy_mem (f:=wiInode) (List.getElem_mem h);unfold wiInodeS at hn;omega)) (ev_pos rfl (eqInodeS_l xs hn (i+1) (by omega)))
  ·exact ev_neg (by omega) (ev_now rfl)
 termination_by i=>xs.length - i
theorem eqInodeS_ev (xs:List S69) (hn:wiInodeS xs≤4000000):Ev (fun k=>laws_eqInodeS.f k xs xs) true:=by
 unfold laws_eqInodeS.f
 exact ev_pos rfl (eqInodeS_l xs hn 0 (by omega))


theorem szIntS_ev (xs:List Int) (a:Int) (hb:xs.length≤140737488351232) (h0:0≤a) (h1:a≤1048576):Ev (fun _=>laws_szIntS.f xs a) (left a xs.length):=by
 unfold laws_szIntS.f
 rw [w64 (x:=a - (xs.length:Int)) (by omega) (by omega)]
 exact ev_to (ev_sub a h0 (fun q=>ev_now (left_zero q).symm)) rfl


theorem toIntS_l (xs:List Int) (hn:xs.length≤4000000):∀ (i:Nat) (ys:List Int),i≤xs.length→ys.length=xs.length→ys.take i=xs.take i →
  Ev (fun k=>laws_toIntS.l0 k xs ys i) xs
 | i,ys,hi,hl,ht=>by
  refine Ev.step (laws_toIntS.l0.eq_2 _ _ _) ?_
  by_cases h:i < xs.length
  ·refine ev_pos (by omega) (ev_pos (by omega) (ev_pos (by omega) ?_))
   rw [rd_at xs i h,w64s i (by omega),Int.toNat_natCast]
   exact toIntS_l xs hn (i+1) _ (by omega) (by simp [hl]) (take_set hl ht h rfl)
  ·have:i=xs.length:=by omega
   subst this
   exact ev_neg (by omega) (ev_now (take_all hl ht))
 termination_by i=>xs.length - i
theorem toIntS_ev (xs:List Int) (hn:xs.length≤4000000):Ev (fun k=>laws_toIntS.f k xs) xs:=by
 unfold laws_toIntS.f
 exact ev_pos (by omega) (ev_pos (by omega) (toIntS_l xs hn 0 _ (by omega) (by simp) (by simp)))


theorem eqIntS_l (xs:List Int) (hn:xs.length≤4000000):∀ (i:Nat),i≤xs.length→Ev (fun k=>laws_eqIntS.l0 k xs xs i) true
 | i,hi=>by
  refine Ev.step (laws_eqIntS.l0.eq_2 _ _ _) ?_
  by_cases h:i < xs.length
  ·refine ev_pos (by omega) (ev_pos (by omega) (ev_pos (by omega) (ev_pos rfl ?_)))
   rw [w64s i (by omega)]
   exact eqIntS_l xs hn (i+1) (by omega)
  ·exact ev_neg (by omega) (ev_now rfl)
 termination_by i=>xs.length - i
theorem eqIntS_ev (xs:List Int) (hn:xs.length≤4000000):Ev (fun k=>laws_eqIntS.f k xs xs) true:=by
 unfold laws_eqIntS.f
 exact ev_pos rfl (eqIntS_l xs hn 0 (by omega))


def wtPart (a0:Int) (a1:List Int) (a2:List S62):Nat:=a1.length+(wtInodeS a2+(0))
def wiPart (a0:Int) (a1:List Int) (a2:List S69):Nat:=a1.length+(wiInodeS a2+(0))
theorem szPart_ev (a0:Int) (a1:List Int) (a2:List S62) (h1:a1.length≤140737488351232) (h2:a2.length≤140737488351232∧∀ y ∈ a2,Wf62 y) (a:Int) (g0:0≤a) (g1:a≤1048576):Ev (fun k=>laws_szPart.f k a0 a1 a2 a) (left a (wtPart a0 a1 a2)):=by
 unfold laws_szPart.f wtPart
 have b1:=h1
 refine Ev.bind (szIntS_ev a1 a (by omega) (by omega) (by omega)) (ev_call (fun q1=>?_))
 have r1:=left_le q1
 refine Ev.bind (szInodeS_ev a2 (by have:=(h2).1;omega) (h2).2 (left a a1.length) (by omega) (by omega)) (ev_call (fun q2=>?_))
 have r2:=left_le q2
 exact ev_now (left_zero (by omega)).symm

theorem toPart_ev (a0:Int) (a1:List Int) (a2:List S62) (hw:wtPart a0 a1 a2≤1048576):Ev (fun k=>laws_toPart.f k a0 a1 a2) (a0,a1,(a2.map cvInode)):=by
 unfold wtPart at hw
 unfold laws_toPart.f
 refine Ev.bind (toIntS_ev a1 (by omega)) ?_
 refine Ev.bind (toInodeS_ev a2 (by omega)) ?_
 exact ev_now rfl

theorem eqPart_ev (a0:Int) (a1:List Int) (a2:List S69) (hw:wiPart a0 a1 a2≤4000000):Ev (fun k=>laws_eqPart.f k a0 a1 a2 a0 a1 a2) true:=by
 unfold wiPart at hw
 unfold laws_eqPart.f
 refine ev_pos rfl ?_
 refine Ev.bind (eqIntS_ev a1 (by omega)) (ev_pos rfl ?_)
 refine Ev.bind (eqInodeS_ev a2 (by omega)) (ev_pos rfl ?_)
 exact ev_now rfl


theorem wi_len {xs:List S69} (hn:wiInodeS xs≤4000000) (i:Nat) (h:i < xs.length):xs.length≤4000000∧xs[i].f5.length≤4000000∧xs[i].f4.length≤4000000:=by
 have h1:=sumBy_mem (f:=wiInode) (List.getElem_mem h)
 have h2:wiInode xs[i]=xs[i].f3.size+(wiRecS xs[i].f4+(wiEntryS xs[i].f5+0)):=rfl
 have h3:wiRecS xs[i].f4=xs[i].f4.length+sumBy wiRec xs[i].f4:=rfl
 have h4:wiEntryS xs[i].f5=xs[i].f5.length+sumBy wiEntry xs[i].f5:=rfl
 unfold wiInodeS at hn
 omega

def abE (i:Int):List S72→Option ByteArray
 | []=>none
 | e :: r=>if e.f0=i then some e.f1 else abE i r
def abv (i:Int):List S69→Nat→Option (Nat × ByteArray)
 | [],_=>none
 | x :: r,j=>if x.f0=2 then (match abE i x.f5 with|some e=>some (j,e)|none=>abv i r (j+1)) else abv i r (j+1)
theorem rdeE' (xs:List S72) (i:Nat) (h:i < xs.length):rd_T72 xs (i:Int)=xs[i]:=getD_at _ xs i h
def abvT (o:Option (Nat × ByteArray)):Int × ByteArray × Bool:=match o with|some p=>(p.1,p.2,true)|none=>(0,⟨#[]⟩,false)
theorem iAb_1 (xs:List S69) (i:Int) (hn:wiInodeS xs≤4000000) (j m:Nat) (hj:j < xs.length) (hm:m≤xs[j].f5.length) (next:Ev (fun k=>impl_above.l0 k i xs xs.length (wrap64 (j+1))) (abvT (abv i (xs.drop (j+1)) (j+1)))):Ev (fun k=>impl_above.l1 k i j xs xs.length j xs[j].f5 xs[j].f5.length m) (abvT (match abE i (xs[j].f5.drop m) with|some e=>some (j,e)|none=>abv i (xs.drop (j+1)) (j+1))):=by
 have hb:=wi_len hn j hj
 refine Ev.step (impl_above.l1.eq_2 _ _ _ _ _ _ _ _) ?_
 by_cases h:m < xs[j].f5.length
 ·refine ev_pos (by omega) (ev_pos (by omega) (ev_pos (by omega) ?_))
  rw [rdeE' _ m h,w64s m (by omega),drop_at _ m h]
  simp only [abE]
  by_cases he:xs[j].f5[m].f0=i
  ·rw [if_pos he]
   exact ev_pos he (ev_now rfl)
  ·rw [if_neg he]
   exact ev_neg he (iAb_1 xs i hn j (m+1) hj (by omega) next)
 ·refine ev_neg (by omega) ?_
  rw [List.drop_of_length_le (show xs[j].f5.length≤m by omega)]
  exact next
termination_by xs[j].f5.length - m
theorem iAb_0 (xs:List S69) (i:Int) (hn:wiInodeS xs≤4000000) (j:Nat) (hj:j≤xs.length):Ev (fun k=>impl_above.l0 k i xs xs.length j) (abvT (abv i (xs.drop j) j)):=by
 refine Ev.step (impl_above.l0.eq_2 _ _ _ _) ?_
 by_cases h:j < xs.length
 ·refine ev_pos (by omega) (ev_pos (by omega) (ev_pos (by omega) ?_))
  rw [drop_at xs j h,rdiInode xs j h]
  simp only [abv]
  have next:Ev (fun k=>impl_above.l0 k i xs xs.length (wrap64 (j+1))) (abvT (abv i (xs.drop (j+1)) (j+1))):=by rw [w64s j (by have:=(wi_len hn j h).1;omega)];exact iAb_0 xs i hn (j+1) (by omega)
  by_cases hk:xs[j].f0=2
  ·rw [if_pos hk]
   refine ev_pos hk (ev_to (iAb_1 xs i hn j 0 h (by omega) next) ?_)
   rw [List.drop_zero]
  ·rw [if_neg hk]
   exact ev_neg hk next
 ·refine ev_neg (by omega) (ev_now ?_)
  rw [List.drop_of_length_le (by omega)];rfl
termination_by xs.length - j
theorem iAbove_ev (a:Int) (b:List Int) (xs:List S69) (i:Int) (hn:wiInodeS xs≤4000000):Ev (fun k=>impl_above.f k a b xs i) (abvT (abv i xs 0)):=by
 unfold impl_above.f
 have:=iAb_0 xs i hn 0 (by omega)
 rw [List.drop_zero] at this
 exact this

theorem revs_l (xs:List ByteArray) (hn:xs.length≤4000000) (i:Nat) (ys:List ByteArray) (hl:ys.length=xs.length) (hi:2 * i≤xs.length+1) (hy:∀ p,p < xs.length→ys[p]?=if p < i∨xs.length≤p+i then xs[xs.length - 1 - p]? else xs[p]?):Ev (fun k=>slices_Reverse_string.l0 k ys i ((xs.length:Int) - 1 - i)) xs.reverse:=by
 refine Ev.step (slices_Reverse_string.l0.eq_2 _ _ _) ?_
 by_cases h:(i:Int) < (xs.length:Int) - 1 - i
 ·have hq:(xs.length:Int) - 1 - i=((xs.length - 1 - i:Nat):Int):=by omega
  refine ev_pos h (ev_pos (by omega) (ev_pos (by omega) (ev_pos (by omega) (ev_pos (by omega) ?_))))
  rw [w64s i (by omega),w64 (x:=(xs.length:Int) - 1 - i - 1) (by omega) (by omega),hq,rdOf_at _ ys i (by omega),rdOf_at _ ys (xs.length - 1 - i) (by omega),show ((xs.length - 1 - i:Nat):Int) - 1=(xs.length:Int) - 1 - ((i+1:Nat):Int) by omega,Int.toNat_natCast,Int.toNat_natCast]
  refine revs_l xs hn (i+1) _ (by simp [hl]) (by omega) ?_
  intro p hp
  have e1:=hy i (by omega)
  have e2:=hy (xs.length - 1 - i) (by omega)
  rw [if_neg (by omega)] at e1 e2
  rw [List.getElem?_eq_getElem (by omega)] at e1 e2
  rw [List.getElem?_set]
  by_cases c:xs.length - 1 - i=p
  ·subst c
   rw [if_pos rfl,if_pos (by simp;omega),if_pos (by omega),e1]
   congr 1;omega
  ·rw [if_neg c,List.getElem?_set]
   by_cases d:i=p
   ·subst d
    rw [if_pos rfl,if_pos (by omega),if_pos (by omega),e2]
   ·rw [if_neg d,hy p hp]
    by_cases g:p < i∨xs.length≤p+i
    ·rw [if_pos g,if_pos (by omega)]
    ·rw [if_neg g,if_neg (by omega)]
 ·refine ev_neg h (ev_now ?_)
  apply List.ext_getElem?
  intro p
  by_cases hp:p < xs.length
  ·rw [hy p hp,List.getElem?_reverse hp]
   split
   ·rfl
   ·congr 1;omega
  ·rw [List.getElem?_eq_none (by omega),List.getElem?_eq_none (by simp;omega)]
termination_by xs.length - 2 * i
theorem revs_ev (xs:List ByteArray) (hn:xs.length≤4000000):Ev (fun k=>slices_Reverse_string.f k xs) xs.reverse:=by
 unfold slices_Reverse_string.f
 rw [w64 (by omega) (by omega)]
 have:=revs_l xs hn 0 xs rfl (by omega) (fun p hp=>by rw [if_neg (by omega)])
 rw [Int.ofNat_zero,Int.sub_zero] at this
 exact this

def upw (xs:List S69) (i:Int) (ns:List ByteArray):Nat→List ByteArray × Bool
 | 0=>if i=0 then (ns.reverse,true) else ([],false)
 | f+1=>if i=0 then (ns.reverse,true) else match abv i xs 0 with|some p=>upw xs p.1 (ns++[p.2]) f|none=>([],false)
theorem upw_l (a:Int) (b:List Int) (xs:List S69) (hn:wiInodeS xs≤4000000):∀ (f:Nat) (i:Int) (ns:List ByteArray),ns.length+f=xs.length→xs.length≤4000000→Ev (fun k=>impl_upwards.l0 k i ns a b xs) (upw xs i ns f)
 | f,i,ns,hf,hx=>by
  refine Ev.step (impl_upwards.l0.eq_2 _ _ _ _ _) ?_
  by_cases h:i=0
  ·refine ev_pos h (Ev.bind (revs_ev ns (by omega)) (ev_now ?_))
   cases f <;> simp only [upw,if_pos h]
  ·refine ev_neg h (Ev.bind (iAbove_ev a b xs i hn) ?_)
   cases hb:abv i xs 0 with
   | none =>
    refine ev_neg (by simp [abvT]) (ev_now ?_)
    cases f <;> simp only [upw,if_neg h,hb]
   | some p =>
    refine ev_pos rfl ?_
    cases f with
    | zero =>
     refine ev_pos (by omega) (ev_now ?_)
     simp only [upw,if_neg h]
    | succ f =>
     refine ev_neg (by omega) (ev_pos (by omega) (ev_to (upw_l a b xs hn f p.1 (ns++[p.2]) (by simp;omega) hx) ?_))
     simp only [upw,if_neg h,hb]
 termination_by f=>f
theorem upwards_ev (a:Int) (b:List Int) (xs:List S69) (i:Int) (hn:wiInodeS xs≤4000000) (hx:xs.length≤4000000):Ev (fun k=>impl_upwards.f k a b xs i) (upw xs i [] xs.length):=by
 unfold impl_upwards.f
 exact upw_l a b xs hn xs.length i [] (by simp) hx

def abvI (o:Option (Nat × ByteArray)):Int:=match o with|some p=>p.1|none=>-1
theorem sAb_1 (xs:List S69) (a:Int) (b:List Int) (i:Int) (hn:wiInodeS xs≤4000000) (j m:Nat) (hj:j < xs.length) (hm:m≤xs[j].f5.length) (next:Ev (fun k=>spec_l14Above.l0 k i (wrap64 (j+1)) a b xs) (abvI (abv i (xs.drop (j+1)) (j+1)))):Ev (fun k=>spec_l14Above.l1 k i j m a b xs) (abvI (if xs[j].f0=2 then (match abE i (xs[j].f5.drop m) with|some e=>some (j,e)|none=>abv i (xs.drop (j+1)) (j+1)) else abv i (xs.drop (j+1)) (j+1))):=by
 have hb:=wi_len hn j hj
 refine Ev.step (spec_l14Above.l1.eq_2 _ _ _ _ _ _) ?_
 refine ev_pos (by omega) (ev_pos (by omega) ?_)
 rw [rdiInode xs j hj]
 by_cases hk:xs[j].f0=2
 ·rw [if_pos hk]
  by_cases h:m < xs[j].f5.length
  ·refine ev_pos (by omega) ?_
   refine Ev.step (spec_l14Above.j2.eq_2 _ _ _ _ _ _ _) ?_
   refine ev_pos (by simp [hk]) (ev_pos (by omega) (ev_pos (by omega) (ev_pos (by omega) ?_)))
   rw [rdiInode xs j hj]
   refine ev_pos (by omega) ?_
   rw [rdeE' _ m h,w64s m (by omega),drop_at _ m h]
   simp only [abE]
   by_cases he:xs[j].f5[m].f0=i
   ·rw [if_pos he]
    exact ev_pos he (ev_now rfl)
   ·rw [if_neg he]
    refine ev_neg he (ev_to (sAb_1 xs a b i hn j (m+1) hj (by omega) next) ?_)
    rw [if_pos hk]
  ·refine ev_neg (by omega) ?_
   refine Ev.step (spec_l14Above.j2.eq_2 _ _ _ _ _ _ _) ?_
   refine ev_neg (by simp) ?_
   rw [List.drop_of_length_le (show xs[j].f5.length≤m by omega)]
   exact next
 ·rw [if_neg hk]
  by_cases h:m < xs[j].f5.length
  ·refine ev_pos (by omega) ?_
   refine Ev.step (spec_l14Above.j2.eq_2 _ _ _ _ _ _ _) ?_
   exact ev_neg (by simp [hk]) next
  ·refine ev_neg (by omega) ?_
   refine Ev.step (spec_l14Above.j2.eq_2 _ _ _ _ _ _ _) ?_
   exact ev_neg (by simp) next
termination_by xs[j].f5.length - m
theorem sAb_0 (xs:List S69) (a:Int) (b:List Int) (i:Int) (hn:wiInodeS xs≤4000000) (j:Nat) (hj:j≤xs.length):Ev (fun k=>spec_l14Above.l0 k i j a b xs) (abvI (abv i (xs.drop j) j)):=by
 refine Ev.step (spec_l14Above.l0.eq_2 _ _ _ _ _) ?_
 by_cases h:j < xs.length
 ·refine ev_pos (by omega) ?_
  rw [drop_at xs j h]
  simp only [abv]
  refine ev_to (sAb_1 xs a b i hn j 0 h (by omega) (by rw [w64s j (by have:=(wi_len hn j h).1;omega)];exact sAb_0 xs a b i hn (j+1) (by omega))) ?_
  rw [List.drop_zero]
 ·refine ev_neg (by omega) (ev_now ?_)
  rw [List.drop_of_length_le (by omega)];rfl
termination_by xs.length - j
theorem sAbove_ev (a:Int) (b:List Int) (xs:List S69) (i:Int) (hn:wiInodeS xs≤4000000):Ev (fun k=>spec_l14Above.f k a b xs i) (abvI (abv i xs 0)):=by
 unfold spec_l14Above.f
 have:=sAb_0 xs a b i hn 0 (by omega)
 rw [List.drop_zero] at this
 exact this

def dpt (xs:List S69) (i:Int) (n:Nat):Nat→Int
 | 0=>if i=0 then n else -1
 | f+1=>if i=0 then n else match abv i xs 0 with|some p=>dpt xs p.1 (n+1) f|none=>-1
theorem dpt_upw (xs:List S69):∀ (f:Nat) (i:Int) (ns:List ByteArray),dpt xs i ns.length f=if (upw xs i ns f).2=true then ((upw xs i ns f).1.length:Int) else -1
 | 0,i,ns=>by
  simp only [dpt,upw]
  by_cases h:i=0
  ·simp [if_pos h]
  ·simp [if_neg h]
 | f+1,i,ns=>by
  simp only [dpt,upw]
  by_cases h:i=0
  ·simp [if_pos h]
  ·simp only [if_neg h]
   cases hb:abv i xs 0 with
   | none=>simp
   | some p=>simpa using dpt_upw xs f p.1 (ns++[p.2])
theorem sDepth_l (a:Int) (b:List Int) (xs:List S69) (hn:wiInodeS xs≤4000000):∀ (f:Nat) (i:Int) (n:Nat),n+f=xs.length→xs.length≤4000000→Ev (fun k=>spec_DepthOf.l0 k i n a b xs) (dpt xs i n f)
 | f,i,n,hf,hx=>by
  refine Ev.step (spec_DepthOf.l0.eq_2 _ _ _ _ _) ?_
  refine ev_pos (by omega) ?_
  by_cases h:i=0
  ·refine ev_pos h (ev_now ?_)
   cases f <;> simp only [dpt,if_pos h]
  ·refine ev_neg h (Ev.bind (sAbove_ev a b xs i hn) ?_)
   cases hb:abv i xs 0 with
   | none =>
    refine ev_pos (by simp [abvI]) (ev_now ?_)
    cases f <;> simp only [dpt,if_neg h,hb]
   | some p =>
    refine ev_neg (by simp only [abvI];omega) ?_
    simp only [abvI]
    rw [w64s n (by omega)]
    cases f with
    | zero =>
     refine Ev.step (spec_DepthOf.l0.eq_2 _ _ _ _ _) ?_
     refine ev_neg (by omega) (ev_now ?_)
     simp only [dpt,if_neg h]
    | succ f =>
     refine ev_to (sDepth_l a b xs hn f p.1 (n+1) (by omega) hx) ?_
     simp only [dpt,if_neg h,hb]
 termination_by f=>f
theorem sDepth_ev (a:Int) (b:List Int) (xs:List S69) (i:Int) (hn:wiInodeS xs≤4000000) (hx:xs.length≤4000000):Ev (fun k=>spec_DepthOf.f k a b xs i) (dpt xs i 0 xs.length):=by
 unfold spec_DepthOf.f
 exact sDepth_l a b xs hn xs.length i 0 (by omega) hx
theorem iDepth_ev (a:Int) (b:List Int) (xs:List S69) (i:Int) (hn:wiInodeS xs≤4000000) (hx:xs.length≤4000000):Ev (fun k=>impl_DepthOf.f k a b xs i) (dpt xs i 0 xs.length):=by
 unfold impl_DepthOf.f
 refine Ev.bind (upwards_ev a b xs i hn hx) ?_
 rw [show dpt xs i 0 xs.length=dpt xs i ([]:List ByteArray).length xs.length from rfl,dpt_upw]
 by_cases h:(upw xs i [] xs.length).2=true
 ·exact ev_pos h (ev_now (if_pos h).symm)
 ·exact ev_neg h (ev_now (if_neg h).symm)


def cntE (i:Int):List S72→Int→Int
 | [],c=>c
 | e :: r,c=>cntE i r (if e.f0=i then c+1 else c)
def cntL (i:Int):List S69→Int→Int
 | [],c=>c
 | x :: r,c=>cntL i r (if x.f0=2 then cntE i x.f5 c else c)
theorem rdeE (xs:List S72) (i:Nat) (h:i < xs.length):rd_T72 xs (i:Int)=xs[i]:=getD_at _ xs i h
def totE (xs:List S69) (j:Nat):Nat:=sumBy (fun x:S69=>x.f5.length) (xs.take j)
theorem totE_le {xs:List S69} (hn:wiInodeS xs≤4000000) (j:Nat):totE xs j≤4000000:=by
 have:∀ ys:List S69,sumBy (fun x:S69=>x.f5.length) ys≤sumBy wiInode ys:=by
  intro ys
  induction ys with
  | nil=>simp [sumBy]
  | cons y r ih=>rw [sumBy_cons,sumBy_cons];unfold wiInode wiEntryS at ih ⊢;omega
 have h2:∀ (ys:List S69) (j:Nat),sumBy wiInode (ys.take j)≤sumBy wiInode ys:=by
  intro ys
  induction ys with
  | nil=>intro j;simp
  | cons y r ih=>intro j;cases j with
   | zero=>simp [sumBy]
   | succ j=>rw [List.take_succ_cons,sumBy_cons,sumBy_cons];have:=ih j;omega
 have:=this (xs.take j);have:=h2 xs j
 unfold wiInodeS at hn
 unfold totE;omega
theorem totE_succ (xs:List S69) (j:Nat) (h:j < xs.length):totE xs (j+1)=totE xs j+xs[j].f5.length:=by
 unfold totE sumBy
 rw [List.take_succ_eq_append_getElem h,List.map_append,List.sum_append]
 simp

theorem sLinks_1 (xs:List S69) (a:Int) (b:List Int) (i:Int) (hn:wiInodeS xs≤4000000) (j m:Nat) (c:Int) (hj:j < xs.length) (hm:m≤xs[j].f5.length) (h0:0≤c) (hc:c≤totE xs j+m) (next:∀ c':Int,0≤c'→c'≤totE xs (j+1)→Ev (fun k=>spec_LinksTo.l0 k i c' (wrap64 (j+1)) a b xs) (cntL i (xs.drop (j+1)) c')):Ev (fun k=>spec_LinksTo.l1 k i c j m a b xs) (cntL i (xs.drop (j+1)) (if xs[j].f0=2 then cntE i (xs[j].f5.drop m) c else c)):=by
 have hb:=wi_len hn j hj
 have ht:=totE_le hn j
 refine Ev.step (spec_LinksTo.l1.eq_2 _ _ _ _ _ _ _) ?_
 refine ev_pos (by omega) (ev_pos (by omega) ?_)
 rw [rdiInode xs j hj]
 have hs:=totE_succ xs j hj
 by_cases hk:xs[j].f0=2
 ·rw [if_pos hk]
  by_cases h:m < xs[j].f5.length
  ·refine ev_pos (by omega) ?_
   refine Ev.step (spec_LinksTo.j2.eq_2 _ _ _ _ _ _ _ _) ?_
   refine ev_pos (by simp [hk]) (ev_pos (by omega) (ev_pos (by omega) (ev_pos (by omega) ?_)))
   rw [rdiInode xs j hj]
   refine ev_pos (by omega) ?_
   rw [rdeE _ m h,w64s m (by omega),w64 (x:=c+1) (by omega) (by omega),drop_at _ m h]
   simp only [cntE]
   by_cases he:xs[j].f5[m].f0=i
   ·rw [if_pos he]
    refine ev_pos he (ev_to (sLinks_1 xs a b i hn j (m+1) (c+1) hj (by omega) (by omega) (by omega) next) ?_)
    rw [if_pos hk]
   ·rw [if_neg he]
    refine ev_neg he (ev_to (sLinks_1 xs a b i hn j (m+1) c hj (by omega) (by omega) (by omega) next) ?_)
    rw [if_pos hk]
  ·refine ev_neg (by omega) ?_
   refine Ev.step (spec_LinksTo.j2.eq_2 _ _ _ _ _ _ _ _) ?_
   refine ev_neg (by simp) ?_
   rw [List.drop_of_length_le (show xs[j].f5.length≤m by omega)]
   exact next c h0 (by omega)
 ·rw [if_neg hk]
  by_cases h:m < xs[j].f5.length
  ·refine ev_pos (by omega) ?_
   refine Ev.step (spec_LinksTo.j2.eq_2 _ _ _ _ _ _ _ _) ?_
   exact ev_neg (by simp [hk]) (next c h0 (by omega))
  ·refine ev_neg (by omega) ?_
   refine Ev.step (spec_LinksTo.j2.eq_2 _ _ _ _ _ _ _ _) ?_
   exact ev_neg (by simp) (next c h0 (by omega))
termination_by xs[j].f5.length - m
theorem sLinks_0 (xs:List S69) (a:Int) (b:List Int) (i:Int) (hn:wiInodeS xs≤4000000) (j:Nat) (c:Int) (hj:j≤xs.length) (h0:0≤c) (hc:c≤totE xs j):Ev (fun k=>spec_LinksTo.l0 k i c j a b xs) (cntL i (xs.drop j) c):=by
 refine Ev.step (spec_LinksTo.l0.eq_2 _ _ _ _ _ _) ?_
 by_cases h:j < xs.length
 ·refine ev_pos (by omega) ?_
  rw [drop_at xs j h]
  simp only [cntL]
  refine ev_to (sLinks_1 xs a b i hn j 0 c h (by omega) h0 (by omega) (fun c' g0 g1=>by rw [w64s j (by have:=(wi_len hn j h).1;omega)];exact sLinks_0 xs a b i hn (j+1) c' (by omega) g0 g1)) ?_
  rw [List.drop_zero]
 ·refine ev_neg (by omega) (ev_now ?_)
  rw [List.drop_of_length_le (by omega)];rfl
termination_by xs.length - j
theorem sLinks_ev (a:Int) (b:List Int) (xs:List S69) (i:Int) (hn:wiInodeS xs≤4000000):Ev (fun k=>spec_LinksTo.f k a b xs i) (cntL i xs 0):=by
 unfold spec_LinksTo.f
 have:=sLinks_0 xs a b i hn 0 0 (by omega) (by omega) (by omega)
 rw [List.drop_zero] at this
 exact this

theorem iLinks_1 (xs:List S69) (i:Int) (hn:wiInodeS xs≤4000000) (j m:Nat) (c:Int) (hj:j < xs.length) (hm:m≤xs[j].f5.length) (h0:0≤c) (hc:c≤totE xs j+m) (next:∀ c':Int,0≤c'→c'≤totE xs (j+1)→Ev (fun k=>impl_LinksTo.l0 k i c' xs xs.length (wrap64 (j+1))) (cntL i (xs.drop (j+1)) c')):Ev (fun k=>impl_LinksTo.l1 k i c xs xs.length j xs[j].f5 xs[j].f5.length m xs[j].f0 xs[j].f1 xs[j].f2 xs[j].f3 xs[j].f4 xs[j].f5) (cntL i (xs.drop (j+1)) (if xs[j].f0=2 then cntE i (xs[j].f5.drop m) c else c)):=by
 have hb:=wi_len hn j hj
 have ht:=totE_le hn j
 have hs:=totE_succ xs j hj
 refine Ev.step (impl_LinksTo.l1.eq_2 _ _ _ _ _ _ _ _ _ _ _ _ _ _) ?_
 by_cases h:m < xs[j].f5.length
 ·refine ev_pos (by omega) (ev_pos (by omega) (ev_pos (by omega) ?_))
  rw [rdeE _ m h,w64s m (by omega),w64 (x:=c+1) (by omega) (by omega),drop_at _ m h]
  simp only [cntE]
  by_cases hk:xs[j].f0=2
  ·rw [if_pos hk]
   refine ev_pos hk ?_
   by_cases he:xs[j].f5[m].f0=i
   ·rw [if_pos he]
    refine ev_pos he (ev_to (iLinks_1 xs i hn j (m+1) (c+1) hj (by omega) (by omega) (by omega) next) ?_)
    rw [if_pos hk]
   ·rw [if_neg he]
    refine ev_neg he (ev_to (iLinks_1 xs i hn j (m+1) c hj (by omega) (by omega) (by omega) next) ?_)
    rw [if_pos hk]
  ·rw [if_neg hk]
   refine ev_neg hk (ev_to (iLinks_1 xs i hn j (m+1) c hj (by omega) (by omega) (by omega) next) ?_)
   rw [if_neg hk]
 ·refine ev_neg (by omega) ?_
  rw [List.drop_of_length_le (show xs[j].f5.length≤m by omega)]
  refine ev_to (next c h0 (by omega)) ?_
  simp only [cntE];split <;> rfl
termination_by xs[j].f5.length - m
theorem iLinks_0 (xs:List S69) (i:Int) (hn:wiInodeS xs≤4000000) (j:Nat) (c:Int) (hj:j≤xs.length) (h0:0≤c) (hc:c≤totE xs j):Ev (fun k=>impl_LinksTo.l0 k i c xs xs.length j) (cntL i (xs.drop j) c):=by
 refine Ev.step (impl_LinksTo.l0.eq_2 _ _ _ _ _) ?_
 by_cases h:j < xs.length
 ·refine ev_pos (by omega) (ev_pos (by omega) (ev_pos (by omega) ?_))
  rw [drop_at xs j h,rdiInode xs j h]
  simp only [cntL]
  refine ev_to (iLinks_1 xs i hn j 0 c h (by omega) h0 (by omega) (fun c' g0 g1=>by rw [w64s j (by have:=(wi_len hn j h).1;omega)];exact iLinks_0 xs i hn (j+1) c' (by omega) g0 g1)) ?_
  rw [List.drop_zero]
 ·refine ev_neg (by omega) (ev_now ?_)
  rw [List.drop_of_length_le (by omega)];rfl
termination_by xs.length - j
theorem iLinks_ev (a:Int) (b:List Int) (xs:List S69) (i:Int) (hn:wiInodeS xs≤4000000):Ev (fun k=>impl_LinksTo.f k a b xs i) (cntL i xs 0):=by
 unfold impl_LinksTo.f
 have:=iLinks_0 xs i hn 0 0 (by omega) (by omega) (by omega)
 rw [List.drop_zero] at this
 exact this

def cntR (i:Int):List S89→Int→Int
 | [],c=>c
 | e :: r,c=>cntR i r (if wrap64 (e.f0 - 1)=i then c+1 else c)
theorem cntR_b (i:Int) (es:List S89):∀ c:Int,c≤cntR i es c∧cntR i es c≤c+es.length:=by
 induction es with
 | nil=>intro c;simp [cntR]
 | cons e r ih=>intro c;have h1:=ih c;have h2:=ih (c+1);simp only [cntR,List.length_cons];split <;> omega
def cntU (i:Int):List S69→Int→Int
 | [],c=>c
 | x :: r,c=>cntU i r (if x.f0=1 then cntR i x.f4 c else c)
theorem rdeR (xs:List S89) (i:Nat) (h:i < xs.length):rd_T89 xs (i:Int)=xs[i]:=getD_at _ xs i h
def totR (xs:List S69) (j:Nat):Nat:=sumBy (fun x:S69=>x.f4.length) (xs.take j)
theorem totR_le {xs:List S69} (hn:wiInodeS xs≤4000000) (j:Nat):totR xs j≤4000000:=by
 have:∀ ys:List S69,sumBy (fun x:S69=>x.f4.length) ys≤sumBy wiInode ys:=by
  intro ys
  induction ys with
  | nil=>simp [sumBy]
  | cons y r ih=>rw [sumBy_cons,sumBy_cons];unfold wiInode wiRecS at ih ⊢;omega
 have h2:∀ (ys:List S69) (j:Nat),sumBy wiInode (ys.take j)≤sumBy wiInode ys:=by
  intro ys
  induction ys with
  | nil=>intro j;simp
  | cons y r ih=>intro j;cases j with
   | zero=>simp [sumBy]
   | succ j=>rw [List.take_succ_cons,sumBy_cons,sumBy_cons];have:=ih j;omega
 have:=this (xs.take j);have:=h2 xs j
 unfold wiInodeS at hn
 unfold totR;omega
theorem totR_succ (xs:List S69) (j:Nat) (h:j < xs.length):totR xs (j+1)=totR xs j+xs[j].f4.length:=by
 unfold totR sumBy
 rw [List.take_succ_eq_append_getElem h,List.map_append,List.sum_append]
 simp

theorem sUsers_1 (xs:List S69) (a:Int) (b:List Int) (i:Int) (hn:wiInodeS xs≤4000000) (j m:Nat) (c:Int) (hj:j < xs.length) (hm:m≤xs[j].f4.length) (h0:0≤c) (hc:c≤totR xs j+m) (next:∀ c':Int,0≤c'→c'≤totR xs (j+1)→Ev (fun k=>spec_UsersOf.l0 k i c' (wrap64 (j+1)) a b xs) (cntU i (xs.drop (j+1)) c')):Ev (fun k=>spec_UsersOf.l1 k i c j m a b xs) (cntU i (xs.drop (j+1)) (if xs[j].f0=1 then cntR i (xs[j].f4.drop m) c else c)):=by
 have hb:=wi_len hn j hj
 have ht:=totR_le hn j
 refine Ev.step (spec_UsersOf.l1.eq_2 _ _ _ _ _ _ _) ?_
 refine ev_pos (by omega) (ev_pos (by omega) ?_)
 rw [rdiInode xs j hj]
 have hs:=totR_succ xs j hj
 by_cases hk:xs[j].f0=1
 ·rw [if_pos hk]
  by_cases h:m < xs[j].f4.length
  ·refine ev_pos (by omega) ?_
   refine Ev.step (spec_UsersOf.j2.eq_2 _ _ _ _ _ _ _ _) ?_
   refine ev_pos (by simp [hk]) (ev_pos (by omega) (ev_pos (by omega) (ev_pos (by omega) ?_)))
   rw [rdiInode xs j hj]
   refine ev_pos (by omega) ?_
   rw [rdeR _ m h,w64s m (by omega),w64 (x:=c+1) (by omega) (by omega),drop_at _ m h]
   simp only [cntR]
   by_cases he:wrap64 (xs[j].f4[m].f0 - 1)=i
   ·rw [if_pos he]
    refine ev_pos he (ev_to (sUsers_1 xs a b i hn j (m+1) (c+1) hj (by omega) (by omega) (by omega) next) ?_)
    rw [if_pos hk]
   ·rw [if_neg he]
    refine ev_neg he (ev_to (sUsers_1 xs a b i hn j (m+1) c hj (by omega) (by omega) (by omega) next) ?_)
    rw [if_pos hk]
  ·refine ev_neg (by omega) ?_
   refine Ev.step (spec_UsersOf.j2.eq_2 _ _ _ _ _ _ _ _) ?_
   refine ev_neg (by simp) ?_
   rw [List.drop_of_length_le (show xs[j].f4.length≤m by omega)]
   exact next c h0 (by omega)
 ·rw [if_neg hk]
  by_cases h:m < xs[j].f4.length
  ·refine ev_pos (by omega) ?_
   refine Ev.step (spec_UsersOf.j2.eq_2 _ _ _ _ _ _ _ _) ?_
   exact ev_neg (by simp [hk]) (next c h0 (by omega))
  ·refine ev_neg (by omega) ?_
   refine Ev.step (spec_UsersOf.j2.eq_2 _ _ _ _ _ _ _ _) ?_
   exact ev_neg (by simp) (next c h0 (by omega))
termination_by xs[j].f4.length - m
theorem sUsers_0 (xs:List S69) (a:Int) (b:List Int) (i:Int) (hn:wiInodeS xs≤4000000) (j:Nat) (c:Int) (hj:j≤xs.length) (h0:0≤c) (hc:c≤totR xs j):Ev (fun k=>spec_UsersOf.l0 k i c j a b xs) (cntU i (xs.drop j) c):=by
 refine Ev.step (spec_UsersOf.l0.eq_2 _ _ _ _ _ _) ?_
 by_cases h:j < xs.length
 ·refine ev_pos (by omega) ?_
  rw [drop_at xs j h]
  simp only [cntU]
  refine ev_to (sUsers_1 xs a b i hn j 0 c h (by omega) h0 (by omega) (fun c' g0 g1=>by rw [w64s j (by have:=(wi_len hn j h).1;omega)];exact sUsers_0 xs a b i hn (j+1) c' (by omega) g0 g1)) ?_
  rw [List.drop_zero]
 ·refine ev_neg (by omega) (ev_now ?_)
  rw [List.drop_of_length_le (by omega)];rfl
termination_by xs.length - j
theorem sUsers_ev (a:Int) (b:List Int) (xs:List S69) (i:Int) (hn:wiInodeS xs≤4000000):Ev (fun k=>spec_UsersOf.f k a b xs i) (cntU i xs 0):=by
 unfold spec_UsersOf.f
 have:=sUsers_0 xs a b i hn 0 0 (by omega) (by omega) (by omega)
 rw [List.drop_zero] at this
 exact this

theorem iUsers_1 (xs:List S69) (i:Int) (hn:wiInodeS xs≤4000000) (j m:Nat) (c:Int) (hj:j < xs.length) (hm:m≤xs[j].f4.length) (h0:0≤c) (hc:c≤totR xs j+m) (next:∀ c':Int,0≤c'→c'≤totR xs (j+1)→Ev (fun k=>impl_UsersOf.l0 k i c' xs xs.length (wrap64 (j+1))) (cntU i (xs.drop (j+1)) c')):Ev (fun k=>impl_UsersOf.l1 k i c xs xs.length j xs[j].f4 xs[j].f4.length m xs[j].f0 xs[j].f1 xs[j].f2 xs[j].f3 xs[j].f4 xs[j].f5) (cntU i (xs.drop (j+1)) (if xs[j].f0=1 then cntR i (xs[j].f4.drop m) c else c)):=by
 have hb:=wi_len hn j hj
 have ht:=totR_le hn j
 have hs:=totR_succ xs j hj
 refine Ev.step (impl_UsersOf.l1.eq_2 _ _ _ _ _ _ _ _ _ _ _ _ _ _) ?_
 by_cases h:m < xs[j].f4.length
 ·refine ev_pos (by omega) (ev_pos (by omega) (ev_pos (by omega) ?_))
  rw [rdeR _ m h,w64s m (by omega),w64 (x:=c+1) (by omega) (by omega),drop_at _ m h]
  simp only [cntR]
  by_cases hk:xs[j].f0=1
  ·rw [if_pos hk]
   refine ev_pos hk ?_
   by_cases he:wrap64 (xs[j].f4[m].f0 - 1)=i
   ·rw [if_pos he]
    refine ev_pos he (ev_to (iUsers_1 xs i hn j (m+1) (c+1) hj (by omega) (by omega) (by omega) next) ?_)
    rw [if_pos hk]
   ·rw [if_neg he]
    refine ev_neg he (ev_to (iUsers_1 xs i hn j (m+1) c hj (by omega) (by omega) (by omega) next) ?_)
    rw [if_pos hk]
  ·rw [if_neg hk]
   refine ev_neg hk (ev_to (iUsers_1 xs i hn j (m+1) c hj (by omega) (by omega) (by omega) next) ?_)
   rw [if_neg hk]
 ·refine ev_neg (by omega) ?_
  rw [List.drop_of_length_le (show xs[j].f4.length≤m by omega)]
  refine ev_to (next c h0 (by omega)) ?_
  simp only [cntR];split <;> rfl
termination_by xs[j].f4.length - m
theorem iUsers_0 (xs:List S69) (i:Int) (hn:wiInodeS xs≤4000000) (j:Nat) (c:Int) (hj:j≤xs.length) (h0:0≤c) (hc:c≤totR xs j):Ev (fun k=>impl_UsersOf.l0 k i c xs xs.length j) (cntU i (xs.drop j) c):=by
 refine Ev.step (impl_UsersOf.l0.eq_2 _ _ _ _ _) ?_
 by_cases h:j < xs.length
 ·refine ev_pos (by omega) (ev_pos (by omega) (ev_pos (by omega) ?_))
  rw [drop_at xs j h,rdiInode xs j h]
  simp only [cntU]
  refine ev_to (iUsers_1 xs i hn j 0 c h (by omega) h0 (by omega) (fun c' g0 g1=>by rw [w64s j (by have:=(wi_len hn j h).1;omega)];exact iUsers_0 xs i hn (j+1) c' (by omega) g0 g1)) ?_
  rw [List.drop_zero]
 ·refine ev_neg (by omega) (ev_now ?_)
  rw [List.drop_of_length_le (by omega)];rfl
termination_by xs.length - j
theorem iUsers_ev (a:Int) (b:List Int) (xs:List S69) (i:Int) (hn:wiInodeS xs≤4000000):Ev (fun k=>impl_UsersOf.f k a b xs i) (cntU i xs 0):=by
 unfold impl_UsersOf.f
 have:=iUsers_0 xs i hn 0 0 (by omega) (by omega) (by omega)
 rw [List.drop_zero] at this
 exact this

def okL:List Int→Bool
 | []=>true
 | n :: r=>decide (0≤n∧n≤2) && okL r
theorem okL_mem:∀ {xs:List Int},okL xs=true→∀ n ∈ xs,0≤n∧n≤2
 | [],_,n,h=>by cases h
 | x :: r,ho,n,h=>by
  simp only [okL,Bool.and_eq_true,decide_eq_true_eq] at ho
  rcases List.mem_cons.1 h with rfl|h
  ·exact ho.1
  ·exact okL_mem ho.2 n h
def stB (xs:List Int) (p:Int):Bool:=okL xs && (decide ((xs.length:Int)=p) && decide (1≤p∧p≤12))

theorem l01In_eq (a b c:Int):spec_l01In.f a b c=some (decide (b≤a∧a≤c)):=by
 unfold spec_l01In.f
 by_cases h:a ≥ b
 ·rw [if_pos h];congr 1;simp;omega
 ·rw [if_neg h];congr 1;simp;omega

theorem sStatesOk_l (xs:List Int) (p:Int) (hn:xs.length≤4000000):∀ i:Nat,i≤xs.length→Ev (fun k=>spec_StatesOk.l0 k xs p i) (okL (xs.drop i) && (decide ((xs.length:Int)=p) && decide (1≤p∧p≤12)))
 | i,hi=>by
  refine Ev.step (spec_StatesOk.l0.eq_2 _ _ _) ?_
  by_cases h:i < xs.length
  ·refine ev_pos (by omega) (ev_pos (by omega) (Ev.bind (ev_eq (l01In_eq _ _ _)) ?_))
   rw [rd_at _ i h,drop_at xs i h,w64s i (by omega)]
   simp only [okL]
   by_cases hv:0≤xs[i]∧xs[i]≤2
   ·rw [decide_eq_true hv]
    exact ev_pos rfl (ev_to (sStatesOk_l xs p hn (i+1) (by omega)) (by simp))
   ·rw [decide_eq_false hv]
    exact ev_neg (by simp) (ev_now (by simp))
  ·refine ev_neg (by omega) ?_
   rw [List.drop_of_length_le (by omega)]
   by_cases hp:(xs.length:Int)=p
   ·exact ev_pos hp (Ev.bind (ev_eq (l01In_eq _ _ _)) (ev_now (by simp [okL,hp])))
   ·exact ev_neg hp (ev_now (by simp [hp]))
 termination_by i=>xs.length - i
theorem sStatesOk_ev (xs:List Int) (p:Int) (hn:xs.length≤4000000):Ev (fun k=>spec_StatesOk.f k xs p) (stB xs p):=by
 unfold spec_StatesOk.f
 have:=sStatesOk_l xs p hn 0 (by omega)
 rw [List.drop_zero] at this
 exact this

theorem within_eq (a b c:Int):impl_within.f a b c=some (decide (b≤a∧a≤c)):=by
 unfold impl_within.f
 by_cases h:a ≥ b
 ·rw [if_pos h];congr 1;simp;omega
 ·rw [if_neg h];congr 1;simp;omega

theorem iBad_l (xs:List Int) (hn:xs.length≤4000000):∀ i:Nat,i≤xs.length→∃ r:Int,Ev (fun k=>slices_IndexFunc_int.l0 k xs xs.length i) r∧(okL (xs.drop i)=true→r = -1)∧(okL (xs.drop i)=false→0≤r)
 | i,hi=>by
  by_cases h:i < xs.length
  ·by_cases hv:0≤xs[i]∧xs[i]≤2
   ·obtain ⟨r,h1,h2,h3⟩:=iBad_l xs hn (i+1) (by omega)
    refine ⟨r,?_,?_,?_⟩
    ·refine Ev.step (slices_IndexFunc_int.l0.eq_2 _ _ _) ?_
     refine ev_pos (by omega) (ev_pos (by omega) (ev_pos (by omega) ?_))
     rw [rd_at _ i h,w64s i (by omega)]
     refine Ev.bind (a:=false) (by unfold impl_StatesOk_1.f;exact Ev.bind (ev_eq (within_eq _ _ _)) (ev_now (by rw [decide_eq_true hv];rfl))) (ev_neg (by simp) h1)
    ·rw [drop_at xs i h];simp only [okL,decide_eq_true hv,Bool.true_and];exact h2
    ·rw [drop_at xs i h];simp only [okL,decide_eq_true hv,Bool.true_and];exact h3
   ·refine ⟨i,?_,?_,?_⟩
    ·refine Ev.step (slices_IndexFunc_int.l0.eq_2 _ _ _) ?_
     refine ev_pos (by omega) (ev_pos (by omega) (ev_pos (by omega) ?_))
     rw [rd_at _ i h]
     refine Ev.bind (a:=true) (by unfold impl_StatesOk_1.f;exact Ev.bind (ev_eq (within_eq _ _ _)) (ev_now (by rw [decide_eq_false hv];rfl))) (ev_pos rfl (ev_now rfl))
    ·rw [drop_at xs i h];simp only [okL,decide_eq_false hv,Bool.false_and];intro hc;cases hc
    ·intro _;omega
  ·refine ⟨-1,?_,fun _=>rfl,?_⟩
   ·refine Ev.step (slices_IndexFunc_int.l0.eq_2 _ _ _) ?_
    exact ev_neg (by omega) (ev_now rfl)
   ·rw [List.drop_of_length_le (by omega)];intro hc;cases hc
 termination_by i=>xs.length - i
theorem iStatesOk_ev (xs:List Int) (p:Int) (hn:xs.length≤4000000):Ev (fun k=>impl_StatesOk.f k xs p) (stB xs p):=by
 obtain ⟨r,h1,h2,h3⟩:=iBad_l xs hn 0 (by omega)
 rw [List.drop_zero] at h2 h3
 unfold impl_StatesOk.f
 refine Ev.bind (ev_eq (within_eq _ _ _)) ?_
 unfold stB
 by_cases hp:1≤p∧p≤12
 ·refine ev_pos (by simpa using hp) ?_
  by_cases hl:(xs.length:Int)=p
  ·refine ev_pos hl ?_
   refine Ev.bind (a:=decide (r ≥ 0)) (by unfold slices_ContainsFunc_int.f slices_IndexFunc_int.f;exact Ev.bind h1 (ev_now rfl)) (ev_now ?_)
   cases ho:okL xs with
   | true=>rw [h2 ho];simp [hl,hp]
   | false=>have:=h3 ho;simp;omega
  ·exact ev_neg hl (ev_now (by simp [hl]))
 ·exact ev_neg (by simpa using hp) (ev_now (by rw [decide_eq_false hp];simp))

def gOk (t p i q:Int):Bool:=decide ((1≤t∧t≤3)∧(5≤p∧p≤12)∧(2≤i∧i≤6)∧(1≤q∧q≤p - 4))
theorem gOk_parts {t p i q:Int} (h:gOk t p i q=true):(1≤t∧t≤3)∧(5≤p∧p≤12)∧(2≤i∧i≤6)∧(1≤q∧q≤p - 4):=by simpa [gOk] using h
theorem sGeo_eq (t p i q:Int):spec_GeoOk.f t p i q=some (gOk t p i q):=by
 unfold spec_GeoOk.f gOk
 rw [l01In_eq,Option.bind_some]
 by_cases h1:1≤t∧t≤3
 ·rw [if_pos (by simpa using h1),l01In_eq,Option.bind_some]
  by_cases h2:5≤p∧p≤12
  ·rw [if_pos (by simpa using h2),l01In_eq,Option.bind_some]
   by_cases h3:2≤i∧i≤6
   ·rw [if_pos (by simpa using h3),w64 (x:=p - 4) (by omega) (by omega),l01In_eq,Option.bind_some]
    congr 1
    simp [h1,h2,h3]
   ·rw [if_neg (by simpa using h3)];congr 1;symm;rw [decide_eq_false_iff_not];exact fun h=>h3 h.2.2.1
  ·rw [if_neg (by simpa using h2)];congr 1;symm;rw [decide_eq_false_iff_not];exact fun h=>h2 h.2.1
 ·rw [if_neg (by simpa using h1)];congr 1;symm;rw [decide_eq_false_iff_not];exact fun h=>h1 h.1
theorem iGeo_eq (t p i q:Int):impl_GeoOk.f t p i q=some (gOk t p i q):=by
 unfold impl_GeoOk.f gOk
 rw [within_eq,Option.bind_some]
 by_cases h1:1≤t∧t≤3
 ·rw [if_pos (by simpa using h1),within_eq,Option.bind_some]
  by_cases h2:5≤p∧p≤12
  ·rw [if_pos (by simpa using h2),within_eq,Option.bind_some]
   by_cases h3:2≤i∧i≤6
   ·rw [if_pos (by simpa using h3),w64 (x:=p - 4) (by omega) (by omega),within_eq,Option.bind_some]
    congr 1
    simp [h1,h2,h3]
   ·rw [if_neg (by simpa using h3)];congr 1;symm;rw [decide_eq_false_iff_not];exact fun h=>h3 h.2.2.1
  ·rw [if_neg (by simpa using h2)];congr 1;symm;rw [decide_eq_false_iff_not];exact fun h=>h2 h.2.1
 ·rw [if_neg (by simpa using h1)];congr 1;symm;rw [decide_eq_false_iff_not];exact fun h=>h1 h.1
def pW (p i:Int):Int:=38+8 * i+4 * p

def withS (a:Int) (xs:List Int) (i:Nat):List Int:=match xs with
 | []=>[]
 | x :: r=>if x=a then (i:Int) :: withS a r (i+1) else withS a r (i+1)
theorem withS_len (a:Int) (xs:List Int):∀ i,(withS a xs i).length≤xs.length:=by
 induction xs with
 | nil=>intro i;simp [withS]
 | cons x r ih=>intro i;simp only [withS];split <;> simp <;> have:=ih (i+1) <;> omega
theorem sPagesWith_l (xs:List Int) (a:Int) (hn:xs.length≤1048576):∀ (i:Nat) (o:List Int),i≤xs.length→o.length≤i→Ev (fun k=>spec_PagesWith.l0 k xs a o i) (o++withS a (xs.drop i) i)
 | i,o,hi,ho=>by
  refine Ev.step (spec_PagesWith.l0.eq_2 _ _ _ _) ?_
  by_cases h:i < xs.length
  ·refine ev_pos (by omega) (ev_pos (by omega) ?_)
   rw [rd_at xs i h,w64s i (by omega),drop_at xs i h]
   simp only [withS]
   by_cases he:xs[i]=a
   ·rw [if_pos he]
    exact ev_pos he (ev_pos (by omega) (ev_to (sPagesWith_l xs a hn (i+1) _ (by omega) (by simp;omega)) (by simp)))
   ·rw [if_neg he]
    exact ev_neg he (sPagesWith_l xs a hn (i+1) _ (by omega) (by omega))
  ·refine ev_neg (by omega) (ev_now ?_)
   rw [List.drop_of_length_le (by omega)];simp [withS]
 termination_by i=>xs.length - i
theorem iPagesWith_l (xs:List Int) (a:Int) (hn:xs.length≤1048576):∀ (i:Nat) (o:List Int),i≤xs.length→o.length≤i→Ev (fun k=>impl_PagesWith.l0 k a o xs xs.length i) (o++withS a (xs.drop i) i)
 | i,o,hi,ho=>by
  refine Ev.step (impl_PagesWith.l0.eq_2 _ _ _ _ _) ?_
  by_cases h:i < xs.length
  ·refine ev_pos (by omega) (ev_pos (by omega) (ev_pos (by omega) ?_))
   rw [rd_at xs i h,w64s i (by omega),drop_at xs i h]
   simp only [withS]
   by_cases he:xs[i]=a
   ·rw [if_pos he]
    exact ev_pos he (ev_pos (by omega) (ev_to (iPagesWith_l xs a hn (i+1) _ (by omega) (by simp;omega)) (by simp)))
   ·rw [if_neg he]
    exact ev_neg he (iPagesWith_l xs a hn (i+1) _ (by omega) (by omega))
  ·refine ev_neg (by omega) (ev_now ?_)
   rw [List.drop_of_length_le (by omega)];simp [withS]
 termination_by i=>xs.length - i
theorem sPagesWith_ev (xs:List Int) (a:Int) (hn:xs.length≤1048576):Ev (fun k=>spec_PagesWith.f k xs a) (withS a xs 0):=by
 unfold spec_PagesWith.f
 simpa using sPagesWith_l xs a hn 0 [] (by omega) (by simp)
theorem iPagesWith_ev (xs:List Int) (a:Int) (hn:xs.length≤1048576):Ev (fun k=>impl_PagesWith.f k xs a) (withS a xs 0):=by
 unfold impl_PagesWith.f
 simpa using iPagesWith_l xs a hn 0 [] (by omega) (by simp)

theorem u64w (x:Int) (h0:0≤x) (h1:x < 18446744073709551616):IntKind.u64.wrap x=x:=by
 have b:IntKind.u64.bits=64:=rfl
 have s:IntKind.u64.signed=false:=rfl
 simp only [IntKind.wrap,b,s,Bool.false_and,Bool.false_eq_true,if_false]
 omega
def dg (n:Int) (i:Nat):Int:=n / 2 ^ (8 * i) % 256
def dn (n:Int):Nat→List Int
 | 0=>[]
 | i+1=>dg n i :: dn n i
theorem dn_len (n:Int) (w:Nat):(dn n w).length=w:=by
 induction w with
 | zero=>rfl
 | succ w ih=>simp [dn,ih]
theorem dn_get (n:Int):∀ (w p:Nat) (h:p < (dn n w).length),(dn n w)[p]=dg n (w - 1 - p)
 | 0,p,h=>by simp [dn] at h
 | w+1,0,h=>by simp [dn]
 | w+1,p+1,h=>by
  simp only [dn,List.getElem_cons_succ]
  rw [dn_get n w p (by simpa [dn] using h)]
  congr 1;omega
theorem shr_eq (n:Int) (i:Nat) (h:i≤7) (y:Int) (hy:y=8 * (i:Int)):shr .i64 n y=n / 2 ^ (8 * i):=by
 subst hy
 have e:(8 * (i:Int)).toNat=8 * i:=by omega
 have b:IntKind.i64.bits=64:=rfl
 unfold shr
 rw [e,b,Nat.min_eq_left (by omega)]
def ntOk (n:Int) (w:Nat):Prop:=0≤n∧1≤w∧w≤7∧n < 2 ^ (8 * w)
open Classical in
noncomputable def nt (n:Int) (w:Nat):ByteArray:=if ntOk n w then strOfNums (dn n w) else ⟨#[]⟩
theorem sNum_l (n:Int) (w:Nat) (hw:w≤7):∀ (i:Nat) (o:List Int),i≤w→o.length≤7→o.length+i≤7→Ev (fun k=>spec_NumText.l0 k n o ((i:Int) - 1)) (strOfNums (o++dn n i))
 | 0,o,hi,ho,hs=>by
  refine Ev.step (spec_NumText.l0.eq_2 _ _ _) ?_
  refine ev_neg (by omega) (ev_now ?_)
  simp [dn]
 | i+1,o,hi,ho,hs=>by
  refine Ev.step (spec_NumText.l0.eq_2 _ _ _) ?_
  have e:((i+1:Nat):Int) - 1=(i:Int):=by omega
  rw [e,u64w (i:Int) (by omega) (by omega),u64w (8 * (i:Int)) (by omega) (by omega),shr_eq n i (by omega) _ rfl,w64 (x:=(i:Int) - 1) (by omega) (by omega)]
  refine ev_pos (by omega) (ev_pos (by omega) (ev_pos (by omega) (ev_to (sNum_l n w hw i _ (by omega) (by simp;omega) (by simp;omega)) ?_)))
  simp [dn,dg]
theorem pow_le (w:Nat) (h:w≤7):(1:Int)≤2 ^ (8 * w)∧(2:Int) ^ (8 * w)≤72057594037927936:=by
 have:w=0∨w=1∨w=2∨w=3∨w=4∨w=5∨w=6∨w=7:=by omega
 rcases this with h|h|h|h|h|h|h|h <;> subst h <;> decide
theorem div_pos (n:Int) (w:Nat) (hw:w≤7) (h0:0≤n):n / 2 ^ (8 * w) > 0 ↔ ¬ n < 2 ^ (8 * w):=by
 have hp:=pow_le w hw
 constructor
 ·intro h hl
  have:=Int.ediv_eq_zero_of_lt h0 hl
  omega
 ·intro h
  exact (Int.le_ediv_iff_mul_le (by omega)).2 (by omega)
theorem sNum_ev (n:Int) (w:Nat) (hw:w≤7) (h1:1≤w):Ev (fun k=>spec_NumText.f k n (w:Int)) (nt n w):=by
 unfold spec_NumText.f
 have bad:¬ ntOk n w→Ev (fun k=>spec_NumText.j0 k n w true) (nt n w):=by
  intro h
  unfold nt
  rw [if_neg h]
  refine Ev.step (spec_NumText.j0.eq_2 _ _ _) ?_
  exact ev_pos rfl (ev_now rfl)
 by_cases h0:n < 0
 ·exact ev_pos h0 (bad (fun h=>by have:=h.1;omega))
 ·refine ev_neg h0 (Ev.bind (ev_eq (l01In_eq _ _ _)) (ev_pos (by simp;omega) ?_))
  rw [u64w (w:Int) (by omega) (by omega),u64w (8 * (w:Int)) (by omega) (by omega),shr_eq n w hw _ rfl]
  refine ev_pos (by omega) ?_
  by_cases hl:n < 2 ^ (8 * w)
  ·have hz:¬ n / 2 ^ (8 * w) > 0:=fun h=>(div_pos n w hw (by omega)).1 h hl
   rw [decide_eq_false hz]
   refine Ev.step (spec_NumText.j0.eq_2 _ _ _) ?_
   refine ev_neg (by simp) ?_
   rw [w64 (by omega) (by omega)]
   refine ev_to (sNum_l n w hw w [] (Nat.le_refl _) (by simp) (by simp;omega)) ?_
   unfold nt
   rw [if_pos ⟨by omega,h1,hw,hl⟩]
   simp
  ·have hz:n / 2 ^ (8 * w) > 0:=(div_pos n w hw (by omega)).2 hl
   rw [decide_eq_true hz]
   exact bad (fun h=>hl h.2.2.2)
theorem iNum_l (n:Int) (w:Nat) (hw:w≤7):∀ (p:Nat) (ys:List Int),p≤w→ys.length=w→ys.take p=(dn n w).take p→Ev (fun k=>impl_NumText.l0 k n w ys w p) (strOfNums (dn n w))
 | p,ys,hp,hl,ht=>by
  have hd:=dn_len n w
  refine Ev.step (impl_NumText.l0.eq_2 _ _ _ _ _) ?_
  by_cases h:p < w
  ·rw [w64 (x:=(w:Int) - 1) (by omega) (by omega),w64 (x:=(w:Int) - 1 - p) (by omega) (by omega),w64 (x:=8 * ((w:Int) - 1 - p)) (by omega) (by omega),w64s p (by omega),shr_eq n (w - 1 - p) (by omega) _ (by omega),Int.toNat_natCast]
   refine ev_pos (by omega) (ev_pos (by omega) (ev_pos (by omega) (ev_pos (by omega) ?_)))
   exact iNum_l n w hw (p+1) _ (by omega) (by simp [hl]) (take_set (by omega) ht (by omega) (by rw [dn_get];rfl))
  ·have:p=w:=by omega
   subst this
   refine ev_neg (by omega) (ev_now ?_)
   rw [show ys=dn n p from take_all (xs:=dn n p) (by omega) (by rw [hd];exact ht)]
 termination_by p=>w - p
theorem shl_eq (w:Nat) (hw:w≤7):shl .i64 1 (8 * (w:Int))=2 ^ (8 * w):=by
 have:w=0∨w=1∨w=2∨w=3∨w=4∨w=5∨w=6∨w=7:=by omega
 rcases this with h|h|h|h|h|h|h|h <;> subst h <;> decide
theorem iNum_ev (n:Int) (w:Nat) (hw:w≤7) (h1:1≤w):Ev (fun k=>impl_NumText.f k n (w:Int)) (nt n w):=by
 unfold impl_NumText.f
 have bad:¬ ntOk n w→Ev (fun k=>impl_NumText.j0 k n w true) (nt n w):=by
  intro h
  unfold nt
  rw [if_neg h]
  refine Ev.step (impl_NumText.j0.eq_2 _ _ _) ?_
  exact ev_pos rfl (ev_now rfl)
 by_cases h0:n < 0
 ·exact ev_pos h0 (bad (fun h=>by have:=h.1;omega))
 ·refine ev_neg h0 (Ev.bind (ev_eq (within_eq _ _ _)) (ev_pos (by simp;omega) ?_))
  rw [w64 (x:=8 * (w:Int)) (by omega) (by omega),shl_eq w hw]
  refine ev_pos (by omega) ?_
  by_cases hl:n < 2 ^ (8 * w)
  ·rw [decide_eq_false (by omega)]
   refine Ev.step (impl_NumText.j0.eq_2 _ _ _) ?_
   refine ev_neg (by simp) (ev_pos (by omega) (ev_pos (by omega) (Ev.bind (Ev.now _) ?_)))
   rw [Int.toNat_natCast]
   have:=iNum_l n w hw 0 (List.replicate w 0) (by omega) (by simp) (by simp)
   rw [List.length_replicate]
   refine ev_to this ?_
   unfold nt
   rw [if_pos ⟨by omega,h1,hw,hl⟩]
  ·rw [decide_eq_true (by omega)]
   exact bad (fun h=>hl h.2.2.2)
theorem nt_size (n:Int) (w:Nat):(nt n w).size≤w:=by
 unfold nt
 split
 ·have:=dn_len n w
  unfold strOfNums
  rw [b_size,List.length_map];omega
 ·show 0≤w;omega

noncomputable def recV (a b:Int) (t:ByteArray):ByteArray:=if (1≤a∧a≤12)∧(1≤b∧b≤16777215)∧t.size=4 then nt a 1++nt b 3++t else ⟨#[]⟩
theorem sRec_j (a b:Int) (t:ByteArray) (ht:t.size≤4000000) (z:Bool):Ev (fun k=>spec_RecWord.j0 k z a b t) (if z=true then ⟨#[]⟩ else nt a 1++nt b 3++t):=by
 refine Ev.step (spec_RecWord.j0.eq_2 _ _ _ _) ?_
 have z1:=nt_size a 1
 have z3:=nt_size b 3
 cases z with
 | true=>exact ev_pos rfl (ev_now rfl)
 | false=>exact ev_neg (by simp) (Ev.bind (sNum_ev a 1 (by omega) (by omega)) (Ev.bind (sNum_ev b 3 (by omega) (by omega)) (ev_pos (by omega) (ev_pos (by rw [ByteArray.size_append];omega) (ev_now rfl)))))
theorem sRec_ev (a b:Int) (t:ByteArray) (ht:t.size≤4000000):Ev (fun k=>spec_RecWord.f k a b t) (recV a b t):=by
 unfold spec_RecWord.f recV
 rw [l01In_eq]
 refine Ev.bind (Ev.now _) ?_
 by_cases h1:1≤a∧a≤12
 ·rw [l01In_eq]
  refine ev_pos (decide_eq_true h1) (Ev.bind (Ev.now _) ?_)
  by_cases h2:1≤b∧b≤16777215
  ·refine ev_pos (decide_eq_true h2) (ev_to (sRec_j a b t ht _) ?_)
   by_cases h3:t.size=4
   ·rw [if_neg (by simp [h3]),if_pos ⟨h1,h2,h3⟩]
   ·rw [if_pos (by simp;omega),if_neg (fun h=>h3 h.2.2)]
  ·exact ev_neg (by simpa using h2) (ev_to (sRec_j a b t ht true) (by rw [if_pos rfl,if_neg (fun h=>h2 h.2.1)]))
 ·exact ev_neg (by simpa using h1) (ev_to (sRec_j a b t ht true) (by rw [if_pos rfl,if_neg (fun h=>h1 h.1)]))
theorem iRec_j (a b:Int) (t:ByteArray) (ht:t.size≤4000000) (z:Bool):Ev (fun k=>impl_RecWord.j0 k z a b t) (if z=true then ⟨#[]⟩ else nt a 1++nt b 3++t):=by
 refine Ev.step (impl_RecWord.j0.eq_2 _ _ _ _) ?_
 have z1:=nt_size a 1
 have z3:=nt_size b 3
 cases z with
 | true=>exact ev_pos rfl (ev_now rfl)
 | false=>exact ev_neg (by simp) (Ev.bind (iNum_ev a 1 (by omega) (by omega)) (Ev.bind (iNum_ev b 3 (by omega) (by omega)) (ev_pos (by omega) (ev_pos (by rw [ByteArray.size_append];omega) (ev_now rfl)))))
theorem iRec_ev (a b:Int) (t:ByteArray) (ht:t.size≤4000000):Ev (fun k=>impl_RecWord.f k a b t) (recV a b t):=by
 unfold impl_RecWord.f recV
 rw [within_eq]
 refine Ev.bind (Ev.now _) ?_
 by_cases h1:1≤a∧a≤12
 ·rw [within_eq]
  refine ev_pos (decide_eq_true h1) (Ev.bind (Ev.now _) ?_)
  by_cases h2:1≤b∧b≤16777215
  ·refine ev_pos (decide_eq_true h2) (ev_to (iRec_j a b t ht _) ?_)
   by_cases h3:t.size=4
   ·rw [if_neg (by simp [h3]),if_pos ⟨h1,h2,h3⟩]
   ·rw [if_pos (by simp;omega),if_neg (fun h=>h3 h.2.2)]
  ·exact ev_neg (by simpa using h2) (ev_to (iRec_j a b t ht true) (by rw [if_pos rfl,if_neg (fun h=>h2 h.2.1)]))
 ·exact ev_neg (by simpa using h1) (ev_to (iRec_j a b t ht true) (by rw [if_pos rfl,if_neg (fun h=>h1 h.1)]))

theorem long_l (n:Nat) (hn:n≤1048576):∀ (i:Nat) (ys:List Int),i≤n→ys.length=n→(∀ y ∈ ys,y=0)→Ev (fun k=>spec_l01Long.l0 k n 0 ys i) (strOfNums ys)
 | i,ys,hi,hl,hz=>by
  refine Ev.step (spec_l01Long.l0.eq_2 _ _ _ _) ?_
  by_cases h:i < n
  ·refine ev_pos (by omega) (ev_pos (by omega) (ev_pos (by omega) ?_))
   rw [w64s i (by omega),Int.toNat_natCast]
   have e:ys.set i 0=ys:=by
    apply List.ext_getElem (by simp)
    intro j h1 h2
    rw [List.getElem_set]
    split
    ·exact (hz _ (List.getElem_mem h2)).symm
    ·rfl
   rw [e]
   exact long_l n hn (i+1) ys (by omega) hl hz
  ·exact ev_neg (by omega) (ev_now rfl)
 termination_by i=>n - i
theorem long_ev (n:Nat) (hn:n≤1048576):Ev (fun k=>spec_l01Long.f k n 0) (zb n):=by
 unfold spec_l01Long.f
 refine ev_pos (by omega) (ev_pos (by omega) (ev_to (long_l n hn 0 _ (by omega) (by simp) (by simp)) ?_))
 simp [strOfNums,zb]
theorem zeroText_ev (n:Nat) (hn:n≤20000):Ev (fun k=>spec_ZeroText.f k (n:Int)) (zb n):=by
 unfold spec_ZeroText.f
 exact Ev.bind (ev_eq (l01In_eq _ _ _)) (ev_pos (by simp;omega) (Ev.bind (long_ev n (by omega)) (ev_now rfl)))

theorem repeat_eq (n:Nat) (h:n≤1048576):strings_Repeat.f (⟨#[0]⟩:ByteArray) (n:Int)=some (zb n):=by
 unfold strings_Repeat.f
 have h1:(⟨#[0]⟩:ByteArray).size=1:=rfl
 rw [if_pos ⟨by omega,by omega,by rw [Int.toNat_natCast,h1];omega⟩]
 congr 1
 unfold zb
 rw [← repeat_zero,Int.toNat_natCast]
theorem padded_eq (s:ByteArray) (n:Int) (h0:0≤n) (h1:n≤1048576) (hs:s.size≤4000000):impl_padded.f s n=some (s++zb (n - s.size).toNat):=by
 unfold impl_padded.f
 rw [w64 (by omega) (by omega)]
 have hm:mx 0 (n - (s.size:Int))=(((n - s.size).toNat:Nat):Int):=by
  show (if (0:Int) < n - (s.size:Int) then n - (s.size:Int) else 0)=_
  split <;> omega
 rw [hm,repeat_eq _ (by omega),Option.bind_some,if_pos (by rw [zb_size];omega)]

def wdT (s:ByteArray):ByteArray:=if s.size > 8 then ⟨#[]⟩ else s++zb (8 - s.size)
theorem sWord_ev (s:ByteArray) (hs:s.size≤4000000):Ev (fun k=>spec_WordText.f k s) (wdT s):=by
 unfold spec_WordText.f wdT
 by_cases h:s.size > 8
 ·rw [if_pos h];exact ev_pos (by omega) (ev_now rfl)
 ·rw [if_neg h]
  refine ev_neg (by omega) ?_
  rw [show (8:Int) - (s.size:Int)=((8 - s.size:Nat):Int) by omega]
  exact Ev.bind (zeroText_ev _ (by omega)) (ev_pos (by rw [zb_size];omega) (ev_now rfl))
theorem iWord_eq (s:ByteArray) (hs:s.size≤4000000):impl_WordText.f s=some (wdT s):=by
 unfold impl_WordText.f wdT
 by_cases h:s.size > 8
 ·rw [if_pos h,if_pos (by omega)]
 ·rw [if_neg h,if_neg (by omega),padded_eq s 8 (by omega) (by omega) hs,Option.bind_some,show ((8:Int) - (s.size:Int)).toNat=8 - s.size by omega]

theorem btn (a:ByteArray) (i:Nat) (h:i < a.data.toList.length):bt a (i:Int)=((a.data.toList[i]).toNat:Int):=by
 have h2:i < a.size:=by rw [b_len] at h;exact h
 rw [← bt_at a (i:Int) (by simpa using h2)]
 simp only [Int.toNat_natCast];rfl

def nmB (b:Int):Bool:=decide (97≤b∧b≤122) || decide (48≤b∧b≤57)
def nmV (a:ByteArray):Bool:=a.data.toList.all (fun x=>nmB (x.toNat:Int)) && decide (1≤(a.size:Int)∧(a.size:Int)≤7)
theorem nm_step (a:ByteArray) (i:Nat) (h:i < a.data.toList.length):(a.data.toList.drop i).all (fun x=>nmB (x.toNat:Int))=(nmB (bt a (i:Int)) && (a.data.toList.drop (i+1)).all (fun x=>nmB (x.toNat:Int))):=by
 rw [btn a i h]
 rw [show a.data.toList.drop i=a.data.toList[i] :: a.data.toList.drop (i+1) from List.drop_eq_getElem_cons h,List.all_cons]
theorem bt_byte (a:ByteArray) (i:Nat) (h:i < a.data.toList.length):0≤bt a (i:Int)∧bt a (i:Int)≤255:=by
 rw [btn a i h]
 have:=(a.data.toList[i]).toNat_lt
 omega
theorem sName_l (a:ByteArray) (ha:a.size≤4000000):∀ i:Nat,i≤a.size→Ev (fun k=>spec_NameOk.l0 k a (i:Int)) ((a.data.toList.drop i).all (fun x=>nmB (x.toNat:Int)) && decide (1≤(a.size:Int)∧(a.size:Int)≤7))
 | i,hi=>by
  have hl:=b_len a
  refine Ev.step (spec_NameOk.l0.eq_2 _ _) ?_
  by_cases h:i < a.size
  ·have hb:=bt_byte a i (by omega)
   rw [nm_step a i (by omega)]
   refine ev_pos (by omega) (ev_pos (by omega) ?_)
   rw [w64 (x:=bt a (i:Int)) (by omega) (by omega),l01In_eq,w64s i (by omega)]
   refine Ev.bind (Ev.now _) ?_
   have ih:=sName_l a ha (i+1) (by omega)
   unfold nmB at ih ⊢
   by_cases h1:97≤bt a (i:Int)∧bt a (i:Int)≤122
   ·exact ev_pos (decide_eq_true h1) (ev_to ih (by simp [h1]))
   ·rw [l01In_eq]
    refine ev_neg (by simpa using h1) (Ev.bind (Ev.now _) ?_)
    by_cases h2:48≤bt a (i:Int)∧bt a (i:Int)≤57
    ·exact ev_pos (decide_eq_true h2) (ev_to ih (by simp [h2]))
    ·exact ev_neg (by simpa using h2) (ev_now (by rw [decide_eq_false h1,decide_eq_false h2];simp))
  ·rw [l01In_eq (a.size:Int) 1 7,List.drop_of_length_le (by omega)]
   exact ev_neg (by omega) (Ev.bind (Ev.now _) (ev_now (by simp)))
 termination_by i=>a.size - i
theorem sName_ev (a:ByteArray) (ha:a.size≤4000000):Ev (fun k=>spec_NameOk.f k a) (nmV a):=by
 unfold spec_NameOk.f nmV
 exact ev_to (sName_l a ha 0 (by omega)) (by rw [List.drop_zero])
theorem iName_l (a:ByteArray) (ha:a.size≤4000000):∀ i:Nat,i≤a.size→Ev (fun k=>impl_NameOk.l0 k a (a.size:Int) (i:Int)) ((a.data.toList.drop i).all (fun x=>nmB (x.toNat:Int)) && decide (1≤(a.size:Int)∧(a.size:Int)≤7))
 | i,hi=>by
  have hl:=b_len a
  refine Ev.step (impl_NameOk.l0.eq_2 _ _ _) ?_
  by_cases h:i < a.size
  ·have hb:=bt_byte a i (by omega)
   rw [nm_step a i (by omega)]
   refine ev_pos (by omega) (ev_pos (by omega) (ev_pos (by omega) ?_))
   rw [w64s i (by omega)]
   have ih:=iName_l a ha (i+1) (by omega)
   unfold nmB at ih ⊢
   have low:Ev (fun k=>if bt a (i:Int) ≥ 48 then (if bt a (i:Int)≤57 then impl_NameOk.l0 k a (a.size:Int) ((i+1:Nat):Int) else some false) else some false) (decide (48≤bt a (i:Int)∧bt a (i:Int)≤57) && ((a.data.toList.drop (i+1)).all (fun x=>decide (97≤(x.toNat:Int)∧(x.toNat:Int)≤122) || decide (48≤(x.toNat:Int)∧(x.toNat:Int)≤57)) && decide (1≤(a.size:Int)∧(a.size:Int)≤7))):=by
    by_cases h1:bt a (i:Int) ≥ 48
    ·by_cases h2:bt a (i:Int)≤57
     ·exact ev_pos h1 (ev_pos h2 (ev_to ih (by rw [decide_eq_true (show 48≤bt a (i:Int)∧bt a (i:Int)≤57 from ⟨h1,h2⟩),Bool.true_and])))
     ·exact ev_pos h1 (ev_neg h2 (ev_now (by rw [decide_eq_false (fun hc=>h2 hc.2),Bool.false_and])))
    ·exact ev_neg h1 (ev_now (by rw [decide_eq_false (fun hc=>h1 hc.1),Bool.false_and]))
   by_cases h1:bt a (i:Int) ≥ 97
   ·by_cases h2:bt a (i:Int)≤122
    ·exact ev_pos h1 (ev_pos h2 (ev_to ih (by rw [decide_eq_true (show 97≤bt a (i:Int)∧bt a (i:Int)≤122 from ⟨h1,h2⟩),Bool.true_or,Bool.true_and])))
    ·exact ev_pos h1 (ev_neg h2 (ev_to low (by rw [decide_eq_false (show ¬ (97≤bt a (i:Int)∧bt a (i:Int)≤122) from fun hc=>h2 hc.2),Bool.false_or,Bool.and_assoc])))
   ·exact ev_neg h1 (ev_to low (by rw [decide_eq_false (show ¬ (97≤bt a (i:Int)∧bt a (i:Int)≤122) from fun hc=>h1 hc.1),Bool.false_or,Bool.and_assoc]))
  ·rw [within_eq,List.drop_of_length_le (by omega)]
   exact ev_neg (by omega) (Ev.bind (Ev.now _) (ev_now (by simp)))
 termination_by i=>a.size - i
theorem iName_ev (a:ByteArray) (ha:a.size≤4000000):Ev (fun k=>impl_NameOk.f k a) (nmV a):=by
 unfold impl_NameOk.f nmV
 exact ev_to (iName_l a ha 0 (by omega)) (by rw [List.drop_zero])
noncomputable def enV (a:Int) (t:ByteArray):ByteArray:=if (1≤a∧a≤5)∧nmV t=true then wdT (nt a 1++t) else ⟨#[]⟩
theorem sEnt_j (a:Int) (t:ByteArray) (ht:t.size≤2000000) (z:Bool):Ev (fun k=>spec_EntryWord.j0 k z a t) (if z=true then ⟨#[]⟩ else wdT (nt a 1++t)):=by
 refine Ev.step (spec_EntryWord.j0.eq_2 _ _ _) ?_
 have z1:=nt_size a 1
 cases z with
 | true=>exact ev_pos rfl (ev_now rfl)
 | false=>exact ev_neg (by simp) (Ev.bind (sNum_ev a 1 (by omega) (by omega)) (ev_pos (by omega) (Ev.bind (sWord_ev _ (by rw [ByteArray.size_append];omega)) (ev_now rfl))))
theorem sEnt_ev (a:Int) (t:ByteArray) (ht:t.size≤2000000):Ev (fun k=>spec_EntryWord.f k a t) (enV a t):=by
 unfold spec_EntryWord.f enV
 rw [l01In_eq]
 refine Ev.bind (Ev.now _) ?_
 by_cases h1:1≤a∧a≤5
 ·refine ev_pos (decide_eq_true h1) (Ev.bind (sName_ev t (by omega)) (ev_to (sEnt_j a t ht _) ?_))
  by_cases h2:nmV t=true
  ·rw [if_neg (by simp [h2]),if_pos ⟨h1,h2⟩]
  ·rw [if_pos (by simp at h2;simp [h2]),if_neg (fun h=>h2 h.2)]
 ·exact ev_neg (by simpa using h1) (ev_to (sEnt_j a t ht true) (by rw [if_pos rfl,if_neg (fun h=>h1 h.1)]))
theorem iEnt_j (a:Int) (t:ByteArray) (ht:t.size≤2000000) (z:Bool):Ev (fun k=>impl_EntryWord.j0 k z a t) (if z=true then ⟨#[]⟩ else wdT (nt a 1++t)):=by
 refine Ev.step (impl_EntryWord.j0.eq_2 _ _ _) ?_
 have z1:=nt_size a 1
 cases z with
 | true=>exact ev_pos rfl (ev_now rfl)
 | false=>exact ev_neg (by simp) (Ev.bind (iNum_ev a 1 (by omega) (by omega)) (ev_pos (by omega) (Ev.bind (ev_eq (iWord_eq _ (by rw [ByteArray.size_append];omega))) (ev_now rfl))))
theorem iEnt_ev (a:Int) (t:ByteArray) (ht:t.size≤2000000):Ev (fun k=>impl_EntryWord.f k a t) (enV a t):=by
 unfold impl_EntryWord.f enV
 rw [within_eq]
 refine Ev.bind (Ev.now _) ?_
 by_cases h1:1≤a∧a≤5
 ·refine ev_pos (decide_eq_true h1) (Ev.bind (iName_ev t (by omega)) (ev_to (iEnt_j a t ht _) ?_))
  by_cases h2:nmV t=true
  ·rw [if_neg (by simp [h2]),if_pos ⟨h1,h2⟩]
  ·rw [if_pos (by simp at h2;simp [h2]),if_neg (fun h=>h2 h.2)]
 ·exact ev_neg (by simpa using h1) (ev_to (iEnt_j a t ht true) (by rw [if_pos rfl,if_neg (fun h=>h1 h.1)]))

def pgF (n:Int):Int:=if n≤0 then 0 else (n - 1) / 32+1
theorem sPagesFor_eq (n:Int) (h:0≤n) (h1:n≤1048576):spec_PagesFor.f n=some (pgF n):=by
 unfold spec_PagesFor.f pgF
 split
 ·rfl
 ·rw [w64 (x:=n - 1) (by omega) (by omega),Int.tdiv_eq_ediv_of_nonneg (by omega),w64 (x:=(n - 1) / 32) (by omega) (by omega),w64 (by omega) (by omega)]
theorem iPagesFor_eq (n:Int) (h:0≤n) (h1:n≤1048576):impl_PagesFor.f n=some (pgF n):=by
 unfold impl_PagesFor.f pgF
 rw [if_neg (by omega),Int.tdiv_eq_ediv_of_nonneg h,Int.tmod_eq_emod_of_nonneg h,w64 (x:=n / 32) (by omega) (by omega),w64 (x:=n / 32+1) (by omega) (by omega)]
 split <;> split <;> congr 1 <;> omega

def dupR (rs:List S89) (i:Nat):Bool:=(rs.take i).any (fun y=>y.f0 == (rd_T89 rs (i:Int)).f0)
noncomputable def rcAll (rs:List S89):Nat→Nat→Bool
 | 0,_=>true
 | f+1,i=>if (recV (rd_T89 rs (i:Int)).f0 (rd_T89 rs (i:Int)).f1 (rd_T89 rs (i:Int)).f2).toList=([]:List UInt8) then false else if dupR rs i=true then false else rcAll rs f (i+1)
def ascE (es:List S72) (i:Nat):Bool:=if (i:Int) > 0 then Op.bytesLess ((rd_T72 es ((i:Int) - 1)).f1).toList ((rd_T72 es (i:Int)).f1).toList else true
noncomputable def enAll (es:List S72):Nat→Nat→Bool
 | 0,_=>true
 | f+1,i=>if (enV (rd_T72 es (i:Int)).f0 (rd_T72 es (i:Int)).f1).toList=([]:List UInt8) then false else if ascE es i=true then enAll es f (i+1) else false
noncomputable def okI (kd sz ct:Int) (mk:ByteArray) (rs:List S89) (es:List S72):Bool :=
 decide (0≤ct∧ct≤65535) && (if kd=0 then decide (sz=0∧mk.toList=[]∧rs.length=0∧es.length=0)
  else if kd=1 then decide ((0≤sz∧sz≤128)∧(mk.size:Int)=8∧(rs.length:Int)=pgF sz∧es.length=0) && rcAll rs rs.length 0
  else if kd=2 then decide (sz=0∧mk.toList=[]∧rs.length=0∧es.length≤6) && enAll es es.length 0
  else false)
theorem drop_any (rs:List S89) (i j:Nat) (hj:j < i) (hi:i < rs.length) (p:S89→Bool):((rs.take i).drop j).any p=(p rs[j] || ((rs.take i).drop (j+1)).any p):=by
 have hl:(rs.take i).length=i:=by rw [List.length_take];omega
 rw [List.drop_eq_getElem_cons (by omega),List.any_cons,List.getElem_take]
theorem sOk_l1 (kd sz ct:Int) (mk:ByteArray) (rs:List S89) (es:List S72) (hr:rs.length≤4000000) (i:Nat) (hi:i < rs.length) (N:Bool) (next:Ev (fun k=>spec_InodeOk.l0 k ((i+1:Nat):Int) kd sz ct mk rs es) N):∀ j:Nat,j≤i→Ev (fun k=>spec_InodeOk.l1 k (i:Int) (j:Int) kd sz ct mk rs es) (if ((rs.take i).drop j).any (fun y=>y.f0 == (rd_T89 rs (i:Int)).f0)=true then false else N)
 | j,hj=>by
  refine Ev.step (spec_InodeOk.l1.eq_2 _ _ _ _ _ _ _ _) ?_
  by_cases h:j < i
  ·refine ev_pos (by omega) (ev_pos (by omega) (ev_pos (by omega) (ev_pos (by omega) (ev_pos (by omega) ?_))))
   rw [drop_any rs i j h hi,rdiRec rs j (by omega),w64s j (by omega)]
   by_cases he:rs[j].f0=(rd_T89 rs (i:Int)).f0
   ·exact ev_pos he (ev_now (by rw [if_pos (by simp [he])]))
   ·refine ev_neg he (ev_to (sOk_l1 kd sz ct mk rs es hr i hi N next (j+1) (by omega)) ?_)
    rw [beq_false_of_ne he,Bool.false_or]
  ·have:j=i:=by omega
   subst this
   rw [w64s j (by omega)]
   refine ev_neg (by omega) (ev_to next ?_)
   rw [List.drop_of_length_le (by rw [List.length_take];omega)]
   simp
 termination_by j=>i - j
theorem sOk_l0 (kd sz ct:Int) (mk:ByteArray) (rs:List S89) (es:List S72) (hr:rs.length≤4000000) (hs:∀ y ∈ rs,y.f2.size≤4000000):∀ (f i:Nat),i+f=rs.length→Ev (fun k=>spec_InodeOk.l0 k (i:Int) kd sz ct mk rs es) (rcAll rs f i)
 | f,i,hf=>by
  refine Ev.step (spec_InodeOk.l0.eq_2 _ _ _ _ _ _ _) ?_
  cases f with
  | zero=>exact ev_neg (by omega) (ev_now rfl)
  | succ f =>
   have hz:(rd_T89 rs (i:Int)).f2.size≤4000000:=by rw [rdiRec rs i (by omega)];exact hs _ (List.getElem_mem _)
   refine ev_pos (by omega) (ev_pos (by omega) (Ev.bind (sRec_ev _ _ _ hz) ?_))
   unfold rcAll
   by_cases h:(recV (rd_T89 rs (i:Int)).f0 (rd_T89 rs (i:Int)).f1 (rd_T89 rs (i:Int)).f2).toList=([]:List UInt8)
   ·exact ev_to (ev_pos h (ev_now rfl)) (if_pos h).symm
   ·refine ev_to (ev_neg h (sOk_l1 kd sz ct mk rs es hr i (by omega) _ (sOk_l0 kd sz ct mk rs es hr hs f (i+1) (by omega)) 0 (by omega))) ?_
    rw [if_neg h]
    unfold dupR
    rw [List.drop_zero]
theorem sOk_l2 (kd sz ct:Int) (mk:ByteArray) (rs:List S89) (es:List S72) (hr:es.length≤4000000) (hs:∀ y ∈ es,y.f1.size≤2000000):∀ (f i:Nat),i+f=es.length→Ev (fun k=>spec_InodeOk.l2 k (i:Int) kd sz ct mk rs es) (enAll es f i)
 | f,i,hf=>by
  refine Ev.step (spec_InodeOk.l2.eq_2 _ _ _ _ _ _ _) ?_
  cases f with
  | zero=>exact ev_neg (by omega) (ev_now rfl)
  | succ f =>
   have hz:(rd_T72 es (i:Int)).f1.size≤2000000:=by rw [rdiEntry es i (by omega)];exact hs _ (List.getElem_mem _)
   refine ev_pos (by omega) (ev_pos (by omega) (Ev.bind (sEnt_ev _ _ hz) ?_))
   unfold enAll
   have ih:=sOk_l2 kd sz ct mk rs es hr hs f (i+1) (by omega)
   rw [w64s i (by omega)]
   by_cases h:(enV (rd_T72 es (i:Int)).f0 (rd_T72 es (i:Int)).f1).toList=([]:List UInt8)
   ·exact ev_to (ev_pos h (ev_now rfl)) (if_pos h).symm
   ·refine ev_to (ev_neg h ?_) (if_neg h).symm
    unfold ascE
    by_cases h0:(i:Int) > 0
    ·rw [if_pos h0,w64 (x:=(i:Int) - 1) (by omega) (by omega)]
     refine ev_pos h0 (ev_pos (by omega) (ev_pos (by omega) ?_))
     by_cases h2:Op.bytesLess ((rd_T72 es ((i:Int) - 1)).f1).toList ((rd_T72 es (i:Int)).f1).toList=true
     ·exact ev_to (ev_pos h2 ih) (if_pos h2).symm
     ·exact ev_to (ev_neg h2 (ev_now rfl)) (if_neg h2).symm
    ·rw [if_neg h0]
     exact ev_to (ev_neg h0 ih) (by simp)
theorem sOkI_ev (kd sz ct:Int) (mk:ByteArray) (rs:List S89) (es:List S72) (hr:rs.length≤4000000) (he:es.length≤4000000) (hs:∀ y ∈ rs,y.f2.size≤4000000) (hz:∀ y ∈ es,y.f1.size≤2000000):Ev (fun k=>spec_InodeOk.f k kd sz ct mk rs es) (okI kd sz ct mk rs es):=by
 unfold spec_InodeOk.f okI
 rw [l01In_eq]
 refine Ev.bind (Ev.now _) ?_
 by_cases h0:0≤ct∧ct≤65535
 ·rw [decide_eq_true h0,Bool.true_and]
  refine ev_pos rfl ?_
  by_cases k0:kd=0
  ·refine ev_to (ev_pos k0 ?_) (if_pos k0).symm
   by_cases a1:sz=0
   ·by_cases a2:mk.toList=([]:List UInt8)
    ·by_cases a3:(rs.length:Int)=0
     ·refine ev_pos a1 (ev_pos a2 (ev_pos a3 (ev_now ?_)))
      rw [Bool.eq_iff_iff,beq_iff_eq,decide_eq_true_eq]
      exact ⟨fun h=>⟨a1,a2,by omega,by omega⟩,fun h=>by have:=h.2.2.2;omega⟩
     ·exact ev_pos a1 (ev_pos a2 (ev_neg a3 (ev_now (by rw [decide_eq_false (fun h=>a3 (by have:=h.2.2.1;omega))]))))
    ·exact ev_pos a1 (ev_neg a2 (ev_now (by rw [decide_eq_false (fun h=>a2 h.2.1)])))
   ·exact ev_neg a1 (ev_now (by rw [decide_eq_false (fun h=>a1 h.1)]))
  refine ev_to (ev_neg k0 ?_) (if_neg k0).symm
  by_cases k1:kd=1
  ·refine ev_to (ev_pos k1 ?_) (if_pos k1).symm
   have bad:¬ ((0≤sz∧sz≤128)∧(mk.size:Int)=8∧(rs.length:Int)=pgF sz∧es.length=0)→∀ z:Bool,z=true→Ev (fun k=>spec_InodeOk.j0 k z kd sz ct mk rs es) (decide ((0≤sz∧sz≤128)∧(mk.size:Int)=8∧(rs.length:Int)=pgF sz∧es.length=0) && rcAll rs rs.length 0):=by
    intro hc z hz
    rw [decide_eq_false hc,Bool.false_and]
    refine Ev.step (spec_InodeOk.j0.eq_2 _ _ _ _ _ _ _) ?_
    exact ev_pos hz (ev_now rfl)
   rw [l01In_eq]
   refine Ev.bind (Ev.now _) ?_
   by_cases b1:0≤sz∧sz≤128
   ·refine ev_pos (decide_eq_true b1) ?_
    by_cases b2:(mk.size:Int)=8
    ·refine ev_pos b2 (Ev.bind (ev_eq (sPagesFor_eq sz b1.1 (by omega))) ?_)
     by_cases b3:(rs.length:Int)=pgF sz
     ·refine ev_pos b3 ?_
      by_cases b4:(es.length:Int) > 0
      ·exact bad (fun h=>by have:=h.2.2.2;omega) _ (decide_eq_true b4)
      ·rw [decide_eq_true (show (0≤sz∧sz≤128)∧(mk.size:Int)=8∧(rs.length:Int)=pgF sz∧es.length=0 from ⟨b1,b2,b3,by omega⟩),Bool.true_and]
       refine Ev.step (spec_InodeOk.j0.eq_2 _ _ _ _ _ _ _) ?_
       exact ev_neg (by simpa using b4) (sOk_l0 kd sz ct mk rs es hr hs rs.length 0 (by omega))
     ·exact ev_neg b3 (bad (fun h=>b3 h.2.2.1) _ rfl)
    ·exact ev_neg b2 (bad (fun h=>b2 h.2.1) _ rfl)
   ·exact ev_neg (by simpa using b1) (bad (fun h=>b1 h.1) _ rfl)
  refine ev_to (ev_neg k1 ?_) (if_neg k1).symm
  by_cases k2:kd=2
  ·refine ev_to (ev_pos k2 ?_) (if_pos k2).symm
   have bad:¬ (sz=0∧mk.toList=[]∧rs.length=0∧es.length≤6)→∀ z:Bool,z=true→Ev (fun k=>spec_InodeOk.j3 k z kd sz ct mk rs es) (decide (sz=0∧mk.toList=[]∧rs.length=0∧es.length≤6) && enAll es es.length 0):=by
    intro hc z hz
    rw [decide_eq_false hc,Bool.false_and]
    refine Ev.step (spec_InodeOk.j3.eq_2 _ _ _ _ _ _ _) ?_
    exact ev_pos hz (ev_now rfl)
   by_cases b1:sz=0
   ·refine ev_pos b1 ?_
    by_cases b2:mk.toList=([]:List UInt8)
    ·refine ev_pos b2 ?_
     by_cases b3:(rs.length:Int) > 0
     ·exact ev_pos b3 (bad (fun h=>by have:=h.2.2.1;omega) _ rfl)
     ·refine ev_neg b3 ?_
      by_cases b4:(es.length:Int) > 6
      ·exact bad (fun h=>by have:=h.2.2.2;omega) _ (decide_eq_true b4)
      ·rw [decide_eq_true (show sz=0∧mk.toList=[]∧rs.length=0∧es.length≤6 from ⟨b1,b2,by omega,by omega⟩),Bool.true_and]
       refine Ev.step (spec_InodeOk.j3.eq_2 _ _ _ _ _ _ _) ?_
       exact ev_neg (by rw [decide_eq_true_eq];exact b4) (sOk_l2 kd sz ct mk rs es he hz es.length 0 (by omega))
    ·exact ev_neg b2 (bad (fun h=>b2 h.2.1) _ rfl)
   ·exact ev_neg b1 (bad (fun h=>b1 h.1) _ rfl)
  ·exact ev_to (ev_neg k2 (ev_now rfl)) (if_neg k2).symm
 ·exact ev_neg (by simpa using h0) (ev_now (by rw [decide_eq_false h0,Bool.false_and]))
theorem idx_any (rs:List S89) (p:S89→Bool):∀ i:Nat,decide (Lib.idxByFrom (fun _ y=>p y) z89 rs i ≥ 0)=rs.any p:=by
 induction rs with
 | nil=>intro i;simp [Lib.idxByFrom]
 | cons x r ih =>
  intro i
  unfold Lib.idxByFrom
  rw [List.any_cons]
  by_cases h:p x=true
  ·rw [if_pos h,h,Bool.true_or];first|(simp;done)|(simp;omega)
  ·rw [if_neg h,ih (i+1)];simp at h;rw [h,Bool.false_or]
theorem iCont_eq (rs:List S89) (a b:Int) (t:ByteArray) (hn:rs.length≤4000000):slices_ContainsFunc_Rec_g107.f rs a b t=some (rs.any (fun y=>y.f0 == a)):=by
 unfold slices_ContainsFunc_Rec_g107.f
 rw [if_pos (by omega)]
 congr 1
 exact idx_any rs (fun y=>y.f0 == a) 0
theorem iFile_l (kd sz ct:Int) (mk:ByteArray) (rs:List S89) (es:List S72) (hr:rs.length≤4000000) (hs:∀ y ∈ rs,y.f2.size≤4000000) (N:Bool) (fin:Ev (fun k=>(impl_within.f sz 0 128).bind fun t246=>(if t246=true then (if (mk.size:Int)=8 then ((impl_PagesFor.f sz).bind fun t247=>(if (rs.length:Int)=t247 then (some ((es.length:Int) == 0)) else (some false))) else (some false)) else (some false))) N):∀ (f i:Nat),i+f=rs.length→Ev (fun k=>impl_isFile.l0 k rs (rs.length:Int) (i:Int) kd sz ct mk rs es) (rcAll rs f i && N)
 | f,i,hf=>by
  refine Ev.step (impl_isFile.l0.eq_2 _ _ _ _ _ _ _ _ _) ?_
  cases f with
  | zero=>exact ev_neg (by omega) (ev_to fin (by simp [rcAll]))
  | succ f =>
   have hz:(rd_T89 rs (i:Int)).f2.size≤4000000:=by rw [rdiRec rs i (by omega)];exact hs _ (List.getElem_mem _)
   refine ev_pos (by omega) (ev_pos (by omega) (ev_pos (by omega) (Ev.bind (iRec_ev _ _ _ hz) ?_)))
   unfold rcAll
   rw [w64s i (by omega),Int.toNat_natCast]
   by_cases h:(recV (rd_T89 rs (i:Int)).f0 (rd_T89 rs (i:Int)).f1 (rd_T89 rs (i:Int)).f2).toList=([]:List UInt8)
   ·exact ev_pos h (ev_now (by rw [if_pos h,Bool.false_and]))
   ·refine ev_neg h (ev_pos (by omega) (Ev.bind (ev_eq (iCont_eq (rs.take i) _ _ _ (by rw [List.length_take];omega))) ?_))
    rw [if_neg h]
    unfold dupR
    by_cases hd:((rs.take i).any fun y=>y.f0 == (rd_T89 rs (i:Int)).f0)=true
    ·exact ev_pos hd (ev_now (by rw [if_pos hd,Bool.false_and]))
    ·exact ev_neg hd (ev_to (iFile_l kd sz ct mk rs es hr hs N fin f (i+1) (by omega)) (by rw [if_neg hd]))
theorem iFile_ev (kd sz ct:Int) (mk:ByteArray) (rs:List S89) (es:List S72) (hr:rs.length≤4000000) (hs:∀ y ∈ rs,y.f2.size≤4000000):Ev (fun k=>impl_isFile.f k kd sz ct mk rs es) (decide ((0≤sz∧sz≤128)∧(mk.size:Int)=8∧(rs.length:Int)=pgF sz∧es.length=0) && rcAll rs rs.length 0):=by
 unfold impl_isFile.f
 refine ev_to (iFile_l kd sz ct mk rs es hr hs (decide ((0≤sz∧sz≤128)∧(mk.size:Int)=8∧(rs.length:Int)=pgF sz∧es.length=0)) ?_ rs.length 0 (by omega)) (Bool.and_comm _ _)
 rw [within_eq]
 refine Ev.bind (Ev.now _) ?_
 by_cases b1:0≤sz∧sz≤128
 ·refine ev_pos (decide_eq_true b1) ?_
  by_cases b2:(mk.size:Int)=8
  ·refine ev_pos b2 (Ev.bind (ev_eq (iPagesFor_eq sz b1.1 (by omega))) ?_)
   by_cases b3:(rs.length:Int)=pgF sz
   ·refine ev_pos b3 (ev_now ?_)
    rw [Bool.eq_iff_iff,beq_iff_eq,decide_eq_true_eq]
    exact ⟨fun h=>⟨b1,b2,b3,by omega⟩,fun h=>by have:=h.2.2.2;omega⟩
   ·exact ev_neg b3 (ev_now (by rw [decide_eq_false (fun h=>b3 h.2.2.1)]))
  ·exact ev_neg b2 (ev_now (by rw [decide_eq_false (fun h=>b2 h.2.1)]))
 ·exact ev_neg (by simpa using b1) (ev_now (by rw [decide_eq_false (fun h=>b1 h.1)]))
theorem iDir_l (kd sz ct:Int) (mk:ByteArray) (rs:List S89) (es:List S72) (hr:es.length≤4000000) (hs:∀ y ∈ es,y.f1.size≤2000000):∀ (f i:Nat),i+f=es.length→Ev (fun k=>impl_isDir.l0 k es (es.length:Int) (i:Int) kd sz ct mk rs es) (enAll es f i && decide (sz=0∧mk.toList=[]∧rs.length=0∧es.length≤6))
 | f,i,hf=>by
  refine Ev.step (impl_isDir.l0.eq_2 _ _ _ _ _ _ _ _ _) ?_
  cases f with
  | zero =>
   refine ev_neg (by omega) ?_
   rw [show enAll es 0 i=true from rfl,Bool.true_and]
   by_cases b1:sz=0
   ·by_cases b2:mk.toList=([]:List UInt8)
    ·by_cases b3:(rs.length:Int)=0
     ·refine ev_pos b1 (ev_pos b2 (ev_pos b3 (ev_now ?_)))
      rw [Bool.eq_iff_iff,decide_eq_true_eq,decide_eq_true_eq]
      exact ⟨fun h=>⟨b1,b2,by omega,by omega⟩,fun h=>by have:=h.2.2.2;omega⟩
     ·exact ev_pos b1 (ev_pos b2 (ev_neg b3 (ev_now (by rw [decide_eq_false (fun h=>b3 (by have:=h.2.2.1;omega))]))))
    ·exact ev_pos b1 (ev_neg b2 (ev_now (by rw [decide_eq_false (fun h=>b2 h.2.1)])))
   ·exact ev_neg b1 (ev_now (by rw [decide_eq_false (fun h=>b1 h.1)]))
  | succ f =>
   have hz:(rd_T72 es (i:Int)).f1.size≤2000000:=by rw [rdiEntry es i (by omega)];exact hs _ (List.getElem_mem _)
   refine ev_pos (by omega) (ev_pos (by omega) (ev_pos (by omega) (Ev.bind (iEnt_ev _ _ hz) ?_)))
   unfold enAll
   have ih:=iDir_l kd sz ct mk rs es hr hs f (i+1) (by omega)
   rw [w64s i (by omega)]
   by_cases h:(enV (rd_T72 es (i:Int)).f0 (rd_T72 es (i:Int)).f1).toList=([]:List UInt8)
   ·exact ev_pos h (ev_now (by rw [if_pos h,Bool.false_and]))
   ·refine ev_neg h ?_
    rw [if_neg h]
    unfold ascE
    by_cases h0:(i:Int) > 0
    ·rw [if_pos h0,w64 (x:=(i:Int) - 1) (by omega) (by omega)]
     refine ev_pos h0 (ev_pos (by omega) (ev_pos (by omega) ?_))
     by_cases h2:Op.bytesLess ((rd_T72 es ((i:Int) - 1)).f1).toList ((rd_T72 es (i:Int)).f1).toList=true
     ·exact ev_pos h2 (ev_to ih (by rw [if_pos h2]))
     ·exact ev_neg h2 (ev_now (by rw [if_neg h2,Bool.false_and]))
    ·rw [if_neg h0]
     exact ev_neg h0 (ev_to ih (by rw [if_pos rfl]))
theorem iOkI_ev (kd sz ct:Int) (mk:ByteArray) (rs:List S89) (es:List S72) (hr:rs.length≤4000000) (he:es.length≤4000000) (hs:∀ y ∈ rs,y.f2.size≤4000000) (hz:∀ y ∈ es,y.f1.size≤2000000):Ev (fun k=>impl_InodeOk.f k kd sz ct mk rs es) (okI kd sz ct mk rs es):=by
 unfold impl_InodeOk.f okI
 rw [within_eq]
 refine Ev.bind (Ev.now _) ?_
 by_cases h0:0≤ct∧ct≤65535
 ·rw [decide_eq_true h0,Bool.true_and]
  refine ev_pos rfl ?_
  by_cases k0:kd=0
  ·refine ev_to (ev_pos k0 ?_) (if_pos k0).symm
   by_cases a1:sz=0
   ·by_cases a2:mk.toList=([]:List UInt8)
    ·by_cases a3:(rs.length:Int)=0
     ·refine ev_pos a1 (ev_pos a2 (ev_pos a3 (ev_now ?_)))
      rw [Bool.eq_iff_iff,beq_iff_eq,decide_eq_true_eq]
      exact ⟨fun h=>⟨a1,a2,by omega,by omega⟩,fun h=>by have:=h.2.2.2;omega⟩
     ·exact ev_pos a1 (ev_pos a2 (ev_neg a3 (ev_now (by rw [decide_eq_false (fun h=>a3 (by have:=h.2.2.1;omega))]))))
    ·exact ev_pos a1 (ev_neg a2 (ev_now (by rw [decide_eq_false (fun h=>a2 h.2.1)])))
   ·exact ev_neg a1 (ev_now (by rw [decide_eq_false (fun h=>a1 h.1)]))
  refine ev_to (ev_neg k0 ?_) (if_neg k0).symm
  by_cases k1:kd=1
  ·exact ev_to (ev_pos k1 (Ev.bind (iFile_ev kd sz ct mk rs es hr hs) (ev_now rfl))) (if_pos k1).symm
  refine ev_to (ev_neg k1 ?_) (if_neg k1).symm
  by_cases k2:kd=2
  ·refine ev_to (ev_pos k2 (Ev.bind ?_ (ev_now rfl))) (if_pos k2).symm
   unfold impl_isDir.f
   exact ev_to (iDir_l kd sz ct mk rs es he hz es.length 0 (by omega)) (Bool.and_comm _ _)
  ·exact ev_to (ev_neg k2 (ev_now rfl)) (if_neg k2).symm
 ·exact ev_neg (by simpa using h0) (ev_now (by rw [decide_eq_false h0,Bool.false_and]))

theorem idx_anyE (rs:List S72) (p:S72→Bool):∀ i:Nat,decide (Lib.idxByFrom (fun _ y=>p y) z72 rs i ≥ 0)=rs.any p:=by
 induction rs with
 | nil=>intro i;simp [Lib.idxByFrom]
 | cons x r ih =>
  intro i
  unfold Lib.idxByFrom
  rw [List.any_cons]
  by_cases h:p x=true
  ·rw [if_pos h,h,Bool.true_or];first|(simp;done)|(simp;omega)
  ·rw [if_neg h,ih (i+1)];simp at h;rw [h,Bool.false_or]
noncomputable def inB (xs:List S69) (i:Nat) (x:S69):Bool:=okI x.f0 x.f1 x.f2 x.f3 x.f4 x.f5 && (!(x.f5.any (fun e=>decide (e.f0 ≥ (xs.length:Int)))) && (if i=0 then decide (x.f0=2) && decide (cntL (i:Int) xs 0=0) else if x.f0=0 then decide (cntL (i:Int) xs 0=0) else decide (cntL (i:Int) xs 0=1) && !decide (dpt xs (i:Int) 0 xs.length < 0)))
noncomputable def inAll (xs:List S69):List S69→Nat→Bool
 | [],_=>true
 | x :: r,i=>inB xs i x && inAll xs r (i+1)
theorem inode_b {xs:List S69} (hn:wiInodeS xs≤4000000) {x:S69} (h:x ∈ xs):x.f4.length≤4000000∧x.f5.length≤4000000∧(∀ y ∈ x.f4,y.f2.size≤4000000)∧(∀ y ∈ x.f5,y.f1.size≤4000000)∧sumBy (fun y:S72=>y.f1.size) x.f5≤4000000:=by
 unfold wiInodeS at hn
 have h1:=sumBy_mem (f:=wiInode) h
 unfold wiInode wiRecS wiEntryS at h1 hn
 refine ⟨by omega,by omega,fun y hy=>?_,fun y hy=>?_,?_⟩
 ·have:=sumBy_mem (f:=wiRec) hy
  simp only [wiRec] at this
  have e:sumBy wiRec x.f4=sumBy (fun y:S89=>y.f2.size+0) x.f4:=rfl
  omega
 ·have:=sumBy_mem (f:=wiEntry) hy
  simp only [wiEntry] at this
  omega
 ·have e:sumBy wiEntry x.f5=sumBy (fun y:S72=>y.f1.size) x.f5:=rfl
  omega
theorem okIs_ev {xs:List S69} (hn:wiInodeS xs≤2000000) {x:S69} (h:x ∈ xs):Ev (fun k=>spec_InodeOk.f k x.f0 x.f1 x.f2 x.f3 x.f4 x.f5) (okI x.f0 x.f1 x.f2 x.f3 x.f4 x.f5):=by
 have hb:=inode_b (xs:=xs) (by omega) h
 refine sOkI_ev _ _ _ _ _ _ hb.1 hb.2.1 hb.2.2.1 (fun y hy=>?_)
 have h1:=sumBy_mem (f:=wiInode) h
 have h2:=sumBy_mem (f:=wiEntry) hy
 unfold wiInodeS at hn
 unfold wiInode wiEntryS at h1 hn
 simp only [wiEntry] at h2
 omega
theorem okIi_ev {xs:List S69} (hn:wiInodeS xs≤2000000) {x:S69} (h:x ∈ xs):Ev (fun k=>impl_InodeOk.f k x.f0 x.f1 x.f2 x.f3 x.f4 x.f5) (okI x.f0 x.f1 x.f2 x.f3 x.f4 x.f5):=by
 have hb:=inode_b (xs:=xs) (by omega) h
 refine iOkI_ev _ _ _ _ _ _ hb.1 hb.2.1 hb.2.2.1 (fun y hy=>?_)
 have h1:=sumBy_mem (f:=wiInode) h
 have h2:=sumBy_mem (f:=wiEntry) hy
 unfold wiInodeS at hn
 unfold wiInode wiEntryS at h1 hn
 simp only [wiEntry] at h2
 omega
theorem iAre_l (a:Int) (b:List Int) (xs:List S69) (hn:wiInodeS xs≤2000000):∀ (f i:Nat),i+f=xs.length→Ev (fun k=>impl_areInodes.l0 k xs (xs.length:Int) (i:Int) a b xs) (inAll xs (xs.drop i) i)
 | 0,i,hi=>by
  refine Ev.step (impl_areInodes.l0.eq_2 _ _ _ _ _ _) ?_
  refine ev_neg (by omega) (ev_now ?_)
  rw [List.drop_of_length_le (by omega)];rfl
 | f+1,i,hi=>by
  have hx:xs.length≤4000000:=by unfold wiInodeS at hn;omega
  have hm:xs[i] ∈ xs:=List.getElem_mem _
  have hb:=inode_b (xs:=xs) (by omega) hm
  refine Ev.step (impl_areInodes.l0.eq_2 _ _ _ _ _ _) ?_
  refine ev_pos (by omega) (ev_pos (by omega) (ev_pos (by omega) (Ev.bind (iLinks_ev a b xs (i:Int) (by omega)) ?_)))
  rw [rdiInode xs i (by omega),drop_at xs i (by omega)]
  have ih:=iAre_l a b xs hn f (i+1) (by omega)
  refine Ev.bind (okIi_ev hn hm) ?_
  by_cases ok:okI xs[i].f0 xs[i].f1 xs[i].f2 xs[i].f3 xs[i].f4 xs[i].f5=true
  ·have hc:slices_ContainsFunc_Entry_g78.f xs[i].f5 a b xs=some (xs[i].f5.any (fun e=>decide (e.f0 ≥ (xs.length:Int)))):=by
    unfold slices_ContainsFunc_Entry_g78.f
    rw [if_pos (by omega)]
    congr 1
    exact idx_anyE xs[i].f5 (fun e=>decide (e.f0 ≥ (xs.length:Int))) 0
   rw [hc]
   refine ev_pos ok (Ev.bind (Ev.now _) ?_)
   refine Ev.step (impl_areInodes.j1.eq_2 _ _ _ _ _ _ _ _ _ _ _ _ _ _ _) ?_
   rw [w64s i (by omega)]
   by_cases an:xs[i].f5.any (fun e=>decide (e.f0 ≥ (xs.length:Int)))=true
   ·exact ev_pos an (ev_now (by simp only [inAll,inB,an];simp))
   refine ev_neg an ?_
   have an':xs[i].f5.any (fun e=>decide (e.f0 ≥ (xs.length:Int)))=false:=by simpa using an
   by_cases i0:i=0
   ·refine ev_pos (by omega) ?_
    by_cases k2:xs[i].f0=2
    ·by_cases l0:cntL (i:Int) xs 0=0
     ·exact ev_pos k2 (ev_pos l0 (ev_to ih (by simp only [inAll,inB,an',ok,if_pos i0,decide_eq_true k2,decide_eq_true l0];simp)))
     ·exact ev_pos k2 (ev_neg l0 (ev_now (by simp only [inAll,inB,if_pos i0,decide_eq_false l0];simp)))
    ·exact ev_neg k2 (ev_now (by simp only [inAll,inB,if_pos i0,decide_eq_false k2];simp))
   ·refine ev_neg (by omega) ?_
    by_cases k0:xs[i].f0=0
    ·by_cases l0:cntL (i:Int) xs 0=0
     ·exact ev_pos k0 (ev_pos l0 (ev_to ih (by simp only [inAll,inB,an',ok,l0,if_neg i0,if_pos k0];simp)))
     ·exact ev_pos k0 (ev_neg l0 (ev_now (by simp only [inAll,inB,if_neg i0,if_pos k0,decide_eq_false l0];simp)))
    ·by_cases l1:cntL (i:Int) xs 0=1
     ·refine ev_neg k0 (ev_pos l1 (Ev.bind (iDepth_ev a b xs (i:Int) (by omega) hx) ?_))
      by_cases d:dpt xs (i:Int) 0 xs.length < 0
      ·exact ev_pos d (ev_now (by simp only [inAll,inB,if_neg i0,if_neg k0,decide_eq_true d];simp))
      ·exact ev_neg d (ev_to ih (by simp only [inAll,inB,an',ok,if_neg i0,if_neg k0,decide_eq_true l1,decide_eq_false d];simp))
     ·exact ev_neg k0 (ev_neg l1 (ev_now (by simp only [inAll,inB,if_neg i0,if_neg k0,decide_eq_false l1];simp)))
  ·have ok':okI xs[i].f0 xs[i].f1 xs[i].f2 xs[i].f3 xs[i].f4 xs[i].f5=false:=by simpa using ok
   refine ev_neg ok ?_
   refine Ev.step (impl_areInodes.j1.eq_2 _ _ _ _ _ _ _ _ _ _ _ _ _ _ _) ?_
   exact ev_pos (by simp [ok']) (ev_now (by simp only [inAll,inB,ok'];simp))
theorem iAre_ev (a:Int) (b:List Int) (xs:List S69) (hn:wiInodeS xs≤2000000):Ev (fun k=>impl_areInodes.f k a b xs) (inAll xs xs 0):=by
 unfold impl_areInodes.f
 exact ev_to (iAre_l a b xs hn xs.length 0 (by omega)) (by rw [List.drop_zero])
def mU (b:List Int) (P:Int) (pg:Nat):Int:=if (pg:Int) < P∧rd b (pg:Int)=2 then 1 else 0
def usAll (b:List Int) (P:Int) (xs:List S69):Nat→Nat→Bool
 | 0,_=>true
 | f+1,pg=>decide (cntU (pg:Int) xs 0=mU b P pg) && usAll b P xs f (pg+1)
theorem iPO_l (t p ins q a:Int) (b:List Int) (xs:List S69) (hn:wiInodeS xs≤2000000) (hb:(b.length:Int)=p) (hb2:b.length≤1048576):∀ (f pg:Nat),pg+f=12→Ev (fun k=>impl_PartOk.l0 k (pg:Int) t p ins q a b xs) (usAll b p xs f pg && decide (((withS 2 b 0).length:Int)≤q))
 | 0,pg,hp=>by
  refine Ev.step (impl_PartOk.l0.eq_2 _ _ _ _ _ _ _ _) ?_
  exact ev_neg (by omega) (Ev.bind (iPagesWith_ev b 2 hb2) (ev_now (by simp [usAll])))
 | f+1,pg,hp=>by
  have ih:=iPO_l t p ins q a b xs hn hb hb2 f (pg+1) (by omega)
  refine Ev.step (impl_PartOk.l0.eq_2 _ _ _ _ _ _ _ _) ?_
  refine ev_pos (by omega) ?_
  have tail:∀ z:Bool,(z=true ↔ ((pg:Int) < p∧rd b (pg:Int)=2))→Ev (fun k=>impl_PartOk.j2 k (pg:Int) 0 (pg:Int) z t p ins q a b xs) (usAll b p xs (f+1) pg && decide (((withS 2 b 0).length:Int)≤q)):=by
   intro z hz
   refine Ev.step (impl_PartOk.j2.eq_2 _ _ _ _ _ _ _ _ _ _ _) ?_
   rw [w64s pg (by omega)]
   unfold usAll mU
   cases z with
   | true =>
    rw [if_pos (hz.1 rfl)]
    refine ev_pos rfl (Ev.bind (iUsers_ev a b xs (pg:Int) (by omega)) ?_)
    by_cases c:cntU (pg:Int) xs 0=1
    ·exact ev_pos c (ev_to ih (by simp [c]))
    ·exact ev_neg c (ev_now (by simp [c]))
   | false =>
    rw [if_neg (fun h=>by have:=hz.2 h;cases this)]
    refine ev_neg (by simp) (Ev.bind (iUsers_ev a b xs (pg:Int) (by omega)) ?_)
    by_cases c:cntU (pg:Int) xs 0=0
    ·exact ev_pos c (ev_to ih (by simp [c]))
    ·exact ev_neg c (ev_now (by simp [c]))
  by_cases h:(pg:Int) < p
  ·exact ev_pos h (ev_pos (by omega) (ev_pos (by omega) (tail _ (by rw [beq_iff_eq];exact ⟨fun c=>⟨h,c⟩,fun c=>c.2⟩))))
  ·exact ev_neg h (tail false ⟨fun c=>(by cases c),fun c=>absurd c.1 h⟩)
noncomputable def poV (t p ins q a:Int) (b:List Int) (xs:List S69):Bool:=gOk t p ins q && (decide (0≤a∧a≤16777215) && (stB b p && (decide ((xs.length:Int)=ins) && (inAll xs xs 0 && (usAll b p xs 12 0 && decide (((withS 2 b 0).length:Int)≤q))))))
theorem stB_len {b:List Int} {p:Int} (h:stB b p=true):(b.length:Int)=p∧b.length≤12:=by
 simp only [stB,Bool.and_eq_true,decide_eq_true_eq] at h
 omega
theorem iPO_bad (t p ins q a:Int) (b:List Int) (xs:List S69) {z:Bool} (hz:z=true):Ev (fun k=>impl_PartOk.j0 k z t p ins q a b xs) false:=by
 refine Ev.step (impl_PartOk.j0.eq_2 _ _ _ _ _ _ _ _) ?_
 exact ev_pos hz (ev_now rfl)
theorem iPO_ev (t p ins q a:Int) (b:List Int) (xs:List S69) (hn:wiInodeS xs≤2000000) (hb:b.length≤1048576):Ev (fun k=>impl_PartOk.f k t p ins q a b xs) (poV t p ins q a b xs):=by
 unfold impl_PartOk.f poV
 rw [iGeo_eq,within_eq]
 refine Ev.bind (Ev.now _) ?_
 by_cases g:gOk t p ins q=true
 rotate_left
 ·exact ev_neg g (ev_to (iPO_bad t p ins q a b xs rfl) (by simp only [Bool.not_eq_true] at g;rw [g,Bool.false_and]))
 refine ev_pos g (Ev.bind (Ev.now _) ?_)
 rw [g,Bool.true_and]
 by_cases ha:0≤a∧a≤16777215
 rotate_left
 ·exact ev_neg (by simpa using ha) (ev_to (iPO_bad t p ins q a b xs rfl) (by rw [decide_eq_false ha,Bool.false_and]))
 rw [decide_eq_true ha,Bool.true_and]
 refine ev_pos rfl (Ev.bind (iStatesOk_ev b p (by omega)) ?_)
 by_cases hs:stB b p=true
 rotate_left
 ·exact ev_neg hs (ev_to (iPO_bad t p ins q a b xs rfl) (by simp only [Bool.not_eq_true] at hs;rw [hs,Bool.false_and]))
 rw [hs,Bool.true_and]
 refine ev_pos rfl ?_
 by_cases hl:(xs.length:Int)=ins
 rotate_left
 ·exact ev_neg hl (ev_to (iPO_bad t p ins q a b xs rfl) (by rw [decide_eq_false hl,Bool.false_and]))
 rw [decide_eq_true hl,Bool.true_and]
 refine ev_pos hl (Ev.bind (iAre_ev a b xs hn) ?_)
 by_cases hi:inAll xs xs 0=true
 ·rw [hi,Bool.true_and]
  refine Ev.step (impl_PartOk.j0.eq_2 _ _ _ _ _ _ _ _) ?_
  exact ev_neg (by simp) (iPO_l t p ins q a b xs hn (stB_len hs).1 hb 12 0 (by omega))
 ·simp only [Bool.not_eq_true] at hi
  rw [hi,Bool.false_and]
  exact iPO_bad t p ins q a b xs (by simp)
theorem sPO_l1 (recs t p ins q a:Int) (b:List Int) (xs:List S69) (i:Nat) (hi:i < 4000000) (x:S69) (he:x.f5.length≤4000000) (N:Bool) (next:Ev (fun k=>spec_PartOk.l0 k (wrap64 (recs+(x.f4.length:Int))) (wrap64 ((i:Int)+1)) t p ins q a b xs) N):∀ j:Nat,j≤x.f5.length→Ev (fun k=>spec_PartOk.l1 k recs (i:Int) (j:Int) t p ins q a b xs x.f0 x.f1 x.f2 x.f3 x.f4 x.f5) (!((x.f5.drop j).any (fun e=>decide (e.f0 ≥ ins))) && N)
 | j,hj=>by
  refine Ev.step (spec_PartOk.l1.eq_2 _ _ _ _ _ _ _ _ _ _ _ _ _ _ _ _) ?_
  by_cases h:j < x.f5.length
  ·refine ev_pos (by omega) (ev_pos (by omega) ?_)
   rw [rdiEntry x.f5 j h,drop_at x.f5 j h,w64s j (by omega),List.any_cons]
   by_cases c:x.f5[j].f0 ≥ ins
   ·exact ev_pos c (ev_now (by rw [decide_eq_true c];simp))
   ·refine ev_neg c (ev_to (sPO_l1 recs t p ins q a b xs i hi x he N next (j+1) (by omega)) ?_)
    rw [decide_eq_false c,Bool.false_or]
  ·exact ev_neg (by omega) (ev_to next (by rw [List.drop_of_length_le (by omega)];simp))
 termination_by j=>x.f5.length - j
theorem sPO_l2 (recs t p ins q a:Int) (b:List Int) (xs:List S69) (hn:wiInodeS xs≤2000000) (us:List Int) (hu:us.length≤4000000):∀ j:Nat,j≤us.length→Ev (fun k=>spec_PartOk.l2 k recs us (j:Int) t p ins q a b xs) ((us.drop j).all (fun u=>decide (cntU u xs 0=1)) && (decide ((us.length:Int)=recs) && decide ((us.length:Int)≤q)))
 | j,hj=>by
  refine Ev.step (spec_PartOk.l2.eq_2 _ _ _ _ _ _ _ _ _ _) ?_
  by_cases h:j < us.length
  ·refine ev_pos (by omega) (ev_pos (by omega) ?_)
   rw [rd_at us j h,drop_at us j h,w64s j (by omega),List.all_cons]
   refine Ev.bind (sUsers_ev a b xs us[j] (by omega)) ?_
   by_cases c:cntU us[j] xs 0=1
   ·exact ev_pos c (ev_to (sPO_l2 recs t p ins q a b xs hn us hu (j+1) (by omega)) (by rw [decide_eq_true c,Bool.true_and]))
   ·exact ev_neg c (ev_now (by rw [decide_eq_false c];simp))
  ·refine ev_neg (by omega) ?_
   rw [List.drop_of_length_le (by omega)]
   by_cases c:(us.length:Int)=recs
   ·exact ev_pos c (ev_now (by rw [decide_eq_true c];simp))
   ·exact ev_neg c (ev_now (by rw [decide_eq_false c];simp))
 termination_by j=>us.length - j
noncomputable def spF (q:Int) (b:List Int) (xs:List S69):Bool:=(withS 2 b 0).all (fun u=>decide (cntU u xs 0=1)) && (decide (((withS 2 b 0).length:Int)=(totR xs xs.length:Int)) && decide (((withS 2 b 0).length:Int)≤q))
theorem sPO_l0 (t p ins q a:Int) (b:List Int) (xs:List S69) (hn:wiInodeS xs≤2000000) (hb:b.length≤1048576) (hins:(xs.length:Int)=ins) (h0:∀ h:0 < xs.length,xs[0].f0=2):∀ (f i:Nat),i+f=xs.length→Ev (fun k=>spec_PartOk.l0 k ((totR xs i:Nat):Int) (i:Int) t p ins q a b xs) (inAll xs (xs.drop i) i && spF q b xs)
 | 0,i,hi=>by
  have e:i=xs.length:=by omega
  subst e
  have hw:=withS_len 2 b 0
  refine Ev.step (spec_PartOk.l0.eq_2 _ _ _ _ _ _ _ _ _) ?_
  refine ev_neg (by omega) (Ev.bind (sPagesWith_ev b 2 hb) (ev_to (sPO_l2 _ t p ins q a b xs hn (withS 2 b 0) (by omega) 0 (by omega)) ?_))
  rw [List.drop_of_length_le (Nat.le_refl _),List.drop_zero]
  simp [inAll,spF]
 | f+1,i,hi=>by
  have hx:xs.length≤4000000:=by unfold wiInodeS at hn;omega
  have hm:xs[i] ∈ xs:=List.getElem_mem _
  have hbb:=inode_b (xs:=xs) (by omega) hm
  subst hins
  have ih:=sPO_l0 t p _ q a b xs hn hb rfl h0 f (i+1) (by omega)
  have ht1:=totR_le (xs:=xs) (by omega) i
  have ht2:=totR_succ xs i (by omega)
  have ht3:=totR_le (xs:=xs) (by omega) (i+1)
  refine Ev.step (spec_PartOk.l0.eq_2 _ _ _ _ _ _ _ _ _) ?_
  refine ev_pos (by omega) (ev_pos (by omega) ?_)
  rw [rdiInode xs i (by omega),drop_at xs i (by omega)]
  refine Ev.bind (okIs_ev hn hm) ?_
  have next:Ev (fun k=>spec_PartOk.l0 k (wrap64 (((totR xs i:Nat):Int)+(xs[i].f4.length:Int))) (wrap64 ((i:Int)+1)) t p (xs.length:Int) q a b xs) (inAll xs (xs.drop (i+1)) (i+1) && spF q b xs):=by
   rw [w64s i (by omega),w64 (by omega) (by omega),show ((totR xs i:Nat):Int)+(xs[i].f4.length:Int)=((totR xs (i+1):Nat):Int) by omega]
   exact ih
  have ents:=sPO_l1 ((totR xs i:Nat):Int) t p (xs.length:Int) q a b xs i (by omega) xs[i] hbb.2.1 _ next 0 (by omega)
  rw [List.drop_zero] at ents
  have j4:∀ z:Bool,Ev (fun k=>spec_PartOk.j4 k ((totR xs i:Nat):Int) (i:Int) z t p (xs.length:Int) q a b xs xs[i].f0 xs[i].f1 xs[i].f2 xs[i].f3 xs[i].f4 xs[i].f5) (!z && (!(xs[i].f5.any (fun e=>decide (e.f0 ≥ (xs.length:Int)))) && (inAll xs (xs.drop (i+1)) (i+1) && spF q b xs))):=by
   intro z
   refine Ev.step (spec_PartOk.j4.eq_2 _ _ _ _ _ _ _ _ _ _ _ _ _ _ _ _) ?_
   cases z with
   | true=>exact ev_pos rfl (ev_now rfl)
   | false=>exact ev_neg (by simp) (ev_to ents (by simp))
  have j3:∀ v:Int,v=0∨v=1→Ev (fun k=>spec_PartOk.j3 k ((totR xs i:Nat):Int) (i:Int) v t p (xs.length:Int) q a b xs xs[i].f0 xs[i].f1 xs[i].f2 xs[i].f3 xs[i].f4 xs[i].f5) ((decide (cntL (i:Int) xs 0=v) && (if v=1 then !decide (dpt xs (i:Int) 0 xs.length < 0) else true)) && (!(xs[i].f5.any (fun e=>decide (e.f0 ≥ (xs.length:Int)))) && (inAll xs (xs.drop (i+1)) (i+1) && spF q b xs))):=by
   intro v hv
   refine Ev.step (spec_PartOk.j3.eq_2 _ _ _ _ _ _ _ _ _ _ _ _ _ _ _ _) ?_
   refine Ev.bind (sLinks_ev a b xs (i:Int) (by omega)) ?_
   by_cases c:cntL (i:Int) xs 0=v
   ·refine ev_pos c ?_
    rw [decide_eq_true c,Bool.true_and]
    by_cases v1:v=1
    ·rw [if_pos v1]
     exact ev_pos v1 (Ev.bind (sDepth_ev a b xs (i:Int) (by omega) hx) (j4 _))
    ·rw [if_neg v1]
     exact ev_neg v1 (ev_to (j4 false) (by simp))
   ·refine ev_neg c (ev_to (j4 true) ?_)
    rw [decide_eq_false c];simp
  by_cases ok:okI xs[i].f0 xs[i].f1 xs[i].f2 xs[i].f3 xs[i].f4 xs[i].f5=true
  rotate_left
  ·have ok':okI xs[i].f0 xs[i].f1 xs[i].f2 xs[i].f3 xs[i].f4 xs[i].f5=false:=by simpa using ok
   exact ev_neg ok (ev_now (by simp only [inAll,inB,ok'];simp))
  refine ev_pos ok ?_
  by_cases i0:i=0
  ·refine ev_pos (by omega) ?_
   refine Ev.step (spec_PartOk.j2.eq_2 _ _ _ _ _ _ _ _ _ _ _ _ _ _ _ _ _) ?_
   refine ev_pos rfl (ev_to (j3 0 (.inl rfl)) ?_)
   have k2:xs[i].f0=2:=by subst i0;exact h0 (by omega)
   simp only [inAll,inB,ok,if_pos i0,decide_eq_true k2]
   simp [Bool.and_assoc,Bool.and_comm,Bool.and_left_comm]
  ·refine ev_neg (by omega) ?_
   refine Ev.step (spec_PartOk.j2.eq_2 _ _ _ _ _ _ _ _ _ _ _ _ _ _ _ _ _) ?_
   by_cases k0:xs[i].f0=0
   ·refine ev_pos (by simp [k0]) (ev_to (j3 0 (.inl rfl)) ?_)
    simp only [inAll,inB,ok,if_neg i0,if_pos k0]
    simp [Bool.and_assoc,Bool.and_comm,Bool.and_left_comm]
   ·refine ev_neg (by simp [k0]) (ev_to (j3 1 (.inr rfl)) ?_)
    simp only [inAll,inB,ok,if_neg i0,if_neg k0]
    simp [Bool.and_assoc,Bool.and_comm,Bool.and_left_comm]
theorem sPO_bad (t p ins q a:Int) (b:List Int) (xs:List S69) {z:Bool} (hz:z=true):Ev (fun k=>spec_PartOk.j0 k z t p ins q a b xs) false:=by
 refine Ev.step (spec_PartOk.j0.eq_2 _ _ _ _ _ _ _ _) ?_
 exact ev_pos hz (ev_now rfl)
theorem cntR_add (i:Int) (rs:List S89):∀ c:Int,cntR i rs c=c+cntR i rs 0:=by
 induction rs with
 | nil=>intro c;simp [cntR]
 | cons e r ih =>
  intro c
  simp only [cntR]
  rw [ih,ih (if wrap64 (e.f0 - 1)=i then 0+1 else 0)]
  split <;> omega
theorem cntU_add (i:Int) (xs:List S69):∀ c:Int,cntU i xs c=c+cntU i xs 0:=by
 induction xs with
 | nil=>intro c;simp [cntU]
 | cons x r ih =>
  intro c
  simp only [cntU]
  rw [ih,ih (if x.f0=1 then cntR i x.f4 0 else 0)]
  split
  ·rw [cntR_add i x.f4 c];omega
  ·omega
theorem cntU_nn (i:Int) (xs:List S69):0≤cntU i xs 0:=by
 induction xs with
 | nil=>simp [cntU]
 | cons x r ih =>
  simp only [cntU]
  rw [cntU_add]
  split
  ·have:=(cntR_b i x.f4 0).1;omega
  ·omega
def sm (g:Nat→Int):Nat→Int
 | 0=>0
 | n+1=>sm g n+g n
theorem sm_add (g h:Nat→Int):∀ n,sm (fun p=>g p+h p) n=sm g n+sm h n
 | 0=>rfl
 | n+1=>by simp only [sm];rw [sm_add g h n];omega
theorem sm_zero:∀ n,sm (fun _=>0) n=0
 | 0=>rfl
 | n+1=>by simp only [sm];rw [sm_zero n];rfl
theorem sm_congr {g h:Nat→Int}:∀ n,(∀ p,p < n→g p=h p)→sm g n=sm h n
 | 0,_=>rfl
 | n+1,e=>by simp only [sm];rw [sm_congr n (fun p hp=>e p (by omega)),e n (by omega)]
theorem sm_le {g h:Nat→Int}:∀ n,(∀ p,p < n→h p≤g p)→sm h n≤sm g n
 | 0,_=>Int.le_refl _
 | n+1,e=>by simp only [sm];have:=sm_le n (fun p hp=>e p (by omega));have:=e n (by omega);omega
theorem sm_eq {g h:Nat→Int}:∀ n,(∀ p,p < n→h p≤g p)→sm g n=sm h n→∀ p,p < n→g p=h p
 | 0,_,_,p,hp=>by omega
 | n+1,e,hs,p,hp=>by
  simp only [sm] at hs
  have h1:=sm_le n (fun p hp=>e p (by omega))
  have h2:=e n (by omega)
  by_cases c:p=n
  ·subst c;omega
  ·exact sm_eq n (fun p hp=>e p (by omega)) (by omega) p (by omega)
theorem sm_one (v:Int) (h1:1≤v) (h2:v≤12):sm (fun p=>if wrap64 (v - 1)=(p:Int) then 1 else 0) 12=1:=by
 rw [w64 (by omega) (by omega)]
 have:v=1∨v=2∨v=3∨v=4∨v=5∨v=6∨v=7∨v=8∨v=9∨v=10∨v=11∨v=12:=by omega
 rcases this with h|h|h|h|h|h|h|h|h|h|h|h <;> subst h <;> decide
theorem sm_R:∀ rs:List S89,(∀ y ∈ rs,1≤y.f0∧y.f0≤12)→sm (fun p=>cntR (p:Int) rs 0) 12=(rs.length:Int)
 | [],_=>sm_zero 12
 | e :: r,h=>by
  have he:=h e (List.mem_cons_self ..)
  have ih:=sm_R r (fun y hy=>h y (List.mem_cons_of_mem _ hy))
  have:∀ p:Nat,p < 12→cntR (p:Int) (e :: r) 0=(if wrap64 (e.f0 - 1)=(p:Int) then 1 else 0)+cntR (p:Int) r 0:=by
   intro p _
   simp only [cntR]
   rw [cntR_add]
   split <;> omega
  rw [sm_congr 12 this,sm_add,sm_one e.f0 he.1 he.2,ih,List.length_cons]
  omega
theorem sm_U:∀ xs:List S69,(∀ x ∈ xs,(∀ y ∈ x.f4,1≤y.f0∧y.f0≤12)∧(x.f0≠1→x.f4.length=0))→sm (fun p=>cntU (p:Int) xs 0) 12=((sumBy (fun x:S69=>x.f4.length) xs:Nat):Int)
 | [],_=>sm_zero 12
 | x :: r,h=>by
  have hx:=h x (List.mem_cons_self ..)
  have ih:=sm_U r (fun y hy=>h y (List.mem_cons_of_mem _ hy))
  have:∀ p:Nat,p < 12→cntU (p:Int) (x :: r) 0=(if x.f0=1 then cntR (p:Int) x.f4 0 else 0)+cntU (p:Int) r 0:=by
   intro p _
   simp only [cntU]
   rw [cntU_add]
  rw [sm_congr 12 this,sm_add,ih,sumBy_cons]
  by_cases k:x.f0=1
  ·rw [sm_congr 12 (h:=fun p=>cntR (p:Int) x.f4 0) (fun p _=>if_pos k),sm_R x.f4 hx.1];omega
  ·rw [sm_congr 12 (h:=fun _=>0) (fun p _=>if_neg k),sm_zero];have:=hx.2 k;omega
theorem withS_snoc (a x:Int):∀ (xs:List Int) (i:Nat),withS a (xs++[x]) i=withS a xs i++(if x=a then [((i+xs.length:Nat):Int)] else [])
 | [],i=>by simp [withS]
 | y :: r,i=>by
  rw [List.cons_append]
  simp only [withS]
  rw [withS_snoc a x r (i+1),show i+1+r.length=i+(y :: r).length by rw [List.length_cons];omega]
  split <;> simp
theorem sm_W (b:List Int) (P:Int) (hP:(b.length:Int)=P):∀ n:Nat,n≤b.length→sm (mU b P) n=((withS 2 (b.take n) 0).length:Int)
 | 0,_=>by simp [sm,withS]
 | n+1,h=>by
  simp only [sm]
  rw [sm_W b P hP n (by omega),List.take_succ_eq_append_getElem (by omega),withS_snoc,List.length_append]
  unfold mU
  rw [rd_at b n (by omega)]
  by_cases c:b[n]=2
  ·rw [if_pos ⟨by omega,c⟩,if_pos c];simp
  ·rw [if_neg (fun h=>c h.2),if_neg c];simp
theorem sm_W2 (b:List Int) (P:Int) (hP:(b.length:Int)=P):∀ d:Nat,sm (mU b P) (b.length+d)=((withS 2 b 0).length:Int)
 | 0=>by
  have:=sm_W b P hP b.length (Nat.le_refl _)
  rwa [List.take_length] at this
 | d+1=>by
  show sm (mU b P) (b.length+d)+mU b P (b.length+d)=_
  rw [sm_W2 b P hP d]
  unfold mU
  rw [if_neg (fun h=>by omega)];omega
theorem mem_withS (a:Int):∀ (xs:List Int) (i:Nat) (u:Int),u ∈ withS a xs i ↔ ∃ j:Nat,∃ h:j < xs.length,xs[j]=a∧u=((i+j:Nat):Int)
 | [],i,u=>by simp [withS]
 | y :: r,i,u=>by
  have ih:=mem_withS a r (i+1) u
  simp only [withS]
  constructor
  ·intro h
   have h':(y=a∧u=(i:Int))∨u ∈ withS a r (i+1):=by
    split at h
    ·rename_i c
     rcases List.mem_cons.1 h with h|h
     ·exact .inl ⟨c,h⟩
     ·exact .inr h
    ·exact .inr h
   rcases h' with ⟨c,h⟩|h
   ·exact ⟨0,by simp,c,by simpa using h⟩
   ·obtain ⟨j,hj,e1,e2⟩:=ih.1 h
    exact ⟨j+1,by simp;omega,by simpa using e1,by rw [e2];omega⟩
  ·rintro ⟨j,hj,e1,e2⟩
   cases j with
   | zero =>
    have:y=a:=by simpa using e1
    rw [if_pos this,e2];simp
   | succ j =>
    have hm:=ih.2 ⟨j,by simpa using hj,by simpa using e1,by rw [e2];omega⟩
    split
    ·exact List.mem_cons_of_mem _ hm
    ·exact hm
theorem usAll_iff (b:List Int) (P:Int) (xs:List S69):∀ f pg:Nat,usAll b P xs f pg=true ↔ ∀ d,d < f→cntU ((pg+d:Nat):Int) xs 0=mU b P (pg+d)
 | 0,pg=>by simp [usAll]
 | f+1,pg=>by
  simp only [usAll,Bool.and_eq_true,decide_eq_true_eq]
  rw [usAll_iff b P xs f (pg+1)]
  constructor
  ·rintro ⟨h1,h2⟩ d hd
   cases d with
   | zero=>exact h1
   | succ d=>have:=h2 d (by omega);rwa [show pg+1+d=pg+(d+1) by omega] at this
  ·intro h
   refine ⟨h 0 (by omega),fun d hd=>?_⟩
   have:=h (d+1) (by omega)
   rwa [show pg+(d+1)=pg+1+d by omega] at this
theorem rcAll_pages (rs:List S89):∀ (f i:Nat),i+f=rs.length→rcAll rs f i=true→∀ y ∈ rs.drop i,1≤y.f0∧y.f0≤12
 | 0,i,hi,_,y,hy=>by rw [List.drop_of_length_le (by omega)] at hy;cases hy
 | f+1,i,hi,h,y,hy=>by
  unfold rcAll at h
  split at h
  ·cases h
  rename_i h1
  split at h
  ·cases h
  have ih:=rcAll_pages rs f (i+1) (by omega) h
  rw [drop_at rs i (by omega)] at hy
  rcases List.mem_cons.1 hy with rfl|hy
  ·rw [rdiRec rs i (by omega)] at h1
   unfold recV at h1
   split at h1
   ·rename_i hc;exact hc.1
   ·exact absurd (show (⟨#[]⟩:ByteArray).toList=([]:List UInt8) by rw [b_toList]) h1
  ·exact ih y hy
theorem okI_recs {x:S69} (h:okI x.f0 x.f1 x.f2 x.f3 x.f4 x.f5=true):(∀ y ∈ x.f4,1≤y.f0∧y.f0≤12)∧(x.f0≠1→x.f4.length=0):=by
 unfold okI at h
 rw [Bool.and_eq_true] at h
 have h2:=h.2
 have nil:x.f4.length=0→(∀ y ∈ x.f4,1≤y.f0∧y.f0≤12)∧(x.f0≠1→x.f4.length=0):=by
  intro hl
  rw [List.length_eq_zero_iff] at hl
  rw [hl];simp
 split at h2
 ·exact nil (of_decide_eq_true h2).2.2.1
 ·split at h2
  ·rename_i k1
   rw [Bool.and_eq_true] at h2
   refine ⟨?_,fun c=>absurd k1 c⟩
   have:=rcAll_pages x.f4 x.f4.length 0 (by omega) h2.2
   rwa [List.drop_zero] at this
  ·split at h2
   ·rw [Bool.and_eq_true] at h2
    exact nil (of_decide_eq_true h2.1).2.2.1
   ·cases h2
theorem inAll_ok (xs:List S69):∀ (ys:List S69) (i:Nat),inAll xs ys i=true→∀ x ∈ ys,okI x.f0 x.f1 x.f2 x.f3 x.f4 x.f5=true
 | [],_,_,x,hx=>by cases hx
 | y :: r,i,h,x,hx=>by
  simp only [inAll,inB,Bool.and_eq_true] at h
  rcases List.mem_cons.1 hx with rfl|hx
  ·exact h.1.1
  ·exact inAll_ok xs r (i+1) h.2 x hx
theorem spF_eq (p q:Int) (b:List Int) (xs:List S69) (hs:stB b p=true) (hi:inAll xs xs 0=true):spF q b xs=(usAll b p xs 12 0 && decide (((withS 2 b 0).length:Int)≤q)):=by
 obtain ⟨hl,h12⟩:=stB_len hs
 have hU:=sm_U xs (fun x hx=>okI_recs (inAll_ok xs xs 0 hi x hx))
 have hT:totR xs xs.length=sumBy (fun x:S69=>x.f4.length) xs:=by unfold totR;rw [List.take_length]
 have hW:=sm_W2 b p hl (12 - b.length)
 rw [show b.length+(12 - b.length)=12 by omega] at hW
 unfold spF
 rw [← Bool.and_assoc]
 congr 1
 rw [Bool.eq_iff_iff,Bool.and_eq_true,List.all_eq_true,decide_eq_true_eq,usAll_iff,hT,← hU,← hW]
 constructor
 ·rintro ⟨h1,h2⟩ d hd
  rw [Nat.zero_add]
  refine sm_eq (g:=fun p=>cntU (p:Int) xs 0) (h:=mU b p) 12 (fun pg hpg=>?_) h2.symm d hd
  unfold mU
  split
  ·rename_i c
   have hpl:pg < b.length:=by omega
   have:=h1 (pg:Int) ((mem_withS 2 b 0 (pg:Int)).2 ⟨pg,hpl,by have:=c.2;rwa [rd_at b pg hpl] at this,by omega⟩)
   have:=of_decide_eq_true this
   omega
  ·exact cntU_nn _ xs
 ·intro h
  refine ⟨fun u hu=>?_,(sm_congr 12 (fun pg hpg=>?_)).symm⟩
  ·obtain ⟨j,hj,e1,e2⟩:=(mem_withS 2 b 0 u).1 hu
   have:=h j (by omega)
   rw [Nat.zero_add] at this e2
   rw [e2,this]
   unfold mU
   rw [if_pos ⟨by omega,by rw [rd_at b j hj];exact e1⟩]
   rfl
  ·have:=h pg hpg
   rwa [Nat.zero_add] at this
theorem sPO_ev (t p ins q a:Int) (b:List Int) (xs:List S69) (hn:wiInodeS xs≤2000000) (hb:b.length≤1048576):Ev (fun k=>spec_PartOk.f k t p ins q a b xs) (poV t p ins q a b xs):=by
 unfold spec_PartOk.f poV
 rw [sGeo_eq,l01In_eq]
 refine Ev.bind (Ev.now _) ?_
 by_cases g:gOk t p ins q=true
 rotate_left
 ·exact ev_neg g (ev_to (sPO_bad t p ins q a b xs rfl) (by simp only [Bool.not_eq_true] at g;rw [g,Bool.false_and]))
 refine ev_pos g (Ev.bind (Ev.now _) ?_)
 rw [g,Bool.true_and]
 by_cases ha:0≤a∧a≤16777215
 rotate_left
 ·exact ev_neg (by simpa using ha) (ev_to (sPO_bad t p ins q a b xs rfl) (by rw [decide_eq_false ha,Bool.false_and]))
 rw [decide_eq_true ha,Bool.true_and]
 refine ev_pos rfl (Ev.bind (sStatesOk_ev b p (by omega)) ?_)
 by_cases hs:stB b p=true
 rotate_left
 ·exact ev_neg hs (ev_to (sPO_bad t p ins q a b xs rfl) (by simp only [Bool.not_eq_true] at hs;rw [hs,Bool.false_and]))
 rw [hs,Bool.true_and]
 refine ev_pos rfl ?_
 by_cases hl:(xs.length:Int)=ins
 rotate_left
 ·exact ev_neg hl (ev_to (sPO_bad t p ins q a b xs rfl) (by rw [decide_eq_false hl,Bool.false_and]))
 rw [decide_eq_true hl,Bool.true_and]
 have hg2:2≤ins:=by unfold gOk at g;have:=of_decide_eq_true g;omega
 have h0:0 < xs.length:=by omega
 have hd:xs=xs[0] :: xs.drop 1:=by have:=drop_at xs 0 h0;rwa [List.drop_zero] at this
 have hr0:rd_T69 xs 0=xs[0]:=rdiInode xs 0 h0
 rw [hr0]
 have bad:(xs[0].f0≠2∨cntL 0 xs 0≠0)→inAll xs xs 0=false:=by
  intro hc
  have e:inAll xs xs 0=(inB xs 0 xs[0] && inAll xs (xs.drop 1) 1):=by
   conv=>lhs;arg 2;rw [hd]
   rfl
  rw [e]
  unfold inB
  rw [if_pos rfl]
  rcases hc with hc|hc
  ·rw [decide_eq_false hc];simp
  ·rw [decide_eq_false (show ¬ cntL ((0:Nat):Int) xs 0=0 from hc)];simp
 refine ev_pos hl (ev_pos (by omega) ?_)
 by_cases k2:xs[0].f0=2
 rotate_left
 ·exact ev_neg k2 (ev_to (sPO_bad t p ins q a b xs rfl) (by rw [bad (.inl k2),Bool.false_and]))
 refine ev_pos k2 (Ev.bind (sLinks_ev a b xs 0 (by omega)) ?_)
 by_cases l0:cntL 0 xs 0 > 0
 ·exact ev_to (sPO_bad t p ins q a b xs (decide_eq_true l0)) (by rw [bad (.inr (by omega)),Bool.false_and])
 rw [decide_eq_false l0]
 refine Ev.step (spec_PartOk.j0.eq_2 _ _ _ _ _ _ _ _) ?_
 refine ev_neg (by simp) (ev_to (sPO_l0 t p ins q a b xs hn hb hl (fun _=>k2) xs.length 0 (by omega)) ?_)
 rw [List.drop_zero]
 by_cases hi:inAll xs xs 0=true
 ·rw [hi,Bool.true_and,Bool.true_and];exact spF_eq p q b xs hs hi
 ·simp only [Bool.not_eq_true] at hi;rw [hi,Bool.false_and,Bool.false_and]

def fil8:List ByteArray→List ByteArray:=fun ws=>ws++List.replicate (8 - ws.length) (zb 8)
noncomputable def rcW (rs:List S89):List ByteArray:=rs.map (fun y=>recV y.f0 y.f1 y.f2)
noncomputable def enW (es:List S72):List ByteArray:=es.map (fun y=>enV y.f0 y.f1)
noncomputable def iwV (kd sz ct:Int) (mk:ByteArray) (rs:List S89) (es:List S72):List ByteArray:=if okI kd sz ct mk rs es=true then fil8 ([wdT (nt kd 1++nt sz 2++nt ct 2),wdT mk]++rcW rs++enW es) else []
theorem fil8_step (ws:List ByteArray) (h:ws.length < 8):fil8 (ws++[zb 8])=fil8 ws:=by
 unfold fil8
 rw [show 8 - ws.length=(8 - (ws++[zb 8]).length)+1 by simp;omega,List.replicate_succ,List.append_assoc,List.singleton_append]
theorem sIW_l2:∀ (f:Nat) (ws:List ByteArray),ws.length≤8000008→8≤f+ws.length→Ev (fun k=>spec_InodeWords.l2 k ws) (fil8 ws)
 | f,ws,hb,hf=>by
  refine Ev.step (spec_InodeWords.l2.eq_2 _) ?_
  by_cases h:(ws.length:Int) < 8
  ·cases f with
   | zero=>omega
   | succ f=>exact ev_pos h (Ev.bind (zeroText_ev 8 (by omega)) (ev_pos (by omega) (ev_to (sIW_l2 f (ws++[zb 8]) (by simp;omega) (by simp;omega)) (fil8_step ws (by omega)))))
  ·refine ev_neg h (ev_now ?_)
   unfold fil8
   rw [show 8 - ws.length=0 by omega];simp
theorem sIW_l1 (kd sz ct:Int) (mk:ByteArray) (rs:List S89) (es:List S72) (hr:es.length≤4000000) (hs:∀ y ∈ es,y.f1.size≤2000000):∀ (i:Nat) (ws:List ByteArray),i≤es.length→ws.length≤4000002+i→Ev (fun k=>spec_InodeWords.l1 k ws (i:Int) kd sz ct mk rs es) (fil8 (ws++enW (es.drop i)))
 | i,ws,hi,hw=>by
  refine Ev.step (spec_InodeWords.l1.eq_2 _ _ _ _ _ _ _ _) ?_
  by_cases h:i < es.length
  ·refine ev_pos (by omega) (ev_pos (by omega) ?_)
   rw [rdiEntry es i h,w64s i (by omega),drop_at es i h]
   refine Ev.bind (sEnt_ev _ _ (hs _ (List.getElem_mem _))) (ev_pos (by omega) (ev_to (sIW_l1 kd sz ct mk rs es hr hs (i+1) _ (by omega) (by simp;omega)) ?_))
   unfold enW;rw [List.map_cons,List.append_assoc,List.singleton_append]
  ·refine ev_neg (by omega) (ev_to (sIW_l2 8 ws (by omega) (by omega)) ?_)
   rw [List.drop_of_length_le (by omega)];simp [enW]
 termination_by i=>es.length - i
theorem sIW_l0 (kd sz ct:Int) (mk:ByteArray) (rs:List S89) (es:List S72) (hr:rs.length≤4000000) (he:es.length≤4000000) (hs:∀ y ∈ rs,y.f2.size≤4000000) (hz:∀ y ∈ es,y.f1.size≤2000000):∀ (i:Nat) (ws:List ByteArray),i≤rs.length→ws.length≤2+i→Ev (fun k=>spec_InodeWords.l0 k ws (i:Int) kd sz ct mk rs es) (fil8 (ws++rcW (rs.drop i)++enW es))
 | i,ws,hi,hw=>by
  refine Ev.step (spec_InodeWords.l0.eq_2 _ _ _ _ _ _ _ _) ?_
  by_cases h:i < rs.length
  ·refine ev_pos (by omega) (ev_pos (by omega) ?_)
   rw [rdiRec rs i h,w64s i (by omega),drop_at rs i h]
   refine Ev.bind (sRec_ev _ _ _ (hs _ (List.getElem_mem _))) (ev_pos (by omega) (ev_to (sIW_l0 kd sz ct mk rs es hr he hs hz (i+1) _ (by omega) (by simp;omega)) ?_))
   unfold rcW;rw [List.map_cons,List.append_assoc ws,List.singleton_append]
  ·refine ev_neg (by omega) (ev_to (sIW_l1 kd sz ct mk rs es he hz 0 ws (Nat.zero_le _) (by omega)) ?_)
   rw [List.drop_zero,List.drop_of_length_le (show rs.length≤i by omega)];simp [rcW]
 termination_by i=>rs.length - i
theorem sIW_ev (kd sz ct:Int) (mk:ByteArray) (rs:List S89) (es:List S72) (hm:mk.size≤4000000) (hr:rs.length≤4000000) (he:es.length≤4000000) (hs:∀ y ∈ rs,y.f2.size≤4000000) (hz:∀ y ∈ es,y.f1.size≤2000000):Ev (fun k=>spec_InodeWords.f k kd sz ct mk rs es) (iwV kd sz ct mk rs es):=by
 unfold spec_InodeWords.f iwV
 refine Ev.bind (sOkI_ev kd sz ct mk rs es hr he hs hz) ?_
 by_cases h:okI kd sz ct mk rs es=true
 ·have z1:=nt_size kd 1
  have z2:=nt_size sz 2
  have z3:=nt_size ct 2
  rw [if_pos h]
  refine ev_pos h (Ev.bind (sNum_ev kd 1 (by omega) (by omega)) (Ev.bind (sNum_ev sz 2 (by omega) (by omega)) (ev_pos (by omega) (Ev.bind (sNum_ev ct 2 (by omega) (by omega)) (ev_pos (by rw [ByteArray.size_append];omega) (Ev.bind (sWord_ev _ (by rw [ByteArray.size_append,ByteArray.size_append];omega)) (Ev.bind (sWord_ev mk hm) ?_)))))))
  exact ev_to (sIW_l0 kd sz ct mk rs es hr he hs hz 0 _ (by omega) (by simp)) (by rw [List.drop_zero])
 ·rw [if_neg h];exact ev_neg h (ev_now rfl)
theorem zeroWord_eq:impl_zeroWord.f=some (zb 8):=by
 unfold impl_zeroWord.f
 rw [padded_eq _ 8 (by omega) (by omega) (by decide),Option.bind_some]
 congr 1
theorem iIW_l2:∀ (f:Nat) (ws:List ByteArray),ws.length≤8000008→8≤f+ws.length→Ev (fun k=>impl_inodeText.l2 k ws) (fil8 ws)
 | f,ws,hb,hf=>by
  refine Ev.step (impl_inodeText.l2.eq_2 _) ?_
  by_cases h:(ws.length:Int) < 8
  ·cases f with
   | zero=>omega
   | succ f=>exact ev_pos h (Ev.bind (ev_eq zeroWord_eq) (ev_pos (by omega) (ev_to (iIW_l2 f (ws++[zb 8]) (by simp;omega) (by simp;omega)) (fil8_step ws (by omega)))))
  ·refine ev_neg h (ev_now ?_)
   unfold fil8
   rw [show 8 - ws.length=0 by omega];simp
theorem iIW_l1 (es:List S72) (hr:es.length≤4000000) (hs:∀ y ∈ es,y.f1.size≤2000000):∀ (i:Nat) (ws:List ByteArray),i≤es.length→ws.length≤4000002+i→Ev (fun k=>impl_inodeText.l1 k ws es (es.length:Int) (i:Int)) (fil8 (ws++enW (es.drop i)))
 | i,ws,hi,hw=>by
  refine Ev.step (impl_inodeText.l1.eq_2 _ _ _ _) ?_
  by_cases h:i < es.length
  ·refine ev_pos (by omega) (ev_pos (by omega) (ev_pos (by omega) ?_))
   rw [rdiEntry es i h,w64s i (by omega),drop_at es i h]
   refine Ev.bind (iEnt_ev _ _ (hs _ (List.getElem_mem _))) (ev_pos (by omega) (ev_to (iIW_l1 es hr hs (i+1) _ (by omega) (by simp;omega)) ?_))
   unfold enW;rw [List.map_cons,List.append_assoc,List.singleton_append]
  ·refine ev_neg (by omega) (ev_to (iIW_l2 8 ws (by omega) (by omega)) ?_)
   rw [List.drop_of_length_le (by omega)];simp [enW]
 termination_by i=>es.length - i
theorem iIW_l0 (kd sz ct:Int) (mk:ByteArray) (rs:List S89) (es:List S72) (hr:rs.length≤4000000) (he:es.length≤4000000) (hs:∀ y ∈ rs,y.f2.size≤4000000) (hz:∀ y ∈ es,y.f1.size≤2000000):∀ (i:Nat) (ws:List ByteArray),i≤rs.length→ws.length≤2+i→Ev (fun k=>impl_inodeText.l0 k ws rs (rs.length:Int) (i:Int) kd sz ct mk rs es) (fil8 (ws++rcW (rs.drop i)++enW es))
 | i,ws,hi,hw=>by
  refine Ev.step (impl_inodeText.l0.eq_2 _ _ _ _ _ _ _ _ _ _) ?_
  by_cases h:i < rs.length
  ·refine ev_pos (by omega) (ev_pos (by omega) (ev_pos (by omega) ?_))
   rw [rdiRec rs i h,w64s i (by omega),drop_at rs i h]
   refine Ev.bind (iRec_ev _ _ _ (hs _ (List.getElem_mem _))) (ev_pos (by omega) (ev_to (iIW_l0 kd sz ct mk rs es hr he hs hz (i+1) _ (by omega) (by simp;omega)) ?_))
   unfold rcW;rw [List.map_cons,List.append_assoc ws,List.singleton_append]
  ·refine ev_neg (by omega) (ev_to (iIW_l1 es he hz 0 ws (Nat.zero_le _) (by omega)) ?_)
   rw [List.drop_zero,List.drop_of_length_le (show rs.length≤i by omega)];simp [rcW]
 termination_by i=>rs.length - i
theorem iIT_ev (kd sz ct:Int) (mk:ByteArray) (rs:List S89) (es:List S72) (hm:mk.size≤4000000) (hr:rs.length≤4000000) (he:es.length≤4000000) (hs:∀ y ∈ rs,y.f2.size≤4000000) (hz:∀ y ∈ es,y.f1.size≤2000000):Ev (fun k=>impl_inodeText.f k kd sz ct mk rs es) (fil8 ([wdT (nt kd 1++nt sz 2++nt ct 2),wdT mk]++rcW rs++enW es)):=by
 have z1:=nt_size kd 1
 have z2:=nt_size sz 2
 have z3:=nt_size ct 2
 unfold impl_inodeText.f
 refine Ev.bind (iNum_ev kd 1 (by omega) (by omega)) (Ev.bind (iNum_ev sz 2 (by omega) (by omega)) (ev_pos (by omega) (Ev.bind (iNum_ev ct 2 (by omega) (by omega)) (ev_pos (by rw [ByteArray.size_append];omega) (Ev.bind (ev_eq (iWord_eq _ (by rw [ByteArray.size_append,ByteArray.size_append];omega))) (Ev.bind (ev_eq (iWord_eq mk hm)) ?_))))))
 exact ev_to (iIW_l0 kd sz ct mk rs es hr he hs hz 0 _ (by omega) (by simp)) (by rw [List.drop_zero])

def stB16 (xs:List Int):List Int:=xs++List.replicate (16 - xs.length) 0
def stW (xs:List Int):List ByteArray:=if stB xs xs.length=true then [strOfNums ((stB16 xs).take 8),strOfNums ((stB16 xs).drop 8)] else []
theorem stW_len (xs:List Int):(stW xs).length≤2:=by unfold stW;split <;> simp
theorem stB_parts {xs:List Int} (h:stB xs xs.length=true):xs.length≤12∧∀ n ∈ xs,0≤n∧n≤2:=by
 simp only [stB,Bool.and_eq_true,decide_eq_true_eq] at h
 exact ⟨by omega,okL_mem h.1⟩
theorem son_cut (l:List Int) (i j:Nat):(strOfNums l).extract i j=strOfNums ((l.take j).drop i):=by
 refine b_inj ?_
 rw [b_cut,strOfNums_data,strOfNums_data,List.map_drop,List.map_take]
theorem son_zeros (l:List Int) (n:Nat):strOfNums (l++List.replicate n 0)=strOfNums l++zb n:=by
 refine b_inj ?_
 rw [b_app,strOfNums_data,strOfNums_data,zb_list,List.map_append,List.map_replicate]
 rfl

theorem sSW_l (xs:List Int) (hl:xs.length≤12) (hv:∀ n ∈ xs,0≤n∧n≤2):∀ i:Nat,i≤xs.length→Ev (fun k=>spec_StatesWords.l0 k xs (xs.take i++List.replicate (16 - i) 0) i) [strOfNums ((stB16 xs).take 8),strOfNums ((stB16 xs).drop 8)]
 | i,hi=>by
  refine Ev.step (spec_StatesWords.l0.eq_2 _ _ _) ?_
  have hlen:(xs.take i++List.replicate (16 - i) (0:Int)).length=16:=by simp;omega
  by_cases h:i < xs.length
  ·refine ev_pos (by omega) (ev_pos (by omega) (ev_pos (by omega) ?_))
   have hb:=hv _ (List.getElem_mem h)
   rw [rd_at _ i h,w64s i (by omega),Int.toNat_natCast,show xs[i] % 256=xs[i] by omega]
   have e:(xs.take i++List.replicate (16 - i) (0:Int)).set i xs[i]=xs.take (i+1)++List.replicate (16 - (i+1)) 0:=by
    rw [List.set_append_right _ _ (by simp;omega),List.length_take,Nat.min_eq_left (by omega),Nat.sub_self,show 16 - i=(16 - (i+1))+1 by omega,List.replicate_succ,List.set_cons_zero,List.take_succ_eq_append_getElem h,List.append_assoc]
    rfl
   rw [e]
   exact sSW_l xs hl hv (i+1) (by omega)
  ·have:i=xs.length:=by omega
   subst this
   rw [List.take_length]
   refine ev_neg (by omega) (ev_pos ?_ (ev_now rfl))
   rw [List.take_length] at hlen
   omega
 termination_by i=>xs.length - i
theorem sSW_ev (xs:List Int) (hn:xs.length≤4000000):Ev (fun k=>spec_StatesWords.f k xs) (stW xs):=by
 unfold spec_StatesWords.f
 refine Ev.bind (sStatesOk_ev xs xs.length hn) ?_
 unfold stW
 by_cases h:stB xs xs.length=true
 ·obtain ⟨h1,h2⟩:=stB_parts h
  have:=sSW_l xs h1 h2 0 (by omega)
  exact ev_pos h (ev_to this (by rw [if_pos h]))
 ·exact ev_neg h (ev_now (by rw [if_neg h]))

theorem pad8 (s:ByteArray) (h:s.size=8):impl_padded.f s 8=some s:=by
 rw [padded_eq s 8 (by omega) (by omega) (by omega),h]
 congr 1
 refine b_inj ?_
 rw [b_app,show (8 - ((8:Nat):Int)).toNat=0 from rfl,zb_list]
 simp
theorem wordsOf16 (l:List Int) (hl:l.length=16):Ev (fun k=>impl_wordsOf.f k (strOfNums l)) [strOfNums (l.take 8),strOfNums (l.drop 8)]:=by
 have hz:(strOfNums l).size=16:=by rw [strOfNums_size,hl]
 have w1:wrap64 (0+8)=8:=by have:=w64 (x:=0+8) (by omega) (by omega);omega
 have w2:wrap64 (8+8)=16:=by have:=w64 (x:=8+8) (by omega) (by omega);omega
 have m1:mn (wrap64 (0+8)) (((strOfNums l).size:Nat):Int)=8:=by rw [hz,w1];decide
 have m2:mn (wrap64 (8+8)) (((strOfNums l).size:Nat):Int)=16:=by rw [hz,w2];decide
 have e1:(strOfNums l).extract (0:Int).toNat (8:Int).toNat=strOfNums (l.take 8):=by rw [son_cut];simp
 have e2:(strOfNums l).extract (8:Int).toNat (16:Int).toNat=strOfNums (l.drop 8):=by rw [son_cut,List.take_of_length_le (show l.length≤(16:Int).toNat by rw [hl];decide)];rfl
 have s1:(strOfNums (l.take 8)).size=8:=by rw [strOfNums_size,List.length_take];omega
 have s2:(strOfNums (l.drop 8)).size=8:=by rw [strOfNums_size,List.length_drop];omega
 unfold impl_wordsOf.f
 refine Ev.step (impl_wordsOf.l0.eq_2 _ _ _) ?_
 rw [m1,e1,pad8 _ s1]
 refine ev_pos (by omega) (ev_pos (by omega) (ev_pos (by omega) (ev_pos (by omega) (Ev.bind (Ev.now _) (ev_pos (by simp) ?_)))))
 rw [w1]
 refine Ev.step (impl_wordsOf.l0.eq_2 _ _ _) ?_
 rw [m2,e2,pad8 _ s2]
 refine ev_pos (by omega) (ev_pos (by omega) (ev_pos (by omega) (ev_pos (by omega) (Ev.bind (Ev.now _) (ev_pos (by simp) ?_)))))
 rw [w2]
 refine Ev.step (impl_wordsOf.l0.eq_2 _ _ _) ?_
 exact ev_neg (by omega) (ev_now rfl)

theorem iSW_l (xs:List Int) (hl:xs.length≤12) (hv:∀ n ∈ xs,0≤n∧n≤2):∀ i:Nat,i≤xs.length→Ev (fun k=>impl_StatesWords.l0 k (xs.take i) xs xs.length i) [strOfNums ((stB16 xs).take 8),strOfNums ((stB16 xs).drop 8)]
 | i,hi=>by
  refine Ev.step (impl_StatesWords.l0.eq_2 _ _ _ _) ?_
  by_cases h:i < xs.length
  ·have hb:=hv _ (List.getElem_mem h)
   refine ev_pos (by omega) (ev_pos (by omega) (ev_pos (by omega) (ev_pos (by rw [List.length_take];omega) ?_)))
   rw [rd_at _ i h,w64s i (by omega),show xs[i] % 256=xs[i] by omega,← List.take_succ_eq_append_getElem h]
   exact iSW_l xs hl hv (i+1) (by omega)
  ·have:i=xs.length:=by omega
   subst this
   rw [List.take_length]
   have hz:(strOfNums xs).size=xs.length:=strOfNums_size xs
   have e:strOfNums xs++zb ((16:Int) - ((strOfNums xs).size:Int)).toNat=strOfNums (stB16 xs):=by
    unfold stB16
    rw [son_zeros,hz]
    congr 2
    omega
   refine ev_neg (by omega) (Ev.bind (ev_eq (padded_eq _ 16 (by omega) (by omega) (by omega))) ?_)
   rw [e]
   exact Ev.bind (wordsOf16 _ (by unfold stB16;simp;omega)) (ev_now rfl)
 termination_by i=>xs.length - i
theorem iSW_ev (xs:List Int) (hn:xs.length≤4000000):Ev (fun k=>impl_StatesWords.f k xs) (stW xs):=by
 unfold impl_StatesWords.f
 refine Ev.bind (iStatesOk_ev xs xs.length hn) ?_
 unfold stW
 by_cases h:stB xs xs.length=true
 ·obtain ⟨h1,h2⟩:=stB_parts h
  have:=iSW_l xs h1 h2 0 (by omega)
  exact ev_pos h (ev_to this (by rw [if_pos h]))
 ·exact ev_neg h (ev_now (by rw [if_neg h]))

theorem sPW_eq {t p i q:Int} (h:gOk t p i q=true):spec_PartWords.f t p i q=some (pW p i):=by
 obtain ⟨h1,h2,h3,h4⟩:=gOk_parts h
 unfold spec_PartWords.f pW
 rw [sGeo_eq,h,Option.bind_some,if_pos rfl,w64 (x:=8 * i) (by omega) (by omega),w64 (x:=4 * p) (by omega) (by omega),w64 (x:=38+8 * i) (by omega) (by omega),w64 (by omega) (by omega)]
theorem iPW_eq {t p i q:Int} (h:gOk t p i q=true):impl_Geo_partWords.f t p i q=some (pW p i):=by
 obtain ⟨h1,h2,h3,h4⟩:=gOk_parts h
 unfold impl_Geo_partWords.f pW
 rw [w64 (x:=8 * i) (by omega) (by omega),w64 (x:=4 * p) (by omega) (by omega),w64 (x:=38+8 * i) (by omega) (by omega),w64 (by omega) (by omega)]
theorem mul3 {a w:Int} (h0:0≤a) (h1:a≤2) (hw0:0≤w) (hw:w≤200):0≤a * w∧a * w≤400:=by
 have:a=0∨a=1∨a=2:=by omega
 rcases this with h|h|h <;> subst h <;> omega
theorem rdiWrite (xs:List S53) (i:Nat) (h:i < xs.length):rd_T53 xs (i:Int)=xs[i]:=getD_at _ xs i h


theorem eqWrite_ev (x:S53):Ev (fun _=>laws_eqWrite.f x.f0 x.f1 x.f0 x.f1) true:=ev_eq (by simp [laws_eqWrite.f])
theorem sAt_eq {t p i q a:Int} (hg:gOk t p i q=true) (ha:0≤a∧a≤t - 1) (m:Int) (h0:0≤m) (h1:m≤200):spec_l11At.f t p i q a m=some (a * pW p i+m):=by
 obtain ⟨g1,g2,g3,g4⟩:=gOk_parts hg
 have hm:=mul3 (a:=a) (w:=pW p i) ha.1 (by omega) (by unfold pW;omega) (by unfold pW;omega)
 unfold spec_l11At.f
 rw [sGeo_eq,Option.bind_some,if_pos hg,w64 (x:=t - 1) (by omega) (by omega),l01In_eq,Option.bind_some,if_pos (by simpa using ha),sPW_eq hg,Option.bind_some,w64 (x:=a * pW p i) (by omega) (by omega),w64 (by omega) (by omega)]
theorem sCommit_eq {t p i q:Int} (hg:gOk t p i q=true) (a:Int):spec_CommitAt.f t p i q a=some (if 0≤a∧a≤t - 1 then a * pW p i else -1):=by
 obtain ⟨g1,g2,g3,g4⟩:=gOk_parts hg
 unfold spec_CommitAt.f
 by_cases ha:0≤a∧a≤t - 1
 ·rw [sAt_eq hg ha 0 (by omega) (by omega),Option.bind_some,if_pos ha,Int.add_zero]
 ·unfold spec_l11At.f
  rw [sGeo_eq,Option.bind_some,if_pos hg,w64 (x:=t - 1) (by omega) (by omega),l01In_eq,Option.bind_some,if_neg (by simpa using ha),Option.bind_some,if_neg ha]
theorem iTen_eq {t p i q:Int} (hg:gOk t p i q=true) (a:Int):impl_isTenant.f t p i q a=some (decide (0≤a∧a≤t - 1)):=by
 obtain ⟨g1,g2,g3,g4⟩:=gOk_parts hg
 unfold impl_isTenant.f
 rw [iGeo_eq,Option.bind_some,if_pos hg,w64 (x:=t - 1) (by omega) (by omega),within_eq,Option.bind_some]
theorem iIn_eq {t p i q a:Int} (hg:gOk t p i q=true) (ha:0≤a∧a≤t - 1) (m:Int) (h0:0≤m) (h1:m≤200):impl_inPart.f t p i q a true m=some (a * pW p i+m):=by
 obtain ⟨g1,g2,g3,g4⟩:=gOk_parts hg
 have hm:=mul3 (a:=a) (w:=pW p i) ha.1 (by omega) (by unfold pW;omega) (by unfold pW;omega)
 unfold impl_inPart.f
 rw [iTen_eq hg,Option.bind_some,if_pos (by simpa using ha),if_pos rfl,iPW_eq hg,Option.bind_some,w64 (x:=a * pW p i) (by omega) (by omega),w64 (by omega) (by omega)]
theorem iStAt_eq {t p i q a:Int} (hg:gOk t p i q=true) (ha:0≤a∧a≤t - 1):impl_statesAt.f t p i q a=some (a * pW p i+36):=by
 unfold impl_statesAt.f
 rw [iIn_eq hg ha 36 (by omega) (by omega),Option.bind_some]
theorem sInAt_eq {t p i q a:Int} (hg:gOk t p i q=true) (ha:0≤a∧a≤t - 1) (k:Int) (hk:0≤k∧k≤i - 1):spec_InodeAt.f t p i q a k=some (a * pW p i+(38+8 * k)):=by
 obtain ⟨g1,g2,g3,g4⟩:=gOk_parts hg
 unfold spec_InodeAt.f
 rw [sGeo_eq,Option.bind_some,if_pos hg,w64 (x:=i - 1) (by omega) (by omega),l01In_eq,Option.bind_some,if_pos (by simpa using hk),w64 (x:=8 * k) (by omega) (by omega),w64 (x:=38+8 * k) (by omega) (by omega),sAt_eq hg ha _ (by omega) (by omega),Option.bind_some]
theorem iInAt_eq {t p i q a:Int} (hg:gOk t p i q=true) (ha:0≤a∧a≤t - 1) (k:Int) (hk:0≤k∧k≤i - 1):impl_InodeAt.f t p i q a k=some (a * pW p i+(38+8 * k)):=by
 obtain ⟨g1,g2,g3,g4⟩:=gOk_parts hg
 unfold impl_InodeAt.f
 rw [w64 (x:=i - 1) (by omega) (by omega),within_eq,Option.bind_some,decide_eq_true hk,w64 (x:=8 * k) (by omega) (by omega),w64 (x:=38+8 * k) (by omega) (by omega),iIn_eq hg ha _ (by omega) (by omega),Option.bind_some]
def wrl (a:Int):Nat→List ByteArray→List S53
 | _,[]=>[]
 | i,w :: r=>⟨wrap64 (a+(i:Int)),w⟩ :: wrl a (i+1) r
theorem wrl_len (a:Int):∀ (ws:List ByteArray) (i:Nat),(wrl a i ws).length=ws.length
 | [],_=>rfl
 | _ :: r,i=>by simp [wrl,wrl_len a r (i+1)]
noncomputable def inW (x:S69):List ByteArray:=fil8 ([wdT (nt x.f0 1++nt x.f1 2++nt x.f2 2),wdT x.f3]++rcW x.f4++enW x.f5)
theorem inW_len (x:S69):(inW x).length≤10+x.f4.length+x.f5.length:=by unfold inW fil8 rcW enW;simp;omega
noncomputable def pwI (A:Int):Nat→List S69→List S53
 | _,[]=>[]
 | i,x :: r=>wrl (A+(38+8 * (i:Int))) 0 (inW x)++pwI A (i+1) r
def bdI (xs:List S69):Nat:=sumBy (fun x:S69=>10+x.f4.length+x.f5.length) xs
theorem bdI_cons (x:S69) (r:List S69):bdI (x :: r)=(10+x.f4.length+x.f5.length)+bdI r:=by unfold bdI;rw [sumBy_cons]
theorem bdI_le:∀ xs:List S69,bdI xs≤10 * xs.length+sumBy wiInode xs
 | []=>by simp [bdI,sumBy]
 | x :: r=>by
  have ih:=bdI_le r
  have hx:x.f4.length+x.f5.length≤wiInode x:=by unfold wiInode wiRecS wiEntryS;omega
  rw [bdI_cons,sumBy_cons,List.length_cons]
  omega
theorem pwI_len (A:Int):∀ (xs:List S69) (i:Nat),(pwI A i xs).length≤bdI xs
 | [],_=>by simp [pwI]
 | x :: r,i=>by
  have ih:=pwI_len A r (i+1)
  have:=inW_len x
  rw [bdI_cons]
  simp only [pwI,List.length_append,wrl_len]
  omega
theorem sIWx_ev {xs:List S69} (hn:wiInodeS xs≤2000000) {x:S69} (h:x ∈ xs) (hok:okI x.f0 x.f1 x.f2 x.f3 x.f4 x.f5=true):Ev (fun k=>spec_InodeWords.f k x.f0 x.f1 x.f2 x.f3 x.f4 x.f5) (inW x):=by
 have hb:=inode_b (xs:=xs) (by omega) h
 have h1:=sumBy_mem (f:=wiInode) h
 unfold wiInodeS at hn
 unfold wiInode at h1 hn
 refine ev_to (sIW_ev x.f0 x.f1 x.f2 x.f3 x.f4 x.f5 (by omega) hb.1 hb.2.1 hb.2.2.1 (fun y hy=>?_)) (by unfold iwV;rw [if_pos hok];rfl)
 have h2:=sumBy_mem (f:=wiEntry) hy
 unfold wiEntryS at h1 hn
 simp only [wiEntry] at h2
 omega
theorem iITx_ev {xs:List S69} (hn:wiInodeS xs≤2000000) {x:S69} (h:x ∈ xs):Ev (fun k=>impl_inodeText.f k x.f0 x.f1 x.f2 x.f3 x.f4 x.f5) (inW x):=by
 have hb:=inode_b (xs:=xs) (by omega) h
 have h1:=sumBy_mem (f:=wiInode) h
 unfold wiInodeS at hn
 unfold wiInode at h1 hn
 refine iIT_ev x.f0 x.f1 x.f2 x.f3 x.f4 x.f5 (by omega) hb.1 hb.2.1 hb.2.2.1 (fun y hy=>?_)
 have h2:=sumBy_mem (f:=wiEntry) hy
 unfold wiEntryS at h1 hn
 simp only [wiEntry] at h2
 omega
section
variable {t p ins q a s:Int} {b:List Int} {xs:List S69}
theorem sLW_l2 (hg:gOk t p ins q=true) (ha:0≤a∧a≤t - 1) (ws:List ByteArray) (j:Nat) (hj:(j:Int)≤ins - 1) (R:List S53):∀ (f m:Nat) (out:List S53),m+f=ws.length→ws.length≤4000000→out.length+f≤100000000 →
  Ev (fun k=>spec_l14Writes.l1 k a (out++wrl (a * pW p ins+(38+8 * (j:Int))) m (ws.drop m)) ((j+1:Nat):Int) t p ins q s b xs) R→Ev (fun k=>spec_l14Writes.l2 k a out ws (j:Int) (m:Int) t p ins q s b xs) R:=by
 intro f
 induction f with
 | zero =>
  intro m out hm hw ho hR
  refine Ev.step (spec_l14Writes.l2.eq_2 _ _ _ _ _ _ _ _ _ _ _ _) ?_
  refine ev_neg (by omega) ?_
  rw [w64s j (by have:=gOk_parts hg;omega)]
  rw [List.drop_of_length_le (by omega),wrl,List.append_nil] at hR
  exact hR
 | succ f ih =>
  intro m out hm hw ho hR
  have hlt:m < ws.length:=by omega
  refine Ev.step (spec_l14Writes.l2.eq_2 _ _ _ _ _ _ _ _ _ _ _ _) ?_
  refine ev_pos (by omega) (Ev.bind (ev_eq (sInAt_eq hg ha (j:Int) ⟨by omega,hj⟩)) (ev_pos (by omega) (ev_pos (by omega) ?_)))
  rw [w64s m (by omega),rdOf_at _ _ m hlt]
  refine ih (m+1) _ (by omega) hw (by simp;omega) ?_
  rw [drop_at ws m hlt,wrl] at hR
  rw [List.append_assoc,List.singleton_append]
  exact hR
theorem sLW_l1 (hg:gOk t p ins q=true) (ha:0≤a∧a≤t - 1) (hn:wiInodeS xs≤2000000) (hl:(xs.length:Int)=ins) (hok:∀ x ∈ xs,okI x.f0 x.f1 x.f2 x.f3 x.f4 x.f5=true):∀ (f j:Nat) (out:List S53),j+f=xs.length→out.length+bdI (xs.drop j)≤90000000 →
  Ev (fun k=>spec_l14Writes.l1 k a out (j:Int) t p ins q s b xs) (out++pwI (a * pW p ins) j (xs.drop j)):=by
 intro f
 induction f with
 | zero =>
  intro j out hj ho
  refine Ev.step (spec_l14Writes.l1.eq_2 _ _ _ _ _ _ _ _ _ _) ?_
  refine ev_neg (by omega) (ev_now ?_)
  rw [List.drop_of_length_le (by omega),pwI,List.append_nil]
 | succ f ih =>
  intro j out hj ho
  have hlt:j < xs.length:=by omega
  have hm:=List.getElem_mem hlt
  have hb:=inode_b (xs:=xs) (by omega) hm
  have hwl:=inW_len xs[j]
  rw [drop_at xs j hlt,bdI_cons] at ho
  refine Ev.step (spec_l14Writes.l1.eq_2 _ _ _ _ _ _ _ _ _ _) ?_
  refine ev_pos (by omega) (ev_pos (by omega) ?_)
  rw [rdiInode xs j hlt]
  refine Ev.bind (sIWx_ev hn hm (hok _ hm)) ?_
  refine sLW_l2 hg ha (inW xs[j]) j (by omega) _ (inW xs[j]).length 0 out (by omega) (by unfold wiInodeS at hn;have h1:=sumBy_mem (f:=wiInode) hm;unfold wiInode wiRecS wiEntryS at h1 hn;omega) (by omega) ?_
  rw [List.drop_zero]
  refine ev_to (ih (j+1) _ (by omega) (by rw [List.length_append,wrl_len];omega)) ?_
  rw [drop_at xs j hlt,pwI,List.append_assoc]
theorem sLW_l0 (hg:gOk t p ins q=true) (ws:List ByteArray) (A:Int) (R:List S53):∀ (f m:Nat) (out:List S53),m+f=ws.length→ws.length≤4000000→out.length+f≤100000000 →
  Ev (fun k=>spec_l14Writes.l1 k a (out++wrl A m (ws.drop m)) 0 t p ins q s b xs) R→Ev (fun k=>spec_l14Writes.l0 k a out ws A (m:Int) t p ins q s b xs) R:=by
 intro f
 induction f with
 | zero =>
  intro m out hm hw ho hR
  refine Ev.step (spec_l14Writes.l0.eq_2 _ _ _ _ _ _ _ _ _ _ _ _) ?_
  refine ev_neg (by omega) ?_
  rw [List.drop_of_length_le (by omega),wrl,List.append_nil] at hR
  exact hR
 | succ f ih =>
  intro m out hm hw ho hR
  have hlt:m < ws.length:=by omega
  refine Ev.step (spec_l14Writes.l0.eq_2 _ _ _ _ _ _ _ _ _ _ _ _) ?_
  refine ev_pos (by omega) (ev_pos (by omega) (ev_pos (by omega) ?_))
  rw [w64s m (by omega),rdOf_at _ _ m hlt]
  refine ih (m+1) _ (by omega) hw (by simp;omega) ?_
  rw [drop_at ws m hlt,wrl] at hR
  rw [List.append_assoc,List.singleton_append]
  exact hR
noncomputable def lwV (t p ins q a:Int) (b:List Int) (xs:List S69):List S53:=wrl (a * pW p ins+36) 0 (stW b)++pwI (a * pW p ins) 0 xs
theorem lwV_len:(lwV t p ins q a b xs).length≤2+bdI xs:=by
 unfold lwV
 have h1:=stW_len b
 have h2:=pwI_len (a * pW p ins) xs 0
 rw [List.length_append,wrl_len]
 omega
theorem sLW_ev (hg:gOk t p ins q=true) (ha:0≤a∧a≤t - 1) (hn:wiInodeS xs≤2000000) (hl:(xs.length:Int)=ins) (hb:b.length≤1048576) (hok:∀ x ∈ xs,okI x.f0 x.f1 x.f2 x.f3 x.f4 x.f5=true):Ev (fun k=>spec_l14Writes.f k t p ins q a s b xs) (lwV t p ins q a b xs):=by
 have hw:=stW_len b
 have hbd:=bdI_le xs
 unfold spec_l14Writes.f
 refine Ev.bind (sSW_ev b (by omega)) (Ev.bind (ev_eq (sAt_eq hg ha 36 (by omega) (by omega))) ?_)
 refine sLW_l0 hg (stW b) _ _ (stW b).length 0 [] (by omega) (by omega) (by simp;omega) ?_
 rw [List.drop_zero,List.nil_append]
 have:=sLW_l1 (s:=s) (b:=b) hg ha hn hl hok xs.length 0 (wrl (a * pW p ins+36) 0 (stW b)) (by omega) (by rw [wrl_len,List.drop_zero];unfold wiInodeS at hn;omega)
 rw [List.drop_zero] at this
 exact this
theorem iLW_l2 (hg:gOk t p ins q=true) (ha:0≤a∧a≤t - 1) (ws:List ByteArray) (j:Nat) (hj:(j:Int)≤ins - 1) (R:List S53):∀ (f m:Nat) (out:List S53),m+f=ws.length→ws.length≤4000000→out.length+f≤100000000 →
  Ev (fun k=>impl_partWrites.l1 k a (out++wrl (a * pW p ins+(38+8 * (j:Int))) m (ws.drop m)) xs (xs.length:Int) ((j+1:Nat):Int) t p ins q) R→Ev (fun k=>impl_partWrites.l2 k a out (j:Int) xs (xs.length:Int) (j:Int) ws (ws.length:Int) (m:Int) t p ins q) R:=by
 intro f
 induction f with
 | zero =>
  intro m out hm hw ho hR
  refine Ev.step (impl_partWrites.l2.eq_2 _ _ _ _ _ _ _ _ _ _ _ _ _) ?_
  refine ev_neg (by omega) ?_
  rw [w64s j (by have:=gOk_parts hg;omega)]
  rw [List.drop_of_length_le (by omega),wrl,List.append_nil] at hR
  exact hR
 | succ f ih =>
  intro m out hm hw ho hR
  have hlt:m < ws.length:=by omega
  refine Ev.step (impl_partWrites.l2.eq_2 _ _ _ _ _ _ _ _ _ _ _ _ _) ?_
  refine ev_pos (by omega) (ev_pos (by omega) (ev_pos (by omega) (Ev.bind (ev_eq (iInAt_eq hg ha (j:Int) ⟨by omega,hj⟩)) (ev_pos (by omega) ?_))))
  rw [w64s m (by omega),rdOf_at _ _ m hlt]
  refine ih (m+1) _ (by omega) hw (by simp;omega) ?_
  rw [drop_at ws m hlt,wrl] at hR
  rw [List.append_assoc,List.singleton_append]
  exact hR
theorem iLW_l1 (hg:gOk t p ins q=true) (ha:0≤a∧a≤t - 1) (hn:wiInodeS xs≤2000000) (hl:(xs.length:Int)=ins):∀ (f j:Nat) (out:List S53),j+f=xs.length→out.length+bdI (xs.drop j)≤90000000 →
  Ev (fun k=>impl_partWrites.l1 k a out xs (xs.length:Int) (j:Int) t p ins q) (out++pwI (a * pW p ins) j (xs.drop j)):=by
 intro f
 induction f with
 | zero =>
  intro j out hj ho
  refine Ev.step (impl_partWrites.l1.eq_2 _ _ _ _ _ _ _ _ _) ?_
  refine ev_neg (by omega) (ev_now ?_)
  rw [List.drop_of_length_le (by omega),pwI,List.append_nil]
 | succ f ih =>
  intro j out hj ho
  have hlt:j < xs.length:=by omega
  have hm:=List.getElem_mem hlt
  have hwl:=inW_len xs[j]
  rw [drop_at xs j hlt,bdI_cons] at ho
  refine Ev.step (impl_partWrites.l1.eq_2 _ _ _ _ _ _ _ _ _) ?_
  refine ev_pos (by omega) (ev_pos (by omega) (ev_pos (by omega) ?_))
  rw [rdiInode xs j hlt]
  refine Ev.bind (iITx_ev hn hm) ?_
  refine iLW_l2 hg ha (inW xs[j]) j (by omega) _ (inW xs[j]).length 0 out (by omega) (by unfold wiInodeS at hn;have h1:=sumBy_mem (f:=wiInode) hm;unfold wiInode wiRecS wiEntryS at h1 hn;omega) (by omega) ?_
  rw [List.drop_zero]
  refine ev_to (ih (j+1) _ (by omega) (by rw [List.length_append,wrl_len];omega)) ?_
  rw [drop_at xs j hlt,pwI,List.append_assoc]
theorem iLW_l0 (hg:gOk t p ins q=true) (ha:0≤a∧a≤t - 1) (ws:List ByteArray) (R:List S53):∀ (f m:Nat) (out:List S53),m+f=ws.length→ws.length≤4000000→out.length+f≤100000000 →
  Ev (fun k=>impl_partWrites.l1 k a (out++wrl (a * pW p ins+36) m (ws.drop m)) xs (xs.length:Int) 0 t p ins q) R→Ev (fun k=>impl_partWrites.l0 k a out ws (ws.length:Int) (m:Int) t p ins q s b xs) R:=by
 intro f
 induction f with
 | zero =>
  intro m out hm hw ho hR
  refine Ev.step (impl_partWrites.l0.eq_2 _ _ _ _ _ _ _ _ _ _ _ _) ?_
  refine ev_neg (by omega) ?_
  rw [List.drop_of_length_le (by omega),wrl,List.append_nil] at hR
  exact hR
 | succ f ih =>
  intro m out hm hw ho hR
  have hlt:m < ws.length:=by omega
  refine Ev.step (impl_partWrites.l0.eq_2 _ _ _ _ _ _ _ _ _ _ _ _) ?_
  refine ev_pos (by omega) (ev_pos (by omega) (ev_pos (by omega) (Ev.bind (ev_eq (iStAt_eq hg ha)) (ev_pos (by omega) ?_))))
  rw [w64s m (by omega),rdOf_at _ _ m hlt]
  refine ih (m+1) _ (by omega) hw (by simp;omega) ?_
  rw [drop_at ws m hlt,wrl] at hR
  rw [List.append_assoc,List.singleton_append]
  exact hR
theorem iLW_ev (hg:gOk t p ins q=true) (ha:0≤a∧a≤t - 1) (hn:wiInodeS xs≤2000000) (hl:(xs.length:Int)=ins) (hb:b.length≤1048576):Ev (fun k=>impl_partWrites.f k t p ins q a s b xs) (lwV t p ins q a b xs):=by
 have hw:=stW_len b
 have hbd:=bdI_le xs
 unfold impl_partWrites.f
 refine Ev.bind (iSW_ev b (by omega)) ?_
 refine iLW_l0 hg ha (stW b) _ (stW b).length 0 [] (by omega) (by omega) (by simp;omega) ?_
 rw [List.drop_zero,List.nil_append]
 have:=iLW_l1 hg ha hn hl xs.length 0 (wrl (a * pW p ins+36) 0 (stW b)) (by omega) (by rw [wrl_len,List.drop_zero];unfold wiInodeS at hn;omega)
 rw [List.drop_zero] at this
 exact this
end
theorem poV_parts {t p ins q s:Int} {b:List Int} {xs:List S69} (h:poV t p ins q s b xs=true):gOk t p ins q=true∧(xs.length:Int)=ins∧(∀ x ∈ xs,okI x.f0 x.f1 x.f2 x.f3 x.f4 x.f5=true)∧xs.length≤6∧b.length≤12:=by
 unfold poV at h
 simp only [Bool.and_eq_true,decide_eq_true_eq] at h
 obtain ⟨h1,h2,h3,h4,h5,h6⟩:=h
 obtain ⟨g1,g2,g3,g4⟩:=gOk_parts h1
 exact ⟨h1,h4,inAll_ok xs xs 0 h5,by omega,(stB_len h3).2⟩
open Classical in
noncomputable def pwV (t p ins q a s:Int) (b:List Int) (xs:List S69):List S53:=if poV t p ins q s b xs=true∧0≤a∧a≤t - 1 then lwV t p ins q a b xs else []
theorem pwV_len (t p ins q a s:Int) (b:List Int) (xs:List S69) (hn:wiInodeS xs≤1048576):(pwV t p ins q a s b xs).length≤1048700:=by
 unfold pwV
 split
 ·rename_i h
  obtain ⟨_,_,_,h6,_⟩:=poV_parts h.1
  have h1:=lwV_len (t:=t) (p:=p) (ins:=ins) (q:=q) (a:=a) (b:=b) (xs:=xs)
  have h2:=bdI_le xs
  unfold wiInodeS at hn
  omega
 ·simp
theorem sPWr_ev (t p ins q a s:Int) (b:List Int) (xs:List S69) (hn:wiInodeS xs≤2000000) (hb:b.length≤1048576):Ev (fun k=>spec_PartWrites.f k t p ins q a s b xs) (pwV t p ins q a s b xs):=by
 unfold spec_PartWrites.f pwV
 refine Ev.bind (sPO_ev t p ins q s b xs hn hb) ?_
 by_cases h:poV t p ins q s b xs=true
 ·obtain ⟨hg,hl,hok,_,_⟩:=poV_parts h
  refine ev_pos h (Ev.bind (ev_eq (sCommit_eq hg a)) ?_)
  by_cases ha:0≤a∧a≤t - 1
  ·obtain ⟨g1,g2,g3,g4⟩:=gOk_parts hg
   have hm:=mul3 (a:=a) (w:=pW p ins) ha.1 (by omega) (by unfold pW;omega) (by unfold pW;omega)
   rw [if_pos ha,if_pos ⟨h,ha⟩]
   exact ev_neg (by omega) (Ev.bind (sLW_ev hg ha hn hl hb hok) (ev_now rfl))
  ·rw [if_neg ha,if_neg (fun c=>ha c.2)]
   exact ev_pos (by omega) (ev_now rfl)
 ·rw [if_neg (fun c=>h c.1)]
  exact ev_neg h (ev_now rfl)
theorem eqWS_l (xs:List S53) (hn:xs.length≤4000000):∀ (i:Nat),i≤xs.length→Ev (fun k=>laws_eqWriteS.l0 k xs xs i) true
 | i,hi=>by
  refine Ev.step (laws_eqWriteS.l0.eq_2 _ _ _) ?_
  by_cases h:i < xs.length
  ·refine ev_pos (by omega) (ev_pos (by omega) (ev_pos (by omega) ?_))
   rw [w64s i (by omega),rdiWrite xs i h]
   exact Ev.bind (eqWrite_ev _) (ev_pos rfl (eqWS_l xs hn (i+1) (by omega)))
  ·exact ev_neg (by omega) (ev_now rfl)
 termination_by i=>xs.length - i
theorem eqWS_ev (xs:List S53) (hn:xs.length≤4000000):Ev (fun k=>laws_eqWriteS.f k xs xs) true:=by
 unfold laws_eqWriteS.f
 exact ev_pos rfl (eqWS_l xs hn 0 (by omega))

theorem inW_8 {x:S69} (h:okI x.f0 x.f1 x.f2 x.f3 x.f4 x.f5=true):(inW x).length=8:=by
 have hb:x.f4.length+x.f5.length≤6:=by
  unfold okI at h
  rw [Bool.and_eq_true] at h
  have h2:=h.2
  split at h2
  ·have:=of_decide_eq_true h2;omega
  ·split at h2
   ·rw [Bool.and_eq_true] at h2
    have:=of_decide_eq_true h2.1
    have hp:pgF x.f1≤4:=by
     unfold pgF
     omega
    omega
   ·split at h2
    ·rw [Bool.and_eq_true] at h2;have:=of_decide_eq_true h2.1;omega
    ·cases h2
 unfold inW fil8 rcW enW
 simp only [List.length_append,List.length_cons,List.length_nil,List.length_map,List.length_replicate]
 omega
theorem wrl_f0 (A:Int):∀ (ws us:List ByteArray) (i:Nat),ws.length=us.length→(wrl A i ws).map (fun y=>y.f0)=(wrl A i us).map (fun y=>y.f0)
 | [],[],_,_=>rfl
 | _ :: r,_ :: s,i,h=>by
  simp only [wrl,List.map_cons]
  rw [wrl_f0 A r s (i+1) (by simpa using h)]
 | [],_ :: _,_,h=>by simp at h
 | _ :: _,[],_,h=>by simp at h
theorem pwI_f0 (A:Int):∀ (xs ys:List S69) (i:Nat),xs.length=ys.length→(∀ x ∈ xs,okI x.f0 x.f1 x.f2 x.f3 x.f4 x.f5=true)→(∀ x ∈ ys,okI x.f0 x.f1 x.f2 x.f3 x.f4 x.f5=true)→(pwI A i xs).map (fun y=>y.f0)=(pwI A i ys).map (fun y=>y.f0)
 | [],[],_,_,_,_=>rfl
 | x :: r,y :: s,i,h,hx,hy=>by
  simp only [pwI,List.map_append]
  rw [wrl_f0 _ (inW x) (inW y) 0 (by rw [inW_8 (hx x (List.mem_cons_self ..)),inW_8 (hy y (List.mem_cons_self ..))]),pwI_f0 A r s (i+1) (by simpa using h) (fun z hz=>hx z (List.mem_cons_of_mem _ hz)) (fun z hz=>hy z (List.mem_cons_of_mem _ hz))]
 | [],_ :: _,_,h,_,_=>by simp at h
 | _ :: _,[],_,h,_,_=>by simp at h
theorem stW_2 {b:List Int} {p:Int} (h:stB b p=true):(stW b).length=2:=by
 have hp:=(stB_len h).1
 subst hp
 unfold stW
 rw [if_pos h]
 rfl
theorem poV_stB {t p ins q s:Int} {b:List Int} {xs:List S69} (h:poV t p ins q s b xs=true):stB b p=true:=by
 unfold poV at h
 simp only [Bool.and_eq_true] at h
 exact h.2.2.1
theorem lwV_f0 {t p ins q a s s2:Int} {b b2:List Int} {xs ys:List S69} (h:poV t p ins q s b xs=true) (h2:poV t p ins q s2 b2 ys=true):(lwV t p ins q a b xs).map (fun y=>y.f0)=(lwV t p ins q a b2 ys).map (fun y=>y.f0):=by
 obtain ⟨_,l1,k1,_,_⟩:=poV_parts h
 obtain ⟨_,l2,k2,_,_⟩:=poV_parts h2
 unfold lwV
 rw [List.map_append,List.map_append,wrl_f0 _ (stW b) (stW b2) 0 (by rw [stW_2 (poV_stB h),stW_2 (poV_stB h2)]),pwI_f0 _ xs ys 0 (by omega) k1 k2]
open Classical in
noncomputable def chg:List S53→List S53→List S53
 | x :: r,y :: s=>if x.f0=y.f0∧x.f1=y.f1 then chg r s else y :: chg r s
 | _,_=>[]
theorem chg_nil (xs:List S53):chg xs []=[]:=by cases xs <;> rfl
theorem chg_nil2 (ys:List S53):chg [] ys=[]:=by cases ys <;> rfl
theorem chg_len:∀ xs ys:List S53,(chg xs ys).length≤ys.length
 | [],ys=>by rw [chg_nil2];simp
 | _ :: _,[]=>by rw [chg_nil];simp
 | x :: r,y :: s=>by
  have:=chg_len r s
  unfold chg
  split <;> simp <;> omega
theorem rd_wr {xs:List S53} {i:Nat} (h:i < xs.length):rd_T53 xs (i:Int)=xs[i]:=rdiWrite xs i h
theorem sCh_l (xs ys:List S53) (hx:xs.length≤4000000) (hy:ys.length≤4000000):∀ (f i:Nat) (out:List S53),xs.length≤i+f→i≤4000000→out.length≤i→Ev (fun k=>spec_Changed.l0 k xs ys out (i:Int)) (out++chg (xs.drop i) (ys.drop i)):=by
 intro f
 induction f with
 | zero =>
  intro i out h h2 ho
  refine Ev.step (spec_Changed.l0.eq_2 _ _ _ _) ?_
  refine ev_neg (by omega) ?_
  refine Ev.step (spec_Changed.j1.eq_2 _ _ _ _ _) ?_
  refine ev_neg (by simp) (ev_now ?_)
  rw [List.drop_of_length_le (by omega),chg_nil2,List.append_nil]
 | succ f ih =>
  intro i out h h2 ho
  refine Ev.step (spec_Changed.l0.eq_2 _ _ _ _) ?_
  by_cases hi:i < xs.length
  ·refine ev_pos (by omega) ?_
   refine Ev.step (spec_Changed.j1.eq_2 _ _ _ _ _) ?_
   by_cases hj:i < ys.length
   ·refine ev_pos (decide_eq_true (by omega)) (ev_pos (by omega) (ev_pos (by omega) (ev_pos (by omega) ?_)))
    rw [rd_wr hi,rd_wr hj,w64s i (by omega),drop_at xs i hi,drop_at ys i hj]
    by_cases he:xs[i].f0=ys[i].f0∧xs[i].f1=ys[i].f1
    ·refine ev_neg (by rw [he.1,he.2];simp) (ev_to (ih (i+1) out (by omega) (by omega) (by omega)) ?_)
     rw [chg,if_pos he]
    ·refine ev_pos ?_ (ev_pos (by omega) (ev_to (ih (i+1) _ (by omega) (by omega) (by simp;omega)) ?_))
     ·by_cases h0:xs[i].f0=ys[i].f0
      ·have h1:¬ xs[i].f1.toList=ys[i].f1.toList:=fun c=>he ⟨h0,toList_inj c⟩
       simp [h1]
      ·simp [h0]
     ·rw [chg,if_neg he,List.append_assoc,List.singleton_append]
   ·refine ev_neg (by simp;omega) (ev_now ?_)
    rw [List.drop_of_length_le (show ys.length≤i by omega),chg_nil,List.append_nil]
  ·refine ev_neg (by omega) ?_
   refine Ev.step (spec_Changed.j1.eq_2 _ _ _ _ _) ?_
   refine ev_neg (by simp) (ev_now ?_)
   rw [List.drop_of_length_le (by omega),chg_nil2,List.append_nil]
theorem iCh_l (xs ys:List S53) (hl:ys.length=xs.length) (hf:xs.map (fun y=>y.f0)=ys.map (fun y=>y.f0)) (hy:ys.length≤4000000):∀ (f i:Nat) (out:List S53),i+f=ys.length→out.length≤i→Ev (fun k=>impl_changed.l0 k xs out ys (ys.length:Int) (i:Int)) (out++chg (xs.drop i) (ys.drop i)):=by
 intro f
 induction f with
 | zero =>
  intro i out h ho
  refine Ev.step (impl_changed.l0.eq_2 _ _ _ _ _) ?_
  refine ev_neg (by omega) (ev_now ?_)
  rw [List.drop_of_length_le (show ys.length≤i by omega),chg_nil,List.append_nil]
 | succ f ih =>
  intro i out h ho
  have hj:i < ys.length:=by omega
  have hi:i < xs.length:=by omega
  have h0:xs[i].f0=ys[i].f0:=by
   have:=congrArg (fun l=>l[i]?) hf
   simp only [List.getElem?_map,List.getElem?_eq_getElem hi,List.getElem?_eq_getElem hj,Option.map_some] at this
   exact Option.some.inj this
  refine Ev.step (impl_changed.l0.eq_2 _ _ _ _ _) ?_
  refine ev_pos (by omega) (ev_pos (by omega) (ev_pos (by omega) (ev_pos (by omega) ?_)))
  rw [rd_wr hi,rd_wr hj,w64s i (by omega),drop_at xs i hi,drop_at ys i hj]
  by_cases he:xs[i].f1=ys[i].f1
  ·refine ev_pos (by rw [he]) (ev_to (ih (i+1) out (by omega) (by omega)) ?_)
   rw [chg,if_pos ⟨h0,he⟩]
  ·refine ev_neg (fun c=>he (toList_inj c).symm) (ev_pos (by omega) (ev_to (ih (i+1) _ (by omega) (by simp;omega)) ?_))
   rw [chg,if_neg (fun c=>he c.2),List.append_assoc,List.singleton_append]
noncomputable def chV (t p ins q a s:Int) (b:List Int) (xs:List S69) (s2:Int) (b2:List Int) (ys:List S69):List S53:=chg (pwV t p ins q a s b xs) (pwV t p ins q a s2 b2 ys)
theorem sChd_ev (t p ins q a s:Int) (b:List Int) (xs:List S69) (s2:Int) (b2:List Int) (ys:List S69) (hn:wiInodeS xs≤1048576) (hb:b.length≤1048576) (hn2:wiInodeS ys≤1048576) (hb2:b2.length≤1048576):Ev (fun k=>spec_Changed.f k t p ins q a s b xs s2 b2 ys) (chV t p ins q a s b xs s2 b2 ys):=by
 have l1:=pwV_len t p ins q a s b xs hn
 have l2:=pwV_len t p ins q a s2 b2 ys hn2
 unfold spec_Changed.f chV
 refine Ev.bind (sPWr_ev t p ins q a s b xs (by omega) hb) (Ev.bind (sPWr_ev t p ins q a s2 b2 ys (by omega) hb2) ?_)
 have:=sCh_l (pwV t p ins q a s b xs) (pwV t p ins q a s2 b2 ys) (by omega) (by omega) (pwV t p ins q a s b xs).length 0 [] (by omega) (by omega) (by simp)
 rw [List.drop_zero,List.drop_zero,List.nil_append] at this
 exact this
theorem iChd_ev (t p ins q a s:Int) (b:List Int) (xs:List S69) (s2:Int) (b2:List Int) (ys:List S69) (hn:wiInodeS xs≤1048576) (hb:b.length≤1048576) (hn2:wiInodeS ys≤1048576) (hb2:b2.length≤1048576):Ev (fun k=>impl_Changed.f k t p ins q a s b xs s2 b2 ys) (chV t p ins q a s b xs s2 b2 ys):=by
 have l1:=pwV_len t p ins q a s b xs hn
 have l2:=pwV_len t p ins q a s2 b2 ys hn2
 unfold impl_Changed.f chV
 refine Ev.bind (iPO_ev t p ins q s b xs (by omega) hb) ?_
 by_cases h:poV t p ins q s b xs=true
 ·refine ev_pos h (Ev.bind (iPO_ev t p ins q s2 b2 ys (by omega) hb2) ?_)
  by_cases h2:poV t p ins q s2 b2 ys=true
  ·obtain ⟨hg,hl,hok,_,_⟩:=poV_parts h
   obtain ⟨_,hl2,hok2,_,_⟩:=poV_parts h2
   refine ev_pos h2 (Ev.bind (ev_eq (iTen_eq hg a)) ?_)
   by_cases ha:0≤a∧a≤t - 1
   ·refine ev_pos (decide_eq_true ha) (Ev.bind ?_ (ev_now rfl))
    have hf:=lwV_f0 (a:=a) h h2
    have e1:pwV t p ins q a s b xs=lwV t p ins q a b xs:=by unfold pwV;rw [if_pos ⟨h,ha⟩]
    have e2:pwV t p ins q a s2 b2 ys=lwV t p ins q a b2 ys:=by unfold pwV;rw [if_pos ⟨h2,ha⟩]
    rw [e1] at l1 ⊢
    rw [e2] at l2 ⊢
    have hll:(lwV t p ins q a b2 ys).length=(lwV t p ins q a b xs).length:=by have:=congrArg List.length hf;simpa using this.symm
    unfold impl_changed.f
    refine Ev.bind (iLW_ev hg ha (by omega) hl hb) (Ev.bind (iLW_ev hg ha (by omega) hl2 hb2) ?_)
    have:=iCh_l _ _ hll hf (by omega) (lwV t p ins q a b2 ys).length 0 [] (by omega) (by simp)
    rw [List.drop_zero,List.drop_zero,List.nil_append] at this
    exact this
   ·refine ev_neg (by simpa using ha) (ev_now ?_)
    unfold pwV
    rw [if_neg (fun c=>ha c.2),if_neg (fun c=>ha c.2),chg_nil]
  ·refine ev_neg h2 (ev_now ?_)
   unfold pwV
   rw [if_neg (show ¬ (poV t p ins q s2 b2 ys=true∧0≤a∧a≤t - 1) from fun c=>h2 c.1),chg_nil]
 ·refine ev_neg h (ev_now ?_)
  unfold pwV
  rw [if_neg (show ¬ (poV t p ins q s b xs=true∧0≤a∧a≤t - 1) from fun c=>h c.1),chg_nil2]

theorem mt_l (n:Nat):∀ o:ByteArray,o.size+40 * (n+1)≤4000000000000000→∃ r:ByteArray,Ev (fun k=>laws_markText.l0 k n o) r:=by
 induction n using Nat.strongRecOn with
 | _ n ih =>
  intro o ho
  by_cases h:(n:Int) > 0
  ·have hd:wrap64 (Int.tdiv (n:Int) 10)=((n / 10:Nat):Int):=by
    rw [Int.tdiv_eq_ediv_of_nonneg (by omega),w64 (by omega) (by omega)];omega
   obtain ⟨r,hr⟩:=ih (n / 10) (by omega) (strOfNums [wrap64 (48+Int.tmod (n:Int) 10) % 256]++o) (by rw [ByteArray.size_append,strOfNums_size];simp only [List.length_singleton];omega)
   refine ⟨r,?_⟩
   refine Ev.step (laws_markText.l0.eq_2 _ _) ?_
   refine ev_pos h (Ev.bind (Ev.now _) (ev_pos (by rw [strOfNums_size];simp only [List.length_singleton];omega) ?_))
   rw [hd]
   exact hr
  ·refine ⟨(⟨#[109]⟩:ByteArray)++o,?_⟩
   refine Ev.step (laws_markText.l0.eq_2 _ _) ?_
   exact ev_neg h (ev_pos (by omega) (ev_now rfl))
noncomputable def mtx (n:Nat):ByteArray:=evv ⟨#[]⟩ (fun k=>laws_markText.f k (n:Int))
theorem mtx_ev (n:Nat) (hn:n≤40000000):Ev (fun k=>laws_markText.f k (n:Int)) (mtx n):=by
 unfold mtx
 apply evv_ev
 by_cases h:(n:Int)≤0
 ·exact ⟨_,by unfold laws_markText.f;exact ev_pos h (Ev.now _)⟩
 ·have e0:(⟨#[]⟩:ByteArray).size=0:=rfl
  obtain ⟨r,hr⟩:=mt_l n ⟨#[]⟩ (by omega)
  exact ⟨r,by unfold laws_markText.f;exact ev_neg h hr⟩
noncomputable def wmk (a i:Nat):S53:=⟨((a+2 * i:Nat):Int),mtx (a+2 * i+1)⟩
noncomputable def wmarks (a n:Nat):List S53:=(List.range' 0 n).map (wmk a)
theorem wmarks_len (a n:Nat):(wmarks a n).length=n:=by simp [wmarks]
theorem rd_setW (ys:List S53) (x:S53) (i:Nat) (h:i < ys.length):rd_T53 (ys.set i x) (i:Int)=x:=by rw [rdiWrite _ i (by simpa using h),List.getElem_set_self]
theorem markWriteS_m (n a:Nat) (hn:a+2 * n≤4000000):∀ (i:Nat) (ys:List S53),i≤n→ys.length=n →
  Ev (fun k=>laws_markWriteS.l0 k ys ((a+2 * i:Nat):Int) (i:Int)) (((a+2 * n:Nat):Int),ys.take i++(List.range' i (n - i)).map (wmk a))
 | i,ys,hi,hl=>by
  refine Ev.step (laws_markWriteS.l0.eq_2 _ _ _) ?_
  by_cases h:i < n
  ·have e1:wrap64 (((a+2 * i:Nat):Int)+1)=((a+2 * i+1:Nat):Int):=w64s _ (by omega)
   have e2:wrap64 (((a+2 * i+1:Nat):Int)+1)=((a+2 * (i+1):Nat):Int):=by rw [show a+2 * (i+1)=a+2 * i+1+1 by omega];exact w64s _ (by omega)
   refine ev_pos (by omega) (ev_pos (by omega) (Ev.bind (Ev.now _) ?_))
   rw [e1,e2,Int.toNat_natCast,w64s i (by omega)]
   refine Ev.bind (mtx_ev _ (by omega)) ?_
   refine ev_to (markWriteS_m n a hn (i+1) _ (by omega) (by rw [List.length_set,List.length_set];exact hl)) ?_
   rw [rd_setW ys _ i (by omega)]
   simp only [List.set_set]
   congr 1
   rw [List.take_succ_eq_append_getElem (by simp;omega)]
   simp only [List.getElem_set_self,List.append_assoc,List.take_set_of_le (Nat.le_refl i)]
   congr 1
   rw [show n - i=(n - (i+1))+1 by omega,List.range'_succ]
   rfl
  ·have:i=n:=by omega
   subst this
   refine ev_neg (by omega) (ev_now ?_)
   simp [← hl]
 termination_by i=>n - i
theorem heldWriteS_l (n a:Nat) (hn:a+2 * n≤4000000):∀ (i:Nat),i≤n→Ev (fun k=>laws_heldWriteS.l0 k (wmarks a n) ((a+2 * i:Nat):Int) (i:Int)) ((a+2 * n:Nat):Int)
 | i,hi=>by
  refine Ev.step (laws_heldWriteS.l0.eq_2 _ _ _) ?_
  have hl:=wmarks_len a n
  by_cases h:i < n
  ·have e1:wrap64 (((a+2 * i:Nat):Int)+1)=((a+2 * i+1:Nat):Int):=w64s _ (by omega)
   have e2:wrap64 (((a+2 * i+1:Nat):Int)+1)=((a+2 * (i+1):Nat):Int):=by rw [show a+2 * (i+1)=a+2 * i+1+1 by omega];exact w64s _ (by omega)
   have he:rd_T53 (wmarks a n) (i:Int)=wmk a i:=by
    rw [rdiWrite _ i (by omega)];simp [wmarks]
   rw [he,e1,e2,w64s i (by omega)]
   exact ev_pos (by omega) (ev_pos (by omega) (ev_pos rfl (Ev.bind (mtx_ev _ (by omega)) (ev_pos rfl (heldWriteS_l n a hn (i+1) (by omega))))))
  ·have:i=n:=by omega
   subst this
   exact ev_neg (by omega) (ev_now rfl)
 termination_by i=>n - i
theorem markWS_ev (xs:List S53) (h:1+2 * xs.length≤4000000):Ev (fun k=>laws_markWriteS.f k xs 1) (((1+2 * xs.length:Nat):Int),wmarks 1 xs.length):=by
 have h1:=markWriteS_m xs.length 1 h 0 xs (by omega) rfl
 rw [List.take_zero,List.nil_append,Nat.sub_zero] at h1
 unfold laws_markWriteS.f
 exact h1
theorem heldWS_ev (n:Nat) (h:1+2 * n≤4000000):Ev (fun k=>laws_heldWriteS.f k (wmarks 1 n) 1) ((1+2 * n:Nat):Int):=by
 unfold laws_heldWriteS.f
 exact heldWriteS_l n 1 h 0 (by omega)

noncomputable def rmk (a i:Nat):S89:=⟨((a+3 * i:Nat):Int),((a+3 * i+1:Nat):Int),mtx (a+3 * i+2)⟩
noncomputable def rmarks (a n:Nat):List S89:=(List.range' 0 n).map (rmk a)
noncomputable def emk (a i:Nat):S72:=⟨((a+2 * i:Nat):Int),mtx (a+2 * i+1)⟩
noncomputable def emarks (a n:Nat):List S72:=(List.range' 0 n).map (emk a)
theorem rd_setR (ys:List S89) (x:S89) (i:Nat) (h:i < ys.length):rd_T89 (ys.set i x) (i:Int)=x:=by rw [rdiRec _ i (by simpa using h),List.getElem_set_self]
theorem rd_setE (ys:List S72) (x:S72) (i:Nat) (h:i < ys.length):rd_T72 (ys.set i x) (i:Int)=x:=by rw [rdiEntry _ i (by simpa using h),List.getElem_set_self]
theorem markRecS_m (n a:Nat) (hn:a+3 * n≤40000000):∀ (i:Nat) (ys:List S89),i≤n→ys.length=n →
  Ev (fun k=>laws_markRecS.l0 k ys ((a+3 * i:Nat):Int) (i:Int)) (((a+3 * n:Nat):Int),ys.take i++(List.range' i (n - i)).map (rmk a))
 | i,ys,hi,hl=>by
  refine Ev.step (laws_markRecS.l0.eq_2 _ _ _) ?_
  by_cases h:i < n
  ·have e1:wrap64 (((a+3 * i:Nat):Int)+1)=((a+3 * i+1:Nat):Int):=w64s _ (by omega)
   have e2:wrap64 (((a+3 * i+1:Nat):Int)+1)=((a+3 * i+2:Nat):Int):=w64s _ (by omega)
   have e3:wrap64 (((a+3 * i+2:Nat):Int)+1)=((a+3 * (i+1):Nat):Int):=by rw [show a+3 * (i+1)=a+3 * i+2+1 by omega];exact w64s _ (by omega)
   refine ev_pos (by omega) (ev_pos (by omega) (Ev.bind (Ev.now _) (Ev.bind (Ev.now _) ?_)))
   rw [e1,e2,e3,Int.toNat_natCast,w64s i (by omega)]
   refine Ev.bind (mtx_ev _ (by omega)) ?_
   refine ev_to (markRecS_m n a hn (i+1) _ (by omega) (by rw [List.length_set,List.length_set,List.length_set];exact hl)) ?_
   rw [rd_setR ys _ i (by omega),rd_setR (ys.set i _) _ i (by rw [List.length_set];omega)]
   simp only [List.set_set]
   congr 1
   rw [List.take_succ_eq_append_getElem (by simp;omega)]
   simp only [List.getElem_set_self,List.append_assoc,List.take_set_of_le (Nat.le_refl i)]
   congr 1
   rw [show n - i=(n - (i+1))+1 by omega,List.range'_succ]
   rfl
  ·have:i=n:=by omega
   subst this
   refine ev_neg (by omega) (ev_now ?_)
   simp [← hl]
 termination_by i=>n - i
theorem markEntryS_m (n a:Nat) (hn:a+2 * n≤40000000):∀ (i:Nat) (ys:List S72),i≤n→ys.length=n →
  Ev (fun k=>laws_markEntryS.l0 k ys ((a+2 * i:Nat):Int) (i:Int)) (((a+2 * n:Nat):Int),ys.take i++(List.range' i (n - i)).map (emk a))
 | i,ys,hi,hl=>by
  refine Ev.step (laws_markEntryS.l0.eq_2 _ _ _) ?_
  by_cases h:i < n
  ·have e1:wrap64 (((a+2 * i:Nat):Int)+1)=((a+2 * i+1:Nat):Int):=w64s _ (by omega)
   have e2:wrap64 (((a+2 * i+1:Nat):Int)+1)=((a+2 * (i+1):Nat):Int):=by rw [show a+2 * (i+1)=a+2 * i+1+1 by omega];exact w64s _ (by omega)
   refine ev_pos (by omega) (ev_pos (by omega) (Ev.bind (Ev.now _) ?_))
   rw [e1,e2,Int.toNat_natCast,w64s i (by omega)]
   refine Ev.bind (mtx_ev _ (by omega)) ?_
   refine ev_to (markEntryS_m n a hn (i+1) _ (by omega) (by rw [List.length_set,List.length_set];exact hl)) ?_
   rw [rd_setE ys _ i (by omega)]
   simp only [List.set_set]
   congr 1
   rw [List.take_succ_eq_append_getElem (by simp;omega)]
   simp only [List.getElem_set_self,List.append_assoc,List.take_set_of_le (Nat.le_refl i)]
   congr 1
   rw [show n - i=(n - (i+1))+1 by omega,List.range'_succ]
   rfl
  ·have:i=n:=by omega
   subst this
   refine ev_neg (by omega) (ev_now ?_)
   simp [← hl]
 termination_by i=>n - i
def marks (a n:Nat):List Int:=(List.range' a n).map (fun j:Nat=>(j:Int))
theorem markIntS_l (n a:Nat) (hn:n≤1048576) (ha:a≤4000000000000):∀ (i:Nat) (ys:List Int),i≤n→ys.length=n →
  Ev (fun k=>laws_markIntS.l0 k ys ((a+i:Nat):Int) i) (((a+n:Nat):Int),ys.take i++marks (a+i) (n - i))
 | i,ys,hi,hl=>by
  refine Ev.step (laws_markIntS.l0.eq_2 _ _ _) ?_
  by_cases h:i < n
  ·refine ev_pos (by omega) (ev_pos (by omega) ?_)
   rw [w64s i (by omega),w64s (a+i) (by omega),Int.toNat_natCast]
   refine ev_to (markIntS_l n a hn ha (i+1) (ys.set i _) (by omega) (by simp [hl])) ?_
   congr 1
   rw [List.take_succ_eq_append_getElem (by simp;omega)]
   simp only [List.getElem_set_self,List.append_assoc,List.take_set_of_le (Nat.le_refl i)]
   congr 1
   unfold marks
   rw [show n - i=(n - (i+1))+1 by omega,List.range'_succ]
   simp [Nat.add_assoc]
  ·have:i=n:=by omega
   subst this
   refine ev_neg (by omega) (ev_now ?_)
   simp [marks,← hl]
 termination_by i=>n - i
theorem markIntS_ev (xs:List Int) (a:Nat) (hn:xs.length≤1048576) (ha:a≤4000000000000):Ev (fun k=>laws_markIntS.f k xs (a:Int)) (((a+xs.length:Nat):Int),marks a xs.length):=by
 unfold laws_markIntS.f
 have:=markIntS_l xs.length a hn ha 0 xs (by omega) rfl
 simpa using this


def ncI (x:S69):Nat:=4+3 * x.f4.length+2 * x.f5.length
def ncS (xs:List S69):Nat:=sumBy ncI xs
noncomputable def inmk (a:Nat) (x:S69):S69:=⟨((a:Nat):Int),((a+1:Nat):Int),((a+2:Nat):Int),mtx (a+3),rmarks (a+4) x.f4.length,emarks (a+4+3 * x.f4.length) x.f5.length⟩
noncomputable def inmarks:Nat→List S69→List S69
 | _,[]=>[]
 | a,x :: r=>inmk a x :: inmarks (a+ncI x) r
theorem w64s4 (a:Nat) (h:a+4 < 4611686018427387904):wrap64 (((a:Nat):Int)+1)=((a+1:Nat):Int)∧wrap64 (((a+1:Nat):Int)+1)=((a+2:Nat):Int)∧wrap64 (((a+2:Nat):Int)+1)=((a+3:Nat):Int)∧wrap64 (((a+3:Nat):Int)+1)=((a+4:Nat):Int) :=
 ⟨w64s _ (by omega),w64s _ (by omega),w64s _ (by omega),w64s _ (by omega)⟩
theorem rd_mid (p:List S69) (x:S69) (r:List S69):rd_T69 (p++x :: r) (p.length:Int)=x:=by
 rw [rdiInode _ _ (by simp)]
 simp
theorem set_mid (p:List S69) (x y:S69) (r:List S69):(p++x :: r).set p.length y=p++y :: r:=by
 rw [List.set_append_right _ _ (Nat.le_refl _),Nat.sub_self]
 rfl
theorem recsS_ev (rs:List S89) (a:Nat) (h:a+3 * rs.length≤40000000):Ev (fun k=>laws_markRecS.f k rs ((a:Nat):Int)) (((a+3 * rs.length:Nat):Int),rmarks a rs.length):=by
 have h1:=markRecS_m rs.length a h 0 rs (by omega) rfl
 rw [List.take_zero,List.nil_append,Nat.sub_zero] at h1
 unfold laws_markRecS.f
 exact h1
theorem entsS_ev (es:List S72) (a:Nat) (h:a+2 * es.length≤40000000):Ev (fun k=>laws_markEntryS.f k es ((a:Nat):Int)) (((a+2 * es.length:Nat):Int),emarks a es.length):=by
 have h1:=markEntryS_m es.length a h 0 es (by omega) rfl
 rw [List.take_zero,List.nil_append,Nat.sub_zero] at h1
 unfold laws_markEntryS.f
 exact h1
theorem markInodeS_l (r:List S69):∀ (p:List S69) (a:Nat),a+ncS r≤39999999→p.length+r.length≤4000000 →
  Ev (fun k=>laws_markInodeS.l0 k (p++r) ((a:Nat):Int) ((p.length:Nat):Int)) (((a+ncS r:Nat):Int),p++inmarks a r):=by
 induction r with
 | nil =>
  intro p a ha hp
  refine Ev.step (laws_markInodeS.l0.eq_2 _ _ _) ?_
  refine ev_neg (by simp) (ev_now ?_)
  simp [ncS,sumBy,inmarks]
 | cons x r ih =>
  intro p a ha hp
  have hn:ncS (x :: r)=ncI x+ncS r:=by simp [ncS,sumBy_cons]
  have hx:ncI x=4+3 * x.f4.length+2 * x.f5.length:=rfl
  rw [hn] at ha ⊢
  simp only [List.length_cons] at hp
  obtain ⟨e1,e2,e3,e4⟩:=w64s4 a (by omega)
  refine Ev.step (laws_markInodeS.l0.eq_2 _ _ _) ?_
  refine ev_pos (by rw [List.length_append,List.length_cons];omega) (ev_pos (Int.natCast_nonneg _) ?_)
  rw [Int.toNat_natCast,e1,e2,e3,e4]
  clear e1 e2 e3 e4
  rw [w64s _ (by omega)]
  refine Ev.bind (Ev.now _) ?_
  simp only [rd_mid,set_mid]
  refine Ev.bind (Ev.now _) ?_
  simp only [rd_mid,set_mid]
  refine Ev.bind (Ev.now _) ?_
  simp only [rd_mid,set_mid]
  refine Ev.bind (mtx_ev _ (by omega)) ?_
  refine Ev.bind (Ev.now _) ?_
  simp only [rd_mid,set_mid]
  refine Ev.bind (recsS_ev _ _ (by omega)) ?_
  refine Ev.bind (Ev.now _) ?_
  simp only [rd_mid,set_mid]
  refine Ev.bind (entsS_ev _ _ (by omega)) ?_
  refine Ev.bind (Ev.now _) ?_
  simp only [rd_mid,set_mid]
  have ih:=ih (p++[inmk a x]) (a+ncI x) (by omega) (by simp;omega)
  rw [List.append_assoc,List.append_assoc,List.length_append,List.length_singleton] at ih
  have e5:a+4+3 * x.f4.length+2 * x.f5.length=a+ncI x:=by omega
  rw [e5]
  refine ev_to ih ?_
  rw [show a+(ncI x+ncS r)=a+ncI x+ncS r by omega]
  rfl
theorem markInodeS_ev (xs:List S69) (a:Nat) (h:a+ncS xs≤39999999) (h2:xs.length≤4000000):Ev (fun k=>laws_markInodeS.f k xs ((a:Nat):Int)) (((a+ncS xs:Nat):Int),inmarks a xs):=by
 unfold laws_markInodeS.f
 exact markInodeS_l xs [] a h (by simpa using h2)
theorem markPart_m (s:Int) (b:List Int) (xs:List S69) (a:Nat) (h:a+b.length+ncS xs≤39999999) (hb:b.length≤1048576) (h2:xs.length≤4000000):Ev (fun k=>laws_markPart.f k s b xs ((a:Nat):Int)) (((a+b.length+ncS xs:Nat):Int),marks a b.length,inmarks (a+b.length) xs):=by
 unfold laws_markPart.f
 exact Ev.bind (markIntS_ev b a hb (by omega)) (Ev.bind (markInodeS_ev xs _ h h2) (ev_now rfl))
theorem ncS_le:∀ xs:List S69,ncS xs≤4 * xs.length+3 * sumBy wiInode xs
 | []=>by simp [ncS,sumBy]
 | x :: r=>by
  have ih:=ncS_le r
  have hx:3 * x.f4.length+2 * x.f5.length≤3 * wiInode x:=by unfold wiInode wiRecS wiEntryS;omega
  unfold ncS at ih ⊢
  rw [sumBy_cons,sumBy_cons,List.length_cons]
  unfold ncI at ih ⊢
  omega

theorem FnExactChanged:laws_FnExactChanged.Law:=by
 intro t p ins q a s b xs s2 b2 ys _ _ _ _ _ _ hb hx _ hb2 hx2
 apply Ev.rounds
 unfold laws_FnExactChanged.f
 refine Ev.bind (szPart_ev s b xs (by omega) ⟨by omega,hx.2⟩ 1048576 (by omega) (by omega)) ?_
 by_cases h:left 1048576 (wtPart s b xs) < 0
 ·exact ev_pos h (ev_now rfl)
 obtain ⟨hw,hle⟩:=left_le (a:=1048576) (t:=wtPart s b xs) (by omega)
 refine ev_neg h (Ev.bind (szPart_ev s2 b2 ys (by omega) ⟨by omega,hx2.2⟩ (left 1048576 (wtPart s b xs)) (by omega) (by omega)) ?_)
 by_cases h2:left (left 1048576 (wtPart s b xs)) (wtPart s2 b2 ys) < 0
 ·exact ev_pos h2 (ev_now rfl)
 have hw2:=(left_le (a:=left 1048576 (wtPart s b xs)) (t:=wtPart s2 b2 ys) (by omega)).1
 have hq2:wtPart s2 b2 ys≤1048576:=by omega
 have hi:wiPart s b (xs.map cvInode)=wtPart s b xs:=by simp only [wiPart,wtPart,wiInodeS_cv]
 have hi2:wiPart s2 b2 (ys.map cvInode)=wtPart s2 b2 ys:=by simp only [wiPart,wtPart,wiInodeS_cv]
 have hn:wiInodeS (xs.map cvInode)≤1048576:=by rw [wiInodeS_cv];unfold wtPart at hw;omega
 have hn2:wiInodeS (ys.map cvInode)≤1048576:=by rw [wiInodeS_cv];unfold wtPart at hq2;omega
 have hbl:b.length≤1048576:=by unfold wtPart at hw;omega
 have hbl2:b2.length≤1048576:=by unfold wtPart at hq2;omega
 have hto:=toPart_ev s b xs (by omega)
 have hto2:=toPart_ev s2 b2 ys (by omega)
 have hge:laws_toGeo.f t p ins q=some (t,p,ins,q):=rfl
 have heq:=eqPart_ev s b (xs.map cvInode) (by omega)
 have heq2:=eqPart_ev s2 b2 (ys.map cvInode) (by omega)
 have hS:=sChd_ev t p ins q a s b (xs.map cvInode) s2 b2 (ys.map cvInode) hn hbl hn2 hbl2
 have hI:=iChd_ev t p ins q a s b (xs.map cvInode) s2 b2 (ys.map cvInode) hn hbl hn2 hbl2
 have hl2:=pwV_len t p ins q a s2 b2 (ys.map cvInode) hn2
 have hl:(chV t p ins q a s b (xs.map cvInode) s2 b2 (ys.map cvInode)).length≤1048700:=Nat.le_trans (chg_len _ _) hl2
 have hE:=eqWS_ev (chV t p ins q a s b (xs.map cvInode) s2 b2 (ys.map cvInode)) (by omega)
 have hnc:=ncS_le (xs.map cvInode)
 have hnc2:=ncS_le (ys.map cvInode)
 have hc1:ncS (xs.map cvInode)≤4194304:=by unfold wiInodeS at hn;omega
 have hc2:ncS (ys.map cvInode)≤4194304:=by unfold wiInodeS at hn2;omega
 have hmk:=markPart_m s b (xs.map cvInode) 1 (by omega) hbl (by unfold wiInodeS at hn;omega)
 have hmk2:=markPart_m s2 b2 (ys.map cvInode) (1+b.length+ncS (xs.map cvInode)) (by omega) hbl2 (by unfold wiInodeS at hn2;omega)
 have hmw:=markWS_ev (chV t p ins q a s b (xs.map cvInode) s2 b2 (ys.map cvInode)) (by omega)
 have hhw:=heldWS_ev (chV t p ins q a s b (xs.map cvInode) s2 b2 (ys.map cvInode)).length (by omega)
 refine ev_neg h2 (Ev.bind (ev_eq hge) (Ev.bind hto (Ev.bind hto2 (Ev.bind hS (Ev.bind hto (Ev.bind hto2 (Ev.bind (ev_eq hge) (Ev.bind hI (Ev.bind hE (ev_pos rfl ?_))))))))))
 refine Ev.bind hto (Ev.bind heq (ev_pos rfl (Ev.bind hto2 (Ev.bind heq2 (ev_pos rfl ?_)))))
 refine Ev.bind hmk (Ev.bind hmk2 (ev_neg (by dsimp only;omega) (Ev.bind hE ?_)))
 refine Ev.step (laws_FnExactChanged.j0.eq_2 _ _ _ _ _ _ _ _ _ _ _ _ _ _) ?_
 refine ev_neg (by simp) (Ev.bind hmw (Ev.bind hhw (ev_neg (by omega) (ev_pos rfl ?_))))
 refine Ev.bind (ev_eq hge) (Ev.bind hto (Ev.bind hto2 (Ev.bind hI (Ev.bind hE (ev_pos rfl ?_)))))
 exact Ev.bind hhw (ev_neg (by omega) (ev_pos rfl (ev_now rfl)))

end Go.Proofs.YtleoknilacjakaaGreat.Pure
