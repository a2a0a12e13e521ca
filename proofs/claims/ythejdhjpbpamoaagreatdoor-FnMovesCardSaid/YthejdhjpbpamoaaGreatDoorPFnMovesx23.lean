/- Contracts of Go functions: each call returns what the Lean function beside it computes. Conditions: as each theorem states them. -/
import Derived.Test.YthejdhjpbpamoaaGreatDoorPkFnMoves
import Derived.Test.YthejdhjpbpamoaaGreatDoorPFnMovesx1
import Derived.Test.YthejdhjpbpamoaaGreatDoorPFnMovesx17
namespace Go.Proofs.YthejdhjpbpamoaaGreatDoor.jM
open Go.RowKit Go.Proofs.YthejdhjpbpamoaaGreatDoorW.iK Go.Proofs.YthejdhjpbpamoaaGreatDoorW.lX Go.Proofs.YthejdhjpbpamoaaGreatDoorW.oV Go.Proofs.Tryz
attribute [local go_sem] qI qM qL qP qK qO qJ qN   -- for this text's walks alone
set_option linter.unusedVariables false
set_option maxHeartbeats 8000000
set_option maxRecDepth 100000
set_option linter.unusedSimpArgs false

def strings_Join.f (l0:List ByteArray) (a1:ByteArray):Option (ByteArray):=if l0.length≤140737488355328∧(Lib.join (l0.map (·.data.toList)) a1.data.toList).length≤140737488355328 then some ⟨(Lib.join (l0.map (·.data.toList)) a1.data.toList).toArray⟩ else none
theorem strings_Join.calls (A0:Option Addr) (c0:Nat) (l0:List ByteArray) (a1:ByteArray) (r:ByteArray) (w:World) (hr0:Kd.C Kd.string w A0 l0.length l0) (hc0:l0.length≤c0) (h:strings_Join.f l0 a1=some r) :
  Calls Tryz.prog 121 #[.slice A0 l0.length c0,.string a1] w fun e w'=>e=.returned (.string r)∧Below w.heap.size w w':=by
 unfold strings_Join.f at h
 split at h
 case isFalse=>cases h
 case isTrue hc =>
  obtain ⟨h1,h2⟩:=hc
  obtain rfl:=cZ h
  rcases Nat.eq_zero_or_pos l0.length with hz|hz
  ·have hn:=List.eq_nil_of_length_eq_zero hz
   subst hn
   refine (Tryz.strings_Join_none A0 c0 a1 w).mono ?_
   rintro e w' ⟨rfl,rfl⟩
   exact ⟨rfl,Below.refl _ _⟩
  ·obtain ⟨ad,rfl,hcell⟩:=hr0.2.2 hz
   have cells:∀ (j:Nat) x,l0[j]?=some x→w.cell? (ad.add j)=some (.string x):=by
    intro j x hx
    obtain ⟨c,_,rfl,hc⟩:=hcell j x hx
    have:=hc 0 _ rfl
    rw [show j * (Kd.string).sz+0=j from Nat.mul_one j] at this
    exact this
   have h0:=cells 0 _ (List.getElem?_eq_getElem hz)
   have hsp:ad.spot=none:=by
    have h0':w.cell? ad=some (.string l0[0]):=h0
    unfold World.cell? at h0'
    split at h0'
    ·split at h0'
     ·cases h0'
     ·simpa using ‹¬ ad.spot.isSome=true›
    ·cases h0'
   obtain ⟨bk,o,sp⟩:=ad
   cases hsp
   refine Tryz.strings_Join bk o c0 l0 a1 w (fun j x hx=>?_) (World.block_lt_of_cell? w _ h0) h1 hc0 h2
   have:=cells j x hx
   rw [Addr.add_lit] at this
   exact this

def Ac.f (l0:List ByteArray):Option (ByteArray):=if (l0.length:Int)=0 then (some (⟨#[47]⟩:ByteArray)) else ((strings_Join.f l0 (⟨#[47]⟩:ByteArray)).bind fun a5=>(if 1+a5.size≤9223372036854775807 then (some ((⟨#[47]⟩:ByteArray)++a5)) else (none)))
theorem Ac.calls (A0:Option Addr) (c0:Nat) (l0:List ByteArray) (r:ByteArray) (w:World) (hr0:Kd.C Kd.string w A0 l0.length l0) (hc0:l0.length≤c0) (h:Ac.f l0=some r) :
  Calls Tryz.prog 70 #[.slice A0 l0.length c0] w fun e w'=>e=.returned (.string r)∧Below w.heap.size w w':=by
 have HR0:=m_ hr0
 have a8:=m_ hc0
 clear hr0 hc0
 have HB:=m_ (Below.refl w.heap.size w)
 unfold Ac.f at h
 have H:=h
 clear h
 revert H;refine fJ (fun c2 H=>?_) fun c2 H=>?_
 ·have a6:=gZ c2
  have a7:=g_ c2
  clear c2
  obtain rfl:=cZ H
  go_enter func70,ntmps70
  go_wp2
  go_ret
  exact ⟨b_,ay⟩
 have a6:=gU c2
 have a7:=gV c2
 have a9:¬ (l0=[]):=fun dV=>c2 (by rw [dV];rfl)
 obtain ⟨a5,A3,H⟩:=bd_ H
 obtain ⟨c4,H⟩:=lG H
 have aa:=eq_true c4
 have ab:=lC c4
 try have ac:(9223372036854775807 < 1+a5.size)=False:=eq_false (Nat.not_lt.2 c4)
 obtain rfl:=cZ H
 go_enter func70,ntmps70
 go_wp2_with (first|((with_reducible refine bU 121 ?_);refine bV (some 7) rfl rfl func121 aB rfl #[.slice A0 l0.length c0,.string (⟨#[47]⟩:ByteArray)] rfl aW ?_;(with_reducible refine (strings_Join.calls _ _ l0 (⟨#[47]⟩:ByteArray) a5 _ PU a8.out A3.out).mono ?_);rintro e w5 ⟨rfl,hb⟩;refine ⟨_,rfl,?_⟩;have gX:=m_ (dI ay hb);clear HB;have HB:=gX;clear gX;(try clear hb)))
 go_ret
 exact ⟨b_,ay⟩

def yQ.f (k:Nat) (a0:ByteArray):Option (ByteArray):=(mF.f k a0).bind fun a5=>(if a5.2=0 then (if (a5.1.length:Int)=0 then (some (⟨#[]⟩:ByteArray)) else (if 0≤(wrap64 ((a5.1.length:Int) - 1)) then (if (wrap64 ((a5.1.length:Int) - 1))≤(a5.1.length:Int) then ((Ac.f (a5.1.take ((wrap64 ((a5.1.length:Int) - 1)):Int).toNat)).bind fun a6=>(some a6)) else (none)) else (none))) else (some (⟨#[]⟩:ByteArray)))
theorem yQ.calls (k:Nat) (a0:ByteArray) (r:ByteArray) (w:World) (oO:jH w) (h:yQ.f k a0=some r) :
  Calls Tryz.prog 59 #[.string a0] w fun e w'=>e=.returned (.string r)∧Below w.heap.size w w':=by
 have HD:=m_ oO
 clear oO
 have HB:=m_ (Below.refl w.heap.size w)
 unfold yQ.f at h
 have H:=h
 clear h
 obtain ⟨⟨a5,ac⟩,A2,H⟩:=bd_ H
 try dsimp -simprocs only at H
 revert H;refine fJ (fun c3 H=>?_) fun c3 H=>?_
 rotate_left
 ·have aP:=gU c3
  have ai:=gV c3
  obtain rfl:=cZ H
  go_enter func59,ntmps59
  go_wp2_with (first|((with_reducible refine bU 57 ?_);refine bV (some 7) rfl rfl func57 aB rfl #[.string a0] rfl aW ?_;(with_reducible refine (mF.calls k a0 a5 ac _ (jH.below HD.out ay) A2.out).mono ?_);rintro e ax ⟨ac6,rfl,ho0,hb⟩;refine ⟨_,rfl,?_⟩;obtain ⟨a6,HB⟩:=p_ (Kd.dK ho0 (dO ay)) <| a_ (dI ay hb);(try clear hb);(try clear ho0)))
  go_ret
  exact ⟨b_,ay⟩
 have aP:=gZ c3
 have ai:=g_ c3
 clear c3
 have an:=m_ H
 clear H
 go_enter func59,ntmps59
 go_upto_if 16 with (first|((with_reducible refine bU 57 ?_);refine bV (some 7) rfl rfl func57 aB rfl #[.string a0] rfl aW ?_;(with_reducible refine (mF.calls k a0 a5 ac _ (jH.below HD.out ay) A2.out).mono ?_);rintro e w5 ⟨ac6,rfl,ho0,hb⟩;refine ⟨_,rfl,?_⟩;obtain ⟨a6,HB⟩:=p_ (Kd.dK ho0 (dO ay)) <| a_ (dI ay hb);(try clear hb);(try clear ho0);obtain ⟨aN,ag,aq⟩:=Kd.dJ a6.out;subst aq))
 (try simp only [Act.put,List.setIfInBounds_toArray,List.set_cons_zero,List.set_cons_succ])
 obtain ⟨H⟩:=an
 revert H;refine fJ (fun c7 H=>?_) fun c7 H=>?_
 ·have a7:=gZ c7
  have aT:=g_ c7
  clear c7
  try simp only [bI,bY,a7]
  obtain rfl:=cZ H
  go_wp2
  go_ret
  exact ⟨b_,ay⟩
 have a7:=gU c7
 have aT:=gV c7
 have ar:¬ (a5=[]):=fun dV=>c7 (by rw [dV];rfl)
 try simp only [bI,bY,a7]
 obtain ⟨jl,qF⟩:∃ mQ:Int,(wrap64 ((a5.length:Int) - 1))=mQ:=⟨_,rfl⟩
 replace H:(if 0≤(jl) then (if (jl)≤(a5.length:Int) then ((Ac.f (a5.take ((jl):Int).toNat)).bind fun a8=>(some a8)) else (none)) else (none))=some r:=by first|(rw [qF] at H;exact H)|(simp only [qF] at H ⊢;exact H)
 have JJ:(IntKind.i64.wrap ((a5.length:Int) - 1))=jl:=(bI _).trans qF
 obtain ⟨bP,av,H⟩:=kT H
 obtain ⟨ao,ap,H⟩:=kT H
 obtain ⟨a9,aa⟩:∃ y_:List ByteArray,y_=(a5.take ((jl):Int).toNat):=⟨_,rfl⟩
 rw [← aa] at H
 have ab:=m_ aa
 clear aa
 obtain ⟨a8,aw,H⟩:=bd_ H
 obtain rfl:=cZ H
 have am:((jl):Int)≤((a5.length:Int):Int):=bC bD
 obtain ⟨aaB,GU,_,Oo,_⟩:=info_parts info9
 have Hw:a5.length≤ag:=(Kd.bZ a6.out).2.1
 have GR:Kd.C Kd.string _ aN a5.length a5:=(Kd.bZ a6.out).2.2
 have N_:=EM (P:=Tryz.prog) 38 9 .i64 underlying38 GU aN a5.length ag (jl) (bC bD) am Hw
 have Dl:=Kd.xC (m:=((jl):Int).toNat) GR (by omega)
 have ae:a9.length=((jl):Int).toNat:=(by rw [ab.out,List.length_take];omega)
 rw [← ab.out] at Dl
 rw [← ae] at N_
 have LX:=m_ Dl
 have af:=m_ (show a9.length≤ag from by omega)
 clear Dl GR Hw GU Oo
 have X_:=m_ ae
 clear ae
 have X7:=m_ (show ((jl):Int).toNat≤a5.length from by omega)
 replace am:=eq_true am
 go_wp2_with (first|((with_reducible refine bU 70 ?_);refine bV (some 22) rfl rfl func70 aB rfl #[.slice aN a9.length ag] rfl aW ?_;(with_reducible refine (Ac.calls _ _ a9 a8 _ ?kG af.out aw.out).mono ?_);(case kG=>repeat (first|exact WX|(with_reducible refine Kd.jJ ?_ _)|(with_reducible refine Kd.jL ?_ _)|(with_reducible refine Kd.jK ?_)));rintro e dw ⟨rfl,hb⟩;refine ⟨_,rfl,?_⟩;obtain ⟨a6,LX,HB⟩:=p_ (Kd.bn (aG a6) hb) <| p_ (Kd.qg WX hb) <| a_ (dI ay hb);(try clear hb)))
 go_ret
 exact ⟨KQ,ay⟩

def Dq.f (k:Nat) (a0:ByteArray):Option (ByteArray):=(mF.f k a0).bind fun a5=>(if a5.2=0 then (if (a5.1.length:Int)=0 then (some (⟨#[]⟩:ByteArray)) else (if 0≤(wrap64 ((a5.1.length:Int) - 1)) then (if (wrap64 ((a5.1.length:Int) - 1)) < (a5.1.length:Int) then (some (pW ByteArray.empty a5.1 (wrap64 ((a5.1.length:Int) - 1)))) else (none)) else (none))) else (some (⟨#[]⟩:ByteArray)))
theorem Dq.calls (k:Nat) (a0:ByteArray) (r:ByteArray) (w:World) (oO:jH w) (h:Dq.f k a0=some r) :
  Calls Tryz.prog 62 #[.string a0] w fun e w'=>e=.returned (.string r)∧Below w.heap.size w w':=by
 have HD:=m_ oO
 clear oO
 have HB:=m_ (Below.refl w.heap.size w)
 unfold Dq.f at h
 have H:=h
 clear h
 obtain ⟨⟨a5,a8⟩,A2,H⟩:=bd_ H
 try dsimp -simprocs only at H
 revert H;refine fJ (fun c3 H=>?_) fun c3 H=>?_
 rotate_left
 ·have ac:=gU c3
  have ae:=gV c3
  obtain rfl:=cZ H
  go_enter func62,ntmps62
  go_wp2_with (first|((with_reducible refine bU 57 ?_);refine bV (some 7) rfl rfl func57 aB rfl #[.string a0] rfl aW ?_;(with_reducible refine (mF.calls k a0 a5 a8 _ (jH.below HD.out ay) A2.out).mono ?_);rintro e ao ⟨ac7,rfl,ho0,hb⟩;refine ⟨_,rfl,?_⟩;obtain ⟨a6,HB⟩:=p_ (Kd.dK ho0 (dO ay)) <| a_ (dI ay hb);(try clear hb);(try clear ho0)))
  go_ret
  exact ⟨b_,ay⟩
 have ac:=gZ c3
 have ae:=g_ c3
 clear c3
 have aP:=m_ H
 clear H
 go_enter func62,ntmps62
 go_upto_if 16 with (first|((with_reducible refine bU 57 ?_);refine bV (some 7) rfl rfl func57 aB rfl #[.string a0] rfl aW ?_;(with_reducible refine (mF.calls k a0 a5 a8 _ (jH.below HD.out ay) A2.out).mono ?_);rintro e w5 ⟨ac7,rfl,ho0,hb⟩;refine ⟨_,rfl,?_⟩;obtain ⟨a6,HB⟩:=p_ (Kd.dK ho0 (dO ay)) <| a_ (dI ay hb);(try clear hb);(try clear ho0);obtain ⟨ap,aq,al⟩:=Kd.dJ a6.out;subst al))
 (try simp only [Act.put,List.setIfInBounds_toArray,List.set_cons_zero,List.set_cons_succ])
 obtain ⟨H⟩:=aP
 revert H;refine fJ (fun c7 H=>?_) fun c7 H=>?_
 ·have a7:=gZ c7
  have af:=g_ c7
  clear c7
  try simp only [bI,bY,a7]
  obtain rfl:=cZ H
  go_wp2
  go_ret
  exact ⟨b_,ay⟩
 have a7:=gU c7
 have af:=gV c7
 have am:¬ (a5=[]):=fun dV=>c7 (by rw [dV];rfl)
 try simp only [bI,bY,a7]
 obtain ⟨jl,qF⟩:∃ mQ:Int,(wrap64 ((a5.length:Int) - 1))=mQ:=⟨_,rfl⟩
 replace H:(if 0≤(jl) then (if (jl) < (a5.length:Int) then (some (pW ByteArray.empty a5 (jl))) else (none)) else (none))=some r:=by first|(rw [qF] at H;exact H)|(simp only [qF] at H ⊢;exact H)
 have JJ:(IntKind.i64.wrap ((a5.length:Int) - 1))=jl:=(bI _).trans qF
 obtain ⟨an,H⟩:=fU H
 obtain ⟨aN,H⟩:=fU H
 obtain rfl:=cZ H
 have a9:0≤((jl):Int):=bC bD
 have aa:(jl) < (a5.length:Int):=bC bD
 obtain ⟨aT,ag,ab⟩:=Kd.yw (Kd.bZ a6.out).2.2 (jl) a9 aa
 cases ag
 replace a9:=eq_true a9
 replace aa:=eq_true aa
 go_wp2
 go_ret
 exact ⟨KQ,ay⟩

def qG.l0:Nat→ByteArray→List ByteArray→List (aC)→Int→Int→Option (List ByteArray)
 | 0,_,_,_,_,_=>none
 | k+1,x1,x5,a6,a7,a5=>if a5 < a7 then (if 0≤a5 then (if a5 < (a6.length:Int) then ((yQ.f k ((au a6 a5).f0)).bind fun a8=>(if a8.toList=x1.toList then ((Dq.f k ((au a6 a5).f0)).bind fun a9=>(if x5.length < 8796093022208 then (qG.l0 k x1 (x5++[a9]) a6 a7 (wrap64 (a5+1))) else (none))) else (qG.l0 k x1 x5 a6 a7 (wrap64 (a5+1))))) else (none)) else (none)) else (some x5)
def qG.f (k:Nat) (a5:List (aC)) (a1:ByteArray):Option (List ByteArray):=if a1.toList=([]:List UInt8) then (some ([]:List ByteArray)) else (qG.l0 k a1 (([]:List ByteArray)) a5 (a5.length:Int) 0)
theorem qG.calls (k:Nat) (ao:Option Addr) (aN:Nat) (aH:List (aC)) (a1:ByteArray) (r:List ByteArray) (w:World) (oO:jH w) (aq:Kd.C bF w ao aH.length aH) (ar:aH.length≤aN) (h:qG.f k aH a1=some r) :
  Calls Tryz.prog 18 #[.agg #[.slice ao aH.length aN],.string a1] w fun e w'=>∃ gQ:Value,e=.returned (gQ)∧Kd.R Kd.string 9 w' w.heap.size (fun _=>True) gQ r∧Below w.heap.size w w':=by
 have oq:=underlying28
 have rF:=underlying43
 have lF:=m_ aq
 have bd:=m_ ar
 clear aq ar
 have HD:=m_ oO
 clear oO
 have HB:=m_ (Below.refl w.heap.size w)
 unfold qG.f at h
 have H:=h
 clear h
 have be:=m_ H
 clear H
 go_enter func18,ntmps18
 go_upto_if 9 with (first|((with_reducible refine dG 2 ?_);refine dU 2 (cs:=#[.slice ao aH.length aN]) 28 ?_;intro al hg w4 hbox hb;obtain ⟨HB,a5,fF,dM⟩:=kE ay hb hbox hg;clear hb hbox hg))
 (try simp only [Act.put,List.setIfInBounds_toArray,List.set_cons_zero,List.set_cons_succ])
 obtain ⟨H⟩:=be
 revert H;refine fJ (fun c5 H=>?_) fun c5 H=>?_
 ·have af:=gZ c5
  have b0:=g_ c5
  clear c5
  (first|rw [af]|(simp only [bI,bY];rw [af])|rw [show (a1.toList).isEmpty=true from by simpa using af]|skip)
  obtain rfl:=cZ H
  go_wp2
  go_ret
  exact ⟨_,b_,tN,ay⟩
 have af:=gU c5
 have b0:=gV c5
 (first|rw [af]|(simp only [bI,bY];rw [af])|rw [show (a1.toList).isEmpty=false from by simpa using af]|skip)
 obtain ⟨b1,am⟩:∃ y_:List ByteArray,y_=(([]:List ByteArray)):=⟨_,rfl⟩
 rw [← am] at H
 have bP:=m_ am
 clear am
 have H':=m_ H
 clear H
 go_wp2_with (first|((with_reducible refine dG 10 ?_);refine Kd.qV Kd.string _ 9 ?hg (N:=10) ?hd (xs:=([]:List ByteArray)) (inner:=[]) (ok:=fun _=>True) (iT:=fun _=>True) ?hr ?hp (fun _ hk=>hk) trivial (Below.refl _ _) (Nat.le_refl _) (by simp) ?_;(case hd=>rfl);(case hg=>rfl);(case hr=>first|(go_simp;done)|(go_simp;rfl));(case hp=>exact (bM.none _ _));intro ajO w6 yP hb jc jd;clear jc jd;(first|rw [← bP.out] at yP|(simp only [Int.reduceToNat] at yP;rw [← bP.out] at yP));obtain ⟨b2,a5,HB⟩:=p_ (Kd.dK yP (dO ay)) <| tZ (aj a5) ay hb;clear hb yP;have wH:=cu a5.out))
 go_loopg [5,14] k (fun kq v5 v14 w'=>∃ (aT:List ByteArray) (a6:Int),v14=ah a6∧aA (qG.l0 kq a1 aT aH (aH.length:Int) a6=some r)∧aA (kq≤k)∧aA (Kd.R Kd.string 9 w' w.heap.size (fun _=>True) v5 aT)∧aA (w'.heap[al]?=some (.cells #[(.slice ao aH.length aN)] 28))∧aA (Below w.heap.size w w'))
 case atStart=>exact ⟨(b1),(0),bg,H',⟨Nat.le_refl _⟩,⟨(aG b2)⟩,⟨(aj a5)⟩,⟨ay⟩⟩
 case round =>
 clear H'
 try clear c5;try clear af;try clear b0;try clear wH
 obtain ⟨aT,a6,rfl,HA,iq,a8,a5,HB⟩:=hrel
 cases gk with
 | zero=>exact absurd HA.out (by simp [qG.l0])
 | succ k1 =>
 obtain ⟨H⟩:=HA
 simp only [qG.l0] at H
 revert H;refine gI (fun ba H=>?_) fun ba H=>?_
 rotate_left
 ·obtain rfl:=cZ H
  go_wp2
  go_ret
  exact ⟨_,b_,(aG a8),ay⟩
 obtain ⟨bi,H⟩:=fU H
 obtain ⟨bl,H⟩:=fU H
 obtain ⟨b3,bp,H⟩:=bd_ H
 have b4:=m_ H
 clear H
 have ax:0≤(a6:Int):=bC bD
 have dw:a6 < (aH.length:Int):=bC bD
 obtain ⟨av,bb,ab,ac,ae⟩:=jP lF.out a6 ax dw
 cases bb
 replace ab:=gu HB.out ab
 replace ac:=gu HB.out ac
 replace ae:=gu HB.out ae
 replace ax:=eq_true ax
 replace dw:=eq_true dw
 go_upto_if 22 with (first|((with_reducible refine dG 7 ?_);refine dU 7 (cs:=#[.string (⟨#[]⟩:ByteArray),.bool false,.string (⟨#[]⟩:ByteArray)]) 43 ?_;intro aw hg bs hbox hb;obtain ⟨a8,a5,HB,a7,bm,fK,a9,aa⟩:=p_ (Kd.bn (aG a8) hb) <| qj (aj a5) ay hb hbox hg;clear hb hbox hg;obtain ⟨ag,aP⟩:=iJ aa a9;have bc:=nP a7.out)|((with_reducible refine bU 59 ?_);refine bV (some 20) rfl rfl func59 aB rfl #[.string ((au aH a6).f0)] rfl aW ?_;(with_reducible refine (yQ.calls k1 ((au aH a6).f0) b3 _ (jH.below HD.out ay) bp.out).mono ?_);rintro e bu ⟨rfl,hb⟩;refine ⟨_,rfl,?_⟩;have eP:=p_ (Kd.bn (by (with_reducible repeat (first|apply Kd.dR|apply Kd.dS|apply Kd.bK));exact (Kd.bW (aU (aU (aU (Kd.dL a8.out a7.out (by decide))))) (fun _ dV=>dV.1))) hb) <| p_ (bG (g:=al) (o:=.cells #[.slice (some av) aH.length aN] 28) (lM a5.out a9.out) hb) <| p_ (bG (g:=aw) (o:=.cells #[.string ((au aH a6).f0),.bool ((au aH a6).f1),.string ((au aH a6).f2)] 43) (wB a7.out) hb) <| a_ (dI ay hb);clear a8 a5 a7 HB;obtain ⟨a8,a5,a7,HB⟩:=eP;(try clear hb);(try clear hk)))
 (try simp only [Act.put,List.setIfInBounds_toArray,List.set_cons_zero,List.set_cons_succ])
 (try clear aP ag)
 (try clear bc)
 (try clear ab ac ae)
 obtain ⟨H⟩:=b4
 revert H;refine fJ (fun az H=>?_) fun az H=>?_
 rotate_left
 ·have ai:=gU az
  have b5:=gV az
  try simp only [bI,bY,ai]
  have H':=m_ H
  clear H
  go_wp2
  go_roundg k1
  case measure=>have:=iq.out;omega
  case rel=>exact ⟨(aT),(wrap64 (a6+1)),bg,H',⟨nT⟩,⟨(aG a8)⟩,⟨(aj a5)⟩,⟨ay⟩⟩
 have ai:=gZ az
 have b5:=g_ az
 clear az
 try simp only [bI,bY,ai]
 obtain ⟨ap,bq,H⟩:=bd_ H
 obtain ⟨bo,H⟩:=lG H
 have b6:=m_ bo
 clear bo
 obtain ⟨b7,an⟩:∃ y_:List ByteArray,y_=(aT++[ap]):=⟨_,rfl⟩
 rw [← an] at H
 have b8:=m_ an
 clear an
 have H':=m_ H
 clear H
 obtain ⟨ag,aP⟩:=iJ aa a9
 have br:=nP a7.out
 go_wp2_with (first|((with_reducible refine bU 62 ?_);refine bV (some 26) rfl rfl func62 aB rfl #[.string ((au aH a6).f0)] rfl aW ?_;(with_reducible refine (Dq.calls k1 ((au aH a6).f0) ap _ (jH.below HD.out ay) bq.out).mono ?_);rintro e bv ⟨rfl,hb⟩;refine ⟨_,rfl,?_⟩;obtain ⟨a8,a5,a7,HB⟩:=p_ (Kd.bn (aG a8) hb) <| uF (aj a5) (aj a7) ay hb;(try clear hb))|((with_reducible refine wW (b:=.append) (xs:=#[.tmp 23,.tmp 27]) rfl ?_);at_builtin;refine Kd.CS Kd.string (w0:=w) w.heap.size rfl (.tmp 23) (.tmp 27) 38 9 (.string ⟨#[]⟩) 16 rfl underlying38 info9 rfl (by decide) (by omega) u5 aT ap [.string ap] (fun _=>True) (fun _=>False) rfl rfl ?rD (fun _ hk=>hk.elim) ?kS ?ku ?lu ?kC ?aL ?_;(case rD=>exact rfl);(case lu=>exact ay);(case kS=>exact (fun _ _=>trivial));(case ku=>exact (aG a8));(case kC=>exact (dO ay));(case aL=>have:=b6.out;omega);intro ajP bw ho hb hg hat;rw [← b8.out] at ho;obtain ⟨a5,a7,HB,b9⟩:=p_ (iE (g:=al) (o:=.cells #[.slice (some av) aH.length aN] 28) (aj a5) hg (Kd.iw a8.out a5.out (by decide))) <| p_ (iE (g:=aw) (o:=.cells #[.string ((au aH a6).f0),.bool ((au aH a6).f1),.string ((au aH a6).f2)] 43) (aj a7) hg (Kd.iw a8.out a7.out (by decide))) <| p_ (hb) <| a_ (ho);clear ho hb hg hat))
 go_roundg k1
 case measure=>have:=iq.out;omega
 case rel=>exact ⟨(b7),(wrap64 (a6+1)),bg,H',⟨nT⟩,⟨(aG b9)⟩,⟨(aj a5)⟩,⟨ay⟩⟩

def sU.f (a0:Int) (a1:Int) (a2:Int):Option (Bool):=if a0 ≥ a1 then (some (decide (a0≤a2))) else (some false)
theorem sU.calls (a0:Int) (a1:Int) (a2:Int) (r:Bool) (w:World) (h:sU.f a0 a1 a2=some r) :
  Calls Tryz.prog 100 #[ah a0,ah a1,ah a2] w fun e w'=>e=.returned (.bool r)∧nH w w':=by
 unfold sU.f at h
 have H:=h
 clear h
 revert H;refine gI (fun a5 H=>?_) fun a5 H=>?_
 ·obtain rfl:=cZ H
  go_enter func100,ntmps100
  go_wp2
  go_ret
  exact ⟨bg,jS⟩
 obtain rfl:=cZ H
 go_enter func100,ntmps100
 go_wp2
 go_ret
 exact ⟨bg,jS⟩

def zk.f (a6:Int) (a5:Int) (a7:Int) (a8:Int):Option (Bool):=(sU.f a6 1 3).bind fun a9=>(if a9=true then ((sU.f a5 5 12).bind fun aa=>(if aa=true then ((sU.f a7 2 6).bind fun ab=>(if ab=true then ((sU.f a8 1 (wrap64 (a5 - 4))).bind fun ac=>(some ac)) else (some false))) else (some false))) else (some false))
theorem zk.calls (a5:Int) (a7:Int) (a8:Int) (a9:Int) (r:Bool) (w:World) (h:zk.f a5 a7 a8 a9=some r) :
  Calls Tryz.prog 55 #[.agg #[ah a5,ah a7,ah a8,ah a9]] w fun e w'=>e=.returned (.bool r)∧Below w.heap.size w w':=by
 have w_:=underlying25
 have HB:=m_ (Below.refl w.heap.size w)
 unfold zk.f at h
 have H:=h
 clear h
 obtain ⟨ae,A2,H⟩:=bd_ H
 by_cases c3:ae=true
 rotate_left
 ·replace c3:=Bool.eq_false_iff.mpr c3
  subst c3
  rw [if_neg iO] at H
  obtain rfl:=cZ H
  go_enter func55,ntmps55
  go_wp2_with (first|((with_reducible refine dG 1 ?_);refine dU 1 (cs:=#[ah a5,ah a7,ah a8,ah a9]) 25 ?_;intro aa hg am hbox hb;obtain ⟨HB,a6,ab,ac⟩:=kE ay hb hbox hg;clear hb hbox hg;have ai:=jQ a6.out)|((with_reducible refine bU 100 ?_);refine bV (some 5) rfl rfl func100 aB rfl #[ah a5,ah 1,ah 3] rfl aW ?_;(with_reducible refine (sU.calls a5 1 3 false _ A2.out).mono ?_);rintro e w' ⟨rfl,⟨nd,rfl⟩⟩;refine ⟨_,rfl,?_⟩))
  go_ret
  exact ⟨b_,ay⟩
 subst c3
 rw [if_pos rfl] at H
 obtain ⟨af,A4,H⟩:=bd_ H
 by_cases c5:af=true
 rotate_left
 ·replace c5:=Bool.eq_false_iff.mpr c5
  subst c5
  rw [if_neg iO] at H
  obtain rfl:=cZ H
  go_enter func55,ntmps55
  go_wp2_with (first|((with_reducible refine dG 1 ?_);refine dU 1 (cs:=#[ah a5,ah a7,ah a8,ah a9]) 25 ?_;intro aa hg an hbox hb;obtain ⟨HB,a6,ab,ac⟩:=kE ay hb hbox hg;clear hb hbox hg;have aN:=jQ a6.out)|((with_reducible refine bU 100 ?_);refine bV (some 5) rfl rfl func100 aB rfl #[ah a5,ah 1,ah 3] rfl aW ?_;(with_reducible refine (sU.calls a5 1 3 true _ A2.out).mono ?_);rintro e w' ⟨rfl,⟨nd,rfl⟩⟩;refine ⟨_,rfl,?_⟩)|(go_at_call 100;(with_reducible refine (sU.calls a7 5 12 false _ A4.out).mono ?_);rintro e w' ⟨rfl,⟨nd,rfl⟩⟩))
  go_ret
  exact ⟨b_,ay⟩
 subst c5
 rw [if_pos rfl] at H
 obtain ⟨ag,A6,H⟩:=bd_ H
 by_cases c7:ag=true
 rotate_left
 ·replace c7:=Bool.eq_false_iff.mpr c7
  subst c7
  rw [if_neg iO] at H
  obtain rfl:=cZ H
  go_enter func55,ntmps55
  go_wp2_with (first|((with_reducible refine dG 1 ?_);refine dU 1 (cs:=#[ah a5,ah a7,ah a8,ah a9]) 25 ?_;intro aa hg ao hbox hb;obtain ⟨HB,a6,ab,ac⟩:=kE ay hb hbox hg;clear hb hbox hg;have aT:=jQ a6.out)|((with_reducible refine bU 100 ?_);refine bV (some 5) rfl rfl func100 aB rfl #[ah a5,ah 1,ah 3] rfl aW ?_;(with_reducible refine (sU.calls a5 1 3 true _ A2.out).mono ?_);rintro e w' ⟨rfl,⟨nd,rfl⟩⟩;refine ⟨_,rfl,?_⟩)|(go_at_call 100;(with_reducible refine (sU.calls a7 5 12 true _ A4.out).mono ?_);rintro e w' ⟨rfl,⟨nd,rfl⟩⟩)|(go_at_call 100;(with_reducible refine (sU.calls a8 2 6 false _ A6.out).mono ?_);rintro e w' ⟨rfl,⟨nd,rfl⟩⟩))
  go_ret
  exact ⟨b_,ay⟩
 subst c7
 rw [if_pos rfl] at H
 obtain ⟨aP,x8,H⟩:=bd_ H
 obtain rfl:=cZ H
 go_enter func55,ntmps55
 go_wp2_with (first|((with_reducible refine dG 1 ?_);refine dU 1 (cs:=#[ah a5,ah a7,ah a8,ah a9]) 25 ?_;intro aa hg w9 hbox hb;obtain ⟨HB,a6,ab,ac⟩:=kE ay hb hbox hg;clear hb hbox hg;have al:=jQ a6.out)|((with_reducible refine bU 100 ?_);refine bV (some 5) rfl rfl func100 aB rfl #[ah a5,ah 1,ah 3] rfl aW ?_;(with_reducible refine (sU.calls a5 1 3 true _ A2.out).mono ?_);rintro e w' ⟨rfl,⟨nd,rfl⟩⟩;refine ⟨_,rfl,?_⟩)|(go_at_call 100;(with_reducible refine (sU.calls a7 5 12 true _ A4.out).mono ?_);rintro e w' ⟨rfl,⟨nd,rfl⟩⟩)|(go_at_call 100;(with_reducible refine (sU.calls a8 2 6 true _ A6.out).mono ?_);rintro e w' ⟨rfl,⟨nd,rfl⟩⟩)|(go_at_call 100;(with_reducible refine (sU.calls a9 1 (wrap64 (a7 - 4)) aP _ x8.out).mono ?_);rintro e w' ⟨rfl,⟨nd,rfl⟩⟩))
 go_ret
 exact ⟨b_,ay⟩

def Bf.f (a0:Int):Option (Int):=if a0 < 0 then (some 0) else (if (Int.tmod a0 32) > 0 then (some (wrap64 ((wrap64 (Int.tdiv a0 32))+1))) else (some (wrap64 (Int.tdiv a0 32))))
theorem Bf.calls (a0:Int) (r:Int) (w:World) (h:Bf.f a0=some r) :
  Calls Tryz.prog 101 #[ah a0] w fun e w'=>e=.returned (ah r)∧nH w w':=by
 unfold Bf.f at h
 have H:=h
 clear h
 revert H;refine gI (fun a5 H=>?_) fun a5 H=>?_
 ·obtain rfl:=cZ H
  go_enter func101,ntmps101
  go_wp2
  go_ret
  exact ⟨bg,jS⟩
 revert H;refine gI (fun a6 H=>?_) fun a6 H=>?_
 ·obtain rfl:=cZ H
  go_enter func101,ntmps101
  go_wp2
  go_ret
  exact ⟨bg,jS⟩
 obtain rfl:=cZ H
 go_enter func101,ntmps101
 go_wp2
 go_ret
 exact ⟨bg,jS⟩

def sS.l0:Nat→Int→List (aC)→Int→Int→Option (Int)
 | 0,_,_,_,_=>none
 | k+1,x3,x7,h_,mW=>if mW < h_ then (if 0≤mW then (if mW < (x7.length:Int) then (if ((au x7 mW).f1=true) then (sS.l0 k x3 x7 h_ (wrap64 (mW+1))) else ((Bf.f (((au x7 mW).f2).size:Int)).bind fun a5=>(sS.l0 k (wrap64 (x3+a5)) x7 h_ (wrap64 (mW+1))))) else (none)) else (none)) else (some x3)
def sS.f (k:Nat) (a5:List (aC)):Option (Int):=sS.l0 k 0 a5 (a5.length:Int) 0
theorem sS.calls (k:Nat) (ag:Option Addr) (aP:Nat) (aH:List (aC)) (r:Int) (w:World) (aN:Kd.C bF w ag aH.length aH) (aT:aH.length≤aP) (h:sS.f k aH=some r) :
  Calls Tryz.prog 56 #[.agg #[.slice ag aH.length aP]] w fun e w'=>e=.returned (ah r)∧Below w.heap.size w w':=by
 have oq:=underlying28
 have rF:=underlying43
 have lF:=m_ aN
 have av:=m_ aT
 clear aN aT
 have HB:=m_ (Below.refl w.heap.size w)
 unfold sS.f at h
 have H:=h
 clear h
 have H':=m_ H
 clear H
 go_enter func56,ntmps56
 go_wp2_with (first|((with_reducible refine dG 1 ?_);refine dU 1 (cs:=#[.slice ag aH.length aP]) 28 ?_;intro ao hg w2 hbox hb;obtain ⟨HB,a6,aw,ax⟩:=kE ay hb hbox hg;clear hb hbox hg;have ado:=cu a6.out))
 go_loopg [3,9] k (fun kq v3 v9 w'=>∃ (af:Int) (a5:Int),v3=ah af∧v9=ah a5∧aA (sS.l0 kq af aH (aH.length:Int) a5=some r)∧aA (kq≤k)∧aA (w'.heap[ao]?=some (.cells #[(.slice ag aH.length aP)] 28))∧aA (Below w.heap.size w w'))
 case atStart=>exact ⟨(0),(0),bg,bg,H',⟨Nat.le_refl _⟩,⟨(aj a6)⟩,⟨ay⟩⟩
 case round =>
 clear H'
 try clear ado
 obtain ⟨af,a5,rfl,rfl,HA,iq,a6,HB⟩:=hrel
 cases gk with
 | zero=>exact absurd HA.out (by simp [sS.l0])
 | succ k1 =>
 obtain ⟨H⟩:=HA
 simp only [sS.l0] at H
 revert H;refine gI (fun aq H=>?_) fun aq H=>?_
 rotate_left
 ·obtain rfl:=cZ H
  go_wp2
  go_ret
  exact ⟨b_,ay⟩
 obtain ⟨b3,H⟩:=fU H
 obtain ⟨b4,H⟩:=fU H
 have dw:=m_ H
 clear H
 have am:0≤(a5:Int):=bC bD
 have an:a5 < (aH.length:Int):=bC bD
 obtain ⟨az,ar,a9,aa,ab⟩:=jP lF.out a5 am an
 cases ar
 replace a9:=gu HB.out a9
 replace aa:=gu HB.out aa
 replace ab:=gu HB.out ab
 replace am:=eq_true am
 replace an:=eq_true an
 go_upto_if 15 with (first|((with_reducible refine dG 5 ?_);refine dU 5 (cs:=#[.string (⟨#[]⟩:ByteArray),.bool false,.string (⟨#[]⟩:ByteArray)]) 43 ?_;intro b0 hg w8 hbox hb;obtain ⟨a6,HB,al,b1,b2,a7,a8⟩:=qj (aj a6) ay hb hbox hg;clear hb hbox hg;obtain ⟨ac,ae⟩:=iJ a8 a7;have bP:=nP al.out))
 (try simp only [Act.put,List.setIfInBounds_toArray,List.set_cons_zero,List.set_cons_succ])
 (try clear ae ac)
 (try clear bP)
 (try clear a9 aa ab)
 obtain ⟨H⟩:=dw
 obtain ⟨Rn,NY⟩:∃ Gl:Bool,Gl=((au aH a5).f1):=⟨_,rfl⟩
 replace H:(if (Rn=true) then (sS.l0 k1 af aH (aH.length:Int) (wrap64 (a5+1))) else ((Bf.f (((au aH a5).f2).size:Int)).bind fun ai=>(sS.l0 k1 (wrap64 (af+ai)) aH (aH.length:Int) (wrap64 (a5+1)))))=some r:=by rw [← NY] at H;exact H
 have Yf:=m_ NY
 clear NY
 (try rw [← Yf.out])
 by_cases ap:(Rn=true)
 ·subst ap
  rw [if_pos rfl] at H
  have H':=m_ H
  clear H
  go_wp2
  go_roundg k1
  case measure=>have:=iq.out;omega
  case rel=>exact ⟨(af),(wrap64 (a5+1)),bg,bg,H',⟨nT⟩,⟨bH⟩,⟨ay⟩⟩
 replace ap:=Bool.eq_false_iff.mpr ap
 subst ap
 rw [if_neg iO] at H
 obtain ⟨ai,b5,H⟩:=bd_ H
 have H':=m_ H
 clear H
 obtain ⟨ac,ae⟩:=iJ a8 a7
 have b6:=nP al.out
 go_wp2_with (first|((with_reducible refine bU 101 ?_);refine bV (some 20) rfl rfl func101 aB rfl #[ah (((au aH a5).f2).size:Int)] rfl aW ?_;(with_reducible refine (Bf.calls (((au aH a5).f2).size:Int) ai _ b5.out).mono ?_);rintro e w' ⟨rfl,⟨nd,rfl⟩⟩;refine ⟨_,rfl,?_⟩))
 go_roundg k1
 case measure=>have:=iq.out;omega
 case rel=>exact ⟨(wrap64 (af+ai)),(wrap64 (a5+1)),bg,bg,H',⟨nT⟩,⟨bH⟩,⟨ay⟩⟩

def EK.p (pU:ByteArray) (x:aC):Bool:=x.f0.toList == pU.toList
theorem EK (x:aC) (sN:Nat) (pU:ByteArray) (W:World) (hcl0:W.heap[sN]?=some (.cells #[.string pU] 9)):Calls Tryz.prog 61 (#[.agg #[.string x.f0,.bool x.f1,.string x.f2]]++#[.pointer (some ⟨sN,0,none⟩)]) W fun e w'=>e=.returned (.bool (EK.p pU x))∧Below W.heap.size W w':=by
 have aax:=underlying9
 have rF:=underlying43
 have hb0:sN < W.heap.size:=fO hcl0
 have TF:W.cell? ⟨sN,0,none⟩=some (.string pU):=(aO hcl0 0).trans rfl
 clear hcl0
 show Calls Tryz.prog 61 #[.agg #[.string x.f0,.bool x.f1,.string x.f2],.pointer (some ⟨sN,0,none⟩)] W _
 go_enter func61,ntmps61
 go_wp2
 go_ret
 exact ⟨(by unfold EK.p;first|rfl|(simp;done)),P6⟩

def Bd.p (pU:ByteArray) (EI:Bool) (EJ:ByteArray) (x:aC):Bool:=!(Op.bytesLess x.f0.toList pU.toList)
theorem Bd (x:aC) (sN:Nat) (pU:ByteArray) (EI:Bool) (EJ:ByteArray) (W:World) (hcl0:W.heap[sN]?=some (.cells #[.string pU,.bool EI,.string EJ] 43)):Calls Tryz.prog 65 (#[.agg #[.string x.f0,.bool x.f1,.string x.f2]]++#[.pointer (some ⟨sN,0,none⟩)]) W fun e w'=>e=.returned (.bool (Bd.p pU EI EJ x))∧Below W.heap.size W w':=by
 have rF:=underlying43
 have hb0:sN < W.heap.size:=fO hcl0
 have TF:W.cell? ⟨sN,0,none⟩=some (.string pU):=(aO hcl0 0).trans rfl
 have aea:W.cell? ⟨sN,1,none⟩=some (.bool EI):=(aO hcl0 1).trans rfl
 have aeb:W.cell? ⟨sN,2,none⟩=some (.string EJ):=(aO hcl0 2).trans rfl
 clear hcl0
 show Calls Tryz.prog 65 #[.agg #[.string x.f0,.bool x.f1,.string x.f2],.pointer (some ⟨sN,0,none⟩)] W _
 go_enter func65,ntmps65
 go_wp2
 go_ret
 exact ⟨(by unfold Bd.p;first|rfl|(simp;done)),P6⟩

def zS.p (pU:ByteArray) (x:aC):Bool:=x.f0.toList == pU.toList
theorem zS (x:aC) (sN:Nat) (pU:ByteArray) (W:World) (hcl0:W.heap[sN]?=some (.cells #[.string pU] 9)):Calls Tryz.prog 112 (#[.agg #[.string x.f0,.bool x.f1,.string x.f2]]++#[.pointer (some ⟨sN,0,none⟩)]) W fun e w'=>e=.returned (.bool (zS.p pU x))∧Below W.heap.size W w':=by
 have aax:=underlying9
 have rF:=underlying43
 have hb0:sN < W.heap.size:=fO hcl0
 have TF:W.cell? ⟨sN,0,none⟩=some (.string pU):=(aO hcl0 0).trans rfl
 clear hcl0
 show Calls Tryz.prog 112 #[.agg #[.string x.f0,.bool x.f1,.string x.f2],.pointer (some ⟨sN,0,none⟩)] W _
 go_enter func112,ntmps112
 go_wp2
 go_ret
 exact ⟨(by unfold zS.p;first|rfl|(simp;done)),P6⟩

def abm:Go.Shelf.Ren:=⟨fun|6=>60|n=>n,fun|22=>26|23=>43|25=>85|3=>3|0=>0|4=>4|n=>n,fun|n=>n⟩
theorem abl:Go.Proofs.SlLaysH0.n6 Tryz.prog abm:={
 mixed:=by kernel_rfl
 f6:=⟨Tryz.f60.name,(by decide),func60.trans (congrArg some aB)⟩
 t0:=underlying0
 a0:=Tryz.isAgg0
 z0:=Tryz.sizeOf0
 v0:=Tryz.zeroValue0
 t3:=underlying3
 a3:=Tryz.isAgg3
 z3:=Tryz.sizeOf3
 v3:=Tryz.zeroValue3
 t4:=underlying4
 a4:=Tryz.isAgg4
 z4:=Tryz.sizeOf4
 v4:=Tryz.zeroValue4
 t22:=underlying26
 a22:=Tryz.isAgg26
 z22:=Tryz.sizeOf26
 v22:=Tryz.zeroValue26
 t25:=underlying85
 a25:=Tryz.isAgg85
 z25:=Tryz.sizeOf85
 v25:=Tryz.zeroValue85 }
theorem aaN (a:Option Addr) (c:Nat) (fv:Value) (w:World):Calls Tryz.prog 60 #[.slice a 0 c,fv] w fun e w'=>e=.returned (ah (-1))∧w'=w:=by
 go_enter func60,ntmps60
 go_wp2
 go_loopg [5,8] 0 (fun gg _ s8 wr=>s8=ah 0∧wr=w)
 case atStart=>exact ⟨rfl,rfl⟩
 case round =>
 obtain ⟨rfl,rfl⟩:=hrel
 go_wp2
 go_ret
 exact ⟨rfl,rfl⟩
instance ah_:Inhabited aC:=⟨z43⟩
def kF (x:aC):List Value:=[.string x.f0,.bool x.f1,.string x.f2]
theorem JO (p:aC→Bool) (g:Nat) (lb:Array Value) (eg:∀ args w,(callFunc g args).run Tryz.prog w=.ok (.enter g args) w) (A0:Option Addr) (c0:Nat) (l0:List aC) (w:World) (hr0:Kd.C bF w A0 l0.length l0) (hbig:l0.length≤9223372036854775807)
  (hp:PredBelow Tryz.prog g lb (fun x=>.agg (kF x).toArray) p w) :
  Calls Tryz.prog 60 #[.slice A0 l0.length c0,.func (.func g) #[] lb] w fun e w'=>e=.returned (ah (Lib.idxBy (fun _ y=>p y) l0 default))∧Below w.heap.size w w':=by
 rcases Nat.eq_zero_or_pos l0.length with hz|hz
 ·have hn:=List.eq_nil_of_length_eq_zero hz
  subst hn
  refine (aaN A0 c0 _ w).mono ?_
  rintro e w' ⟨rfl,rfl⟩
  exact ⟨rfl,Below.refl _ _⟩
 ·obtain ⟨ad,rfl,hcell⟩:=hr0.2.2 hz
  have cells:∀ (j:Nat) x,l0[j]?=some x→∀ i v,(kF x)[i]?=some v→w.cell? (ad.add (j * 3+i))=some v:=by
   intro j x hx i v hv
   obtain ⟨c,_,hk,hc⟩:=hcell j x hx
   have hk2:=Ie hk
   subst hk2
   exact hc i _ hv
  have h0:=cells 0 _ (List.getElem?_eq_getElem hz) 0 _ rfl
  have hsp:ad.spot=none:=by
   have h0':w.cell? ad=some _:=h0
   unfold World.cell? at h0'
   split at h0'
   ·split at h0'
    ·cases h0'
    ·simpa using ‹¬ ad.spot.isSome=true›
   ·cases h0'
  obtain ⟨bk,o,sp⟩:=ad
  cases hsp
  have:=AnyQ.slices_IndexFunc abl 3 Tryz.isAgg43 Tryz.sizeOf43 kF (fun _=>rfl) p g lb eg bk o l0.length c0 l0 w hp (Nat.le_refl _) hbig (World.block_lt_of_cell? w _ h0) (fun j hj i v hv=>by
   have:=cells j _ (List.getElem?_eq_getElem hj) i v (by rw [← getElem!_pos l0 j hj];exact hv)
   rw [Addr.add_lit] at this
   rw [Nat.add_assoc]
   exact this)
  rw [List.take_length] at this
  exact this
def FC.f (l0:List aC) (pU:ByteArray):Option (Int):=if l0.length≤9223372036854775807 then some (Lib.idxBy (fun _ y=>EK.p pU y) l0 z43) else none
theorem FC.calls (A0:Option Addr) (c0:Nat) (l0:List aC) (a6:Nat) (a5:ByteArray) (r:Int) (w:World) (hr0:Kd.C bF w A0 l0.length l0) (hc0:l0.length≤c0) (a7:w.heap[a6]?=some (.cells #[.string a5] 9)) (h:FC.f l0 a5=some r) :
  Calls Tryz.prog 60 #[.slice A0 l0.length c0,.func (.func 61) #[] #[.pointer (some ⟨a6,0,none⟩)]] w fun e w'=>e=.returned (ah r)∧Below w.heap.size w w':=by
 unfold FC.f at h
 split at h
 case isFalse=>cases h
 case isTrue hl =>
 obtain rfl:=cZ h
 exact JO (fun y=>EK.p a5 y) 61 #[.pointer (some ⟨a6,0,none⟩)] (fun args W=>CX func61 rfl rfl args W) A0 c0 l0 w hr0 hl (fun W x hW=>(EK x a6 a5 W (bG a7 hW)).mono fun e w' hq=>⟨hq.1,hW.trans (hq.2.mono hW.size)⟩)
def FD.f (l0:List aC) (pU:ByteArray) (EI:Bool) (EJ:ByteArray):Option (Int):=if l0.length≤9223372036854775807 then some (Lib.idxBy (fun _ y=>Bd.p pU EI EJ y) l0 z43) else none
theorem FD.calls (A0:Option Addr) (c0:Nat) (l0:List aC) (a8:Nat) (a5:ByteArray) (a6:Bool) (a7:ByteArray) (r:Int) (w:World) (hr0:Kd.C bF w A0 l0.length l0) (hc0:l0.length≤c0) (a9:w.heap[a8]?=some (.cells #[.string a5,.bool a6,.string a7] 43)) (h:FD.f l0 a5 a6 a7=some r) :
  Calls Tryz.prog 60 #[.slice A0 l0.length c0,.func (.func 65) #[] #[.pointer (some ⟨a8,0,none⟩)]] w fun e w'=>e=.returned (ah r)∧Below w.heap.size w w':=by
 unfold FD.f at h
 split at h
 case isFalse=>cases h
 case isTrue hl =>
 obtain rfl:=cZ h
 exact JO (fun y=>Bd.p a5 a6 a7 y) 65 #[.pointer (some ⟨a8,0,none⟩)] (fun args W=>CX func65 rfl rfl args W) A0 c0 l0 w hr0 hl (fun W x hW=>(Bd x a8 a5 a6 a7 W (bG a9 hW)).mono fun e w' hq=>⟨hq.1,hW.trans (hq.2.mono hW.size)⟩)
def Pg.f (l0:List aC) (pU:ByteArray):Option (Int):=if l0.length≤9223372036854775807 then some (Lib.idxBy (fun _ y=>zS.p pU y) l0 z43) else none
theorem Pg.calls (A0:Option Addr) (c0:Nat) (l0:List aC) (a6:Nat) (a5:ByteArray) (r:Int) (w:World) (hr0:Kd.C bF w A0 l0.length l0) (hc0:l0.length≤c0) (a7:w.heap[a6]?=some (.cells #[.string a5] 9)) (h:Pg.f l0 a5=some r) :
  Calls Tryz.prog 60 #[.slice A0 l0.length c0,.func (.func 112) #[] #[.pointer (some ⟨a6,0,none⟩)]] w fun e w'=>e=.returned (ah r)∧Below w.heap.size w w':=by
 unfold Pg.f at h
 split at h
 case isFalse=>cases h
 case isTrue hl =>
 obtain rfl:=cZ h
 exact JO (fun y=>zS.p a5 y) 112 #[.pointer (some ⟨a6,0,none⟩)] (fun args W=>CX func112 rfl rfl args W) A0 c0 l0 w hr0 hl (fun W x hW=>(zS x a6 a5 W (bG a7 hW)).mono fun e w' hq=>⟨hq.1,hW.trans (hq.2.mono hW.size)⟩)

def ug.f (a5:List (aC)) (a1:ByteArray):Option (Int):=(FC.f a5 a1).bind fun a6=>(some a6)
theorem ug.calls (a9:Option Addr) (aa:Nat) (aH:List (aC)) (a1:ByteArray) (r:Int) (w:World) (ab:Kd.C bF w a9 aH.length aH) (ac:aH.length≤aa) (h:ug.f aH a1=some r) :
  Calls Tryz.prog 17 #[.agg #[.slice a9 aH.length aa],.string a1] w fun e w'=>e=.returned (ah r)∧Below w.heap.size w w':=by
 have oq:=underlying28
 have lF:=m_ ab
 have af:=m_ ac
 clear ab ac
 have HB:=m_ (Below.refl w.heap.size w)
 unfold ug.f at h
 have H:=h
 clear h
 obtain ⟨ai,A3,H⟩:=bd_ H
 obtain rfl:=cZ H
 go_enter func17,ntmps17
 go_wp2_with (first|((with_reducible refine dG 2 ?_);refine dU 2 (cs:=#[.slice a9 aH.length aa]) 28 ?_;intro aN hg w4 hbox hb;obtain ⟨HB,a5,aT,al⟩:=kE ay hb hbox hg;clear hb hbox hg)|((with_reducible refine dG 3 ?_);refine dU 3 (cs:=#[.string a1]) 9 ?_;intro ae hg w5 hbox hb;obtain ⟨a5,HB,a6,am,an,a7,a8⟩:=qj (aj a5) ay hb hbox hg;clear hb hbox hg;obtain ⟨ag,aP⟩:=iJ a7 a8;have Ed:=cu a5.out)|((with_reducible refine bU 60 ?_);refine bV (some 8) rfl rfl func60 aB rfl #[.slice a9 aH.length aa,.func (.func 61) #[] #[.pointer (some ⟨ae,0,none⟩)]] rfl aW ?_;(with_reducible refine (FC.calls _ _ aH ae a1 ai _ sD af.out ?mJ A3.out).mono ?_);(case mJ=>(with_reducible repeat (first|refine kD ?_ _|refine gW ?_|refine jG ?_ _));exact a6.out);rintro e w8 ⟨rfl,hb⟩;refine ⟨_,rfl,?_⟩;obtain ⟨a5,a6,HB⟩:=uF (aj a5) (aj a6) ay hb;(try clear hb)))
 go_ret
 exact ⟨b_,ay⟩

def Ad.f (a6:List (aC)) (a1:ByteArray):Option (Bool):=(ug.f a6 a1).bind fun a5=>(if a1.toList=([47]:List UInt8) then (some true) else (if a5 ≥ 0 then (if 0≤a5 then (if a5 < (a6.length:Int) then (some ((au a6 a5).f1)) else (none)) else (none)) else (some false)))
theorem Ad.calls (a6:Option Addr) (a7:Nat) (aH:List (aC)) (a1:ByteArray) (r:Bool) (w:World) (ae:Kd.C bF w a6 aH.length aH) (af:aH.length≤a7) (h:Ad.f aH a1=some r) :
  Calls Tryz.prog 58 #[.agg #[.slice a6 aH.length a7],.string a1] w fun e w'=>e=.returned (.bool r)∧Below w.heap.size w w':=by
 have oq:=underlying28
 have lF:=m_ ae
 have ac:=m_ af
 clear ae af
 have HB:=m_ (Below.refl w.heap.size w)
 unfold Ad.f at h
 have H:=h
 clear h
 obtain ⟨a8,A3,H⟩:=bd_ H
 revert H;refine fJ (fun c4 H=>?_) fun c4 H=>?_
 ·have al:=gZ c4
  have am:=g_ c4
  clear c4
  obtain rfl:=cZ H
  go_enter func58,ntmps58
  go_wp2_with (first|((with_reducible refine dG 2 ?_);refine dU 2 (cs:=#[.slice a6 aH.length a7]) 28 ?_;intro ag hg w5 hbox hb;obtain ⟨HB,a5,aP,ai⟩:=kE ay hb hbox hg;clear hb hbox hg;have adv:=cu a5.out)|((with_reducible refine bU 17 ?_);refine bV (some 8) rfl rfl func17 aB rfl #[.agg #[.slice a6 aH.length a7],.string a1] rfl aW ?_;(with_reducible refine (ug.calls _ _ aH a1 a8 _ sD ac.out A3.out).mono ?_);rintro e w7 ⟨rfl,hb⟩;refine ⟨_,rfl,?_⟩;obtain ⟨a5,HB⟩:=tZ (aj a5) ay hb;(try clear hb)))
  go_ret
  exact ⟨b_,ay⟩
 have al:=gU c4
 have am:=gV c4
 revert H;refine gI (fun an H=>?_) fun an H=>?_
 rotate_left
 ·obtain rfl:=cZ H
  go_enter func58,ntmps58
  go_wp2_with (first|((with_reducible refine dG 2 ?_);refine dU 2 (cs:=#[.slice a6 aH.length a7]) 28 ?_;intro ag hg av hbox hb;obtain ⟨HB,a5,aP,ai⟩:=kE ay hb hbox hg;clear hb hbox hg;have KY:=cu a5.out)|((with_reducible refine bU 17 ?_);refine bV (some 8) rfl rfl func17 aB rfl #[.agg #[.slice a6 aH.length a7],.string a1] rfl aW ?_;(with_reducible refine (ug.calls _ _ aH a1 a8 _ sD ac.out A3.out).mono ?_);rintro e aw ⟨rfl,hb⟩;refine ⟨_,rfl,?_⟩;obtain ⟨a5,HB⟩:=tZ (aj a5) ay hb;(try clear hb)))
  go_ret
  exact ⟨b_,ay⟩
 obtain ⟨bP,H⟩:=fU H
 obtain ⟨aq,H⟩:=fU H
 obtain rfl:=cZ H
 go_enter func58,ntmps58
 go_wp2_with (first|((with_reducible refine dG 2 ?_);refine dU 2 (cs:=#[.slice a6 aH.length a7]) 28 ?_;intro ag hg ax hbox hb;obtain ⟨HB,a5,aP,ai⟩:=kE ay hb hbox hg;clear hb hbox hg;have zF:=cu a5.out)|((with_reducible refine bU 17 ?_);refine bV (some 8) rfl rfl func17 aB rfl #[.agg #[.slice a6 aH.length a7],.string a1] rfl aW ?_;(with_reducible refine (ug.calls _ _ aH a1 a8 _ sD ac.out A3.out).mono ?_);rintro e dw ⟨rfl,hb⟩;refine ⟨_,rfl,?_⟩;obtain ⟨a5,HB⟩:=tZ (aj a5) ay hb;(try clear hb);have Qi:=cu a5.out;have aN:0≤(a8:Int):=bC bD;have aT:a8 < (aH.length:Int):=bC bD;obtain ⟨ar,ao,a9,aa,ab⟩:=jP lF.out a8 aN aT;cases ao;replace a9:=gu HB.out a9;replace aa:=gu HB.out aa;replace ab:=gu HB.out ab;replace aN:=eq_true aN;replace aT:=eq_true aT))
 go_ret
 exact ⟨b_,ay⟩

end Go.Proofs.YthejdhjpbpamoaaGreatDoor.jM
