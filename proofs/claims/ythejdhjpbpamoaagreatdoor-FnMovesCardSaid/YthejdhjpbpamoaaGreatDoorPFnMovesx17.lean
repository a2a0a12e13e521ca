/- Contracts of Go functions: each call returns what the Lean function beside it computes. Conditions: as each theorem states them. -/
import Derived.Test.YthejdhjpbpamoaaGreatDoorPkFnMoves
import Derived.Test.YthejdhjpbpamoaaGreatDoorPFnMovesx1
import Derived.Test.YthejdhjpbpamoaaGreatDoorPFnMovesx15
namespace Go.Proofs.YthejdhjpbpamoaaGreatDoor.jM
open Go.RowKit Go.Proofs.YthejdhjpbpamoaaGreatDoorW.iK Go.Proofs.YthejdhjpbpamoaaGreatDoorW.lX Go.Proofs.YthejdhjpbpamoaaGreatDoorW.oV Go.Proofs.Tryz
attribute [local go_sem] qI qM qL qP qK qO qJ qN   -- for this text's walks alone
set_option linter.unusedVariables false
set_option maxHeartbeats 8000000
set_option maxRecDepth 100000
set_option linter.unusedSimpArgs false

def mF.j0:Nat→ByteArray→Bool→Option (List ByteArray × Int)
 | 0,_,_=>none
 | k+1,x0,a8=>if a8=true then (some (([]:List ByteArray),1)) else ((strings_ContainsFunc.f x0 ()).bind fun a6=>(if a6=true then (some (([]:List ByteArray),1)) else (if x0.toList=([47]:List UInt8) then (some ((([]:List ByteArray)),0)) else (if 1≤(x0.size:Int) then ((strings_Split.f (x0.extract 1 x0.size) (⟨#[47]⟩:ByteArray)).bind fun a5=>((DU.f k a5 ()).bind fun a7=>(if a7=true then (some (([]:List ByteArray),2)) else (some (a5,0))))) else (none)))))
def mF.f (k:Nat) (a0:ByteArray):Option (List ByteArray × Int):=if (a0.size:Int) > 60 then (mF.j0 k a0 true) else ((strings_HasPrefix.f a0 (⟨#[47]⟩:ByteArray)).bind fun a5=>(if a5=true then (if a0.toList=([47]:List UInt8) then ((strings_Contains.f a0 (⟨#[47,47]⟩:ByteArray)).bind fun a6=>(mF.j0 k a0 a6)) else ((strings_HasSuffix.f a0 (⟨#[47]⟩:ByteArray)).bind fun a7=>(if a7=true then (mF.j0 k a0 true) else ((strings_Contains.f a0 (⟨#[47,47]⟩:ByteArray)).bind fun a8=>(mF.j0 k a0 a8))))) else (mF.j0 k a0 true)))
theorem mF.calls (k:Nat) (a0:ByteArray) (r1:List ByteArray) (r2:Int) (w:World) (oO:jH w) (h:mF.f k a0=some (r1,r2)) :
  Calls Tryz.prog 57 #[.string a0] w fun e w'=>∃ gQ:Value,e=.returned (.tuple #[gQ,ah r2])∧Kd.R Kd.string 9 w' w.heap.size (fun _=>True) gQ r1∧Below w.heap.size w w':=by
 have HD:=m_ oO
 clear oO
 have HB:=m_ (Below.refl w.heap.size w)
 unfold mF.f at h
 have H:=h
 clear h
 have av:=m_ H
 clear H
 go_enter func57,ntmps57
 go_upto_region 1 with (fail)
 go_cut [24] (fun v24 wc=>∃ (kq:Nat) (a6:Bool),v24=.bool a6∧aA (mF.j0 kq a0 a6=some (r1,r2))∧aA (kq≤k)∧aA (Below w.heap.size w wc))
 case first =>
  obtain ⟨H⟩:=av
  revert H;refine fJ (fun c3 H=>?_) fun c3 H=>?_
  ·have a8:=lC c3
   have ae:decide (60 < a0.size)=true:=lC (by omega)
   clear c3
   try simp only [bI,bY,a8]
   have H':=m_ H
   clear H
   go_wp2
   go_meet
   case rel=>exact ⟨_,(true),bg,H',⟨kH⟩,⟨ay⟩⟩
  have a8:=qE c3
  have ae:decide (60 < a0.size)=false:=qE (by omega)
  clear c3
  try simp only [bI,bY,a8]
  obtain ⟨aw,A4,H⟩:=bd_ H
  by_cases c5:aw=true
  rotate_left
  ·replace c5:=Bool.eq_false_iff.mpr c5
   subst c5
   rw [if_neg iO] at H
   have H':=m_ H
   clear H
   go_wp2_with (first|(go_at_call 102;(with_reducible refine (strings_HasPrefix.calls a0 (⟨#[47]⟩:ByteArray) false _ A4.out).mono ?_);rintro e ba ⟨rfl,hb⟩;have gX:=m_ (dI ay hb);clear HB;have HB:=gX;clear gX;(try clear hb)))
   go_meet
   case rel=>exact ⟨_,(true),bg,H',⟨kH⟩,⟨ay⟩⟩
  subst c5
  rw [if_pos rfl] at H
  revert H;refine fJ (fun c6 H=>?_) fun c6 H=>?_
  ·have af:=gZ c6
   have ag:=g_ c6
   clear c6
   obtain ⟨aP,A7,H⟩:=bd_ H
   have H':=m_ H
   clear H
   go_wp2_with (first|(go_at_call 102;(with_reducible refine (strings_HasPrefix.calls a0 (⟨#[47]⟩:ByteArray) true _ A4.out).mono ?_);rintro e w8 ⟨rfl,hb⟩;have gX:=m_ (dI ay hb);clear HB;have HB:=gX;clear gX;(try clear hb))|(go_at_call 104;(with_reducible refine (strings_Contains.calls a0 (⟨#[47,47]⟩:ByteArray) aP _ (jH.below HD.out ay) A7.out).mono ?_);rintro e w9 ⟨rfl,hb⟩;have gX:=m_ (dI ay hb);clear HB;have HB:=gX;clear gX;(try clear hb)))
   go_meet
   case rel=>exact ⟨_,(aP),bg,H',⟨kH⟩,⟨ay⟩⟩
  have af:=gU c6
  have ag:=gV c6
  obtain ⟨ax,b3,H⟩:=bd_ H
  by_cases ai:ax=true
  ·subst ai
   rw [if_pos rfl] at H
   have H':=m_ H
   clear H
   go_wp2_with (first|(go_at_call 102;(with_reducible refine (strings_HasPrefix.calls a0 (⟨#[47]⟩:ByteArray) true _ A4.out).mono ?_);rintro e bb ⟨rfl,hb⟩;have gX:=m_ (dI ay hb);clear HB;have HB:=gX;clear gX;(try clear hb))|(go_at_call 103;(with_reducible refine (strings_HasSuffix.calls a0 (⟨#[47]⟩:ByteArray) true _ b3.out).mono ?_);rintro e bc ⟨rfl,hb⟩;have gX:=m_ (dI ay hb);clear HB;have HB:=gX;clear gX;(try clear hb)))
   go_meet
   case rel=>exact ⟨_,(true),bg,H',⟨kH⟩,⟨ay⟩⟩
  replace ai:=Bool.eq_false_iff.mpr ai
  subst ai
  rw [if_neg iO] at H
  obtain ⟨aN,b6,H⟩:=bd_ H
  have H':=m_ H
  clear H
  go_wp2_with (first|(go_at_call 102;(with_reducible refine (strings_HasPrefix.calls a0 (⟨#[47]⟩:ByteArray) true _ A4.out).mono ?_);rintro e bd ⟨rfl,hb⟩;have gX:=m_ (dI ay hb);clear HB;have HB:=gX;clear gX;(try clear hb))|(go_at_call 103;(with_reducible refine (strings_HasSuffix.calls a0 (⟨#[47]⟩:ByteArray) false _ b3.out).mono ?_);rintro e be ⟨rfl,hb⟩;have gX:=m_ (dI ay hb);clear HB;have HB:=gX;clear gX;(try clear hb))|(go_at_call 104;(with_reducible refine (strings_Contains.calls a0 (⟨#[47,47]⟩:ByteArray) aN _ (jH.below HD.out ay) b6.out).mono ?_);rintro e fF ⟨rfl,hb⟩;have gX:=m_ (dI ay hb);clear HB;have HB:=gX;clear gX;(try clear hb)))
  go_meet
  case rel=>exact ⟨_,(aN),bg,H',⟨kH⟩,⟨ay⟩⟩
 case rest =>
 clear av
 obtain ⟨kq,a6,rfl,HA,yj,HB⟩:=hcut
 cases kq with
 | zero=>exact absurd HA.out (by simp [mF.j0])
 | succ JX =>
 obtain ⟨H⟩:=HA
 simp only [mF.j0] at H
 by_cases aq:a6=true
 ·subst aq
  rw [if_pos rfl] at H
  simp only [Option.some.injEq,Prod.mk.injEq] at H
  obtain ⟨rfl,rfl⟩:=H
  go_wp2
  go_ret2
  exact ⟨_,b_,tN,ay⟩
 replace aq:=Bool.eq_false_iff.mpr aq
 subst aq
 rw [if_neg iO] at H
 obtain ⟨aT,b7,H⟩:=bd_ H
 have al:=m_ H
 clear H
 go_upto_if 26 with (first|((with_reducible refine bU 105 ?_);refine bV (some 26) rfl rfl func105 aB rfl #[.string a0,.func (.func 106) #[] #[]] rfl aW ?_;(with_reducible refine (strings_ContainsFunc.calls a0 () aT _ b7.out).mono ?_);rintro e dM ⟨rfl,hb⟩;refine ⟨_,rfl,?_⟩;have gX:=m_ (dI ay hb);clear HB;have HB:=gX;clear gX;(try clear hb)))
 (try simp only [Act.put,List.setIfInBounds_toArray,List.set_cons_zero,List.set_cons_succ])
 obtain ⟨H⟩:=al
 by_cases ar:aT=true
 ·subst ar
  rw [if_pos rfl] at H
  simp only [Option.some.injEq,Prod.mk.injEq] at H
  obtain ⟨rfl,rfl⟩:=H
  go_wp2
  go_ret2
  exact ⟨_,b_,tN,ay⟩
 replace ar:=Bool.eq_false_iff.mpr ar
 subst ar
 rw [if_neg iO] at H
 revert H;refine fJ (fun ab H=>?_) fun ab H=>?_
 ·have a5:=gZ ab
  have am:=g_ ab
  clear ab
  try simp only [bI,bY,a5]
  obtain ⟨dw,a9⟩:∃ y_:List ByteArray,y_=(([]:List ByteArray)):=⟨_,rfl⟩
  rw [← a9] at H
  have aa:=m_ a9
  clear a9
  simp only [Option.some.injEq,Prod.mk.injEq] at H
  obtain ⟨rfl,rfl⟩:=H
  go_wp2_with (first|((with_reducible refine dG 29 ?_);refine Kd.qV Kd.string _ 9 ?hg (N:=29) ?hd (xs:=([]:List ByteArray)) (inner:=[]) (ok:=fun _=>True) (iT:=fun _=>True) ?hr ?hp (fun _ hk=>hk) trivial (Below.refl _ _) (Nat.le_refl _) (by simp) ?_;(case hd=>rfl);(case hg=>rfl);(case hr=>first|(go_simp;done)|(go_simp;rfl));(case hp=>exact (bM.none _ _));intro ajK bh G6 hb jc jd;clear jc jd;(first|rw [← aa.out] at G6|(simp only [Int.reduceToNat] at G6;rw [← aa.out] at G6));obtain ⟨an,HB⟩:=p_ (Kd.dK G6 (dO ay)) <| a_ (dI ay hb);clear hb G6))
  go_ret2
  exact ⟨_,b_,(aG an),ay⟩
 have a5:=gU ab
 have am:=gV ab
 try simp only [bI,bY,a5]
 obtain ⟨b4,b5,H⟩:=kT H
 obtain ⟨ac,b8,H⟩:=bd_ H
 obtain ⟨ao,b9,H⟩:=bd_ H
 have ap:=m_ H
 clear H
 go_upto_if 34 with (first|((with_reducible refine bU 108 ?_);refine bV (some 32) rfl rfl func108 aB rfl #[.string (a0.extract 1 a0.size),.string (⟨#[47]⟩:ByteArray)] rfl aW ?_;(with_reducible refine (strings_Split.calls (a0.extract 1 a0.size) (⟨#[47]⟩:ByteArray) ac _ (jH.below HD.out ay) b8.out).mono ?_);rintro e bi ⟨ajL,rfl,ho0,hb⟩;refine ⟨_,rfl,?_⟩;obtain ⟨a7,HB⟩:=p_ (Kd.dK ho0 (dO ay)) <| a_ (dI ay hb);(try clear hb);(try clear hk);(try clear ho0);obtain ⟨b0,b1,b2⟩:=Kd.dJ a7.out;subst b2)|((with_reducible refine bU 109 ?_);refine bV (some 34) rfl rfl func109 aB rfl #[.slice b0 ac.length b1,.func (.func 110) #[] #[]] rfl aW ?_;(with_reducible refine (DU.calls JX _ _ ac () ao _ ?kG ((Kd.bZ a7.out).2.1) b9.out).mono ?_);(case kG=>repeat (first|exact (Kd.bZ a7.out).2.2|(with_reducible refine Kd.jJ ?_ _)|(with_reducible refine Kd.jL ?_ _)|(with_reducible refine Kd.jK ?_)));rintro e w' ⟨rfl,⟨nd,rfl⟩⟩;refine ⟨_,rfl,?_⟩))
 (try simp only [Act.put,List.setIfInBounds_toArray,List.set_cons_zero,List.set_cons_succ])
 obtain ⟨H⟩:=ap
 by_cases bP:ao=true
 rotate_left
 ·replace bP:=Bool.eq_false_iff.mpr bP
  subst bP
  rw [if_neg iO] at H
  simp only [Option.some.injEq,Prod.mk.injEq] at H
  obtain ⟨rfl,rfl⟩:=H
  go_wp2
  go_ret2
  exact ⟨_,b_,(aG a7),ay⟩
 subst bP
 rw [if_pos rfl] at H
 simp only [Option.some.injEq,Prod.mk.injEq] at H
 obtain ⟨rfl,rfl⟩:=H
 go_wp2
 go_ret2
 exact ⟨_,b_,tN,ay⟩

def slices_Equal_string.l0:Nat→List ByteArray→List ByteArray→Int→Int→Option (Bool)
 | 0,_,_,_,_=>none
 | k+1,x0,x1,a6,a5=>if a5 < a6 then (if 0≤a5 then (if a5 < (x0.length:Int) then (if a5 < (x1.length:Int) then (if (pW ByteArray.empty x0 a5).toList=(pW ByteArray.empty x1 a5).toList then (slices_Equal_string.l0 k x0 x1 a6 (wrap64 (a5+1))) else (some false)) else (none)) else (none)) else (none)) else (some true)
def slices_Equal_string.f (k:Nat) (l0:List ByteArray) (l1:List ByteArray):Option (Bool):=if (l0.length:Int)=(l1.length:Int) then (slices_Equal_string.l0 k l0 l1 (l0.length:Int) 0) else (some false)
theorem slices_Equal_string.calls (k:Nat) (A0:Option Addr) (c0:Nat) (l0:List ByteArray) (A1:Option Addr) (c1:Nat) (l1:List ByteArray) (r:Bool) (w:World) (hr0:Kd.C Kd.string w A0 l0.length l0) (hc0:l0.length≤c0) (hr1:Kd.C Kd.string w A1 l1.length l1) (hc1:l1.length≤c1) (h:slices_Equal_string.f k l0 l1=some r) :
  Calls Tryz.prog 95 #[.slice A0 l0.length c0,.slice A1 l1.length c1] w fun e w'=>e=.returned (.bool r)∧nH w w':=by
 have HR0:=m_ hr0
 have bP:=m_ hc0
 clear hr0 hc0
 have ao:=m_ hr1
 have av:=m_ hc1
 clear hr1 hc1
 unfold slices_Equal_string.f at h
 have H:=h
 clear h
 revert H;refine fJ (fun c3 H=>?_) fun c3 H=>?_
 rotate_left
 ·have ae:=gU c3
  have af:=gV c3
  have ag:(l0.length == l1.length)=false:=by first|simpa using c3|(simp at c3 ⊢;omega)
  obtain rfl:=cZ H
  go_enter func95,ntmps95
  go_wp2
  repeat (go_quiet (fail);try go_wp2)
  go_ret
  exact ⟨bg,jS⟩
 have ae:=gZ c3
 have af:=g_ c3
 have ag:(l0.length == l1.length)=true:=by first|simpa using c3|(simp at c3 ⊢;omega)
 clear c3
 have H':=m_ H
 clear H
 go_enter func95,ntmps95
 go_wp2
 repeat (go_quiet (fail);try go_wp2)
 go_loopg [13] k (fun kq v13 w'=>∃ (a5:Int),v13=ah a5∧aA (slices_Equal_string.l0 kq l0 l1 (l0.length:Int) a5=some r)∧aA (kq≤k)∧nH w w')
 case atStart=>exact ⟨(0),bg,H',⟨Nat.le_refl _⟩,jS⟩
 case round =>
 clear H'
 try clear c1;try clear c3;try clear ae;try clear af;try clear ag
 obtain ⟨a5,rfl,HA,iq,⟨m1,rfl⟩⟩:=hrel
 cases gk with
 | zero=>exact absurd HA.out (by simp [slices_Equal_string.l0])
 | succ k1 =>
 obtain ⟨H⟩:=HA
 simp only [slices_Equal_string.l0] at H
 revert H;refine gI (fun aP H=>?_) fun aP H=>?_
 rotate_left
 ·obtain rfl:=cZ H
  go_wp2
  repeat (go_quiet (fail);try go_wp2)
  go_ret
  exact ⟨bg,jS⟩
 obtain ⟨ap,H⟩:=fU H
 obtain ⟨aq,H⟩:=fU H
 obtain ⟨ar,H⟩:=fU H
 have al:=m_ H
 clear H
 have a9:0≤(a5:Int):=bC bD
 have aa:a5 < (l0.length:Int):=bC bD
 obtain ⟨am,ai,a7⟩:=Kd.yw HR0.out a5 a9 aa
 cases ai
 replace a9:=eq_true a9
 replace aa:=eq_true aa
 have ab:0≤(a5:Int):=bC bD
 have ac:a5 < (l1.length:Int):=bC bD
 obtain ⟨an,aN,a8⟩:=Kd.yw ao.out a5 ab ac
 cases aN
 replace ab:=eq_true ab
 replace ac:=eq_true ac
 go_upto_if 24 with (fail)
 repeat (go_quiet (fail);go_upto_if 24 with (fail))
 (try clear a7)
 (try clear a8)
 obtain ⟨H⟩:=al
 revert H;refine fJ (fun c9 H=>?_) fun c9 H=>?_
 rotate_left
 ·have a6:=gU c9
  have aT:=gV c9
  try simp only [bI,bY,a6]
  obtain rfl:=cZ H
  go_wp2
  repeat (go_quiet (fail);try go_wp2)
  go_ret
  exact ⟨bg,jS⟩
 have a6:=gZ c9
 have aT:=g_ c9
 clear c9
 try simp only [bI,bY,a6]
 have H':=m_ H
 clear H
 go_wp2
 repeat (go_quiet (fail);try go_wp2)
 go_roundg k1
 case measure=>have:=iq.out;omega
 case rel=>exact ⟨(wrap64 (a5+1)),bg,H',⟨nT⟩,jS⟩

def Dp.f (k:Nat) (a0:ByteArray) (a1:ByteArray):Option (Bool):=(mF.f k a0).bind fun a6=>((mF.f k a1).bind fun a5=>(if a6.2=0 then (if a5.2=0 then (if (a6.1.length:Int) > (a5.1.length:Int) then (if 0≤(a5.1.length:Int) then (if (a5.1.length:Int)≤(a6.1.length:Int) then ((slices_Equal_string.f k (a6.1.take ((a5.1.length:Int):Int).toNat) a5.1).bind fun a7=>(some a7)) else (none)) else (none)) else (some false)) else (some false)) else (some false)))
theorem Dp.calls (k:Nat) (a0:ByteArray) (a1:ByteArray) (r:Bool) (w:World) (oO:jH w) (h:Dp.f k a0 a1=some r) :
  Calls Tryz.prog 46 #[.string a0,.string a1] w fun e w'=>e=.returned (.bool r)∧Below w.heap.size w w':=by
 have HD:=m_ oO
 clear oO
 have HB:=m_ (Below.refl w.heap.size w)
 unfold Dp.f at h
 have H:=h
 clear h
 obtain ⟨⟨a7,a9⟩,A3,H⟩:=bd_ H
 try dsimp -simprocs only at H
 obtain ⟨⟨a6,aa⟩,A4,H⟩:=bd_ H
 try dsimp -simprocs only at H
 revert H;refine fJ (fun c5 H=>?_) fun c5 H=>?_
 rotate_left
 ·have al:=gU c5
  have am:=gV c5
  obtain rfl:=cZ H
  go_enter func46,ntmps46
  go_wp2_with (first|((with_reducible refine bU 57 ?_);refine bV (some 11) rfl rfl func57 aB rfl #[.string a0] rfl aW ?_;(with_reducible refine (mF.calls k a0 a7 a9 _ (jH.below HD.out ay) A3.out).mono ?_);rintro e b9 ⟨Qb,rfl,ho0,hb⟩;refine ⟨_,rfl,?_⟩;obtain ⟨a5,HB⟩:=p_ (Kd.dK ho0 (dO ay)) <| a_ (dI ay hb);(try clear hb);(try clear ho0))|((with_reducible refine bU 57 ?_);refine bV (some 16) rfl rfl func57 aB rfl #[.string a1] rfl aW ?_;(with_reducible refine (mF.calls k a1 a6 aa _ (jH.below HD.out ay) A4.out).mono ?_);rintro e ba ⟨Qc,rfl,ho0,hb⟩;refine ⟨_,rfl,?_⟩;obtain ⟨a5,a8,HB⟩:=p_ (Kd.iY (aG a5) (Kd.iW ho0) hb) <| p_ (Kd.dK (Kd.iZ ho0 (Kd.iD (aG a5))) (dO ay)) <| a_ (dI ay hb);(try clear hb);(try clear ho0)))
  go_ret
  exact ⟨b_,ay⟩
 have al:=gZ c5
 have am:=g_ c5
 clear c5
 revert H;refine fJ (fun c6 H=>?_) fun c6 H=>?_
 rotate_left
 ·have an:=gU c6
  have ao:=gV c6
  obtain rfl:=cZ H
  go_enter func46,ntmps46
  go_wp2_with (first|((with_reducible refine bU 57 ?_);refine bV (some 11) rfl rfl func57 aB rfl #[.string a0] rfl aW ?_;(with_reducible refine (mF.calls k a0 a7 a9 _ (jH.below HD.out ay) A3.out).mono ?_);rintro e bb ⟨Qb,rfl,ho0,hb⟩;refine ⟨_,rfl,?_⟩;obtain ⟨a5,HB⟩:=p_ (Kd.dK ho0 (dO ay)) <| a_ (dI ay hb);(try clear hb);(try clear ho0))|((with_reducible refine bU 57 ?_);refine bV (some 16) rfl rfl func57 aB rfl #[.string a1] rfl aW ?_;(with_reducible refine (mF.calls k a1 a6 aa _ (jH.below HD.out ay) A4.out).mono ?_);rintro e bc ⟨Qc,rfl,ho0,hb⟩;refine ⟨_,rfl,?_⟩;obtain ⟨a5,a8,HB⟩:=p_ (Kd.iY (aG a5) (Kd.iW ho0) hb) <| p_ (Kd.dK (Kd.iZ ho0 (Kd.iD (aG a5))) (dO ay)) <| a_ (dI ay hb);(try clear hb);(try clear ho0)))
  go_ret
  exact ⟨b_,ay⟩
 have an:=gZ c6
 have ao:=g_ c6
 clear c6
 revert H;refine fJ (fun c7 H=>?_) fun c7 H=>?_
 rotate_left
 ·have ap:=qE c7
  have aq:decide (a6.length < a7.length)=false:=qE (fun h=>c7 (Int.ofNat_lt.mpr h))
  clear c7
  obtain rfl:=cZ H
  go_enter func46,ntmps46
  go_wp2_with (first|((with_reducible refine bU 57 ?_);refine bV (some 11) rfl rfl func57 aB rfl #[.string a0] rfl aW ?_;(with_reducible refine (mF.calls k a0 a7 a9 _ (jH.below HD.out ay) A3.out).mono ?_);rintro e bd ⟨Qb,rfl,ho0,hb⟩;refine ⟨_,rfl,?_⟩;obtain ⟨a5,HB⟩:=p_ (Kd.dK ho0 (dO ay)) <| a_ (dI ay hb);(try clear hb);(try clear ho0))|((with_reducible refine bU 57 ?_);refine bV (some 16) rfl rfl func57 aB rfl #[.string a1] rfl aW ?_;(with_reducible refine (mF.calls k a1 a6 aa _ (jH.below HD.out ay) A4.out).mono ?_);rintro e be ⟨Qc,rfl,ho0,hb⟩;refine ⟨_,rfl,?_⟩;obtain ⟨a5,a8,HB⟩:=p_ (Kd.iY (aG a5) (Kd.iW ho0) hb) <| p_ (Kd.dK (Kd.iZ ho0 (Kd.iD (aG a5))) (dO ay)) <| a_ (dI ay hb);(try clear hb);(try clear ho0);obtain ⟨dw,az,ar⟩:=Kd.dJ a5.out;subst ar;obtain ⟨b0,b1,bP⟩:=Kd.dJ a8.out;subst bP))
  go_ret
  exact ⟨b_,ay⟩
 have ap:=lC c7
 have aq:decide (a6.length < a7.length)=true:=lC (Int.ofNat_lt.mp c7)
 clear c7
 obtain ⟨b2,b3,H⟩:=kT H
 obtain ⟨b4,b5,H⟩:=kT H
 obtain ⟨ac,ab⟩:∃ y_:List ByteArray,y_=(a7.take ((a6.length:Int):Int).toNat):=⟨_,rfl⟩
 rw [← ab] at H
 have ae:=m_ ab
 clear ab
 obtain ⟨ag,b6,H⟩:=bd_ H
 obtain rfl:=cZ H
 go_enter func46,ntmps46
 go_wp2_with (first|((with_reducible refine bU 57 ?_);refine bV (some 11) rfl rfl func57 aB rfl #[.string a0] rfl aW ?_;(with_reducible refine (mF.calls k a0 a7 a9 _ (jH.below HD.out ay) A3.out).mono ?_);rintro e fF ⟨Qb,rfl,ho0,hb⟩;refine ⟨_,rfl,?_⟩;obtain ⟨a5,HB⟩:=p_ (Kd.dK ho0 (dO ay)) <| a_ (dI ay hb);(try clear hb);(try clear ho0))|((with_reducible refine bU 57 ?_);refine bV (some 16) rfl rfl func57 aB rfl #[.string a1] rfl aW ?_;(with_reducible refine (mF.calls k a1 a6 aa _ (jH.below HD.out ay) A4.out).mono ?_);rintro e dM ⟨Qc,rfl,ho0,hb⟩;refine ⟨_,rfl,?_⟩;obtain ⟨a5,a8,HB⟩:=p_ (Kd.iY (aG a5) (Kd.iW ho0) hb) <| p_ (Kd.dK (Kd.iZ ho0 (Kd.iD (aG a5))) (dO ay)) <| a_ (dI ay hb);(try clear hb);(try clear ho0);obtain ⟨aN,aP,av⟩:=Kd.dJ a5.out;subst av;obtain ⟨b7,b8,aw⟩:=Kd.dJ a8.out;subst aw;have ax:((a6.length:Int):Int)≤((a7.length:Int):Int):=bC bD;obtain ⟨ah4,TR,_,aas,_⟩:=info_parts info9;have T_:a7.length≤aP:=(Kd.bZ a5.out).2.1;have TG:Kd.C Kd.string _ aN a7.length a7:=(Kd.bZ a5.out).2.2;have ZJ:=EM (P:=Tryz.prog) 38 9 .i64 underlying38 TR aN a7.length aP (a6.length:Int) (bC bD) ax T_;have Og:=Kd.xC (m:=((a6.length:Int):Int).toNat) TG (by omega);have ai:ac.length=((a6.length:Int):Int).toNat:=(by rw [ae.out,List.length_take];omega);rw [← ae.out] at Og;rw [← ai] at ZJ;have af:=m_ Og;have aT:=m_ (show ac.length≤aP from by omega);clear Og TG T_ TR aas;have adV:=m_ ai;clear ai;have adT:=m_ (show ((a6.length:Int):Int).toNat≤a7.length from by omega);replace ax:=eq_true ax)|(go_at_call 95;(with_reducible refine (slices_Equal_string.calls k _ _ ac _ _ a6 ag _ ?kG aT.out ?mJ ((Kd.bZ a8.out).2.1) b6.out).mono ?_);(case kG=>repeat (first|exact (by repeat (first|(with_reducible exact af.out)|(with_reducible refine Kd.jJ ?_ _)|(with_reducible refine Kd.jL ?_ _)|(with_reducible refine Kd.jK ?_)|exact af.out))|(with_reducible refine Kd.jJ ?_ _)|(with_reducible refine Kd.jL ?_ _)|(with_reducible refine Kd.jK ?_)));(case mJ=>repeat (first|exact (Kd.bZ a8.out).2.2|(with_reducible refine Kd.jJ ?_ _)|(with_reducible refine Kd.jL ?_ _)|(with_reducible refine Kd.jK ?_)));rintro e w' ⟨rfl,⟨nd,rfl⟩⟩))
 go_ret
 exact ⟨b_,ay⟩

def cmp_isNaN_string.f (a0:ByteArray):Option (Bool):=some (a0.toList != a0.toList)
theorem cmp_isNaN_string.calls (a0:ByteArray) (r:Bool) (w:World) (h:cmp_isNaN_string.f a0=some r) :
  Calls Tryz.prog 97 #[.string a0] w fun e w'=>e=.returned (.bool r)∧nH w w':=by
 unfold cmp_isNaN_string.f at h
 have H:=h
 clear h
 obtain rfl:=cZ H
 go_enter func97,ntmps97
 go_wp2
 go_ret
 exact ⟨bg,jS⟩

def EL.f (a0:ByteArray) (a1:ByteArray):Option (Int):=(cmp_isNaN_string.f a0).bind fun a6=>((cmp_isNaN_string.f a1).bind fun a5=>(if a6=true then (if a5=true then (some 0) else (some (-1))) else (if a5=true then (some 1) else (if (Op.bytesLess a0.toList a1.toList)=true then (some (-1)) else (if (Op.bytesLess a1.toList a0.toList)=true then (some 1) else (some 0))))))
theorem EL.calls (a0:ByteArray) (a1:ByteArray) (r:Int) (w:World) (h:EL.f a0 a1=some r) :
  Calls Tryz.prog 49 #[.string a0,.string a1] w fun e w'=>e=.returned (ah r)∧nH w w':=by
 unfold EL.f at h
 have H:=h
 clear h
 obtain ⟨a9,A3,H⟩:=bd_ H
 obtain ⟨a7,A4,H⟩:=bd_ H
 have aa:=m_ H
 clear H
 go_enter func49,ntmps49
 go_upto_if 11 with (first|((with_reducible refine bU 97 ?_);refine bV (some 8) rfl rfl func97 aB rfl #[.string a0] rfl aW ?_;(with_reducible refine (cmp_isNaN_string.calls a0 a9 _ A3.out).mono ?_);rintro e w' ⟨rfl,⟨nd,rfl⟩⟩;refine ⟨_,rfl,?_⟩)|((with_reducible refine bU 97 ?_);refine bV (some 10) rfl rfl func97 aB rfl #[.string a1] rfl aW ?_;(with_reducible refine (cmp_isNaN_string.calls a1 a7 _ A4.out).mono ?_);rintro e w' ⟨rfl,⟨nd,rfl⟩⟩;refine ⟨_,rfl,?_⟩))
 (try simp only [Act.put,List.setIfInBounds_toArray,List.set_cons_zero,List.set_cons_succ])
 obtain ⟨H⟩:=aa
 by_cases c6:a9=true
 ·subst c6
  rw [if_pos rfl] at H
  by_cases c7:a7=true
  ·subst c7
   rw [if_pos rfl] at H
   obtain rfl:=cZ H
   go_wp2
   go_ret
   exact ⟨bg,jS⟩
  replace c7:=Bool.eq_false_iff.mpr c7
  subst c7
  rw [if_neg iO] at H
  obtain rfl:=cZ H
  go_wp2
  go_ret
  exact ⟨bg,jS⟩
 replace c6:=Bool.eq_false_iff.mpr c6
 subst c6
 rw [if_neg iO] at H
 by_cases c8:a7=true
 ·subst c8
  rw [if_pos rfl] at H
  obtain rfl:=cZ H
  go_wp2
  go_ret
  exact ⟨bg,jS⟩
 replace c8:=Bool.eq_false_iff.mpr c8
 subst c8
 rw [if_neg iO] at H
 revert H;refine fJ (fun c9 H=>?_) fun c9 H=>?_
 ·have a5:(Op.bytesLess a0.toList a1.toList)=true:=c9
  clear c9
  (first|rw [a5]|(simp only [bI,bY];rw [a5])|rw [uz,a5]|rw [wo,a5]|skip)
  obtain rfl:=cZ H
  go_wp2
  go_ret
  exact ⟨bg,jS⟩
 have a5:(Op.bytesLess a0.toList a1.toList)=false:=by simpa using c9
 clear c9
 (first|rw [a5]|(simp only [bI,bY];rw [a5])|rw [uz,a5]|rw [wo,a5]|skip)
 revert H;refine fJ (fun a8 H=>?_) fun a8 H=>?_
 ·have a6:(Op.bytesLess a1.toList a0.toList)=true:=a8
  have Y7:(!(a0.toList == a1.toList))=true:=by have fM:=wo a1.toList a0.toList;rw [a5,a6] at fM;simpa using fM
  clear a8
  obtain rfl:=cZ H
  go_wp2
  go_ret
  exact ⟨bg,jS⟩
 have a6:(Op.bytesLess a1.toList a0.toList)=false:=by simpa using a8
 have Y7:(!(a0.toList == a1.toList))=false:=by have fM:=wo a1.toList a0.toList;rw [a5,a6] at fM;simpa using fM
 clear a8
 obtain rfl:=cZ H
 go_wp2
 go_ret
 exact ⟨bg,jS⟩

def sQ.f (a5:ByteArray) (a8:Bool) (a9:ByteArray) (a6:ByteArray) (aa:Bool) (ab:ByteArray):Option (Int):=(EL.f a5 a6).bind fun a7=>(some a7)
theorem sQ.calls (a8:ByteArray) (a9:Bool) (aa:ByteArray) (fH:ByteArray) (fG:Bool) (fE:ByteArray) (r:Int) (w:World) (h:sQ.f a8 a9 aa fH fG fE=some r) :
  Calls Tryz.prog 48 #[.agg #[.string a8,.bool a9,.string aa],.agg #[.string fH,.bool fG,.string fE]] w fun e w'=>e=.returned (ah r)∧Below w.heap.size w w':=by
 have rF:=underlying43
 have HB:=m_ (Below.refl w.heap.size w)
 unfold sQ.f at h
 have H:=h
 clear h
 obtain ⟨af,A3,H⟩:=bd_ H
 obtain rfl:=cZ H
 go_enter func48,ntmps48
 go_wp2_with (first|((with_reducible refine dG 2 ?_);refine dU 2 (cs:=#[.string a8,.bool a9,.string aa]) 43 ?_;intro ag hg w4 hbox hb;obtain ⟨HB,a5,aP,ai⟩:=kE ay hb hbox hg;clear hb hbox hg)|((with_reducible refine dG 3 ?_);refine dU 3 (cs:=#[.string fH,.bool fG,.string fE]) 43 ?_;intro aN hg w5 hbox hb;obtain ⟨a5,HB,ab,aT,al,a6,a7⟩:=qj (aj a5) ay hb hbox hg;clear hb hbox hg;obtain ⟨ac,ae⟩:=iJ a6 a7;have am:=nP a5.out;have an:=nP ab.out)|((with_reducible refine bU 49 ?_);refine bV (some 9) rfl rfl func49 aB rfl #[.string a8,.string fH] rfl aW ?_;(with_reducible refine (EL.calls a8 fH af _ A3.out).mono ?_);rintro e w' ⟨rfl,⟨nd,rfl⟩⟩;refine ⟨_,rfl,?_⟩))
 go_ret
 exact ⟨b_,ay⟩

mutual
def jX.l0:Nat→List (aC)→Int→Int→Int→Option ((List (aC)))
 | 0,_,_,_,_=>none
 | k+1,x0,x1,x2,h_=>if h_ < x2 then (jX.l1 k x0 x1 x2 h_ h_) else (some x0)
def jX.l1:Nat→List (aC)→Int→Int→Int→Int→Option ((List (aC)))
 | 0,_,_,_,_,_=>none
 | k+1,x0,x1,x2,h_,mW=>if mW > x1 then (if 0≤mW then (if mW < (x0.length:Int) then (if 0≤(wrap64 (mW - 1)) then (if (wrap64 (mW - 1)) < (x0.length:Int) then ((sQ.f ((au x0 mW).f0) ((au x0 mW).f1) ((au x0 mW).f2) ((au x0 (wrap64 (mW - 1))).f0) ((au x0 (wrap64 (mW - 1))).f1) ((au x0 (wrap64 (mW - 1))).f2)).bind fun a5=>(if a5 < 0 then (jX.l1 k ((x0.set (mW:Int).toNat (⟨(au x0 (wrap64 (mW - 1))).f0,(au x0 (wrap64 (mW - 1))).f1,(au x0 (wrap64 (mW - 1))).f2⟩:aC)).set ((wrap64 (mW - 1)):Int).toNat (⟨(au x0 mW).f0,(au x0 mW).f1,(au x0 mW).f2⟩:aC)) x1 x2 h_ (wrap64 (mW - 1))) else (jX.l0 k x0 x1 x2 (wrap64 (h_+1))))) else (none)) else (none)) else (none)) else (none)) else (jX.l0 k x0 x1 x2 (wrap64 (h_+1)))
end
def jX.f (k:Nat) (l0:List (aC)) (a1:Int) (a2:Int) (a3:Unit):Option ((List (aC))):=jX.l0 k l0 a1 a2 (wrap64 (a1+1))
def jX.T4:Bool × List (List Nat × List Nat):=(true,[([],[]),([],[]),([0,1],[0,1]),([2],[2]),([3],[3]),([3],[3]),([3],[3]),([5,6,3],[3,5,6]),([7,3],[3,7]),([3],[3]),([3],[3]),([10,3],[3,10]),([9,11,3],[3,9,11]),([12,3],[3,12]),([4,8,13,3,3],[3,4,8,13]),([14,3],[3,14]),([3,15],[3,15])])
def jX.B4:List Nat:=[0,0,3,7,15,15,15,111,239,15,15,1039,3599,7695,16383,32767,65535]
theorem jX.WB:kZ .any (opsOf Tryz.f132 4)=jX.T4:=by kernel_rfl
theorem jX.Rh:sF jX.T4.2 jX.B4=true:=by kernel_rfl
def jX.T6:Bool × List (List Nat × List Nat):=(true,[([],[]),([],[]),([],[]),([],[]),([3],[3]),([],[]),([],[]),([6],[6]),([5,7],[5,7]),([8],[8]),([],[]),([],[]),([10,11],[10,11]),([12],[12]),([0,1,0,1,5,6,7,8,9,13],[0,1]),([14,9,0,1,5,6,7,8,9,13],[9,14]),([2,4,0,1,2,3,4,5,6,7,8,9,10,11,12,13,14,15],[2,4]),([16,13,15,0,1,2,3,4,5,6,7,8,9,10,11,12,13,14,15],[13,16])])
def jX.B6:List Nat:=[0,0,0,0,8,0,0,64,224,480,0,0,3072,7168,16355,32739,65535,131071]
theorem jX.calls (k:Nat) (eG:Nat→Prop) (jk:Value) (l0:List (aC)) (a1:Int) (a2:Int) (a3:Unit) (r:List (aC)) (w0 w:World) (hB:Below w0.heap.size w0 w) (ho0:Kd.R bF 43 w w0.heap.size eG jk l0) (h:jX.f k l0 a1 a2 a3=some r) :
  Calls Tryz.prog 132 #[jk,ah a1,ah a2,.func (.func 48) #[] #[]] w fun e w'=>e=.returned (.tuple #[])∧Kd.R bF 43 w' w0.heap.size (fun aF=>(eG aF∨w.heap.size≤aF)) jk r∧Below w0.heap.size w0 w'∧Kept w w' (fun aF=>eG aF):=by
 have rF:=underlying43
 have d2:=m_ (show Kd.R bF 43 w w0.heap.size (fun aF=>(eG aF∨w.heap.size≤aF)) jk l0 from Kd.bW ho0 (fun aF hk=>(.inl hk)))
 have HK:=m_ (Kept.refl w (fun aF=>eG aF))
 have HW0:=m_ hB.size
 have HB:=m_ hB
 clear hB
 unfold jX.f at h
 have H:=h
 clear h
 have H':=m_ H
 clear H
 go_enter func132,ntmps132
 go_wp2
 go_loopg [8] k (fun kq v8 w'=>∃ (ax:List (aC)) (dD:Int),v8=ah dD∧aA (jX.l0 kq ax a1 a2 dD=some r)∧aA (kq≤k)∧aA (Kd.R bF 43 w' w0.heap.size (fun aF=>(eG aF∨w.heap.size≤aF)) jk ax)∧aA (Kept w w' (fun aF=>eG aF))∧aA (Below w0.heap.size w0 w'))
 case atStart=>exact ⟨(l0),(wrap64 (a1+1)),bg,H',⟨Nat.le_refl _⟩,⟨(aG d2)⟩,⟨jh⟩,⟨ay⟩⟩
 case round =>
 clear H'
 obtain ⟨ax,dD,rfl,HA,iq,bQ,HK,HB⟩:=hrel
 cases gk with
 | zero=>exact absurd HA.out (by simp [jX.l0])
 | succ k1 =>
 obtain ⟨H⟩:=HA
 simp only [jX.l0] at H
 revert H;refine gI (fun bp H=>?_) fun bp H=>?_
 rotate_left
 ·obtain rfl:=cZ H
  go_wp2
  first|go_end0|((try simp only [Exit.inBlock,Exit.then]);refine bodyPost_ret (results_none rfl _ _ _) rfl ?_)
  exact ⟨b_,(aG bQ),ay,jh⟩
 have H':=m_ H
 clear H
 go_wp2
 go_loopg [9] k1 (fun kq v9 w'=>∃ (a5:List (aC)) (a6:Int),v9=ah a6∧aA (jX.l1 kq a5 a1 a2 dD a6=some r)∧aA (kq≤k1)∧aA (Kd.R bF 43 w' w0.heap.size (fun aF=>(eG aF∨w.heap.size≤aF)) jk a5)∧aA (Kept w w' (fun aF=>eG aF))∧aA (Below w0.heap.size w0 w'))
 case atStart=>exact ⟨(ax),(dD),bg,H',⟨Nat.le_refl _⟩,⟨(aG bQ)⟩,⟨jh⟩,⟨ay⟩⟩
 case round =>
 clear H'
 try clear c5;try clear bp
 obtain ⟨a5,a6,rfl,HA,jv,bQ,HK,HB⟩:=hrel
 cases gk with
 | zero=>exact absurd HA.out (by simp [jX.l1])
 | succ k2 =>
 obtain ⟨H⟩:=HA
 simp only [jX.l1] at H
 revert H;refine gI (fun co H=>?_) fun co H=>?_
 rotate_left
 ·have H':=m_ H
  clear H
  try go_wp2
  obtain ⟨bQ,HK,HB⟩:=p_ (Kd.bK bQ.out) <| p_ (Kept.drew HK.out) <| a_ (k_ HB.out)
  refine iH (n:=17) (S:=fun w'=>True) (ds:=[]) SE aB rfl rfl trivial (fun hH=>?_);refine jC jX.WB jX.Rh (fun aS gJ=>?_)
  generalize wr.drew=dg at bQ HK HB hH ⊢
  refine aI 0 ?_
  refine aI 1 ?_
  refine aI 2 ?_
  refine aI 3 ?_
  refine bf 4 ?_
  refine bf 5 ?_
  refine bf 6 ?_
  refine bf 7 ?_
  refine uo 8 26 #[ak,ak,ak,ak,ak,ak,ak,ak,ak,F_,F_,F_,F_,F_,F_,F_,F_] aS ?_
  refine uo 9 27 #[ak,ak,ak,ak,ak,ak,ak,ak,ak,ak,F_,F_,F_,F_,F_,F_,F_] aS ?_
  refine uo 10 28 #[ak,ak,ak,ak,ak,ak,ak,ak,ak,ak,ak,F_,F_,F_,F_,F_,F_] aS ?_
  refine uo 11 29 #[ak,ak,ak,ak,ak,ak,ak,ak,ak,ak,ak,ak,F_,F_,F_,F_,F_] aS ?_
  refine bf 12 ?_
  refine bf 13 ?_
  refine bf 14 ?_
  refine bf 15 ?_
  refine aI 16 ?_
  refine iF (jB aS.out aB) ?_
  try go_wp2
  go_roundg k2
  case measure=>have:=iq.out;have:=jv.out;omega
  case rel=>exact ⟨(a5),(wrap64 (dD+1)),bg,H',⟨IJ⟩,⟨(aG bQ)⟩,⟨jh⟩,⟨ay⟩⟩
 obtain ⟨d3,H⟩:=fU H
 obtain ⟨d4,H⟩:=fU H
 obtain ⟨iG,GY⟩:∃ mQ:Int,(wrap64 (a6 - 1))=mQ:=⟨_,rfl⟩
 replace H:(if 0≤(iG) then (if (iG) < (a5.length:Int) then ((sQ.f ((au a5 a6).f0) ((au a5 a6).f1) ((au a5 a6).f2) ((au a5 (iG)).f0) ((au a5 (iG)).f1) ((au a5 (iG)).f2)).bind fun dw=>(if dw < 0 then (jX.l1 k2 ((a5.set (a6:Int).toNat (⟨(au a5 (iG)).f0,(au a5 (iG)).f1,(au a5 (iG)).f2⟩:aC)).set ((iG):Int).toNat (⟨(au a5 a6).f0,(au a5 a6).f1,(au a5 a6).f2⟩:aC)) a1 a2 dD iG) else (jX.l0 k2 a5 a1 a2 (wrap64 (dD+1))))) else (none)) else (none))=some r:=by first|(rw [GY] at H;exact H)|(simp only [GY] at H ⊢;exact H)
 have agj:(IntKind.i64.wrap (a6 - 1))=iG:=(bI _).trans GY
 obtain ⟨cz,H⟩:=fU H
 obtain ⟨d1,H⟩:=fU H
 obtain ⟨dw,d5,H⟩:=bd_ H
 have bq:=m_ H
 clear H
 try go_wp2
 obtain ⟨bQ,HK,HB⟩:=p_ (Kd.bK bQ.out) <| p_ (Kept.drew HK.out) <| a_ (k_ HB.out)
 obtain ⟨d6,d7,br⟩:=Kd.dJ bQ.out
 (first|subst br|(injection br with dP fZ dQ;have f_:=dP.symm;have gq:=dQ.symm;clear dP fZ dQ;subst f_;subst gq))
 have b3:0≤(a6:Int):=bC bD
 have b4:a6 < (a5.length:Int):=bC bD
 obtain ⟨a8,cp,a9,aa,ab⟩:=jP (Kd.bZ bQ.out).2.2 a6 b3 b4
 cases cp
 replace b3:=eq_true b3
 replace b4:=eq_true b4
 have b5:0≤((iG):Int):=bC bD
 have b6:(iG) < (a5.length:Int):=bC bD
 obtain ⟨bs,cq,ac,ae,af⟩:=jP (Kd.bZ bQ.out).2.2 (iG) b5 b6
 obtain rfl:a8=bs:=(by injection cq)
 replace b5:=eq_true b5
 replace b6:=eq_true b6
 refine iH (n:=17) (S:=fun w'=>FZ w' (a8.add ((a6).toNat * 3)) (.string ((au a5 a6).f0)) (.bool ((au a5 a6).f1)) (.string ((au a5 a6).f2)) <| uw w' (a8.add (((iG)).toNat * 3)) (.string ((au a5 (iG)).f0)) (.bool ((au a5 (iG)).f1)) (.string ((au a5 (iG)).f2))) (ds:=[]) SE aB rfl rfl ⟨a9,aa,ab,ac,ae,af⟩ (fun hH=>?_);refine jC jX.WB jX.Rh (fun aS gJ=>?_)
 generalize wr.drew=lg at bQ HK HB a9 aa ab ac ae af hH ⊢
 refine aI 0 ?_
 refine aI 1 ?_
 refine aI 2 ?_
 refine aI 3 ?_
 refine aI 4 ?_
 refine aI 5 ?_
 refine aI 6 ?_
 refine aI 7 ?_
 refine eY 9 27 #[ak,ak,ak,ak,ak,ak,ak,ak,F_,ak,F_,F_,F_,F_,F_,F_,F_] aS ?_
 refine eY 10 28 #[ak,ak,ak,ak,ak,ak,ak,ak,F_,ak,ak,F_,F_,F_,F_,F_,F_] aS ?_
 refine eY 11 29 #[ak,ak,ak,ak,ak,ak,ak,ak,F_,ak,ak,ak,F_,F_,F_,F_,F_] aS ?_
 refine eY 12 30 #[ak,ak,ak,ak,ak,ak,ak,ak,F_,ak,ak,ak,ak,F_,F_,F_,F_] aS ?_
 refine fV 8 hH ?_
 refine fV 13 hH ?_
 refine kY 14 (fun K hK=>?_)
 refine JB func48 aB rfl #[.agg #[.string ((au a5 a6).f0),.bool ((au a5 a6).f1),.string ((au a5 a6).f2)],.agg #[.string ((au a5 (iG)).f0),.bool ((au a5 (iG)).f1),.string ((au a5 (iG)).f2)]] (by rfl) rfl rfl (by rfl) (by (try simp only [List.map_toArray,List.map_cons,List.map_nil]);first|done|(simp only [GY];rfl)|rfl|(simp only [List.length_drop,List.length_take];rfl)) ?_
 with_reducible refine (sQ.calls ((au a5 a6).f0) ((au a5 a6).f1) ((au a5 a6).f2) ((au a5 (iG)).f0) ((au a5 (iG)).f1) ((au a5 (iG)).f2) dw _ d5.out).mono ?_
 rintro e d8 ⟨rfl,hb⟩
 have BX:=(hb.cell (World.block_lt_of_cell? _ _ (hH.1))).trans (hH.1)
 have BZ:=(hb.cell (World.block_lt_of_cell? _ _ (hH.2.1))).trans (hH.2.1)
 have B_:=(hb.cell (World.block_lt_of_cell? _ _ (hH.2.2.1))).trans (hH.2.2.1)
 have Cb:=(hb.cell (World.block_lt_of_cell? _ _ (hH.2.2.2.1))).trans (hH.2.2.2.1)
 have Cc:=(hb.cell (World.block_lt_of_cell? _ _ (hH.2.2.2.2.1))).trans (hH.2.2.2.2.1)
 have Ce:=(hb.cell (World.block_lt_of_cell? _ _ (hH.2.2.2.2.2))).trans (hH.2.2.2.2.2)
 refine ⟨_,rfl,?_⟩
 obtain ⟨bQ,HK,HB⟩:=p_ (Kd.bn (aG bQ) hb) <| p_ (Kept.below (S:=(fun aF=>eG aF)) jh hb) <| a_ (dI ay hb)
 (try clear hb)
 refine hK.out _ _ ⟨BX,BZ,B_,Cb,Cc,Ce⟩ (fun hH=>?_)
 clear hK K
 refine fD (some 32) ?_
 refine aI 15 ?_
 refine aI 16 ?_
 refine iF (jB aS.out aB) ?_
 go_upto_if 34 with (fail)
 obtain ⟨H⟩:=bq
 revert H;refine gI (fun am H=>?_) fun am H=>?_
 rotate_left
 ·try simp only [bI,bY,am]
  have H':=m_ H
  clear H
  go_wp2
  go_roundg k2
  case measure=>have:=iq.out;have:=jv.out;omega
  case rel=>exact ⟨(a5),(wrap64 (dD+1)),bg,H',⟨IJ⟩,⟨(aG bQ)⟩,⟨jh⟩,⟨ay⟩⟩
 try simp only [bI,bY,am]
 obtain ⟨bP,av⟩:∃ y_:List (aC),y_=(a5.set (a6:Int).toNat (⟨(au a5 (iG)).f0,(au a5 (iG)).f1,(au a5 (iG)).f2⟩:aC)):=⟨_,rfl⟩
 rw [← av] at H
 have bu:=m_ av
 clear av
 obtain ⟨bv,aw⟩:∃ y_:List (aC),y_=(bP.set ((iG):Int).toNat (⟨(au a5 a6).f0,(au a5 a6).f1,(au a5 a6).f2⟩:aC)):=⟨_,rfl⟩
 rw [← aw] at H
 have bw:=m_ aw
 clear aw
 have H':=m_ H
 clear H
 try go_wp2
 obtain ⟨bQ,HK,HB⟩:=p_ (Kd.bK bQ.out) <| p_ (Kept.drew HK.out) <| a_ (k_ HB.out)
 have b7:0≤((iG):Int):=bC bD
 have b8:(iG) < (a5.length:Int):=bC bD
 obtain ⟨bx,cr,ag,aP,ai⟩:=jP (Kd.bZ bQ.out).2.2 (iG) b7 b8
 obtain rfl:a8=bx:=(by injection cr)
 replace b7:=eq_true b7
 replace b8:=eq_true b8
 have b9:0≤(a6:Int):=bC bD
 have ba:a6 < (a5.length:Int):=bC bD
 obtain ⟨bz,ct,aN,aT,al⟩:=jP (Kd.bZ bQ.out).2.2 a6 b9 ba
 obtain rfl:a8=bz:=(by injection ct)
 replace b9:=eq_true b9
 replace ba:=eq_true ba
 have jg:0≤(a6:Int):=bC bD
 have cv:(a6:Int) < ((a5.length:Int):Int):=bC bD
 obtain ⟨a7,d9,ca,cc,cw,da,cd⟩:=Kd.zf bQ.out (by omega)
 (first|cases ca|(injection ca with lK vH vG;(first|subst lK|(injection lK with lK;subst lK));subst vG;clear vH))
 have ar:=m_ cc
 have cx:=m_ cd
 clear cc cw cd
 have Ep:=m_ (show (eG a7∨w.heap.size≤a7) from (bQ.out.1 _ rfl))
 (first|simp only [add_plain] at a9|skip)
 (first|simp only [add_plain] at aa|skip)
 (first|simp only [add_plain] at ab|skip)
 (first|simp only [add_plain] at ac|skip)
 (first|simp only [add_plain] at ae|skip)
 (first|simp only [add_plain] at af|skip)
 (first|simp only [add_plain] at ag|skip)
 (first|simp only [add_plain] at aP|skip)
 (first|simp only [add_plain] at ai|skip)
 (first|simp only [add_plain] at aN|skip)
 (first|simp only [add_plain] at aT|skip)
 (first|simp only [add_plain] at al|skip)
 obtain ⟨db,ce,cf,an,ao⟩:=Kd.oW bQ.out z43 (a6:Int) jg cv
 obtain rfl:=o9 cf
 have bb:World.cell? _ ⟨a7,(a6:Int).toNat * 3,none⟩=some (.string ((au a5 a6).f0)):=an 0 _ rfl
 have bc:World.cell? _ ⟨a7,(a6:Int).toNat * 3+1,none⟩=some (.bool ((au a5 a6).f1)):=an 1 _ rfl
 have bd:World.cell? _ ⟨a7,(a6:Int).toNat * 3+2,none⟩=some (.string ((au a5 a6).f2)):=an 2 _ rfl
 have be:World.frozen? _ ⟨a7,(a6:Int).toNat * 3,none⟩=false:=ao 0
 have fF:World.frozen? _ ⟨a7,(a6:Int).toNat * 3+1,none⟩=false:=ao 1
 have dM:World.frozen? _ ⟨a7,(a6:Int).toNat * 3+2,none⟩=false:=ao 2
 clear ce an ao cf
 replace jg:=eq_true jg
 replace cv:=eq_true cv
 obtain ⟨dd,az,cg,b0,ch⟩:=Kd.oW bQ.out z43 (a6:Int) (bC bD) (by have dV:(a6:Int) < ((a5.length:Int):Int):=bC bD;first|exact dV|(have e_:=(Kd.bZ bQ.out).1;omega)|simpa using dV)
 obtain rfl:=o9 cg
 have LK:=(Kd.yu bQ.out (a6:Int) (bC bD) (by have dV:(a6:Int) < ((a5.length:Int):Int):=bC bD;first|exact dV|(have e_:=(Kd.bZ bQ.out).1;omega)|simpa using dV) (seg:=[.string ((au a5 (iG)).f0),.bool ((au a5 (iG)).f1),.string ((au a5 (iG)).f2)]) (j:=0) az b0 (show 3≤3 from by decide) (x':=(⟨(au a5 (iG)).f0,(au a5 (iG)).f1,(au a5 (iG)).f2⟩:aC)) (qX _ _ _ (⟨(au a5 (iG)).f0,(au a5 (iG)).f1,(au a5 (iG)).f2⟩:aC) ) (fun _ hk=>hk)).1
 rw [← bu.out] at LK
 have Ja:=m_ LK
 clear az b0 ch cg LK
 have cm:0≤((iG):Int):=bC bD
 have cn:((iG):Int) < ((a5.length:Int):Int):=bC bD
 obtain ⟨de,ci,cj,ap,aq⟩:=Kd.oW Ja.out z43 ((iG):Int) cm cn
 obtain rfl:=o9 cj
 have bh:World.cell? _ ⟨a7,((iG):Int).toNat * 3,none⟩=some (.string ((au bP (iG)).f0)):=ap 0 _ rfl
 have bi:World.cell? _ ⟨a7,((iG):Int).toNat * 3+1,none⟩=some (.bool ((au bP (iG)).f1)):=ap 1 _ rfl
 have bj:World.cell? _ ⟨a7,((iG):Int).toNat * 3+2,none⟩=some (.string ((au bP (iG)).f2)):=ap 2 _ rfl
 have bl:World.frozen? _ ⟨a7,((iG):Int).toNat * 3,none⟩=false:=aq 0
 have bm:World.frozen? _ ⟨a7,((iG):Int).toNat * 3+1,none⟩=false:=aq 1
 have fK:World.frozen? _ ⟨a7,((iG):Int).toNat * 3+2,none⟩=false:=aq 2
 clear ci ap aq cj
 replace cm:=eq_true cm
 replace cn:=eq_true cn
 obtain ⟨df,b1,ck,b2,cl⟩:=Kd.oW Ja.out z43 ((iG):Int) (bC bD) (by have dV:((iG):Int) < ((a5.length:Int):Int):=bC bD;first|exact dV|(have e_:=(Kd.bZ bQ.out).1;omega)|simpa using dV)
 obtain rfl:=o9 ck
 have LM:=(Kd.yu Ja.out ((iG):Int) (bC bD) (by have dV:((iG):Int) < ((a5.length:Int):Int):=bC bD;first|exact dV|(have e_:=(Kd.bZ bQ.out).1;omega)|simpa using dV) (seg:=[.string ((au a5 a6).f0),.bool ((au a5 a6).f1),.string ((au a5 a6).f2)]) (j:=0) b1 b2 (show 3≤3 from by decide) (x':=(⟨(au a5 a6).f0,(au a5 a6).f1,(au a5 a6).f2⟩:aC)) (qX _ _ _ (⟨(au a5 a6).f0,(au a5 a6).f1,(au a5 a6).f2⟩:aC) ) (fun _ hk=>hk)).1
 rw [← bw.out] at LM
 have Qz:=m_ LM
 clear b1 b2 cl ck LM
 refine iH (n:=18) (S:=fun w'=>Ji w' a7 (((iG)).toNat * 3) (.string ((au a5 (iG)).f0)) (.bool ((au a5 (iG)).f1)) (.string ((au a5 (iG)).f2)) <| Jj w' a7 (((a6).toNat * 3)) (.string ((au a5 a6).f0)) (.bool ((au a5 a6).f1)) (.string ((au a5 a6).f2))) (ds:=[15,17]) MZ aB rfl rfl ⟨ag,aP,ai,aN,aT,al⟩ (fun hH=>?_);refine jC (T:=jX.T6) (B:=jX.B6) aB aB (fun aS gJ=>?_)
 generalize d8.drew=di at bQ HK HB cx Ja Qz be fF dM bl bm fK bb bc bd bh bi bj a9 aa ab ac ae af ag aP ai aN aT al hH ⊢
 refine aI 0 ?_
 refine aI 1 ?_
 refine aI 2 ?_
 refine aI 3 ?_
 refine aI 4 ?_
 refine aI 5 ?_
 refine aI 6 ?_
 refine aI 7 ?_
 refine aI 8 ?_
 refine aI 10 ?_
 refine aI 11 ?_
 refine aI 12 ?_
 refine fV 9 hH ?_
 refine fV 13 hH ?_
 refine aI 14 ?_
 refine wz 15 (fun K hK=>?_)
 refine jr (w1:=?_) (by rfl) rfl ?_ ?_
 rotate_left
 ·go_simp
  rfl
 refine hK.out _ _ ?_
 clear hK K
 refine aI 16 ?_
 refine wz 17 (fun K hK=>?_)
 refine jr (w1:=?_) (by rfl) rfl ?_ ?_
 rotate_left
 ·obtain ⟨Nj,N9,Dc,vK,vM⟩:=Kd.oW bQ.out z43 ((iG):Int) (of_eq_true cm) (of_eq_true cn)
  obtain rfl:=o9 Dc
  have Ny:World.frozen? _ ⟨a7,((iG):Int).toNat * 3,none⟩=false:=vM 0
  have D5:World.cell? _ ⟨a7,((iG):Int).toNat * 3,none⟩=some _:=vK 0 _ rfl
  obtain ⟨_,Ns⟩:=cell?_setCell_some (p:=⟨a7,(a6:Int).toNat * 3,none⟩) (x:=.string ((au a5 (iG)).f0)) D5
  have Nz:World.frozen? _ ⟨a7,((iG):Int).toNat * 3+1,none⟩=false:=vM 1
  have D6:World.cell? _ ⟨a7,((iG):Int).toNat * 3+1,none⟩=some _:=vK 1 _ rfl
  obtain ⟨_,CY⟩:=cell?_setCell_some (p:=⟨a7,(a6:Int).toNat * 3,none⟩) (x:=.string ((au a5 (iG)).f0)) D6
  obtain ⟨_,Nu⟩:=cell?_setCell_some (p:=⟨a7,(a6:Int).toNat * 3+1,none⟩) (x:=.bool ((au a5 (iG)).f1)) CY
  have NC:World.frozen? _ ⟨a7,((iG):Int).toNat * 3+2,none⟩=false:=vM 2
  have D7:World.cell? _ ⟨a7,((iG):Int).toNat * 3+2,none⟩=some _:=vK 2 _ rfl
  obtain ⟨_,CZ⟩:=cell?_setCell_some (p:=⟨a7,(a6:Int).toNat * 3,none⟩) (x:=.string ((au a5 (iG)).f0)) D7
  obtain ⟨_,C9⟩:=cell?_setCell_some (p:=⟨a7,(a6:Int).toNat * 3+1,none⟩) (x:=.bool ((au a5 (iG)).f1)) CZ
  obtain ⟨_,Nv⟩:=cell?_setCell_some (p:=⟨a7,(a6:Int).toNat * 3+2,none⟩) (x:=.string ((au a5 (iG)).f2)) C9
  go_simp
  rfl
 refine hK.out _ _ ?_
 clear hK K
 refine iF (jB aS.out aB) ?_
 try go_wp2
 go_roundg k2
 case measure=>have:=iq.out;have:=jv.out;omega
 case rel=>exact ⟨(bv),(iG),(by first|rfl|(simp;done)|(simp only [← GY] <;> (first|rfl|simp))|(simp [*];done)),H',⟨IJ⟩,⟨(aG Qz)⟩,⟨(by repeat (first|(with_reducible first|exact HK.out|apply Kept.alloc|apply Kept.drewN|apply Kept.drew|refine Kept.setCell ?_ Ep.out _|refine Kept.setCell ?_ Ep.out _|refine Kept.setCell ?_ Ep.out _|refine Kept.setCell ?_ Ep.out _|refine Kept.setCell ?_ Ep.out _|refine Kept.setCell ?_ Ep.out _)|exact HK.out))⟩,⟨(by repeat (first|(with_reducible first|exact HB.out|apply ny|apply qm|apply k_|refine iL ?_ ar.out|refine iL ?_ ar.out|refine iL ?_ ar.out|refine iL ?_ ar.out|refine iL ?_ ar.out|refine iL ?_ ar.out)|exact HB.out))⟩⟩

end Go.Proofs.YthejdhjpbpamoaaGreatDoor.jM
