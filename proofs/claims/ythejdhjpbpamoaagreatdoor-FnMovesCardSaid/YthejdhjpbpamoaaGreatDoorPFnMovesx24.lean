/- Contracts of Go functions: each call returns what the Lean function beside it computes. Conditions: as each theorem states them. -/
import Derived.Test.YthejdhjpbpamoaaGreatDoorPkFnMoves
import Derived.Test.YthejdhjpbpamoaaGreatDoorPFnMovesx1
import Derived.Test.YthejdhjpbpamoaaGreatDoorPFnMovesx17
import Derived.Test.YthejdhjpbpamoaaGreatDoorPFnMovesx23
namespace Go.Proofs.YthejdhjpbpamoaaGreatDoor.jM
open Go.RowKit Go.Proofs.YthejdhjpbpamoaaGreatDoorW.iK Go.Proofs.YthejdhjpbpamoaaGreatDoorW.lX Go.Proofs.YthejdhjpbpamoaaGreatDoorW.oV Go.Proofs.Tryz
attribute [local go_sem] qI qM qL qP qK qO qJ qN   -- for this text's walks alone
set_option linter.unusedVariables false
set_option maxHeartbeats 8000000
set_option maxRecDepth 100000
set_option linter.unusedSimpArgs false

mutual
def iy.j0:Nat→Bool→List (aC)→Option (Bool)
 | 0,_,_=>none
 | k+1,a6,a5=>if a6=true then (some false) else (iy.l0 k a5 (a5.length:Int) 0 a5)
def iy.l0:Nat→List (aC)→Int→Int→List (aC)→Option (Bool)
 | 0,_,_,_,_=>none
 | k+1,a7,a8,a6,a5=>if a6 < a8 then (if 0≤a6 then (if a6 < (a7.length:Int) then ((mF.f k ((au a7 a6).f0)).bind fun a9=>(if a9.2=0 then (if ((au a7 a6).f0).toList=([47]:List UInt8) then (iy.j2 k a7 a8 a6 true a5 ((au a7 a6).f0) ((au a7 a6).f1) ((au a7 a6).f2)) else ((yQ.f k ((au a7 a6).f0)).bind fun aa=>((Ad.f a5 aa).bind fun ab=>(if ab=true then (if a6 > 0 then (if 0≤(wrap64 (a6 - 1)) then (if (wrap64 (a6 - 1)) < (a5.length:Int) then (iy.j2 k a7 a8 a6 (!(Op.bytesLess (((au a5 (wrap64 (a6 - 1))).f0).toList) (((au a7 a6).f0).toList))) a5 ((au a7 a6).f0) ((au a7 a6).f1) ((au a7 a6).f2)) else (none)) else (none)) else (iy.j2 k a7 a8 a6 false a5 ((au a7 a6).f0) ((au a7 a6).f1) ((au a7 a6).f2))) else (iy.j2 k a7 a8 a6 true a5 ((au a7 a6).f0) ((au a7 a6).f1) ((au a7 a6).f2)))))) else (iy.j2 k a7 a8 a6 true a5 ((au a7 a6).f0) ((au a7 a6).f1) ((au a7 a6).f2)))) else (none)) else (none)) else (some true)
def iy.j2:Nat→List (aC)→Int→Int→Bool→List (aC)→ByteArray→Bool→ByteArray→Option (Bool)
 | 0,_,_,_,_,_,_,_,_=>none
 | k+1,aa,ab,ac,ae,a5,a7,a8,a6=>if ae=true then (some false) else (if a8=true then (if a6.toList=([]:List UInt8) then ((qG.f k a5 a7).bind fun a9=>(if (a9.length:Int) > 6 then (some false) else (if (a6.size:Int) > 128 then (some false) else (iy.l0 k aa ab (wrap64 (ac+1)) a5)))) else (some false)) else (if (a6.size:Int) > 128 then (some false) else (iy.l0 k aa ab (wrap64 (ac+1)) a5)))
end
def iy.f (k:Nat) (a8:Int) (a9:Int) (a6:Int) (a7:Int) (a5:List (aC)):Option (Bool):=(zk.f a8 a9 a6 a7).bind fun aa=>(if aa=true then (if (a5.length:Int) ≥ a6 then (iy.j0 k true a5) else ((sS.f k a5).bind fun ab=>(if ab > a7 then (iy.j0 k true a5) else ((qG.f k a5 (⟨#[47]⟩:ByteArray)).bind fun ac=>(iy.j0 k (decide ((ac.length:Int) > 6)) a5))))) else (iy.j0 k true a5))
def iy.T1:Bool × List (List Nat × List Nat):=(true,[([],[]),([0],[0]),([1],[1]),([2,1],[2]),([3],[3]),([4,3],[3,4]),([5,3],[3,5]),([3],[3]),([7,3],[3,7]),([6,8,3],[3,6,8]),([3,9],[3,9]),([10,3],[10]),([11],[11]),([12,11,11],[11,12]),([11],[11]),([14,11],[11,14]),([13,15,11],[11,13,15]),([11,16],[11,16]),([17,13],[17]),([18],[18]),([19,18,18],[18,19]),([20,18],[18,20]),([21,18],[18,21]),([18,22],[18,22])])
def iy.B1:List Nat:=[0,1,3,7,15,31,63,15,143,511,1023,2047,4095,8191,4095,20479,65535,131071,262143,524287,1048575,2097151,4194303,8388607]
theorem iy.Kz:kZ .any (opsOf Tryz.f16 1)=iy.T1:=by kernel_rfl
theorem iy.Jp:sF iy.T1.2 iy.B1=true:=by kernel_rfl
def iy.T7:Bool × List (List Nat × List Nat):=(true,[([],[]),([0],[0]),([1],[1]),([2],[2]),([3,2],[2,3]),([4,2],[2,4]),([2,5],[2,5]),([6,2],[6]),([7],[7]),([7],[7]),([9,7],[7,9]),([10,7,7],[7,10]),([8,11,11,7],[7,8,11]),([12,7],[7,12]),([7,13],[7,13]),([14,12],[14]),([15],[15]),([16,15],[15,16]),([17,15,15],[15,17]),([18],[18]),([19,18],[18,19]),([18],[18]),([21,18],[18,21]),([18],[18]),([23,18],[18,23]),([22,24,18],[18,22,24]),([25,18],[18,25]),([26,18],[18,26]),([20,27,18],[18,20,27]),([18,28,15],[15,18,28]),([15,29],[15,29])])
def iy.B7:List Nat:=[0,1,3,7,15,31,63,127,255,255,767,1791,4095,8191,16383,32767,65535,131071,262143,524287,1048575,524287,2621439,524287,8912895,31981567,65535999,132644863,268435455,536870911,1073741823]
theorem iy.Az:kZ .any (opsOf Tryz.f16 7)=iy.T7:=by kernel_rfl
theorem iy.zN:sF iy.T7.2 iy.B7=true:=by kernel_rfl
theorem iy.calls (k:Nat) (aN:Int) (aT:Int) (ae:Int) (af:Int) (ax:Option Addr) (al:Nat) (aK:List (aC)) (r:Bool) (w:World) (oO:jH w) (fK:Kd.C bF w ax aK.length aK) (bo:aK.length≤al) (h:iy.f k aN aT ae af aK=some r) :
  Calls Tryz.prog 16 #[.agg #[ah aN,ah aT,ah ae,ah af],.agg #[.slice ax aK.length al]] w fun e w'=>e=.returned (.bool r)∧Below w.heap.size w w':=by
 have w_:=underlying25
 have oq:=underlying28
 have rF:=underlying43
 have rC:=m_ fK
 have ar:=m_ bo
 clear fK bo
 have HD:=m_ oO
 clear oO
 have HB:=m_ (Below.refl w.heap.size w)
 unfold iy.f at h
 have H:=h
 clear h
 have db:=m_ H
 clear H
 go_enter func16,ntmps16
 go_upto_region 1 with (first|((with_reducible refine dG 2 ?_);(try (refine oh (by rfl) ?_;dsimp only));refine dU 2 (cs:=#[ah aN,ah aT,ah ae,ah af]) 25 ?_;intro aa hg w4 hbox hb;obtain ⟨HB,a6,di,dj⟩:=kE ay hb hbox hg;clear hb hbox hg)|((with_reducible refine dG 3 ?_);(try (refine oh (by rfl) ?_;dsimp only));refine dU 3 (cs:=#[.slice ax aK.length al]) 28 ?_;intro am hg w5 hbox hb;obtain ⟨a6,HB,a5,dk,dl,bd,be⟩:=qj (aj a6) ay hb hbox hg;clear hb hbox hg))
 (try simp only [Act.put,List.setIfInBounds_toArray,List.set_cons_zero,List.set_cons_succ])
 go_cut [32] (fun v32 wc=>∃ (kq:Nat) (bc:Bool),v32=.bool bc∧aA (iy.j0 kq bc aK=some r)∧aA (kq≤k)∧aA (wc.heap[aa]?=some (.cells #[ah aN,ah aT,ah ae,ah af] 25))∧aA (wc.heap[am]?=some (.cells #[(.slice ax aK.length al)] 28))∧aA (Below w.heap.size w wc))
 case first =>
  obtain ⟨H⟩:=db
  obtain ⟨dd,A6,H⟩:=bd_ H
  by_cases c7:dd=true
  rotate_left
  ·replace c7:=Bool.eq_false_iff.mpr c7
   subst c7
   rw [if_neg iO] at H
   have H':=m_ H
   clear H
   try go_wp2
   obtain ⟨a6,a5,HB⟩:=GL a6 a5 HB
   refine iH (n:=24) (S:=fun w'=>FY w' aa (ah aN) (ah aT) (ah ae) (ah af)) (ds:=[]) Gw aB rfl rfl (tY a6.out) (fun hH=>?_);refine jC iy.Kz iy.Jp (fun aS gJ=>?_)
   generalize w5.drew=ed at a6 a5 HB hH ⊢
   refine fV 0 hH ?_
   refine kY 1 (fun K hK=>?_)
   refine iR func55 aB rfl #[.agg #[ah aN,ah aT,ah ae,ah af]] (by rfl) rfl rfl aW ?_
   with_reducible refine (zk.calls aN aT ae af false _ A6.out).mono ?_
   rintro e ee ⟨rfl,hb⟩
   refine ⟨_,rfl,?_⟩
   obtain ⟨a6,a5,HB⟩:=uF (aj a6) (aj a5) ay hb
   (try clear hb)
   refine hK.out _ _ (tY a6.out) (fun hH=>?_)
   clear hK K
   refine fD (some 10) ?_
   refine aI 2 ?_
   refine aI 3 ?_
   refine bf 4 ?_
   refine bf 5 ?_
   refine bf 6 ?_
   refine bf 7 ?_
   refine bf 8 ?_
   refine bf 9 ?_
   refine aI 10 ?_
   refine aI 11 ?_
   refine bf 12 ?_
   refine bf 13 ?_
   refine bf 14 ?_
   refine bf 15 ?_
   refine bf 16 ?_
   refine aI 17 ?_
   refine aI 18 ?_
   refine bf 19 ?_
   refine bf 20 ?_
   refine bf 21 ?_
   refine bf 22 ?_
   refine aI 23 ?_
   refine iF (jB aS.out aB) ?_
   try go_wp2
   go_meet
   case rel=>exact ⟨_,(true),bg,H',⟨kH⟩,⟨(aj a6)⟩,⟨(aj a5)⟩,⟨ay⟩⟩
  subst c7
  rw [if_pos rfl] at H
  revert H;refine gI (fun bh H=>?_) fun bh H=>?_
  ·try simp only [bI,bY,bh]
   have H':=m_ H
   clear H
   try go_wp2
   obtain ⟨a6,a5,HB⟩:=GL a6 a5 HB
   refine iH (n:=24) (S:=fun w'=>xB w' aa (ah aN) (ah aT) (ah ae) (ah af) <| y7 w' am (.slice ax aK.length al)) (ds:=[]) Gw aB rfl rfl (nK a6.out ((aO a5.out 0).trans rfl)) (fun hH=>?_);refine jC iy.Kz iy.Jp (fun aS gJ=>?_)
   generalize w5.drew=w9 at a6 a5 HB hH ⊢
   refine fV 0 hH ?_
   refine kY 1 (fun K hK=>?_)
   refine iR func55 aB rfl #[.agg #[ah aN,ah aT,ah ae,ah af]] (by rfl) rfl rfl aW ?_
   with_reducible refine (zk.calls aN aT ae af true _ A6.out).mono ?_
   rintro e ef ⟨rfl,hb⟩
   refine ⟨_,rfl,?_⟩
   obtain ⟨a6,a5,HB⟩:=uF (aj a6) (aj a5) ay hb
   (try clear hb)
   refine hK.out _ _ (nK a6.out ((aO a5.out 0).trans rfl)) (fun hH=>?_)
   clear hK K
   refine fD (some 10) ?_
   refine aI 2 ?_
   refine aI 3 ?_
   refine aI 4 ?_
   refine aI 7 ?_
   refine fV 5 hH ?_
   refine aI 6 ?_
   refine fV 8 hH ?_
   refine aI 9 ?_
   refine aI 10 ?_
   refine aI 11 ?_
   refine bf 12 ?_
   refine bf 13 ?_
   refine bf 14 ?_
   refine bf 15 ?_
   refine bf 16 ?_
   refine aI 17 ?_
   refine aI 18 ?_
   refine bf 19 ?_
   refine bf 20 ?_
   refine bf 21 ?_
   refine bf 22 ?_
   refine aI 23 ?_
   refine iF (jB aS.out aB) ?_
   try go_wp2
   go_meet
   case rel=>exact ⟨_,(true),bg,H',⟨kH⟩,⟨(aj a6)⟩,⟨(aj a5)⟩,⟨ay⟩⟩
  try simp only [bI,bY,bh]
  obtain ⟨bs,dm,H⟩:=bd_ H
  revert H;refine gI (fun bi H=>?_) fun bi H=>?_
  ·have H':=m_ H
   clear H
   try go_wp2
   obtain ⟨a6,a5,HB⟩:=GL a6 a5 HB
   refine iH (n:=24) (S:=fun w'=>xB w' aa (ah aN) (ah aT) (ah ae) (ah af) <| y7 w' am (.slice ax aK.length al)) (ds:=[]) Gw aB rfl rfl (nK a6.out ((aO a5.out 0).trans rfl)) (fun hH=>?_);refine jC iy.Kz iy.Jp (fun aS gJ=>?_)
   generalize w5.drew=eh at a6 a5 HB hH ⊢
   refine fV 0 hH ?_
   refine kY 1 (fun K hK=>?_)
   refine iR func55 aB rfl #[.agg #[ah aN,ah aT,ah ae,ah af]] (by rfl) rfl rfl aW ?_
   with_reducible refine (zk.calls aN aT ae af true _ A6.out).mono ?_
   rintro e ei ⟨rfl,hb⟩
   refine ⟨_,rfl,?_⟩
   obtain ⟨a6,a5,HB⟩:=uF (aj a6) (aj a5) ay hb
   (try clear hb)
   refine hK.out _ _ (nK a6.out ((aO a5.out 0).trans rfl)) (fun hH=>?_)
   clear hK K
   refine fD (some 10) ?_
   refine aI 2 ?_
   refine aI 3 ?_
   refine aI 4 ?_
   refine aI 7 ?_
   refine fV 5 hH ?_
   refine aI 6 ?_
   refine fV 8 hH ?_
   refine aI 9 ?_
   refine aI 10 ?_
   refine aI 11 ?_
   refine aI 14 ?_
   refine fV 12 hH ?_
   refine fV 15 hH ?_
   refine kY 13 (fun K hK=>?_)
   refine iR func56 aB rfl #[.agg #[.slice ax aK.length al]] (by rfl) rfl rfl aW ?_
   with_reducible refine (sS.calls k _ _ aK bs _ l9 ar.out dm.out).mono ?_
   rintro e ej ⟨rfl,hb⟩
   refine ⟨_,rfl,?_⟩
   obtain ⟨a6,a5,HB⟩:=uF (aj a6) (aj a5) ay hb
   (try clear hb)
   refine hK.out _ _ (nK a6.out ((aO a5.out 0).trans rfl)) (fun hH=>?_)
   clear hK K
   refine fD (some 22) ?_
   refine aI 16 ?_
   refine aI 17 ?_
   refine aI 18 ?_
   refine bf 19 ?_
   refine bf 20 ?_
   refine bf 21 ?_
   refine bf 22 ?_
   refine aI 23 ?_
   refine iF (jB aS.out aB) ?_
   try go_wp2
   go_meet
   case rel=>exact ⟨_,(true),bg,H',⟨kH⟩,⟨(aj a6)⟩,⟨(aj a5)⟩,⟨ay⟩⟩
  obtain ⟨ci,e0,H⟩:=bd_ H
  have H':=m_ H
  clear H
  try go_wp2
  obtain ⟨a6,a5,HB⟩:=GL a6 a5 HB
  refine iH (n:=24) (S:=fun w'=>xB w' aa (ah aN) (ah aT) (ah ae) (ah af) <| y7 w' am (.slice ax aK.length al)) (ds:=[]) Gw aB rfl rfl (nK a6.out ((aO a5.out 0).trans rfl)) (fun hH=>?_);refine jC iy.Kz iy.Jp (fun aS gJ=>?_)
  generalize w5.drew=ek at a6 a5 HB hH ⊢
  refine fV 0 hH ?_
  refine kY 1 (fun K hK=>?_)
  refine iR func55 aB rfl #[.agg #[ah aN,ah aT,ah ae,ah af]] (by rfl) rfl rfl aW ?_
  with_reducible refine (zk.calls aN aT ae af true _ A6.out).mono ?_
  rintro e el ⟨rfl,hb⟩
  refine ⟨_,rfl,?_⟩
  obtain ⟨a6,a5,HB⟩:=uF (aj a6) (aj a5) ay hb
  (try clear hb)
  refine hK.out _ _ (nK a6.out ((aO a5.out 0).trans rfl)) (fun hH=>?_)
  clear hK K
  refine fD (some 10) ?_
  refine aI 2 ?_
  refine aI 3 ?_
  refine aI 4 ?_
  refine aI 7 ?_
  refine fV 5 hH ?_
  refine aI 6 ?_
  refine fV 8 hH ?_
  refine aI 9 ?_
  refine aI 10 ?_
  refine aI 11 ?_
  refine aI 14 ?_
  refine fV 12 hH ?_
  refine fV 15 hH ?_
  refine kY 13 (fun K hK=>?_)
  refine iR func56 aB rfl #[.agg #[.slice ax aK.length al]] (by rfl) rfl rfl aW ?_
  with_reducible refine (sS.calls k _ _ aK bs _ l9 ar.out dm.out).mono ?_
  rintro e em ⟨rfl,hb⟩
  refine ⟨_,rfl,?_⟩
  obtain ⟨a6,a5,HB⟩:=uF (aj a6) (aj a5) ay hb
  (try clear hb)
  refine hK.out _ _ (nK a6.out ((aO a5.out 0).trans rfl)) (fun hH=>?_)
  clear hK K
  refine fD (some 22) ?_
  refine aI 16 ?_
  refine aI 17 ?_
  refine aI 18 ?_
  refine fV 19 hH ?_
  refine kY 20 (fun K hK=>?_)
  refine iR func18 aB rfl #[.agg #[.slice ax aK.length al],.string (⟨#[47]⟩:ByteArray)] (by rfl) rfl rfl aW ?_
  with_reducible refine (qG.calls k _ _ aK (⟨#[47]⟩:ByteArray) ci _ (jH.below HD.out ay) l9 ar.out e0.out).mono ?_
  rintro e en ⟨ajQ,rfl,ho0,hb⟩
  refine ⟨_,rfl,?_⟩
  obtain ⟨cj,a6,a5,HB⟩:=p_ (Kd.dK ho0 (dO ay)) <| uF (aj a6) (aj a5) ay hb
  (try clear hb)
  (try clear ho0)
  obtain ⟨e3,e4,ck⟩:=Kd.dJ cj.out
  (first|subst ck|(injection ck with dP fZ dQ;have f_:=dP.symm;have gq:=dQ.symm;clear dP fZ dQ;subst f_;subst gq))
  refine hK.out _ _ (nK a6.out ((aO a5.out 0).trans rfl)) (fun hH=>?_)
  clear hK K
  refine fD (some 29) ?_
  refine aI 21 ?_
  refine aI 22 ?_
  refine aI 23 ?_
  refine iF (jB aS.out aB) ?_
  try go_wp2
  go_meet
  case rel=>exact ⟨_,(decide ((ci.length:Int) > 6)),bg,H',⟨kH⟩,⟨(aj a6)⟩,⟨(aj a5)⟩,⟨ay⟩⟩
 case rest =>
 clear db
 obtain ⟨kq,bc,rfl,HA,HJ2,a6,a5,HB⟩:=hcut
 cases kq with
 | zero=>exact absurd HA.out (by simp [iy.j0])
 | succ Bl =>
 obtain ⟨H⟩:=HA
 simp only [iy.j0] at H
 by_cases cl:bc=true
 ·subst cl
  rw [if_pos rfl] at H
  obtain rfl:=cZ H
  go_wp2
  go_ret
  exact ⟨b_,ay⟩
 replace cl:=Bool.eq_false_iff.mpr cl
 subst cl
 rw [if_neg iO] at H
 have H':=m_ H
 clear H
 obtain ⟨b2,b3⟩:=iJ be bd
 have XA:=cu a5.out
 go_wp2
 go_loopg [36] Bl (fun kq v36 w'=>∃ (a8:Int),v36=ah a8∧aA (iy.l0 kq aK (aK.length:Int) a8 aK=some r)∧aA (kq≤Bl)∧aA (w'.heap[aa]?=some (.cells #[ah aN,ah aT,ah ae,ah af] 25))∧aA (w'.heap[am]?=some (.cells #[(.slice ax aK.length al)] 28))∧aA (Below w.heap.size w w'))
 case atStart=>exact ⟨(0),bg,H',⟨Nat.le_refl _⟩,⟨(aj a6)⟩,⟨(aj a5)⟩,⟨ay⟩⟩
 case round =>
 clear H'
 try clear cl;try clear XA
 obtain ⟨a8,rfl,HA,jv,a6,a5,HB⟩:=hrel
 cases gk with
 | zero=>exact absurd HA.out (by simp [iy.l0])
 | succ k2 =>
 obtain ⟨H⟩:=HA
 simp only [iy.l0] at H
 revert H;refine gI (fun cm H=>?_) fun cm H=>?_
 rotate_left
 ·obtain rfl:=cZ H
  go_wp2
  go_ret
  exact ⟨b_,ay⟩
 obtain ⟨dp,H⟩:=fU H
 obtain ⟨dr,H⟩:=fU H
 obtain ⟨⟨de,cn⟩,e6,H⟩:=bd_ H
 try dsimp -simprocs only at H
 have bu:=m_ H
 clear H
 have bv:0≤(a8:Int):=bC bD
 have bw:a8 < (aK.length:Int):=bC bD
 obtain ⟨ab,df,bP,av,aw⟩:=jP rC.out a8 bv bw
 cases df
 replace bP:=gu HB.out bP
 replace av:=gu HB.out av
 replace aw:=gu HB.out aw
 replace bv:=eq_true bv
 replace bw:=eq_true bw
 go_upto_region 7 with (first|((with_reducible refine dG 6 ?_);(try (refine oh (by rfl) ?_;dsimp only));refine dU 6 (cs:=#[.string (⟨#[]⟩:ByteArray),.bool false,.string (⟨#[]⟩:ByteArray)]) 43 ?_;intro ac hg ep hbox hb;obtain ⟨a6,a5,HB,a7,dt,du,dw,fF,az,dM⟩:=wu (aj a6) (aj a5) ay hb hbox hg;clear hb hbox hg;obtain ⟨b4,b5,b6,b7⟩:=jE fF dw dM az;have bm:=nP a7.out)|((with_reducible refine bU 57 ?_);refine bV (some 44) rfl rfl func57 aB rfl #[.string ((au aK a8).f0)] rfl aW ?_;(with_reducible refine (mF.calls k2 ((au aK a8).f0) de cn _ (jH.below HD.out ay) e6.out).mono ?_);rintro e co ⟨ajR,rfl,ho0,hb⟩;refine ⟨_,rfl,?_⟩;obtain ⟨a9,a6,a5,a7,HB⟩:=p_ (Kd.dK ho0 (dO ay)) <| p_ (bG (g:=aa) (o:=.cells #[ah aN,ah aT,ah ae,ah af] 25) (lM a6.out dw.out) hb) <| p_ (bG (g:=am) (o:=.cells #[.slice (some ab) aK.length al] 28) (lM a5.out az.out) hb) <| p_ (bG (g:=ac) (o:=.cells #[.string ((au aK a8).f0),.bool ((au aK a8).f1),.string ((au aK a8).f2)] 43) (wB a7.out) hb) <| a_ (dI ay hb);(try clear hb);(try clear ho0)))
 (try simp only [Act.put,List.setIfInBounds_toArray,List.set_cons_zero,List.set_cons_succ])
 go_cut [77] (fun v77 wc=>∃ (kq:Nat) (b1:Bool),v77=.bool b1∧aA (iy.j2 kq aK (aK.length:Int) a8 b1 aK ((au aK a8).f0) ((au aK a8).f1) ((au aK a8).f2)=some r)∧aA (kq≤k2)∧aA (wc.heap[aa]?=some (.cells #[ah aN,ah aT,ah ae,ah af] 25))∧aA (wc.heap[am]?=some (.cells #[(.slice (some ab) aK.length al)] 28))∧aA (wc.heap[ac]?=some (.cells #[.string ((au aK a8).f0),.bool ((au aK a8).f1),.string ((au aK a8).f2)] 43))∧aA (Below w.heap.size w wc))
 case first =>
  obtain ⟨H⟩:=bu
  revert H;refine fJ (fun bq H=>?_) fun bq H=>?_
  rotate_left
  ·have b0:=gU bq
   have br:=gV bq
   try simp only [bI,bY,b0]
   have H':=m_ H
   clear H
   try go_wp2
   obtain ⟨a9,a6,a5,a7,HB⟩:=p_ (Kd.bK a9.out) <| wQ a6 a5 a7 HB
   refine iH (n:=31) (S:=fun w'=>True) (ds:=[]) Gx aB rfl rfl trivial (fun hH=>?_);refine jC iy.Az iy.zN (fun aS gJ=>?_)
   generalize co.drew=eq at a9 a6 a5 a7 HB hH ⊢
   refine aI 0 ?_
   refine aI 1 ?_
   refine aI 2 ?_
   refine bf 3 ?_
   refine bf 4 ?_
   refine bf 5 ?_
   refine aI 6 ?_
   refine aI 7 ?_
   refine bf 8 ?_
   refine bf 9 ?_
   refine bf 10 ?_
   refine bf 11 ?_
   refine bf 12 ?_
   refine bf 13 ?_
   refine aI 14 ?_
   refine aI 15 ?_
   refine bf 16 ?_
   refine bf 17 ?_
   refine bf 18 ?_
   refine bf 19 ?_
   refine bf 20 ?_
   refine bf 21 ?_
   refine bf 22 ?_
   refine bf 23 ?_
   refine bf 24 ?_
   refine bf 25 ?_
   refine bf 26 ?_
   refine bf 27 ?_
   refine bf 28 ?_
   refine bf 29 ?_
   refine aI 30 ?_
   refine iF (jB aS.out aB) ?_
   try go_wp2
   go_meet
   case rel=>exact ⟨_,(true),bg,H',⟨xY⟩,⟨(aj a6)⟩,⟨(aj a5)⟩,⟨(aj a7)⟩,⟨ay⟩⟩
  have b0:=gZ bq
  have br:=g_ bq
  clear bq
  try simp only [bI,bY,b0]
  revert H;refine fJ (fun bx H=>?_) fun bx H=>?_
  ·have cp:=gZ bx
   have cq:=g_ bx
   clear bx
   have H':=m_ H
   clear H
   try go_wp2
   obtain ⟨a9,a6,a5,a7,HB⟩:=p_ (Kd.bK a9.out) <| wQ a6 a5 a7 HB
   refine iH (n:=31) (S:=fun w'=>zH w' ac (.string ((au aK a8).f0)) (.bool ((au aK a8).f1)) (.string ((au aK a8).f2))) (ds:=[]) Gx aB rfl rfl (qC a7.out) (fun hH=>?_);refine jC iy.Az iy.zN (fun aS gJ=>?_)
   generalize co.drew=er at a9 a6 a5 a7 HB hH ⊢
   refine aI 0 ?_
   refine aI 1 ?_
   refine aI 2 ?_
   refine aI 3 ?_
   refine fV 4 hH ?_
   refine aI 5 ?_
   refine aI 6 ?_
   refine aI 7 ?_
   refine bf 8 ?_
   refine bf 9 ?_
   refine bf 10 ?_
   refine bf 11 ?_
   refine bf 12 ?_
   refine bf 13 ?_
   refine aI 14 ?_
   refine aI 15 ?_
   refine bf 16 ?_
   refine bf 17 ?_
   refine bf 18 ?_
   refine bf 19 ?_
   refine bf 20 ?_
   refine bf 21 ?_
   refine bf 22 ?_
   refine bf 23 ?_
   refine bf 24 ?_
   refine bf 25 ?_
   refine bf 26 ?_
   refine bf 27 ?_
   refine bf 28 ?_
   refine bf 29 ?_
   refine aI 30 ?_
   refine iF (jB aS.out aB) ?_
   try go_wp2
   go_meet
   case rel=>exact ⟨_,(true),bg,H',⟨xY⟩,⟨(aj a6)⟩,⟨(aj a5)⟩,⟨(aj a7)⟩,⟨ay⟩⟩
  have cp:=gU bx
  have cq:=gV bx
  obtain ⟨an,d8,H⟩:=bd_ H
  obtain ⟨cr,d9,H⟩:=bd_ H
  by_cases ct:cr=true
  rotate_left
  ·replace ct:=Bool.eq_false_iff.mpr ct
   subst ct
   rw [if_neg iO] at H
   have H':=m_ H
   clear H
   try go_wp2
   obtain ⟨a9,a6,a5,a7,HB⟩:=p_ (Kd.bK a9.out) <| wQ a6 a5 a7 HB
   refine iH (n:=31) (S:=fun w'=>zG w' ac (.string ((au aK a8).f0)) (.bool ((au aK a8).f1)) (.string ((au aK a8).f2)) <| y7 w' am (.slice (some ab) aK.length al)) (ds:=[]) Gx aB rfl rfl (vC a7.out ((aO a5.out 0).trans rfl)) (fun hH=>?_);refine jC iy.Az iy.zN (fun aS gJ=>?_)
   generalize co.drew=es at a9 a6 a5 a7 HB hH ⊢
   refine aI 0 ?_
   refine aI 1 ?_
   refine aI 2 ?_
   refine aI 3 ?_
   refine fV 4 hH ?_
   refine aI 5 ?_
   refine aI 6 ?_
   refine aI 7 ?_
   refine aI 9 ?_
   refine fV 8 hH ?_
   refine fV 10 hH ?_
   refine kY 11 (fun K hK=>?_)
   refine iR func59 aB rfl #[.string ((au aK a8).f0)] (by rfl) rfl rfl aW ?_
   with_reducible refine (yQ.calls k2 ((au aK a8).f0) an _ (jH.below HD.out ay) d8.out).mono ?_
   rintro e et ⟨rfl,hb⟩
   refine ⟨_,rfl,?_⟩
   obtain ⟨a9,a6,a5,a7,HB⟩:=p_ (Kd.bn (aG a9) hb) <| wO (aj a6) (aj a5) (aj a7) ay hb
   (try clear hb)
   refine hK.out _ _ (vC a7.out ((aO a5.out 0).trans rfl)) (fun hH=>?_)
   clear hK K
   refine fD (some 58) ?_
   refine kY 12 (fun K hK=>?_)
   refine iR func58 aB rfl #[.agg #[.slice (some ab) aK.length al],.string an] (by rfl) rfl rfl aW ?_
   with_reducible refine (Ad.calls _ _ aK an false _ l9 ar.out d9.out).mono ?_
   rintro e rV ⟨rfl,hb⟩
   refine ⟨_,rfl,?_⟩
   obtain ⟨a9,a6,a5,a7,HB⟩:=p_ (Kd.bn (aG a9) hb) <| wO (aj a6) (aj a5) (aj a7) ay hb
   (try clear hb)
   refine hK.out _ _ (vC a7.out ((aO a5.out 0).trans rfl)) (fun hH=>?_)
   clear hK K
   refine fD (some 59) ?_
   refine aI 13 ?_
   refine aI 14 ?_
   refine aI 15 ?_
   refine bf 16 ?_
   refine bf 17 ?_
   refine bf 18 ?_
   refine bf 19 ?_
   refine bf 20 ?_
   refine bf 21 ?_
   refine bf 22 ?_
   refine bf 23 ?_
   refine bf 24 ?_
   refine bf 25 ?_
   refine bf 26 ?_
   refine bf 27 ?_
   refine bf 28 ?_
   refine bf 29 ?_
   refine aI 30 ?_
   refine iF (jB aS.out aB) ?_
   try go_wp2
   go_meet
   case rel=>exact ⟨_,(true),bg,H',⟨xY⟩,⟨(aj a6)⟩,⟨(aj a5)⟩,⟨(aj a7)⟩,⟨ay⟩⟩
  subst ct
  rw [if_pos rfl] at H
  revert H;refine gI (fun jg H=>?_) fun jg H=>?_
  rotate_left
  ·have H':=m_ H
   clear H
   try go_wp2
   obtain ⟨a9,a6,a5,a7,HB⟩:=p_ (Kd.bK a9.out) <| wQ a6 a5 a7 HB
   refine iH (n:=31) (S:=fun w'=>zG w' ac (.string ((au aK a8).f0)) (.bool ((au aK a8).f1)) (.string ((au aK a8).f2)) <| y7 w' am (.slice (some ab) aK.length al)) (ds:=[]) Gx aB rfl rfl (vC a7.out ((aO a5.out 0).trans rfl)) (fun hH=>?_);refine jC iy.Az iy.zN (fun aS gJ=>?_)
   generalize co.drew=ev at a9 a6 a5 a7 HB hH ⊢
   refine aI 0 ?_
   refine aI 1 ?_
   refine aI 2 ?_
   refine aI 3 ?_
   refine fV 4 hH ?_
   refine aI 5 ?_
   refine aI 6 ?_
   refine aI 7 ?_
   refine aI 9 ?_
   refine fV 8 hH ?_
   refine fV 10 hH ?_
   refine kY 11 (fun K hK=>?_)
   refine iR func59 aB rfl #[.string ((au aK a8).f0)] (by rfl) rfl rfl aW ?_
   with_reducible refine (yQ.calls k2 ((au aK a8).f0) an _ (jH.below HD.out ay) d8.out).mono ?_
   rintro e ew ⟨rfl,hb⟩
   refine ⟨_,rfl,?_⟩
   obtain ⟨a9,a6,a5,a7,HB⟩:=p_ (Kd.bn (aG a9) hb) <| wO (aj a6) (aj a5) (aj a7) ay hb
   (try clear hb)
   refine hK.out _ _ (vC a7.out ((aO a5.out 0).trans rfl)) (fun hH=>?_)
   clear hK K
   refine fD (some 58) ?_
   refine kY 12 (fun K hK=>?_)
   refine iR func58 aB rfl #[.agg #[.slice (some ab) aK.length al],.string an] (by rfl) rfl rfl aW ?_
   with_reducible refine (Ad.calls _ _ aK an true _ l9 ar.out d9.out).mono ?_
   rintro e ex ⟨rfl,hb⟩
   refine ⟨_,rfl,?_⟩
   obtain ⟨a9,a6,a5,a7,HB⟩:=p_ (Kd.bn (aG a9) hb) <| wO (aj a6) (aj a5) (aj a7) ay hb
   (try clear hb)
   refine hK.out _ _ (vC a7.out ((aO a5.out 0).trans rfl)) (fun hH=>?_)
   clear hK K
   refine fD (some 59) ?_
   refine aI 13 ?_
   refine aI 14 ?_
   refine aI 15 ?_
   refine aI 16 ?_
   refine aI 17 ?_
   refine aI 18 ?_
   refine bf 19 ?_
   refine bf 20 ?_
   refine bf 21 ?_
   refine bf 22 ?_
   refine bf 23 ?_
   refine bf 24 ?_
   refine bf 25 ?_
   refine bf 26 ?_
   refine bf 27 ?_
   refine bf 28 ?_
   refine aI 29 ?_
   refine aI 30 ?_
   refine iF (jB aS.out aB) ?_
   try go_wp2
   go_meet
   case rel=>exact ⟨_,(false),bg,H',⟨xY⟩,⟨(aj a6)⟩,⟨(aj a5)⟩,⟨(aj a7)⟩,⟨ay⟩⟩
  obtain ⟨xM,ES⟩:∃ mQ:Int,(wrap64 (a8 - 1))=mQ:=⟨_,rfl⟩
  replace H:(if 0≤(xM) then (if (xM) < (aK.length:Int) then (iy.j2 k2 aK (aK.length:Int) a8 (!(Op.bytesLess (((au aK (xM)).f0).toList) (((au aK a8).f0).toList))) aK ((au aK a8).f0) ((au aK a8).f1) ((au aK a8).f2)) else (none)) else (none))=some r:=by first|(rw [ES] at H;exact H)|(simp only [ES] at H ⊢;exact H)
  (try rw [ES] at d8)
  (try rw [ES] at d9)
  have agb:(IntKind.i64.wrap (a8 - 1))=xM:=(bI _).trans ES
  obtain ⟨lZ,H⟩:=fU H
  obtain ⟨dy,H⟩:=fU H
  have H':=m_ H
  clear H
  try go_wp2
  obtain ⟨a9,a6,a5,a7,HB⟩:=p_ (Kd.bK a9.out) <| wQ a6 a5 a7 HB
  have bj:0≤((xM):Int):=bC bD
  have bl:(xM) < (aK.length:Int):=bC bD
  obtain ⟨bz,cv,ao,ap,aq⟩:=jP rC.out (xM) bj bl
  have ag:=aq
  have aP:=ap
  have ai:=ao
  obtain rfl:ab=bz:=(by injection cv)
  replace ao:=gu HB.out ao
  replace ap:=gu HB.out ap
  replace aq:=gu HB.out aq
  replace bj:=eq_true bj
  replace bl:=eq_true bl
  refine iH (n:=31) (S:=fun w'=>zG w' ac (.string ((au aK a8).f0)) (.bool ((au aK a8).f1)) (.string ((au aK a8).f2)) <| lD w' am (.slice (some ab) aK.length al) <| uw w' (ab.add (((xM)).toNat * 3)) (.string ((au aK (xM)).f0)) (.bool ((au aK (xM)).f1)) (.string ((au aK (xM)).f2))) (ds:=[]) Gx aB rfl rfl (vC a7.out ⟨(aO a5.out 0).trans rfl,((HB.out.cell (World.block_lt_of_cell? w _ ai)).trans ai),((HB.out.cell (World.block_lt_of_cell? w _ aP)).trans aP),((HB.out.cell (World.block_lt_of_cell? w _ ag)).trans ag)⟩) (fun hH=>?_);refine jC iy.Az iy.zN (fun aS gJ=>?_)
  generalize co.drew=ey at a9 a6 a5 a7 HB ao ap aq hH ⊢
  refine aI 0 ?_
  refine aI 1 ?_
  refine aI 2 ?_
  refine aI 3 ?_
  refine fV 4 hH ?_
  refine aI 5 ?_
  refine aI 6 ?_
  refine aI 7 ?_
  refine aI 9 ?_
  refine fV 8 hH ?_
  refine fV 10 hH ?_
  refine kY 11 (fun K hK=>?_)
  refine iR func59 aB rfl #[.string ((au aK a8).f0)] (by rfl) rfl rfl aW ?_
  with_reducible refine (yQ.calls k2 ((au aK a8).f0) an _ (jH.below HD.out ay) d8.out).mono ?_
  rintro e ez ⟨rfl,hb⟩
  refine ⟨_,rfl,?_⟩
  obtain ⟨a9,a6,a5,a7,HB⟩:=p_ (Kd.bn (aG a9) hb) <| wO (aj a6) (aj a5) (aj a7) ay hb
  (try clear hb)
  refine hK.out _ _ (vC a7.out ⟨(aO a5.out 0).trans rfl,((HB.out.cell (World.block_lt_of_cell? w _ ai)).trans ai),((HB.out.cell (World.block_lt_of_cell? w _ aP)).trans aP),((HB.out.cell (World.block_lt_of_cell? w _ ag)).trans ag)⟩) (fun hH=>?_)
  clear hK K
  refine fD (some 58) ?_
  refine kY 12 (fun K hK=>?_)
  refine iR func58 aB rfl #[.agg #[.slice (some ab) aK.length al],.string an] (by rfl) rfl rfl aW ?_
  with_reducible refine (Ad.calls _ _ aK an true _ l9 ar.out d9.out).mono ?_
  rintro e f4 ⟨rfl,hb⟩
  refine ⟨_,rfl,?_⟩
  obtain ⟨a9,a6,a5,a7,HB⟩:=p_ (Kd.bn (aG a9) hb) <| wO (aj a6) (aj a5) (aj a7) ay hb
  (try clear hb)
  refine hK.out _ _ (vC a7.out ⟨(aO a5.out 0).trans rfl,((HB.out.cell (World.block_lt_of_cell? w _ ai)).trans ai),((HB.out.cell (World.block_lt_of_cell? w _ aP)).trans aP),((HB.out.cell (World.block_lt_of_cell? w _ ag)).trans ag)⟩) (fun hH=>?_)
  clear hK K
  refine fD (some 59) ?_
  refine aI 13 ?_
  refine aI 14 ?_
  refine aI 15 ?_
  refine aI 16 ?_
  refine aI 17 ?_
  refine aI 18 ?_
  refine aI 19 ?_
  refine eY 21 68 #[ak,ak,ak,ak,ak,ak,ak,ak,ak,ak,ak,ak,ak,ak,ak,ak,ak,ak,ak,ak,F_,ak,F_,F_,F_,F_,F_,F_,F_,F_,F_] aS ?_
  refine eY 23 70 #[ak,ak,ak,ak,ak,ak,ak,ak,ak,ak,ak,ak,ak,ak,ak,ak,ak,ak,ak,ak,F_,ak,F_,ak,F_,F_,F_,F_,F_,F_,F_] aS ?_
  refine eY 24 71 #[ak,ak,ak,ak,ak,ak,ak,ak,ak,ak,ak,ak,ak,ak,ak,ak,ak,ak,ak,ak,F_,ak,F_,ak,ak,F_,F_,F_,F_,F_,F_] aS ?_
  refine pJ 20 67 #[ak,ak,ak,ak,ak,ak,ak,ak,ak,ak,ak,ak,ak,ak,ak,ak,ak,ak,ak,ak,ak,ak,F_,ak,ak,F_,F_,F_,F_,F_,F_] aS gJ hH ?_
  refine fV 22 hH ?_
  refine aI 25 ?_
  refine aI 26 ?_
  refine fV 27 hH ?_
  refine aI 28 ?_
  refine aI 29 ?_
  refine aI 30 ?_
  refine iF (jB aS.out aB) ?_
  try go_wp2
  go_meet
  case rel=>exact ⟨_,(!(Op.bytesLess (((au aK (xM)).f0).toList) (((au aK a8).f0).toList))),(by first|rfl|(simp;done)|exact congrArg Value.bool (uz _ _)|exact congrArg Value.bool (wo _ _)|(simp only [Value.bool.injEq];first|exact uz _ _|exact wo ..)|(simp only [← ES] <;> (first|rfl|simp))|(simp [*];done)),H',⟨xY⟩,⟨(aj a6)⟩,⟨(aj a5)⟩,⟨(aj a7)⟩,⟨ay⟩⟩
 case rest =>
 clear bu
 obtain ⟨kq,b1,rfl,HA,F7,a6,a5,a7,HB⟩:=hcut
 cases kq with
 | zero=>exact absurd HA.out (by simp [iy.j2])
 | succ E9 =>
 obtain ⟨H⟩:=HA
 simp only [iy.j2] at H
 by_cases da:b1=true
 ·subst da
  rw [if_pos rfl] at H
  obtain rfl:=cZ H
  go_wp2
  go_ret
  exact ⟨b_,ay⟩
 replace da:=Bool.eq_false_iff.mpr da
 subst da
 rw [if_neg iO] at H
 revert H;refine fJ (fun ce H=>?_) fun ce H=>?_
 rotate_left
 ·have cw:((au aK a8).f1)=false:=by simpa using ce
  clear ce
  have cx:=m_ H
  clear H
  have cy:=nP a7.out
  go_upto_if 98 with (fail)
  (try clear b3 b5 b2 b7 b4 b6)
  (try clear bm)
  (try clear cy)
  (try clear bP av aw)
  obtain ⟨H⟩:=cx
  revert H;refine fJ (fun cf H=>?_) fun cf H=>?_
  ·have b8:=lC cf
   have cz:decide (128 < ((au aK a8).f2).size)=true:=lC (by omega)
   clear cf
   try simp only [bI,bY,b8]
   obtain rfl:=cZ H
   go_wp2
   go_ret
   exact ⟨b_,ay⟩
  have b8:=qE cf
  have cz:decide (128 < ((au aK a8).f2).size)=false:=qE (by omega)
  clear cf
  try simp only [bI,bY,b8]
  have H':=m_ H
  clear H
  go_wp2
  go_roundg E9
  case measure=>have:=HJ2.out;have:=jv.out;have:=F7.out;omega
  case rel=>exact ⟨(wrap64 (a8+1)),bg,H',⟨(by have:=HJ2.out;have:=jv.out;have:=F7.out;omega)⟩,⟨(aj a6)⟩,⟨(aj a5)⟩,⟨ay⟩⟩
 have cw:((au aK a8).f1)=true:=ce
 clear ce
 revert H;refine fJ (fun ca H=>?_) fun ca H=>?_
 rotate_left
 ·have d0:=gU ca
  have d1:=gV ca
  obtain rfl:=cZ H
  have e7:=nP a7.out
  go_wp2
  go_ret
  exact ⟨b_,ay⟩
 have d0:=gZ ca
 have d1:=g_ ca
 clear ca
 obtain ⟨b9,dz,H⟩:=bd_ H
 revert H;refine fJ (fun cg H=>?_) fun cg H=>?_
 ·have d2:=lC cg
  have d3:decide (6 < b9.length)=true:=lC (by omega)
  clear cg
  obtain rfl:=cZ H
  have e8:=nP a7.out
  have akS:=cu a5.out
  go_wp2_with (first|(go_at_call 18;(with_reducible refine (qG.calls E9 _ _ aK ((au aK a8).f0) b9 _ (jH.below HD.out ay) l9 ar.out dz.out).mono ?_);rintro e f5 ⟨acW,rfl,ho0,hb⟩;obtain ⟨bb,a6,a5,a7,HB⟩:=p_ (Kd.dK ho0 (dO ay)) <| wO (aj a6) (aj a5) (aj a7) ay hb;(try clear hb);(try clear ho0);obtain ⟨e9,ea,dg⟩:=Kd.dJ bb.out;subst dg))
  go_ret
  exact ⟨b_,ay⟩
 have d2:=qE cg
 have d3:decide (6 < b9.length)=false:=qE (by omega)
 clear cg
 have d4:=m_ H
 clear H
 have d5:=nP a7.out
 have Lc:=cu a5.out
 go_upto_if 98 with (first|(go_at_call 18;(with_reducible refine (qG.calls E9 _ _ aK ((au aK a8).f0) b9 _ (jH.below HD.out ay) l9 ar.out dz.out).mono ?_);rintro e f7 ⟨acW,rfl,ho0,hb⟩;obtain ⟨bb,a6,a5,a7,HB⟩:=p_ (Kd.dK ho0 (dO ay)) <| wO (aj a6) (aj a5) (aj a7) ay hb;(try clear hb);(try clear ho0);obtain ⟨eb,ec,lg⟩:=Kd.dJ bb.out;subst lg;have d6:=nP a7.out))
 (try simp only [Act.put,List.setIfInBounds_toArray,List.set_cons_zero,List.set_cons_succ])
 (try clear b3 b5 b2 b7 b4 b6)
 (try clear bm)
 (try clear d5)
 (try clear Lc)
 (try clear d6)
 (try clear Lc)
 (try clear bP av aw)
 obtain ⟨H⟩:=d4
 revert H;refine fJ (fun ch H=>?_) fun ch H=>?_
 ·have ba:=lC ch
  have d7:decide (128 < ((au aK a8).f2).size)=true:=lC (by omega)
  clear ch
  try simp only [bI,bY,ba]
  obtain rfl:=cZ H
  go_wp2
  go_ret
  exact ⟨b_,ay⟩
 have ba:=qE ch
 have d7:decide (128 < ((au aK a8).f2).size)=false:=qE (by omega)
 clear ch
 try simp only [bI,bY,ba]
 have H':=m_ H
 clear H
 go_wp2
 go_roundg E9
 case measure=>have:=HJ2.out;have:=jv.out;have:=F7.out;omega
 case rel=>exact ⟨(wrap64 (a8+1)),bg,H',⟨(by have:=HJ2.out;have:=jv.out;have:=F7.out;omega)⟩,⟨(aj a6)⟩,⟨(aj a5)⟩,⟨ay⟩⟩

end Go.Proofs.YthejdhjpbpamoaaGreatDoor.jM
