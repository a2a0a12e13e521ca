/- Contracts of Go functions: each call returns what the Lean function beside it computes. Conditions: as each theorem states them. -/
import Derived.Test.YthejdhjpbpamoaaGreatDoorPkFnMoves
import Derived.Test.YthejdhjpbpamoaaGreatDoorPFnMovesx1
import Derived.Test.YthejdhjpbpamoaaGreatDoorPFnMovesx2
import Derived.Test.YthejdhjpbpamoaaGreatDoorPFnMovesx4
import Derived.Test.YthejdhjpbpamoaaGreatDoorPFnMovesx6
import Derived.Test.YthejdhjpbpamoaaGreatDoorPFnMovesx7
import Derived.Test.YthejdhjpbpamoaaGreatDoorPFnMovesx15
import Derived.Test.YthejdhjpbpamoaaGreatDoorPFnMovesx21
import Derived.Test.YthejdhjpbpamoaaGreatDoorPFnMovesx22
import Derived.Test.YthejdhjpbpamoaaGreatDoorPFnMovesx23
import Derived.Test.YthejdhjpbpamoaaGreatDoorPFnMovesx24
import Derived.Test.YthejdhjpbpamoaaGreatDoorPFnMovesx25
namespace Go.Proofs.YthejdhjpbpamoaaGreatDoor.jM
open Go.RowKit Go.Proofs.YthejdhjpbpamoaaGreatDoorW.iK Go.Proofs.YthejdhjpbpamoaaGreatDoorW.lX Go.Proofs.YthejdhjpbpamoaaGreatDoorW.oV Go.Proofs.Tryz
attribute [local go_sem] qI qM qL qP qK qO qJ qN   -- for this text's walks alone
set_option linter.unusedVariables false
set_option maxHeartbeats 8000000
set_option maxRecDepth 100000
set_option linter.unusedSimpArgs false

mutual
def jR.j0:Nat→ByteArray→ByteArray→Bool→Int→Int→Int→Int→List (aC)→List (aC)→Option (Bool)
 | 0,_,_,_,_,_,_,_,_,_=>none
 | k+1,x6,x7,ag,a6,a7,a8,a9,a5,aa=>if ag=true then (some false) else ((iP.f k a6 a7 a8 a9 a5).bind fun ab=>(if ab=true then ((nR.f k a5 x6).bind fun ac=>(if ac ≥ 0 then ((xU.f k a5 x7).bind fun ae=>(if ae=0 then ((oH.f k x7 x6).bind fun af=>(jR.j1 k x6 x7 (!af) a6 a7 a8 a9 a5 aa)) else (jR.j1 k x6 x7 false a6 a7 a8 a9 a5 aa))) else (jR.j1 k x6 x7 false a6 a7 a8 a9 a5 aa))) else (jR.j1 k x6 x7 false a6 a7 a8 a9 a5 aa)))
def jR.j1:Nat→ByteArray→ByteArray→Bool→Int→Int→Int→Int→List (aC)→List (aC)→Option (Bool)
 | 0,_,_,_,_,_,_,_,_,_=>none
 | k+1,x6,x7,ao,a7,a8,a9,aa,a5,a6=>if ao=true then ((l7.f k a6 x7 x6).bind fun ab=>((iy.f k a7 a8 a9 aa a6).bind fun ac=>(if ac=true then ((ug.f a6 x6).bind fun ae=>(if ae=(-1) then ((ug.f a6 x7).bind fun af=>(if af ≥ 0 then ((um.f k ab a5).bind fun ag=>(some ag)) else (some false))) else (some false))) else (some false)))) else ((qG.f k a5 (⟨#[47]⟩:ByteArray)).bind fun aP=>((nS.f k a5 (⟨#[47]⟩:ByteArray)).bind fun ai=>((uJ.f k aP ai).bind fun aN=>(if aN=true then ((iy.f k a7 a8 a9 aa a5).bind fun aT=>((iP.f k a7 a8 a9 aa a5).bind fun al=>(if (aT == al)=true then ((Dt.f a5 (⟨#[47,113]⟩:ByteArray) false (⟨#[]⟩:ByteArray)).bind fun am=>((ug.f am (⟨#[47,113]⟩:ByteArray)).bind fun an=>(some (decide (an ≥ 0))))) else (some false)))) else (some false)))))
end
def jR.f (k:Nat) (l0:List Int):Option (Bool):=(Fa.f l0).bind fun a8=>(if a8=true then (some true) else ((DX.f k l0).bind fun a5=>((yV.f k l0).bind fun a6=>((l7.f k a5.2.2.2.2 a6.2.1 a6.2.2).bind fun a7=>((iV.f k a5.2.2.2.2 a6.2.1 a6.2.2).bind fun a9=>((um.f k a7 a9).bind fun aa=>(if aa=true then (jR.j0 k a6.2.1 a6.2.2 ((a7.length:Int) != (a5.2.2.2.2.length:Int)) a5.1 a5.2.1 a5.2.2.1 a5.2.2.2.1 a5.2.2.2.2 a7) else (jR.j0 k a6.2.1 a6.2.2 true a5.1 a5.2.1 a5.2.2.1 a5.2.2.2.1 a5.2.2.2.2 a7))))))))
def jR.T6:Bool × List (List Nat × List Nat):=(true,[([],[]),([],[]),([],[]),([],[]),([1,2,3],[1,2,3]),([0,4,4],[0,4]),([5],[5]),([6,5],[6]),([7],[7]),([8,7],[7,8]),([9,7],[7,9]),([7],[7]),([11,7],[7,11]),([12,7],[7,12]),([10,13,7],[7,10,13]),([7,14],[7,14])])
def jR.B6:List Nat:=[0,0,0,0,14,31,63,127,255,511,1023,255,2303,6399,16383,32767]
theorem jR.tab6:kZ .any (opsOf Tryz.f3 6)=jR.T6:=by kernel_rfl
theorem jR.Bc:sF jR.T6.2 jR.B6=true:=by kernel_rfl
def jR.T12:Bool × List (List Nat × List Nat):=(true,[([],[]),([],[]),([1],[1]),([0,2,2],[0,2]),([3,3],[3]),([4],[4]),([4],[4]),([5,6,4,4],[4,5,6]),([4],[4]),([4],[4]),([8,9,7,4],[4,8,9]),([7,10,4],[4,7,10]),([4,11],[4,11]),([12,10],[12]),([13],[13]),([13],[13]),([14,15,13,13],[13,14,15]),([16,16,13],[13,16]),([17,13],[13,17]),([13,18],[13,18]),([19,17,0,1,2,3,4,5,6,7,8,9,10,11,12,13,14,15,16,17,18,19],[19])])
def jR.XG:List Nat:=[0,0,2,7,15,31,31,127,31,31,1023,2047,4095,8191,16383,16383,65535,131071,262143,524287,1048575]
theorem jR.Px:kZ .any (opsOf Tryz.f3 12)=jR.T12:=by kernel_rfl
theorem jR.MK:sF jR.T12.2 jR.XG=true:=by kernel_rfl
theorem jR.calls (k:Nat) (A0:Option Addr) (c0:Nat) (l0:List Int) (r:Bool) (w:World) (oO:jH w) (hr0:Kd.C (Kd.int .u8) w A0 l0.length l0) (hc0:l0.length≤c0) (h:jR.f k l0=some r) :
  Calls Tryz.prog 3 #[.slice A0 l0.length c0] w fun e w'=>e=.returned (.bool r)∧Below w.heap.size w w':=by
 have w_:=underlying25
 have oq:=underlying28
 have rF:=underlying43
 have HR0:=m_ hr0
 have f7:=m_ hc0
 clear hr0 hc0
 have HD:=m_ oO
 clear oO
 have HB:=m_ (Below.refl w.heap.size w)
 unfold jR.f at h
 have H:=h
 clear h
 obtain ⟨cp,A2,H⟩:=bd_ H
 have g8:=m_ H
 clear H
 go_enter func3,ntmps3
 go_upto_if 12 with (first|((with_reducible refine bU 6 ?_);refine bV (some 12) rfl rfl func6 aB rfl #[.slice A0 l0.length c0] rfl aW ?_;(with_reducible refine (Fa.calls _ _ l0 cp _ PU f7.out A2.out).mono ?_);rintro e w' ⟨rfl,⟨nd,rfl⟩⟩;refine ⟨_,rfl,?_⟩))
 (try simp only [Act.put,List.setIfInBounds_toArray,List.set_cons_zero,List.set_cons_succ])
 obtain ⟨H⟩:=g8
 by_cases c4:cp=true
 ·subst c4
  rw [if_pos rfl] at H
  obtain rfl:=cZ H
  go_wp2
  go_ret
  exact ⟨b_,ay⟩
 replace c4:=Bool.eq_false_iff.mpr c4
 subst c4
 rw [if_neg iO] at H
 obtain ⟨⟨a7,a8,a9,aa,a5⟩,A5,H⟩:=bd_ H
 try dsimp -simprocs only at H
 obtain ⟨⟨ab,aT,bP⟩,A6,H⟩:=bd_ H
 try dsimp -simprocs only at H
 obtain ⟨a6,A7,H⟩:=bd_ H
 have fa:=m_ H
 clear H
 go_upto_region 6 with (first|((with_reducible refine bU 7 ?_);refine bV (some 15) rfl rfl func7 aB rfl #[.slice A0 l0.length c0] rfl aW ?_;(with_reducible refine (DX.calls k _ _ l0 a7 a8 a9 aa a5 _ ?kG f7.out A5.out).mono ?_);(case kG=>repeat (first|exact (Kd.qg HR0.out ay)|(with_reducible refine Kd.jJ ?_ _)|(with_reducible refine Kd.jL ?_ _)|(with_reducible refine Kd.jK ?_)));rintro e w9 ⟨aiw,rfl,ho0,hb⟩;refine ⟨_,rfl,?_⟩;obtain ⟨jZ,HB⟩:=p_ (Kd.dK ho0 (dO ay)) <| a_ (dI ay hb);(try clear hb);(try clear ho0))|((with_reducible refine dG 3 ?_);(try (refine oh (by rfl) ?_;dsimp only));refine dU 3 (cs:=#[ah 0,ah 0,ah 0,ah 0]) 25 ?_;intro aN hg il hbox hb;obtain ⟨jZ,HB,dH,fb,fc⟩:=p_ (Kd.bn (aG jZ) hb) <| kE ay hb hbox hg;clear hb hbox hg)|((with_reducible refine dG 4 ?_);(try (refine oh (by rfl) ?_;dsimp only));refine dU 4 (cs:=#[.slice none 0 0]) 28 ?_;intro al hg im hbox hb;obtain ⟨jZ,dH,HB,dB,fd,fe,av,ai⟩:=p_ (Kd.bn (aG jZ) hb) <| qj (aj dH) ay hb hbox hg;clear hb hbox hg;obtain ⟨b0,b1⟩:=iJ av ai;have cn:=jQ dH.out;obtain ⟨aP,af,ff⟩:=Kd.dJ jZ.out;subst ff;have BR:=cu dB.out)|((with_reducible refine bU 8 ?_);refine bV (some 20) rfl rfl func8 aB rfl #[.slice A0 l0.length c0] rfl aW ?_;(with_reducible refine (yV.calls k _ _ l0 ab aT bP _ (Kd.qg HR0.out ay) f7.out A6.out).mono ?_);rintro e io ⟨aix,rfl,ho0,hb⟩;refine ⟨_,rfl,?_⟩;have eP:=p_ (Kd.iY WQ (Kd.iW ho0) hb) <| p_ (Kd.dK (Kd.iZ ho0 (Kd.iD WQ)) (dO ay)) <| p_ (bG (g:=aN) (o:=.cells #[ah a7,ah a8,ah a9,ah aa] 25) (by (with_reducible repeat (first|refine kD ?_ _|refine gW ?_|refine jG ?_ _));refine xK ?_ av.out _;(with_reducible repeat (first|refine kD ?_ _|refine gW ?_|refine jG ?_ _));refine uD (cs:=#[ah a7,ah a8,ah a9,ah 0]) ?_ 3 _ rfl;(with_reducible repeat (first|refine kD ?_ _|refine gW ?_|refine jG ?_ _));refine uD (cs:=#[ah a7,ah a8,ah 0,ah 0]) ?_ 2 _ rfl;(with_reducible repeat (first|refine kD ?_ _|refine gW ?_|refine jG ?_ _));refine uD (cs:=#[ah a7,ah 0,ah 0,ah 0]) ?_ 1 _ rfl;(with_reducible repeat (first|refine kD ?_ _|refine gW ?_|refine jG ?_ _));refine uD (cs:=#[ah 0,ah 0,ah 0,ah 0]) ?_ 0 _ rfl;(with_reducible repeat (first|refine kD ?_ _|refine gW ?_|refine jG ?_ _));exact dH.out) hb) <| p_ (bG (g:=al) (o:=.cells #[.slice aP a5.length af] 28) (by (with_reducible repeat (first|refine kD ?_ _|refine gW ?_|refine jG ?_ _));refine uD (cs:=#[.slice none 0 0]) ?_ 0 _ rfl;(with_reducible repeat (first|refine kD ?_ _|refine gW ?_|refine jG ?_ _));refine xK ?_ ai.out _;(with_reducible repeat (first|refine kD ?_ _|refine gW ?_|refine jG ?_ _));refine xK ?_ ai.out _;(with_reducible repeat (first|refine kD ?_ _|refine gW ?_|refine jG ?_ _));refine xK ?_ ai.out _;(with_reducible repeat (first|refine kD ?_ _|refine gW ?_|refine jG ?_ _));refine xK ?_ ai.out _;(with_reducible repeat (first|refine kD ?_ _|refine gW ?_|refine jG ?_ _));exact dB.out) hb) <| a_ (dI ay hb);clear jZ dH dB HB;obtain ⟨jZ,mP,dH,dB,HB⟩:=eP;(try clear hb);(try clear hk);(try clear ho0))|((with_reducible refine dG 5 ?_);(try (refine oh (by rfl) ?_;dsimp only));refine dU 5 (cs:=#[.slice none 0 0]) 28 ?_;intro dw hg ip hbox hb;obtain ⟨jZ,mP,dH,dB,HB,eH,fg,fh,aw,ax,b4,bj⟩:=p_ (Kd.bn (aG jZ) hb) <| p_ (Kd.bn (aG mP) hb) <| wu (aj dH) (aj dB) ay hb hbox hg;clear hb hbox hg;obtain ⟨aq,ar,fi⟩:=Kd.dJ mP.out;subst fi;obtain ⟨b2,b3,bx,bz⟩:=jE ax aw bj b4;have Ql:=cu eH.out;have KZ:=cu dB.out)|((with_reducible refine bU 9 ?_);refine bV (some 27) rfl rfl func9 aB rfl #[.agg #[.slice aP a5.length af],.string aT,.string bP] rfl aW ?_;(with_reducible refine (l7.calls k _ _ a5 aT bP a6 _ (jH.below HD.out ay) ?pX ((Kd.bZ jZ.out).2.1) A7.out).mono ?_);(case pX=>refine (Kd.bZ (e:=43) (base:=w.heap.size) (ok:=fun aF=>(True∧some aF≠(.slice aq ab.length ar:Value).ownBlock)) (n:=a5.length) (c:=af) ?_).2.2;exact PI);rintro e Ae ⟨aiy,rfl,ho0,hb⟩;refine ⟨_,rfl,?_⟩;obtain ⟨jZ,mP,mX,dH,dB,eH,HB⟩:=p_ (Kd.iY PI (Kd.iW ho0) hb) <| p_ (Kd.iY W_ (Kd.iW ho0) hb) <| p_ (Kd.dK (Kd.iZ (Kd.iZ ho0 (Kd.iD PI)) (Kd.iD W_)) (dO ay)) <| p_ (bG (g:=aN) (o:=.cells #[ah a7,ah a8,ah a9,ah aa] 25) (lM dH.out aw.out) hb) <| p_ (bG (g:=al) (o:=.cells #[.slice aP a5.length af] 28) (lM dB.out b4.out) hb) <| p_ (bG (g:=dw) (o:=.cells #[.slice aq ab.length ar] 28) (wB eH.out) hb) <| a_ (dI ay hb);(try clear hb);(try clear hk);(try clear ho0))|((with_reducible refine dG 8 ?_);(try (refine oh (by rfl) ?_;dsimp only));refine dU 8 (cs:=#[.slice none 0 0]) 28 ?_;intro ae hg bp hbox hb;obtain ⟨jZ,mP,mX,dH,dB,eH,HB,dN,fj,fk,bq,br,bs,bu,bv,bw⟩:=p_ (Kd.bn (aG jZ) hb) <| p_ (Kd.bn (aG mP) hb) <| p_ (Kd.bn (aG mX) hb) <| yF (aj dH) (aj dB) (aj eH) ay hb hbox hg;clear hb hbox hg;obtain ⟨ag,ac,fl⟩:=Kd.dJ mX.out;subst fl;obtain ⟨da,db,dd,de,df,dg⟩:=kL br bq bu bs bw bv;have Qo:=cu dN.out))
 (try simp only [Act.put,List.setIfInBounds_toArray,List.set_cons_zero,List.set_cons_succ])
 go_cut [43] (fun v43 wc=>∃ (kq:Nat) (ce:Bool),v43=.bool ce∧aA (jR.j0 kq aT bP ce a7 a8 a9 aa a5 a6=some r)∧aA (kq≤k)∧aA (Kd.R bF 43 wc w.heap.size (fun aF=>some aF≠((.slice aq ab.length ar):Value).ownBlock∧some aF≠((.slice ag a6.length ac):Value).ownBlock) (.slice aP a5.length af) a5)∧aA (Kd.R bF 43 wc w.heap.size (fun aF=>some aF≠((.slice aP a5.length af):Value).ownBlock∧some aF≠((.slice ag a6.length ac):Value).ownBlock) (.slice aq ab.length ar) ab)∧aA (Kd.R bF 43 wc w.heap.size (fun aF=>some aF≠((.slice aP a5.length af):Value).ownBlock∧some aF≠((.slice aq ab.length ar):Value).ownBlock) (.slice ag a6.length ac) a6)∧aA (wc.heap[aN]?=some (.cells #[ah a7,ah a8,ah a9,ah aa] 25))∧aA (wc.heap[al]?=some (.cells #[(.slice aP a5.length af)] 28))∧aA (wc.heap[dw]?=some (.cells #[(.slice aq ab.length ar)] 28))∧aA (wc.heap[ae]?=some (.cells #[(.slice ag a6.length ac)] 28))∧aA (Below w.heap.size w wc))
 case first =>
  obtain ⟨H⟩:=fa
  obtain ⟨bm,g9,H⟩:=bd_ H
  obtain ⟨dv,ga,H⟩:=bd_ H
  by_cases du:dv=true
  rotate_left
  ·replace du:=Bool.eq_false_iff.mpr du
   subst du
   rw [if_neg iO] at H
   have H':=m_ H
   clear H
   try go_wp2
   have gX:aA (Kd.R bF 43 (bp.setCell ⟨ae,0,none⟩ (.slice ag a6.length ac)) w.heap.size (fun aF=>some aF≠(.slice aq ab.length ar:Value).ownBlock∧some aF≠(.slice ag a6.length ac:Value).ownBlock) (.slice aP a5.length af) a5):=⟨W9⟩
   have lN:aA (Kd.R bF 43 (bp.setCell ⟨ae,0,none⟩ (.slice ag a6.length ac)) w.heap.size (fun aF=>some aF≠(.slice aP a5.length af:Value).ownBlock∧some aF≠(.slice ag a6.length ac:Value).ownBlock) (.slice aq ab.length ar) ab):=⟨WZ⟩
   have lQ:aA (Kd.R bF 43 (bp.setCell ⟨ae,0,none⟩ (.slice ag a6.length ac)) w.heap.size (fun aF=>some aF≠(.slice aP a5.length af:Value).ownBlock∧some aF≠(.slice aq ab.length ar:Value).ownBlock) (.slice ag a6.length ac) a6):=⟨WY⟩
   have lS:aA ((bp.setCell ⟨ae,0,none⟩ (.slice ag a6.length ac)).heap[aN]?=some (.cells #[ah a7,ah a8,ah a9,ah aa] 25)):=⟨bH⟩
   have lT:aA ((bp.setCell ⟨ae,0,none⟩ (.slice ag a6.length ac)).heap[al]?=some (.cells #[.slice aP a5.length af] 28)):=⟨bH⟩
   have mV:aA ((bp.setCell ⟨ae,0,none⟩ (.slice ag a6.length ac)).heap[dw]?=some (.cells #[.slice aq ab.length ar] 28)):=⟨bH⟩
   have oP:aA ((bp.setCell ⟨ae,0,none⟩ (.slice ag a6.length ac)).heap[ae]?=some (.cells #[.slice ag a6.length ac] 28)):=⟨bH⟩
   have sZ:aA (Below w.heap.size w (bp.setCell ⟨ae,0,none⟩ (.slice ag a6.length ac))):=⟨ay⟩
   (try clear jZ)
   (try clear mP)
   (try clear mX)
   (try clear dH)
   (try clear dB)
   (try clear eH)
   (try clear dN)
   (try clear HB)
   generalize (bp.setCell ⟨ae,0,none⟩ (.slice ag a6.length ac))=ci at gX lN lQ lS lT mV oP sZ ⊢
   have jZ:=gX
   have mP:=lN
   have mX:=lQ
   have dH:=lS
   have dB:=lT
   have eH:=mV
   have dN:=oP
   have HB:=sZ
   clear gX lN lQ lS lT mV oP sZ
   (try (rw [GK ci];generalize kV:World.drewN ci _=ci;have eP:=fM (⟨(by rw [← kV];exact (aG jZ))⟩:aA (Kd.R bF 43 ci w.heap.size (fun aF=>(some aF≠(.slice aq ab.length ar:Value).ownBlock∧some aF≠(.slice ag a6.length ac:Value).ownBlock)) (.slice aP a5.length af) a5)) <| fM (⟨(by rw [← kV];exact (aG mP))⟩:aA (Kd.R bF 43 ci w.heap.size (fun aF=>(some aF≠(.slice aP a5.length af:Value).ownBlock∧some aF≠(.slice ag a6.length ac:Value).ownBlock)) (.slice aq ab.length ar) ab)) <| fM (⟨(by rw [← kV];exact (aG mX))⟩:aA (Kd.R bF 43 ci w.heap.size (fun aF=>(some aF≠(.slice aP a5.length af:Value).ownBlock∧some aF≠(.slice aq ab.length ar:Value).ownBlock)) (.slice ag a6.length ac) a6)) <| fM (⟨(by rw [← kV];exact (aj dH))⟩:aA (ci.heap[aN]?=some (.cells #[ah a7,ah a8,ah a9,ah aa] 25))) <| fM (⟨(by rw [← kV];exact (aj dB))⟩:aA (ci.heap[al]?=some (.cells #[.slice aP a5.length af] 28))) <| fM (⟨(by rw [← kV];exact (aj eH))⟩:aA (ci.heap[dw]?=some (.cells #[.slice aq ab.length ar] 28))) <| fM (⟨(by rw [← kV];exact (aj dN))⟩:aA (ci.heap[ae]?=some (.cells #[.slice ag a6.length ac] 28))) <| (⟨(by rw [← kV];exact ay)⟩:aA (Below w.heap.size w ci));clear jZ mP mX dH dB eH dN HB kV;obtain ⟨jZ,mP,mX,dH,dB,eH,dN,HB⟩:=eP))
   obtain ⟨jZ,mP,mX,dH,dB,eH,dN,HB⟩:=p_ (Kd.bK jZ.out) <| p_ (Kd.bK mP.out) <| p_ (Kd.bK mX.out) <| uG dH dB eH dN HB
   refine iH (n:=16) (S:=fun w'=>lD w' ae (.slice ag a6.length ac) <| y7 w' al (.slice aP a5.length af)) (ds:=[]) Gs aB rfl rfl ⟨(aO dN.out 0).trans rfl,(aO dB.out 0).trans rfl⟩ (fun hH=>?_);refine jC jR.tab6 jR.Bc (fun aS gJ=>?_)
   generalize ci.drew=ir at jZ mP mX dH dB eH dN HB hH ⊢
   refine aI 2 ?_
   refine aI 3 ?_
   refine fV 0 hH ?_
   refine fV 1 hH ?_
   refine kY 4 (fun K hK=>?_)
   refine iR func11 aB rfl #[.agg #[.slice aP a5.length af],.string aT,.string bP] (by rfl) rfl rfl aW ?_
   with_reducible refine (iV.calls k _ _ a5 aT bP bm _ Xg ((Kd.bZ jZ.out).2.1) g9.out).mono ?_
   rintro e iu ⟨acX,rfl,ho0,hb⟩
   refine ⟨_,rfl,?_⟩
   obtain ⟨jZ,mP,mX,y8,dH,dB,eH,dN,HB⟩:=p_ (Kd.iY (aG jZ) (Kd.iW ho0) hb) <| p_ (Kd.iY (aG mP) (Kd.iW ho0) hb) <| p_ (Kd.iY (aG mX) (Kd.iW ho0) hb) <| p_ (Kd.dK (Kd.iZ (Kd.iZ (Kd.iZ ho0 (Kd.iD (aG jZ))) (Kd.iD (aG mP))) (Kd.iD (aG mX))) (dO ay)) <| nC (aj dH) (aj dB) (aj eH) (aj dN) ay hb
   (try clear hb)
   (try clear ho0)
   obtain ⟨fm,fo,lZ⟩:=Kd.dJ y8.out
   (first|subst lZ|(injection lZ with dP fZ dQ;have f_:=dP.symm;have gq:=dQ.symm;clear dP fZ dQ;subst f_;subst gq))
   refine hK.out _ _ ⟨(aO dN.out 0).trans rfl,(aO dB.out 0).trans rfl⟩ (fun hH=>?_)
   clear hK K
   refine fD (some 32) ?_
   refine kY 5 (fun K hK=>?_)
   refine iR func10 aB rfl #[.agg #[.slice ag a6.length ac],.agg #[.slice fm bm.length fo]] (by rfl) rfl rfl aW ?_
   with_reducible refine (um.calls k _ _ a6 _ _ bm false _ Xf ((Kd.bZ mX.out).2.1) Xe ((Kd.bZ y8.out).2.1) ga.out).mono ?_
   rintro e iv ⟨rfl,hb⟩
   refine ⟨_,rfl,?_⟩
   obtain ⟨jZ,mP,mX,y8,dH,dB,eH,dN,HB⟩:=p_ (Kd.bn (aG jZ) hb) <| p_ (Kd.bn (aG mP) hb) <| p_ (Kd.bn (aG mX) hb) <| p_ (Kd.bn (aG y8) hb) <| nC (aj dH) (aj dB) (aj eH) (aj dN) ay hb
   (try clear hb)
   refine hK.out _ _ ⟨(aO dN.out 0).trans rfl,(aO dB.out 0).trans rfl⟩ (fun hH=>?_)
   clear hK K
   refine fD (some 33) ?_
   refine aI 6 ?_
   refine aI 7 ?_
   refine bf 8 ?_
   refine bf 9 ?_
   refine bf 10 ?_
   refine bf 11 ?_
   refine bf 12 ?_
   refine bf 13 ?_
   refine bf 14 ?_
   refine aI 15 ?_
   refine iF (jB aS.out aB) ?_
   try go_wp2
   go_meet
   case rel=>exact ⟨_,(true),bg,H',⟨kH⟩,⟨Xp⟩,⟨Xo⟩,⟨Xn⟩,⟨(aj dH)⟩,⟨(aj dB)⟩,⟨(aj eH)⟩,⟨(aj dN)⟩,⟨ay⟩⟩
  subst du
  rw [if_pos rfl] at H
  have H':=m_ H
  clear H
  try go_wp2
  have gX:aA (Kd.R bF 43 (bp.setCell ⟨ae,0,none⟩ (.slice ag a6.length ac)) w.heap.size (fun aF=>some aF≠(.slice aq ab.length ar:Value).ownBlock∧some aF≠(.slice ag a6.length ac:Value).ownBlock) (.slice aP a5.length af) a5):=⟨W9⟩
  have lN:aA (Kd.R bF 43 (bp.setCell ⟨ae,0,none⟩ (.slice ag a6.length ac)) w.heap.size (fun aF=>some aF≠(.slice aP a5.length af:Value).ownBlock∧some aF≠(.slice ag a6.length ac:Value).ownBlock) (.slice aq ab.length ar) ab):=⟨WZ⟩
  have lQ:aA (Kd.R bF 43 (bp.setCell ⟨ae,0,none⟩ (.slice ag a6.length ac)) w.heap.size (fun aF=>some aF≠(.slice aP a5.length af:Value).ownBlock∧some aF≠(.slice aq ab.length ar:Value).ownBlock) (.slice ag a6.length ac) a6):=⟨WY⟩
  have lS:aA ((bp.setCell ⟨ae,0,none⟩ (.slice ag a6.length ac)).heap[aN]?=some (.cells #[ah a7,ah a8,ah a9,ah aa] 25)):=⟨bH⟩
  have lT:aA ((bp.setCell ⟨ae,0,none⟩ (.slice ag a6.length ac)).heap[al]?=some (.cells #[.slice aP a5.length af] 28)):=⟨bH⟩
  have mV:aA ((bp.setCell ⟨ae,0,none⟩ (.slice ag a6.length ac)).heap[dw]?=some (.cells #[.slice aq ab.length ar] 28)):=⟨bH⟩
  have oP:aA ((bp.setCell ⟨ae,0,none⟩ (.slice ag a6.length ac)).heap[ae]?=some (.cells #[.slice ag a6.length ac] 28)):=⟨bH⟩
  have sZ:aA (Below w.heap.size w (bp.setCell ⟨ae,0,none⟩ (.slice ag a6.length ac))):=⟨ay⟩
  (try clear jZ)
  (try clear mP)
  (try clear mX)
  (try clear dH)
  (try clear dB)
  (try clear eH)
  (try clear dN)
  (try clear HB)
  generalize (bp.setCell ⟨ae,0,none⟩ (.slice ag a6.length ac))=cj at gX lN lQ lS lT mV oP sZ ⊢
  have jZ:=gX
  have mP:=lN
  have mX:=lQ
  have dH:=lS
  have dB:=lT
  have eH:=mV
  have dN:=oP
  have HB:=sZ
  clear gX lN lQ lS lT mV oP sZ
  (try (rw [GK cj];generalize kV:World.drewN cj _=cj;have eP:=fM (⟨(by rw [← kV];exact (aG jZ))⟩:aA (Kd.R bF 43 cj w.heap.size (fun aF=>(some aF≠(.slice aq ab.length ar:Value).ownBlock∧some aF≠(.slice ag a6.length ac:Value).ownBlock)) (.slice aP a5.length af) a5)) <| fM (⟨(by rw [← kV];exact (aG mP))⟩:aA (Kd.R bF 43 cj w.heap.size (fun aF=>(some aF≠(.slice aP a5.length af:Value).ownBlock∧some aF≠(.slice ag a6.length ac:Value).ownBlock)) (.slice aq ab.length ar) ab)) <| fM (⟨(by rw [← kV];exact (aG mX))⟩:aA (Kd.R bF 43 cj w.heap.size (fun aF=>(some aF≠(.slice aP a5.length af:Value).ownBlock∧some aF≠(.slice aq ab.length ar:Value).ownBlock)) (.slice ag a6.length ac) a6)) <| fM (⟨(by rw [← kV];exact (aj dH))⟩:aA (cj.heap[aN]?=some (.cells #[ah a7,ah a8,ah a9,ah aa] 25))) <| fM (⟨(by rw [← kV];exact (aj dB))⟩:aA (cj.heap[al]?=some (.cells #[.slice aP a5.length af] 28))) <| fM (⟨(by rw [← kV];exact (aj eH))⟩:aA (cj.heap[dw]?=some (.cells #[.slice aq ab.length ar] 28))) <| fM (⟨(by rw [← kV];exact (aj dN))⟩:aA (cj.heap[ae]?=some (.cells #[.slice ag a6.length ac] 28))) <| (⟨(by rw [← kV];exact ay)⟩:aA (Below w.heap.size w cj));clear jZ mP mX dH dB eH dN HB kV;obtain ⟨jZ,mP,mX,dH,dB,eH,dN,HB⟩:=eP))
  obtain ⟨jZ,mP,mX,dH,dB,eH,dN,HB⟩:=p_ (Kd.bK jZ.out) <| p_ (Kd.bK mP.out) <| p_ (Kd.bK mX.out) <| uG dH dB eH dN HB
  refine iH (n:=16) (S:=fun w'=>lD w' ae (.slice ag a6.length ac) <| y7 w' al (.slice aP a5.length af)) (ds:=[]) Gs aB rfl rfl ⟨(aO dN.out 0).trans rfl,(aO dB.out 0).trans rfl⟩ (fun hH=>?_);refine jC jR.tab6 jR.Bc (fun aS gJ=>?_)
  generalize cj.drew=Af at jZ mP mX dH dB eH dN HB hH ⊢
  refine aI 2 ?_
  refine aI 3 ?_
  refine fV 0 hH ?_
  refine fV 1 hH ?_
  refine kY 4 (fun K hK=>?_)
  refine iR func11 aB rfl #[.agg #[.slice aP a5.length af],.string aT,.string bP] (by rfl) rfl rfl aW ?_
  with_reducible refine (iV.calls k _ _ a5 aT bP bm _ Xg ((Kd.bZ jZ.out).2.1) g9.out).mono ?_
  rintro e ix ⟨acX,rfl,ho0,hb⟩
  refine ⟨_,rfl,?_⟩
  obtain ⟨jZ,mP,mX,y8,dH,dB,eH,dN,HB⟩:=p_ (Kd.iY (aG jZ) (Kd.iW ho0) hb) <| p_ (Kd.iY (aG mP) (Kd.iW ho0) hb) <| p_ (Kd.iY (aG mX) (Kd.iW ho0) hb) <| p_ (Kd.dK (Kd.iZ (Kd.iZ (Kd.iZ ho0 (Kd.iD (aG jZ))) (Kd.iD (aG mP))) (Kd.iD (aG mX))) (dO ay)) <| nC (aj dH) (aj dB) (aj eH) (aj dN) ay hb
  (try clear hb)
  (try clear ho0)
  obtain ⟨fp,fq,dx⟩:=Kd.dJ y8.out
  (first|subst dx|(injection dx with dP fZ dQ;have f_:=dP.symm;have gq:=dQ.symm;clear dP fZ dQ;subst f_;subst gq))
  refine hK.out _ _ ⟨(aO dN.out 0).trans rfl,(aO dB.out 0).trans rfl⟩ (fun hH=>?_)
  clear hK K
  refine fD (some 32) ?_
  refine kY 5 (fun K hK=>?_)
  refine iR func10 aB rfl #[.agg #[.slice ag a6.length ac],.agg #[.slice fp bm.length fq]] (by rfl) rfl rfl aW ?_
  with_reducible refine (um.calls k _ _ a6 _ _ bm true _ Xf ((Kd.bZ mX.out).2.1) Xe ((Kd.bZ y8.out).2.1) ga.out).mono ?_
  rintro e Bg ⟨rfl,hb⟩
  refine ⟨_,rfl,?_⟩
  obtain ⟨jZ,mP,mX,y8,dH,dB,eH,dN,HB⟩:=p_ (Kd.bn (aG jZ) hb) <| p_ (Kd.bn (aG mP) hb) <| p_ (Kd.bn (aG mX) hb) <| p_ (Kd.bn (aG y8) hb) <| nC (aj dH) (aj dB) (aj eH) (aj dN) ay hb
  (try clear hb)
  refine hK.out _ _ ⟨(aO dN.out 0).trans rfl,(aO dB.out 0).trans rfl⟩ (fun hH=>?_)
  clear hK K
  refine fD (some 33) ?_
  refine aI 6 ?_
  refine aI 7 ?_
  refine aI 8 ?_
  refine eY 11 39 #[ak,ak,ak,ak,ak,ak,ak,ak,ak,F_,F_,ak,F_,F_,F_,F_] aS ?_
  refine pJ 9 37 #[ak,ak,ak,ak,ak,ak,ak,ak,ak,ak,F_,ak,F_,F_,F_,F_] aS gJ hH ?_
  refine aI 10 ?_
  refine fV 12 hH ?_
  refine aI 13 ?_
  refine aI 14 ?_
  refine aI 15 ?_
  refine iF (jB aS.out aB) ?_
  try go_wp2
  go_meet
  case rel=>exact ⟨_,(((a6.length:Int) != (a5.length:Int))),bg,H',⟨kH⟩,⟨Xp⟩,⟨Xo⟩,⟨Xn⟩,⟨(aj dH)⟩,⟨(aj dB)⟩,⟨(aj eH)⟩,⟨(aj dN)⟩,⟨ay⟩⟩
 case rest =>
 clear fa
 try clear c4;try clear cn;try clear BR;try clear Ql;try clear KZ;try clear Qo;try clear BR;try clear Ql;try clear KZ;try clear Qo
 obtain ⟨kq,ce,rfl,HA,X0,eX,fP,fB,dH,dB,eH,dN,HB⟩:=hcut
 cases kq with
 | zero=>exact absurd HA.out (by simp [jR.j0])
 | succ yT =>
 obtain ⟨H⟩:=HA
 simp only [jR.j0] at H
 by_cases dy:ce=true
 ·subst dy
  rw [if_pos rfl] at H
  obtain rfl:=cZ H
  go_wp2
  go_ret
  exact ⟨b_,ay⟩
 replace dy:=Bool.eq_false_iff.mpr dy
 subst dy
 rw [if_neg iO] at H
 have lg:=m_ H
 clear H
 go_upto_region 8 with (fail)
 go_cut [64] (fun v64 wc=>∃ (kq:Nat) (bo:Bool),v64=.bool bo∧aA (jR.j1 kq aT bP bo a7 a8 a9 aa a5 a6=some r)∧aA (kq≤yT)∧aA (Kd.R bF 43 wc w.heap.size (fun aF=>some aF≠((.slice aq ab.length ar):Value).ownBlock∧some aF≠((.slice ag a6.length ac):Value).ownBlock) (.slice aP a5.length af) a5)∧aA (Kd.R bF 43 wc w.heap.size (fun aF=>some aF≠((.slice aP a5.length af):Value).ownBlock∧some aF≠((.slice ag a6.length ac):Value).ownBlock) (.slice aq ab.length ar) ab)∧aA (Kd.R bF 43 wc w.heap.size (fun aF=>some aF≠((.slice aP a5.length af):Value).ownBlock∧some aF≠((.slice aq ab.length ar):Value).ownBlock) (.slice ag a6.length ac) a6)∧aA (wc.heap[aN]?=some (.cells #[ah a7,ah a8,ah a9,ah aa] 25))∧aA (wc.heap[al]?=some (.cells #[(.slice aP a5.length af)] 28))∧aA (wc.heap[dw]?=some (.cells #[(.slice aq ab.length ar)] 28))∧aA (wc.heap[ae]?=some (.cells #[(.slice ag a6.length ac)] 28))∧aA (Below w.heap.size w wc))
 case first =>
  obtain ⟨H⟩:=lg
  obtain ⟨dz,ex,H⟩:=bd_ H
  by_cases e0:dz=true
  rotate_left
  ·replace e0:=Bool.eq_false_iff.mpr e0
   subst e0
   rw [if_neg iO] at H
   have H':=m_ H
   clear H
   have e3:=jQ dH.out
   have akZ:=cu dB.out
   go_wp2_with (first|((with_reducible refine bU 12 ?_);refine bV (some 46) rfl rfl func12 aB rfl #[.agg #[ah a7,ah a8,ah a9,ah aa],.agg #[.slice aP a5.length af]] rfl aW ?_;(with_reducible refine (iP.calls yT a7 a8 a9 aa _ _ a5 false _ rM ((Kd.bZ eX.out).2.1) ex.out).mono ?_);rintro e iz ⟨rfl,hb⟩;refine ⟨_,rfl,?_⟩;obtain ⟨eX,fP,fB,dH,dB,eH,dN,HB⟩:=p_ (Kd.bn (aG eX) hb) <| p_ (Kd.bn (aG fP) hb) <| p_ (Kd.bn (aG fB) hb) <| nC (aj dH) (aj dB) (aj eH) (aj dN) ay hb;(try clear hb)))
   go_meet
   case rel=>exact ⟨_,(false),bg,H',⟨KF⟩,⟨(aG eX)⟩,⟨(aG fP)⟩,⟨(aG fB)⟩,⟨(aj dH)⟩,⟨(aj dB)⟩,⟨(aj eH)⟩,⟨(aj dN)⟩,⟨ay⟩⟩
  subst e0
  rw [if_pos rfl] at H
  obtain ⟨cf,fs,H⟩:=bd_ H
  revert H;refine gI (fun fK H=>?_) fun fK H=>?_
  rotate_left
  ·try simp only [bI,bY,fK]
   have H':=m_ H
   clear H
   have e4:=jQ dH.out
   have adB:=cu dB.out
   go_wp2_with (first|((with_reducible refine bU 12 ?_);refine bV (some 46) rfl rfl func12 aB rfl #[.agg #[ah a7,ah a8,ah a9,ah aa],.agg #[.slice aP a5.length af]] rfl aW ?_;(with_reducible refine (iP.calls yT a7 a8 a9 aa _ _ a5 true _ rM ((Kd.bZ eX.out).2.1) ex.out).mono ?_);rintro e j5 ⟨rfl,hb⟩;refine ⟨_,rfl,?_⟩;obtain ⟨eX,fP,fB,dH,dB,eH,dN,HB⟩:=p_ (Kd.bn (aG eX) hb) <| p_ (Kd.bn (aG fP) hb) <| p_ (Kd.bn (aG fB) hb) <| nC (aj dH) (aj dB) (aj eH) (aj dN) ay hb;(try clear hb);have akX:=cu dB.out)|(go_at_call 13;(with_reducible refine (nR.calls yT _ _ a5 aT cf _ rM ((Kd.bZ eX.out).2.1) fs.out).mono ?_);rintro e j9 ⟨rfl,hb⟩;obtain ⟨eX,fP,fB,dH,dB,eH,dN,HB⟩:=p_ (Kd.bn (aG eX) hb) <| p_ (Kd.bn (aG fP) hb) <| p_ (Kd.bn (aG fB) hb) <| nC (aj dH) (aj dB) (aj eH) (aj dN) ay hb;(try clear hb)))
   go_meet
   case rel=>exact ⟨_,(false),bg,H',⟨KF⟩,⟨(aG eX)⟩,⟨(aG fP)⟩,⟨(aG fB)⟩,⟨(aj dH)⟩,⟨(aj dB)⟩,⟨(aj eH)⟩,⟨(aj dN)⟩,⟨ay⟩⟩
  try simp only [bI,bY,fK]
  obtain ⟨ck,gc,H⟩:=bd_ H
  revert H;refine fJ (fun cq H=>?_) fun cq H=>?_
  rotate_left
  ·have cr:=gU cq
   have ct:=gV cq
   have H':=m_ H
   clear H
   have e5:=jQ dH.out
   have adw:=cu dB.out
   go_wp2_with (first|((with_reducible refine bU 12 ?_);refine bV (some 46) rfl rfl func12 aB rfl #[.agg #[ah a7,ah a8,ah a9,ah aa],.agg #[.slice aP a5.length af]] rfl aW ?_;(with_reducible refine (iP.calls yT a7 a8 a9 aa _ _ a5 true _ rM ((Kd.bZ eX.out).2.1) ex.out).mono ?_);rintro e ja ⟨rfl,hb⟩;refine ⟨_,rfl,?_⟩;obtain ⟨eX,fP,fB,dH,dB,eH,dN,HB⟩:=p_ (Kd.bn (aG eX) hb) <| p_ (Kd.bn (aG fP) hb) <| p_ (Kd.bn (aG fB) hb) <| nC (aj dH) (aj dB) (aj eH) (aj dN) ay hb;(try clear hb);have akV:=cu dB.out)|(go_at_call 13;(with_reducible refine (nR.calls yT _ _ a5 aT cf _ rM ((Kd.bZ eX.out).2.1) fs.out).mono ?_);rintro e jb ⟨rfl,hb⟩;obtain ⟨eX,fP,fB,dH,dB,eH,dN,HB⟩:=p_ (Kd.bn (aG eX) hb) <| p_ (Kd.bn (aG fP) hb) <| p_ (Kd.bn (aG fB) hb) <| nC (aj dH) (aj dB) (aj eH) (aj dN) ay hb;(try clear hb);have adx:=cu dB.out)|(go_at_call 14;(with_reducible refine (xU.calls yT _ _ a5 bP ck _ rM ((Kd.bZ eX.out).2.1) gc.out).mono ?_);rintro e E8 ⟨rfl,hb⟩;obtain ⟨eX,fP,fB,dH,dB,eH,dN,HB⟩:=p_ (Kd.bn (aG eX) hb) <| p_ (Kd.bn (aG fP) hb) <| p_ (Kd.bn (aG fB) hb) <| nC (aj dH) (aj dB) (aj eH) (aj dN) ay hb;(try clear hb)))
   go_meet
   case rel=>exact ⟨_,(false),bg,H',⟨KF⟩,⟨(aG eX)⟩,⟨(aG fP)⟩,⟨(aG fB)⟩,⟨(aj dH)⟩,⟨(aj dB)⟩,⟨(aj eH)⟩,⟨(aj dN)⟩,⟨ay⟩⟩
  have cr:=gZ cq
  have ct:=g_ cq
  clear cq
  obtain ⟨jg,gs,H⟩:=bd_ H
  have H':=m_ H
  clear H
  have e6:=jQ dH.out
  have ads:=cu dB.out
  go_wp2_with (first|((with_reducible refine bU 12 ?_);refine bV (some 46) rfl rfl func12 aB rfl #[.agg #[ah a7,ah a8,ah a9,ah aa],.agg #[.slice aP a5.length af]] rfl aW ?_;(with_reducible refine (iP.calls yT a7 a8 a9 aa _ _ a5 true _ rM ((Kd.bZ eX.out).2.1) ex.out).mono ?_);rintro e Bh ⟨rfl,hb⟩;refine ⟨_,rfl,?_⟩;obtain ⟨eX,fP,fB,dH,dB,eH,dN,HB⟩:=p_ (Kd.bn (aG eX) hb) <| p_ (Kd.bn (aG fP) hb) <| p_ (Kd.bn (aG fB) hb) <| nC (aj dH) (aj dB) (aj eH) (aj dN) ay hb;(try clear hb);have XC:=cu dB.out)|(go_at_call 13;(with_reducible refine (nR.calls yT _ _ a5 aT cf _ rM ((Kd.bZ eX.out).2.1) fs.out).mono ?_);rintro e Bj ⟨rfl,hb⟩;obtain ⟨eX,fP,fB,dH,dB,eH,dN,HB⟩:=p_ (Kd.bn (aG eX) hb) <| p_ (Kd.bn (aG fP) hb) <| p_ (Kd.bn (aG fB) hb) <| nC (aj dH) (aj dB) (aj eH) (aj dN) ay hb;(try clear hb);have adu:=cu dB.out)|(go_at_call 14;(with_reducible refine (xU.calls yT _ _ a5 bP ck _ rM ((Kd.bZ eX.out).2.1) gc.out).mono ?_);rintro e Ag ⟨rfl,hb⟩;obtain ⟨eX,fP,fB,dH,dB,eH,dN,HB⟩:=p_ (Kd.bn (aG eX) hb) <| p_ (Kd.bn (aG fP) hb) <| p_ (Kd.bn (aG fB) hb) <| nC (aj dH) (aj dB) (aj eH) (aj dN) ay hb;(try clear hb))|(go_at_call 15;(with_reducible refine (oH.calls yT bP aT jg _ gs.out).mono ?_);rintro e Dw ⟨rfl,hb⟩;obtain ⟨eX,fP,fB,dH,dB,eH,dN,HB⟩:=p_ (Kd.bn (aG eX) hb) <| p_ (Kd.bn (aG fP) hb) <| p_ (Kd.bn (aG fB) hb) <| nC (aj dH) (aj dB) (aj eH) (aj dN) ay hb;(try clear hb)))
  go_meet
  case rel=>exact ⟨_,(!jg),bg,H',⟨KF⟩,⟨(aG eX)⟩,⟨(aG fP)⟩,⟨(aG fB)⟩,⟨(aj dH)⟩,⟨(aj dB)⟩,⟨(aj eH)⟩,⟨(aj dN)⟩,⟨ay⟩⟩
 case rest =>
 clear lg
 try clear dy
 obtain ⟨kq,bo,rfl,HA,adQ,eX,fP,fB,dH,dB,eH,dN,HB⟩:=hcut
 cases kq with
 | zero=>exact absurd HA.out (by simp [jR.j1])
 | succ qY =>
 obtain ⟨H⟩:=HA
 simp only [jR.j1] at H
 by_cases ey:bo=true
 ·subst ey
  rw [if_pos rfl] at H
  obtain ⟨az,ez,H⟩:=bd_ H
  obtain ⟨e7,f4,H⟩:=bd_ H
  by_cases f5:e7=true
  rotate_left
  ·replace f5:=Bool.eq_false_iff.mpr f5
   subst f5
   rw [if_neg iO] at H
   obtain rfl:=cZ H
   have akh:=cu dN.out
   go_wp2_with (first|((with_reducible refine bU 9 ?_);refine bV (some 68) rfl rfl func9 aB rfl #[.agg #[.slice ag a6.length ac],.string bP,.string aT] rfl aW ?_;(with_reducible refine (l7.calls qY _ _ a6 bP aT az _ (jH.below HD.out ay) AL ((Kd.bZ fB.out).2.1) ez.out).mono ?_);rintro e gt ⟨P_,rfl,ho0,hb⟩;refine ⟨_,rfl,?_⟩;obtain ⟨eX,fP,fB,mY,dH,dB,eH,dN,HB⟩:=p_ (Kd.iY (aG eX) (Kd.iW ho0) hb) <| p_ (Kd.iY (aG fP) (Kd.iW ho0) hb) <| p_ (Kd.iY (aG fB) (Kd.iW ho0) hb) <| p_ (Kd.dK (Kd.iZ (Kd.iZ (Kd.iZ ho0 (Kd.iD (aG eX))) (Kd.iD (aG fP))) (Kd.iD (aG fB))) (dO ay)) <| nC (aj dH) (aj dB) (aj eH) (aj dN) ay hb;(try clear hb);(try clear ho0))|((with_reducible refine dG 9 ?_);(try (refine oh (by rfl) ?_;dsimp only));refine dU 9 (cs:=#[.slice none 0 0]) 28 ?_;intro b7 hg zh hbox hb;obtain ⟨eX,fP,fB,mY,dH,dB,eH,dN,HB,oz,ca,cc,CG,am,CJ,an,CO,ao,CP,ap⟩:=p_ (Kd.bn (aG eX) hb) <| p_ (Kd.bn (aG fP) hb) <| p_ (Kd.bn (aG fB) hb) <| p_ (Kd.bn (aG mY) hb) <| zQ (aj dH) (aj dB) (aj eH) (aj dN) ay hb hbox hg;clear hb hbox hg;obtain ⟨cv,cw,e8⟩:=Kd.dJ mY.out;subst e8;obtain ⟨b8,b9,ba,bb,bc,bd,be,fF⟩:=i_ am CG an CJ ao CO ap CP;have aki:=cu oz.out;obtain ⟨b0,b1,b3,b2⟩:=jE av ai aw ax;have gd:=jQ dH.out;have akj:=cu dN.out)|((with_reducible refine bU 16 ?_);refine bV (some 71) rfl rfl func16 aB rfl #[.agg #[ah a7,ah a8,ah a9,ah aa],.agg #[.slice ag a6.length ac]] rfl aW ?_;(with_reducible refine (iy.calls qY a7 a8 a9 aa _ _ a6 false _ (jH.below HD.out ay) ?pX ((Kd.bZ fB.out).2.1) f4.out).mono ?_);(case pX=>refine (Kd.bZ (e:=43) (base:=w.heap.size) (ok:=fun aF=>((some aF≠(.slice aP a5.length af:Value).ownBlock∧some aF≠(.slice aq ab.length ar:Value).ownBlock)∧some aF≠(.slice cv az.length cw:Value).ownBlock)) (n:=a6.length) (c:=ac) ?_).2.2;exact BJ);rintro e gv ⟨rfl,hb⟩;refine ⟨_,rfl,?_⟩;obtain ⟨eX,fP,fB,mY,dH,dB,eH,dN,oz,HB⟩:=p_ (Kd.bn KN hb) <| p_ (Kd.bn KL hb) <| p_ (Kd.bn BJ hb) <| p_ (Kd.bn KO hb) <| p_ (bG (g:=aN) (o:=.cells #[ah a7,ah a8,ah a9,ah aa] 25) bH hb) <| p_ (bG (g:=al) (o:=.cells #[.slice aP a5.length af] 28) bH hb) <| p_ (bG (g:=dw) (o:=.cells #[.slice aq ab.length ar] 28) bH hb) <| p_ (bG (g:=ae) (o:=.cells #[.slice ag a6.length ac] 28) bH hb) <| p_ (bG (g:=b7) (o:=.cells #[.slice cv az.length cw] 28) KG hb) <| a_ (dI ay hb);(try clear hb);(try clear hk)))
   go_ret
   exact ⟨b_,ay⟩
  subst f5
  rw [if_pos rfl] at H
  obtain ⟨cg,ft,H⟩:=bd_ H
  revert H;refine fJ (fun cd H=>?_) fun cd H=>?_
  rotate_left
  ·have dj:=gU cd
   have dk:=gV cd
   obtain rfl:=cZ H
   have ake:=cu dN.out
   go_wp2_with (first|((with_reducible refine bU 9 ?_);refine bV (some 68) rfl rfl func9 aB rfl #[.agg #[.slice ag a6.length ac],.string bP,.string aT] rfl aW ?_;(with_reducible refine (l7.calls qY _ _ a6 bP aT az _ (jH.below HD.out ay) AL ((Kd.bZ fB.out).2.1) ez.out).mono ?_);rintro e gw ⟨P_,rfl,ho0,hb⟩;refine ⟨_,rfl,?_⟩;obtain ⟨eX,fP,fB,mY,dH,dB,eH,dN,HB⟩:=p_ (Kd.iY (aG eX) (Kd.iW ho0) hb) <| p_ (Kd.iY (aG fP) (Kd.iW ho0) hb) <| p_ (Kd.iY (aG fB) (Kd.iW ho0) hb) <| p_ (Kd.dK (Kd.iZ (Kd.iZ (Kd.iZ ho0 (Kd.iD (aG eX))) (Kd.iD (aG fP))) (Kd.iD (aG fB))) (dO ay)) <| nC (aj dH) (aj dB) (aj eH) (aj dN) ay hb;(try clear hb);(try clear ho0))|((with_reducible refine dG 9 ?_);(try (refine oh (by rfl) ?_;dsimp only));refine dU 9 (cs:=#[.slice none 0 0]) 28 ?_;intro b7 hg gx hbox hb;obtain ⟨eX,fP,fB,mY,dH,dB,eH,dN,HB,oz,ca,cc,CG,am,CJ,an,CO,ao,CP,ap⟩:=p_ (Kd.bn (aG eX) hb) <| p_ (Kd.bn (aG fP) hb) <| p_ (Kd.bn (aG fB) hb) <| p_ (Kd.bn (aG mY) hb) <| zQ (aj dH) (aj dB) (aj eH) (aj dN) ay hb hbox hg;clear hb hbox hg;obtain ⟨cx,cy,e9⟩:=Kd.dJ mY.out;subst e9;obtain ⟨b8,b9,ba,bb,bc,bd,be,fF⟩:=i_ am CG an CJ ao CO ap CP;have akf:=cu oz.out;obtain ⟨b0,b1,b3,b2⟩:=jE av ai aw ax;have gf:=jQ dH.out;have adl:=cu dN.out)|((with_reducible refine bU 16 ?_);refine bV (some 71) rfl rfl func16 aB rfl #[.agg #[ah a7,ah a8,ah a9,ah aa],.agg #[.slice ag a6.length ac]] rfl aW ?_;(with_reducible refine (iy.calls qY a7 a8 a9 aa _ _ a6 true _ (jH.below HD.out ay) ?pX ((Kd.bZ fB.out).2.1) f4.out).mono ?_);(case pX=>refine (Kd.bZ (e:=43) (base:=w.heap.size) (ok:=fun aF=>((some aF≠(.slice aP a5.length af:Value).ownBlock∧some aF≠(.slice aq ab.length ar:Value).ownBlock)∧some aF≠(.slice cx az.length cy:Value).ownBlock)) (n:=a6.length) (c:=ac) ?_).2.2;exact BJ);rintro e yN ⟨rfl,hb⟩;refine ⟨_,rfl,?_⟩;obtain ⟨eX,fP,fB,mY,dH,dB,eH,dN,oz,HB⟩:=p_ (Kd.bn KN hb) <| p_ (Kd.bn KL hb) <| p_ (Kd.bn BJ hb) <| p_ (Kd.bn KO hb) <| p_ (bG (g:=aN) (o:=.cells #[ah a7,ah a8,ah a9,ah aa] 25) bH hb) <| p_ (bG (g:=al) (o:=.cells #[.slice aP a5.length af] 28) bH hb) <| p_ (bG (g:=dw) (o:=.cells #[.slice aq ab.length ar] 28) bH hb) <| p_ (bG (g:=ae) (o:=.cells #[.slice ag a6.length ac] 28) bH hb) <| p_ (bG (g:=b7) (o:=.cells #[.slice cx az.length cy] 28) KG hb) <| a_ (dI ay hb);(try clear hb);(try clear hk);have akg:=cu dN.out)|(go_at_call 17;(with_reducible refine (ug.calls _ _ a6 aT cg _ AL ((Kd.bZ fB.out).2.1) ft.out).mono ?_);rintro e gz ⟨rfl,hb⟩;obtain ⟨eX,fP,fB,mY,dH,dB,eH,dN,oz,HB⟩:=p_ (Kd.bn (aG eX) hb) <| p_ (Kd.bn (aG fP) hb) <| p_ (Kd.bn (aG fB) hb) <| p_ (Kd.bn (aG mY) hb) <| nM (aj dH) (aj dB) (aj eH) (aj dN) (aj oz) ay hb;(try clear hb)))
   go_ret
   exact ⟨b_,ay⟩
  have dj:=gZ cd
  have dk:=g_ cd
  clear cd
  obtain ⟨cl,ea,H⟩:=bd_ H
  revert H;refine gI (fun dl H=>?_) fun dl H=>?_
  rotate_left
  ·obtain rfl:=cZ H
   have aj9:=cu dN.out
   go_wp2_with (first|((with_reducible refine bU 9 ?_);refine bV (some 68) rfl rfl func9 aB rfl #[.agg #[.slice ag a6.length ac],.string bP,.string aT] rfl aW ?_;(with_reducible refine (l7.calls qY _ _ a6 bP aT az _ (jH.below HD.out ay) AL ((Kd.bZ fB.out).2.1) ez.out).mono ?_);rintro e h8 ⟨P_,rfl,ho0,hb⟩;refine ⟨_,rfl,?_⟩;obtain ⟨eX,fP,fB,mY,dH,dB,eH,dN,HB⟩:=p_ (Kd.iY (aG eX) (Kd.iW ho0) hb) <| p_ (Kd.iY (aG fP) (Kd.iW ho0) hb) <| p_ (Kd.iY (aG fB) (Kd.iW ho0) hb) <| p_ (Kd.dK (Kd.iZ (Kd.iZ (Kd.iZ ho0 (Kd.iD (aG eX))) (Kd.iD (aG fP))) (Kd.iD (aG fB))) (dO ay)) <| nC (aj dH) (aj dB) (aj eH) (aj dN) ay hb;(try clear hb);(try clear ho0))|((with_reducible refine dG 9 ?_);(try (refine oh (by rfl) ?_;dsimp only));refine dU 9 (cs:=#[.slice none 0 0]) 28 ?_;intro b7 hg h9 hbox hb;obtain ⟨eX,fP,fB,mY,dH,dB,eH,dN,HB,oz,ca,cc,CG,am,CJ,an,CO,ao,CP,ap⟩:=p_ (Kd.bn (aG eX) hb) <| p_ (Kd.bn (aG fP) hb) <| p_ (Kd.bn (aG fB) hb) <| p_ (Kd.bn (aG mY) hb) <| zQ (aj dH) (aj dB) (aj eH) (aj dN) ay hb hbox hg;clear hb hbox hg;obtain ⟨cz,d0,eb⟩:=Kd.dJ mY.out;subst eb;obtain ⟨b8,b9,ba,bb,bc,bd,be,fF⟩:=i_ am CG an CJ ao CO ap CP;have aj':=cu oz.out;obtain ⟨b0,b1,b3,b2⟩:=jE av ai aw ax;have gh:=jQ dH.out;have akb:=cu dN.out)|((with_reducible refine bU 16 ?_);refine bV (some 71) rfl rfl func16 aB rfl #[.agg #[ah a7,ah a8,ah a9,ah aa],.agg #[.slice ag a6.length ac]] rfl aW ?_;(with_reducible refine (iy.calls qY a7 a8 a9 aa _ _ a6 true _ (jH.below HD.out ay) ?pX ((Kd.bZ fB.out).2.1) f4.out).mono ?_);(case pX=>refine (Kd.bZ (e:=43) (base:=w.heap.size) (ok:=fun aF=>((some aF≠(.slice aP a5.length af:Value).ownBlock∧some aF≠(.slice aq ab.length ar:Value).ownBlock)∧some aF≠(.slice cz az.length d0:Value).ownBlock)) (n:=a6.length) (c:=ac) ?_).2.2;exact BJ);rintro e hs ⟨rfl,hb⟩;refine ⟨_,rfl,?_⟩;obtain ⟨eX,fP,fB,mY,dH,dB,eH,dN,oz,HB⟩:=p_ (Kd.bn KN hb) <| p_ (Kd.bn KL hb) <| p_ (Kd.bn BJ hb) <| p_ (Kd.bn KO hb) <| p_ (bG (g:=aN) (o:=.cells #[ah a7,ah a8,ah a9,ah aa] 25) bH hb) <| p_ (bG (g:=al) (o:=.cells #[.slice aP a5.length af] 28) bH hb) <| p_ (bG (g:=dw) (o:=.cells #[.slice aq ab.length ar] 28) bH hb) <| p_ (bG (g:=ae) (o:=.cells #[.slice ag a6.length ac] 28) bH hb) <| p_ (bG (g:=b7) (o:=.cells #[.slice cz az.length d0] 28) KG hb) <| a_ (dI ay hb);(try clear hb);(try clear hk);have akc:=cu dN.out)|(go_at_call 17;(with_reducible refine (ug.calls _ _ a6 aT cg _ AL ((Kd.bZ fB.out).2.1) ft.out).mono ?_);rintro e hu ⟨rfl,hb⟩;obtain ⟨eX,fP,fB,mY,dH,dB,eH,dN,oz,HB⟩:=p_ (Kd.bn (aG eX) hb) <| p_ (Kd.bn (aG fP) hb) <| p_ (Kd.bn (aG fB) hb) <| p_ (Kd.bn (aG mY) hb) <| nM (aj dH) (aj dB) (aj eH) (aj dN) (aj oz) ay hb;(try clear hb);have akd:=cu dN.out)|(go_at_call 17;(with_reducible refine (ug.calls _ _ a6 bP cl _ AL ((Kd.bZ fB.out).2.1) ea.out).mono ?_);rintro e hy ⟨rfl,hb⟩;obtain ⟨eX,fP,fB,mY,dH,dB,eH,dN,oz,HB⟩:=p_ (Kd.bn (aG eX) hb) <| p_ (Kd.bn (aG fP) hb) <| p_ (Kd.bn (aG fB) hb) <| p_ (Kd.bn (aG mY) hb) <| nM (aj dH) (aj dB) (aj eH) (aj dN) (aj oz) ay hb;(try clear hb)))
   go_ret
   exact ⟨b_,ay⟩
  obtain ⟨ec,fu,H⟩:=bd_ H
  obtain rfl:=cZ H
  have ajY:=cu dN.out
  go_wp2_with (first|((with_reducible refine bU 9 ?_);refine bV (some 68) rfl rfl func9 aB rfl #[.agg #[.slice ag a6.length ac],.string bP,.string aT] rfl aW ?_;(with_reducible refine (l7.calls qY _ _ a6 bP aT az _ (jH.below HD.out ay) AL ((Kd.bZ fB.out).2.1) ez.out).mono ?_);rintro e i1 ⟨P_,rfl,ho0,hb⟩;refine ⟨_,rfl,?_⟩;obtain ⟨eX,fP,fB,mY,dH,dB,eH,dN,HB⟩:=p_ (Kd.iY (aG eX) (Kd.iW ho0) hb) <| p_ (Kd.iY (aG fP) (Kd.iW ho0) hb) <| p_ (Kd.iY (aG fB) (Kd.iW ho0) hb) <| p_ (Kd.dK (Kd.iZ (Kd.iZ (Kd.iZ ho0 (Kd.iD (aG eX))) (Kd.iD (aG fP))) (Kd.iD (aG fB))) (dO ay)) <| nC (aj dH) (aj dB) (aj eH) (aj dN) ay hb;(try clear hb);(try clear ho0))|((with_reducible refine dG 9 ?_);(try (refine oh (by rfl) ?_;dsimp only));refine dU 9 (cs:=#[.slice none 0 0]) 28 ?_;intro b7 hg i2 hbox hb;obtain ⟨eX,fP,fB,mY,dH,dB,eH,dN,HB,oz,ca,cc,CG,am,CJ,an,CO,ao,CP,ap⟩:=p_ (Kd.bn (aG eX) hb) <| p_ (Kd.bn (aG fP) hb) <| p_ (Kd.bn (aG fB) hb) <| p_ (Kd.bn (aG mY) hb) <| zQ (aj dH) (aj dB) (aj eH) (aj dN) ay hb hbox hg;clear hb hbox hg;obtain ⟨d1,d2,ed⟩:=Kd.dJ mY.out;subst ed;obtain ⟨b8,b9,ba,bb,bc,bd,be,fF⟩:=i_ am CG an CJ ao CO ap CP;have aj1:=cu oz.out;obtain ⟨b0,b1,b3,b2⟩:=jE av ai aw ax;have gi:=jQ dH.out;have aj2:=cu dN.out)|((with_reducible refine bU 16 ?_);refine bV (some 71) rfl rfl func16 aB rfl #[.agg #[ah a7,ah a8,ah a9,ah aa],.agg #[.slice ag a6.length ac]] rfl aW ?_;(with_reducible refine (iy.calls qY a7 a8 a9 aa _ _ a6 true _ (jH.below HD.out ay) ?pX ((Kd.bZ fB.out).2.1) f4.out).mono ?_);(case pX=>refine (Kd.bZ (e:=43) (base:=w.heap.size) (ok:=fun aF=>((some aF≠(.slice aP a5.length af:Value).ownBlock∧some aF≠(.slice aq ab.length ar:Value).ownBlock)∧some aF≠(.slice d1 az.length d2:Value).ownBlock)) (n:=a6.length) (c:=ac) ?_).2.2;exact BJ);rintro e i3 ⟨rfl,hb⟩;refine ⟨_,rfl,?_⟩;obtain ⟨eX,fP,fB,mY,dH,dB,eH,dN,oz,HB⟩:=p_ (Kd.bn KN hb) <| p_ (Kd.bn KL hb) <| p_ (Kd.bn BJ hb) <| p_ (Kd.bn KO hb) <| p_ (bG (g:=aN) (o:=.cells #[ah a7,ah a8,ah a9,ah aa] 25) bH hb) <| p_ (bG (g:=al) (o:=.cells #[.slice aP a5.length af] 28) bH hb) <| p_ (bG (g:=dw) (o:=.cells #[.slice aq ab.length ar] 28) bH hb) <| p_ (bG (g:=ae) (o:=.cells #[.slice ag a6.length ac] 28) bH hb) <| p_ (bG (g:=b7) (o:=.cells #[.slice d1 az.length d2] 28) KG hb) <| a_ (dI ay hb);(try clear hb);(try clear hk);have aj6:=cu dN.out)|(go_at_call 17;(with_reducible refine (ug.calls _ _ a6 aT cg _ AL ((Kd.bZ fB.out).2.1) ft.out).mono ?_);rintro e i4 ⟨rfl,hb⟩;obtain ⟨eX,fP,fB,mY,dH,dB,eH,dN,oz,HB⟩:=p_ (Kd.bn (aG eX) hb) <| p_ (Kd.bn (aG fP) hb) <| p_ (Kd.bn (aG fB) hb) <| p_ (Kd.bn (aG mY) hb) <| nM (aj dH) (aj dB) (aj eH) (aj dN) (aj oz) ay hb;(try clear hb);have adk:=cu dN.out)|(go_at_call 17;(with_reducible refine (ug.calls _ _ a6 bP cl _ AL ((Kd.bZ fB.out).2.1) ea.out).mono ?_);rintro e i5 ⟨rfl,hb⟩;obtain ⟨eX,fP,fB,mY,dH,dB,eH,dN,oz,HB⟩:=p_ (Kd.bn (aG eX) hb) <| p_ (Kd.bn (aG fP) hb) <| p_ (Kd.bn (aG fB) hb) <| p_ (Kd.bn (aG mY) hb) <| nM (aj dH) (aj dB) (aj eH) (aj dN) (aj oz) ay hb;(try clear hb);have aj7:=cu oz.out;obtain ⟨bz,bx⟩:=iJ b4 bj;have aj8:=cu dB.out)|(go_at_call 10;(with_reducible refine (um.calls qY _ _ az _ _ a5 ec _ ?kG ((Kd.bZ mY.out).2.1) rM ((Kd.bZ eX.out).2.1) fu.out).mono ?_);(case kG=>repeat (first|exact (Kd.bZ mY.out).2.2|(with_reducible refine Kd.jJ ?_ _)|(with_reducible refine Kd.jL ?_ _)|(with_reducible refine Kd.jK ?_)));rintro e i6 ⟨rfl,hb⟩;obtain ⟨eX,fP,fB,mY,dH,dB,eH,dN,oz,HB⟩:=p_ (Kd.bn (aG eX) hb) <| p_ (Kd.bn (aG fP) hb) <| p_ (Kd.bn (aG fB) hb) <| p_ (Kd.bn (aG mY) hb) <| nM (aj dH) (aj dB) (aj eH) (aj dN) (aj oz) ay hb;(try clear hb)))
  go_ret
  exact ⟨b_,ay⟩
 replace ey:=Bool.eq_false_iff.mpr ey
 subst ey
 rw [if_neg iO] at H
 obtain ⟨dM,dm,H⟩:=bd_ H
 obtain ⟨bh,kM,H⟩:=bd_ H
 obtain ⟨ee,dp,H⟩:=bd_ H
 by_cases co:ee=true
 rotate_left
 ·replace co:=Bool.eq_false_iff.mpr co
  subst co
  rw [if_neg iO] at H
  obtain rfl:=cZ H
  have akr:=cu dB.out
  try go_wp2_with (first|((with_reducible refine bU 18 ?_);refine bV (some 90) rfl rfl func18 aB rfl #[.agg #[.slice aP a5.length af],.string (⟨#[47]⟩:ByteArray)] rfl aW ?_;(with_reducible refine (qG.calls qY _ _ a5 (⟨#[47]⟩:ByteArray) dM _ (jH.below HD.out ay) rM ((Kd.bZ eX.out).2.1) dm.out).mono ?_);rintro e fw ⟨Xv,rfl,ho0,hb⟩;refine ⟨_,rfl,?_⟩;obtain ⟨eX,fP,fB,lI,dH,dB,eH,dN,HB⟩:=p_ (Kd.bn (aG eX) hb) <| p_ (Kd.bn (aG fP) hb) <| p_ (Kd.bn (aG fB) hb) <| p_ (Kd.dK ho0 (dO ay)) <| nC (aj dH) (aj dB) (aj eH) (aj dN) ay hb;(try clear hb);(try clear ho0)))
  obtain ⟨eX,fP,fB,lI,dH,dB,eH,dN,HB⟩:=p_ (Kd.bK eX.out) <| p_ (Kd.bK fP.out) <| p_ (Kd.bK fB.out) <| p_ (Kd.bK lI.out) <| uG dH dB eH dN HB
  refine iH (n:=21) (S:=fun w'=>w'.cell? ⟨al,0,none⟩=some (.slice aP a5.length af)) (ds:=[]) M_ aB rfl rfl ((aO dB.out 0).trans rfl) (fun hH=>?_);refine jC jR.Px jR.MK (fun aS gJ=>?_)
  generalize fw.drew=i7 at eX fP fB lI dH dB eH dN HB hH ⊢
  refine aI 0 ?_
  refine ng (i:=1) (N:=some 92) (v:=?_) (a':=?_) YQ rfl rfl (AA aS.out gJ.out aB) (fun _ _ _ h=>h) (Or.inl ⟨(by rfl),?_⟩) hH ?_ ?_
  rotate_left
  ·intro w' s0
   go_simp
   with_reducible rfl
  rotate_left
  ·simp only [Act.put,List.setIfInBounds_toArray,List.set_cons_zero,List.set_cons_succ,bI,bY]
   rfl
  refine kY 2 (fun K hK=>?_)
  refine iR func20 aB rfl #[.agg #[.slice aP a5.length af],.string (⟨#[47]⟩:ByteArray)] (by rfl) rfl rfl aW ?_
  with_reducible refine (nS.calls qY _ _ a5 (⟨#[47]⟩:ByteArray) bh _ rM ((Kd.bZ eX.out).2.1) kM.out).mono ?_
  rintro e i8 ⟨Xw,rfl,ho0,hb⟩
  refine ⟨_,rfl,?_⟩
  obtain ⟨eX,fP,fB,lI,ru,dH,dB,eH,dN,HB⟩:=p_ (Kd.bn (aG eX) hb) <| p_ (Kd.bn (aG fP) hb) <| p_ (Kd.bn (aG fB) hb) <| p_ (Kd.iY (aG lI) (Kd.iW ho0) hb) <| p_ (Kd.dK (Kd.iZ ho0 (Kd.iD (aG lI))) (dO ay)) <| nC (aj dH) (aj dB) (aj eH) (aj dN) ay hb
  (try clear hb)
  (try clear ho0)
  obtain ⟨ef,eh,d3⟩:=Kd.dJ lI.out
  (first|subst d3|(injection d3 with dP fZ dQ;have f_:=dP.symm;have gq:=dQ.symm;clear dP fZ dQ;subst f_;subst gq))
  obtain ⟨ei,ej,d4⟩:=Kd.dJ ru.out
  (first|subst d4|(injection d4 with dP fZ dQ;have f_:=dP.symm;have gq:=dQ.symm;clear dP fZ dQ;subst f_;subst gq))
  refine hK.out _ _ ((aO dB.out 0).trans rfl) (fun hH=>?_)
  clear hK K
  refine fD (some 93) ?_
  refine kY 3 (fun K hK=>?_)
  refine iR func19 aB rfl #[.slice ef dM.length eh,.slice ei bh.length ej] (by rfl) rfl rfl aW ?_
  with_reducible refine (uJ.calls qY _ _ dM _ _ bh false _ PL ((Kd.bZ lI.out).2.1) PK ((Kd.bZ ru.out).2.1) dp.out).mono ?_
  rintro e w' ⟨rfl,⟨nd,rfl⟩⟩
  refine ⟨_,rfl,?_⟩
  refine hK.out _ _ ((aO dB.out 0).trans rfl) (fun hH=>?_)
  clear hK K
  refine fD (some 94) ?_
  refine aI 4 ?_
  refine bf 5 ?_
  refine bf 6 ?_
  refine uo 7 98 #[ak,ak,ak,ak,ak,ak,ak,ak,F_,F_,F_,F_,F_,F_,F_,F_,F_,F_,F_,F_,F_] aS ?_
  refine uo 8 99 #[ak,ak,ak,ak,ak,ak,ak,ak,ak,F_,F_,F_,F_,F_,F_,F_,F_,F_,F_,F_,F_] aS ?_
  refine bf 9 ?_
  refine bf 10 ?_
  refine bf 11 ?_
  refine aI 12 ?_
  refine aI 13 ?_
  refine bf 14 ?_
  refine bf 15 ?_
  refine bf 16 ?_
  refine bf 17 ?_
  refine bf 18 ?_
  refine aI 19 ?_
  refine aI 20 ?_
  refine iF (jB aS.out aB) ?_
  try go_wp2
  go_ret
  exact ⟨b_,ay⟩
 subst co
 rw [if_pos rfl] at H
 obtain ⟨b5,ek,H⟩:=bd_ H
 obtain ⟨b6,el,H⟩:=bd_ H
 revert H;refine fJ (fun bl H=>?_) fun bl H=>?_
 rotate_left
 ·have dq:(b5 == b6)=false:=by simpa using bl
  (try (have dr:decide (b5=b6)=false:=by simpa using bl))
  (try (have dt:(b5 == b6)=false:=by simpa using bl))
  (try (have fx:¬ (b5=b6):=by simpa using bl))
  clear bl
  obtain rfl:=cZ H
  have akp:=cu dB.out
  try go_wp2_with (first|((with_reducible refine bU 18 ?_);refine bV (some 90) rfl rfl func18 aB rfl #[.agg #[.slice aP a5.length af],.string (⟨#[47]⟩:ByteArray)] rfl aW ?_;(with_reducible refine (qG.calls qY _ _ a5 (⟨#[47]⟩:ByteArray) dM _ (jH.below HD.out ay) rM ((Kd.bZ eX.out).2.1) dm.out).mono ?_);rintro e fy ⟨Xv,rfl,ho0,hb⟩;refine ⟨_,rfl,?_⟩;obtain ⟨eX,fP,fB,lI,dH,dB,eH,dN,HB⟩:=p_ (Kd.bn (aG eX) hb) <| p_ (Kd.bn (aG fP) hb) <| p_ (Kd.bn (aG fB) hb) <| p_ (Kd.dK ho0 (dO ay)) <| nC (aj dH) (aj dB) (aj eH) (aj dN) ay hb;(try clear hb);(try clear ho0)))
  obtain ⟨eX,fP,fB,lI,dH,dB,eH,dN,HB⟩:=p_ (Kd.bK eX.out) <| p_ (Kd.bK fP.out) <| p_ (Kd.bK fB.out) <| p_ (Kd.bK lI.out) <| uG dH dB eH dN HB
  refine iH (n:=21) (S:=fun w'=>lD w' al (.slice aP a5.length af) <| FY w' aN (ah a7) (ah a8) (ah a9) (ah aa)) (ds:=[]) M_ aB rfl rfl ⟨(aO dB.out 0).trans rfl,tY dH.out⟩ (fun hH=>?_);refine jC jR.Px jR.MK (fun aS gJ=>?_)
  generalize fy.drew=i9 at eX fP fB lI dH dB eH dN HB hH ⊢
  refine aI 0 ?_
  refine fV 1 hH ?_
  refine kY 2 (fun K hK=>?_)
  refine iR func20 aB rfl #[.agg #[.slice aP a5.length af],.string (⟨#[47]⟩:ByteArray)] (by rfl) rfl rfl aW ?_
  with_reducible refine (nS.calls qY _ _ a5 (⟨#[47]⟩:ByteArray) bh _ rM ((Kd.bZ eX.out).2.1) kM.out).mono ?_
  rintro e ia ⟨Xw,rfl,ho0,hb⟩
  refine ⟨_,rfl,?_⟩
  obtain ⟨eX,fP,fB,lI,ru,dH,dB,eH,dN,HB⟩:=p_ (Kd.bn (aG eX) hb) <| p_ (Kd.bn (aG fP) hb) <| p_ (Kd.bn (aG fB) hb) <| p_ (Kd.iY (aG lI) (Kd.iW ho0) hb) <| p_ (Kd.dK (Kd.iZ ho0 (Kd.iD (aG lI))) (dO ay)) <| nC (aj dH) (aj dB) (aj eH) (aj dN) ay hb
  (try clear hb)
  (try clear ho0)
  obtain ⟨em,en,d5⟩:=Kd.dJ lI.out
  (first|subst d5|(injection d5 with dP fZ dQ;have f_:=dP.symm;have gq:=dQ.symm;clear dP fZ dQ;subst f_;subst gq))
  obtain ⟨eo,ep,d6⟩:=Kd.dJ ru.out
  (first|subst d6|(injection d6 with dP fZ dQ;have f_:=dP.symm;have gq:=dQ.symm;clear dP fZ dQ;subst f_;subst gq))
  refine hK.out _ _ ⟨(aO dB.out 0).trans rfl,tY dH.out⟩ (fun hH=>?_)
  clear hK K
  refine fD (some 93) ?_
  refine kY 3 (fun K hK=>?_)
  refine iR func19 aB rfl #[.slice em dM.length en,.slice eo bh.length ep] (by rfl) rfl rfl aW ?_
  with_reducible refine (uJ.calls qY _ _ dM _ _ bh true _ PL ((Kd.bZ lI.out).2.1) PK ((Kd.bZ ru.out).2.1) dp.out).mono ?_
  rintro e w' ⟨rfl,⟨nd,rfl⟩⟩
  refine ⟨_,rfl,?_⟩
  refine hK.out _ _ ⟨(aO dB.out 0).trans rfl,tY dH.out⟩ (fun hH=>?_)
  clear hK K
  refine fD (some 94) ?_
  refine aI 4 ?_
  refine fV 5 hH ?_
  refine fV 6 hH ?_
  refine fV 8 hH ?_
  refine fV 9 hH ?_
  refine kY 7 (fun K hK=>?_)
  refine iR func16 aB rfl #[.agg #[ah a7,ah a8,ah a9,ah aa],.agg #[.slice aP a5.length af]] (by rfl) rfl rfl aW ?_
  with_reducible refine (iy.calls qY a7 a8 a9 aa _ _ a5 b5 _ (jH.below HD.out ay) rM ((Kd.bZ eX.out).2.1) ek.out).mono ?_
  rintro e ib ⟨rfl,hb⟩
  refine ⟨_,rfl,?_⟩
  obtain ⟨eX,fP,fB,lI,ru,dH,dB,eH,dN,HB⟩:=p_ (Kd.bn (aG eX) hb) <| p_ (Kd.bn (aG fP) hb) <| p_ (Kd.bn (aG fB) hb) <| p_ (Kd.bn (aG lI) hb) <| p_ (Kd.bn (aG ru) hb) <| nC (aj dH) (aj dB) (aj eH) (aj dN) ay hb
  (try clear hb)
  refine hK.out _ _ ⟨(aO dB.out 0).trans rfl,tY dH.out⟩ (fun hH=>?_)
  clear hK K
  refine fD (some 98) ?_
  refine kY 10 (fun K hK=>?_)
  refine iR func12 aB rfl #[.agg #[ah a7,ah a8,ah a9,ah aa],.agg #[.slice aP a5.length af]] (by rfl) rfl rfl aW ?_
  with_reducible refine (iP.calls qY a7 a8 a9 aa _ _ a5 b6 _ rM ((Kd.bZ eX.out).2.1) el.out).mono ?_
  rintro e ic ⟨rfl,hb⟩
  refine ⟨_,rfl,?_⟩
  obtain ⟨eX,fP,fB,lI,ru,dH,dB,eH,dN,HB⟩:=p_ (Kd.bn (aG eX) hb) <| p_ (Kd.bn (aG fP) hb) <| p_ (Kd.bn (aG fB) hb) <| p_ (Kd.bn (aG lI) hb) <| p_ (Kd.bn (aG ru) hb) <| nC (aj dH) (aj dB) (aj eH) (aj dN) ay hb
  (try clear hb)
  refine hK.out _ _ ⟨(aO dB.out 0).trans rfl,tY dH.out⟩ (fun hH=>?_)
  clear hK K
  refine fD (some 101) ?_
  refine aI 11 ?_
  refine aI 12 ?_
  refine aI 13 ?_
  refine bf 14 ?_
  refine bf 15 ?_
  refine bf 16 ?_
  refine bf 17 ?_
  refine bf 18 ?_
  refine aI 19 ?_
  refine aI 20 ?_
  refine iF (jB aS.out aB) ?_
  try go_wp2
  go_ret
  exact ⟨b_,ay⟩
 have dq:(b5 == b6)=true:=bl
 (try (have dr:decide (b5=b6)=true:=by simpa using bl))
 (try (have dt:(b5 == b6)=true:=by simpa using bl))
 clear bl
 obtain ⟨cm,fz,H⟩:=bd_ H
 obtain ⟨eq,g6,H⟩:=bd_ H
 obtain rfl:=cZ H
 have akn:=cu dB.out
 try go_wp2_with (first|((with_reducible refine bU 18 ?_);refine bV (some 90) rfl rfl func18 aB rfl #[.agg #[.slice aP a5.length af],.string (⟨#[47]⟩:ByteArray)] rfl aW ?_;(with_reducible refine (qG.calls qY _ _ a5 (⟨#[47]⟩:ByteArray) dM _ (jH.below HD.out ay) rM ((Kd.bZ eX.out).2.1) dm.out).mono ?_);rintro e g7 ⟨Xv,rfl,ho0,hb⟩;refine ⟨_,rfl,?_⟩;obtain ⟨eX,fP,fB,lI,dH,dB,eH,dN,HB⟩:=p_ (Kd.bn (aG eX) hb) <| p_ (Kd.bn (aG fP) hb) <| p_ (Kd.bn (aG fB) hb) <| p_ (Kd.dK ho0 (dO ay)) <| nC (aj dH) (aj dB) (aj eH) (aj dN) ay hb;(try clear hb);(try clear ho0)))
 obtain ⟨eX,fP,fB,lI,dH,dB,eH,dN,HB⟩:=p_ (Kd.bK eX.out) <| p_ (Kd.bK fP.out) <| p_ (Kd.bK fB.out) <| p_ (Kd.bK lI.out) <| uG dH dB eH dN HB
 refine iH (n:=21) (S:=fun w'=>lD w' al (.slice aP a5.length af) <| FY w' aN (ah a7) (ah a8) (ah a9) (ah aa)) (ds:=[]) M_ aB rfl rfl ⟨(aO dB.out 0).trans rfl,tY dH.out⟩ (fun hH=>?_);refine jC jR.Px jR.MK (fun aS gJ=>?_)
 generalize g7.drew=id at eX fP fB lI dH dB eH dN HB hH ⊢
 refine aI 0 ?_
 refine fV 1 hH ?_
 refine kY 2 (fun K hK=>?_)
 refine iR func20 aB rfl #[.agg #[.slice aP a5.length af],.string (⟨#[47]⟩:ByteArray)] (by rfl) rfl rfl aW ?_
 with_reducible refine (nS.calls qY _ _ a5 (⟨#[47]⟩:ByteArray) bh _ rM ((Kd.bZ eX.out).2.1) kM.out).mono ?_
 rintro e ie ⟨Xw,rfl,ho0,hb⟩
 refine ⟨_,rfl,?_⟩
 obtain ⟨eX,fP,fB,lI,ru,dH,dB,eH,dN,HB⟩:=p_ (Kd.bn (aG eX) hb) <| p_ (Kd.bn (aG fP) hb) <| p_ (Kd.bn (aG fB) hb) <| p_ (Kd.iY (aG lI) (Kd.iW ho0) hb) <| p_ (Kd.dK (Kd.iZ ho0 (Kd.iD (aG lI))) (dO ay)) <| nC (aj dH) (aj dB) (aj eH) (aj dN) ay hb
 (try clear hb)
 (try clear ho0)
 obtain ⟨er,es,d7⟩:=Kd.dJ lI.out
 (first|subst d7|(injection d7 with dP fZ dQ;have f_:=dP.symm;have gq:=dQ.symm;clear dP fZ dQ;subst f_;subst gq))
 obtain ⟨et,rV,d8⟩:=Kd.dJ ru.out
 (first|subst d8|(injection d8 with dP fZ dQ;have f_:=dP.symm;have gq:=dQ.symm;clear dP fZ dQ;subst f_;subst gq))
 refine hK.out _ _ ⟨(aO dB.out 0).trans rfl,tY dH.out⟩ (fun hH=>?_)
 clear hK K
 refine fD (some 93) ?_
 refine kY 3 (fun K hK=>?_)
 refine iR func19 aB rfl #[.slice er dM.length es,.slice et bh.length rV] (by rfl) rfl rfl aW ?_
 with_reducible refine (uJ.calls qY _ _ dM _ _ bh true _ PL ((Kd.bZ lI.out).2.1) PK ((Kd.bZ ru.out).2.1) dp.out).mono ?_
 rintro e w' ⟨rfl,⟨nd,rfl⟩⟩
 refine ⟨_,rfl,?_⟩
 refine hK.out _ _ ⟨(aO dB.out 0).trans rfl,tY dH.out⟩ (fun hH=>?_)
 clear hK K
 refine fD (some 94) ?_
 refine aI 4 ?_
 refine fV 5 hH ?_
 refine fV 6 hH ?_
 refine fV 8 hH ?_
 refine fV 9 hH ?_
 refine kY 7 (fun K hK=>?_)
 refine iR func16 aB rfl #[.agg #[ah a7,ah a8,ah a9,ah aa],.agg #[.slice aP a5.length af]] (by rfl) rfl rfl aW ?_
 with_reducible refine (iy.calls qY a7 a8 a9 aa _ _ a5 b5 _ (jH.below HD.out ay) rM ((Kd.bZ eX.out).2.1) ek.out).mono ?_
 rintro e EZ ⟨rfl,hb⟩
 refine ⟨_,rfl,?_⟩
 obtain ⟨eX,fP,fB,lI,ru,dH,dB,eH,dN,HB⟩:=p_ (Kd.bn (aG eX) hb) <| p_ (Kd.bn (aG fP) hb) <| p_ (Kd.bn (aG fB) hb) <| p_ (Kd.bn (aG lI) hb) <| p_ (Kd.bn (aG ru) hb) <| nC (aj dH) (aj dB) (aj eH) (aj dN) ay hb
 (try clear hb)
 refine hK.out _ _ ⟨(aO dB.out 0).trans rfl,tY dH.out⟩ (fun hH=>?_)
 clear hK K
 refine fD (some 98) ?_
 refine kY 10 (fun K hK=>?_)
 refine iR func12 aB rfl #[.agg #[ah a7,ah a8,ah a9,ah aa],.agg #[.slice aP a5.length af]] (by rfl) rfl rfl aW ?_
 with_reducible refine (iP.calls qY a7 a8 a9 aa _ _ a5 b6 _ rM ((Kd.bZ eX.out).2.1) el.out).mono ?_
 rintro e ii ⟨rfl,hb⟩
 refine ⟨_,rfl,?_⟩
 obtain ⟨eX,fP,fB,lI,ru,dH,dB,eH,dN,HB⟩:=p_ (Kd.bn (aG eX) hb) <| p_ (Kd.bn (aG fP) hb) <| p_ (Kd.bn (aG fB) hb) <| p_ (Kd.bn (aG lI) hb) <| p_ (Kd.bn (aG ru) hb) <| nC (aj dH) (aj dB) (aj eH) (aj dN) ay hb
 (try clear hb)
 refine hK.out _ _ ⟨(aO dB.out 0).trans rfl,tY dH.out⟩ (fun hH=>?_)
 clear hK K
 refine fD (some 101) ?_
 refine aI 11 ?_
 refine aI 12 ?_
 refine aI 13 ?_
 refine eY 15 106 #[ak,ak,ak,ak,ak,ak,ak,ak,ak,ak,ak,ak,ak,ak,F_,ak,F_,F_,F_,F_,F_] aS ?_
 refine fV 14 hH ?_
 refine kY 16 (fun K hK=>?_)
 refine iR func21 aB rfl #[.agg #[.slice aP a5.length af],.agg #[.string (⟨#[47,113]⟩:ByteArray),.bool false,.string (⟨#[]⟩:ByteArray)]] (by rfl) rfl rfl aW ?_
 with_reducible refine (Dt.calls _ _ a5 (⟨#[47,113]⟩:ByteArray) false (⟨#[]⟩:ByteArray) cm _ rM ((Kd.bZ eX.out).2.1) fz.out).mono ?_
 rintro e ij ⟨aiz,rfl,ho0,hb⟩
 refine ⟨_,rfl,?_⟩
 obtain ⟨eX,fP,fB,lI,ru,bi,dH,dB,eH,dN,HB⟩:=p_ (Kd.iY (aG eX) (Kd.iW ho0) hb) <| p_ (Kd.iY (aG fP) (Kd.iW ho0) hb) <| p_ (Kd.iY (aG fB) (Kd.iW ho0) hb) <| p_ (Kd.bn (aG lI) hb) <| p_ (Kd.bn (aG ru) hb) <| p_ (Kd.dK (Kd.iZ (Kd.iZ (Kd.iZ ho0 (Kd.iD (aG eX))) (Kd.iD (aG fP))) (Kd.iD (aG fB))) (dO ay)) <| nC (aj dH) (aj dB) (aj eH) (aj dN) ay hb
 (try clear hb)
 (try clear ho0)
 obtain ⟨ev,ew,d9⟩:=Kd.dJ bi.out
 (first|subst d9|(injection d9 with dP fZ dQ;have f_:=dP.symm;have gq:=dQ.symm;clear dP fZ dQ;subst f_;subst gq))
 refine hK.out _ _ ⟨(aO dB.out 0).trans rfl,tY dH.out⟩ (fun hH=>?_)
 clear hK K
 refine fD (some 107) ?_
 refine kY 17 (fun K hK=>?_)
 refine iR func17 aB rfl #[.agg #[.slice ev cm.length ew],.string (⟨#[47,113]⟩:ByteArray)] (by rfl) rfl rfl aW ?_
 with_reducible refine (ug.calls _ _ cm (⟨#[47,113]⟩:ByteArray) eq _ ?kG ((Kd.bZ bi.out).2.1) g6.out).mono ?_
 (case kG=>repeat (first|exact (Kd.bZ bi.out).2.2|(with_reducible refine Kd.jJ ?_ _)|(with_reducible refine Kd.jL ?_ _)|(with_reducible refine Kd.jK ?_)))
 rintro e ik ⟨rfl,hb⟩
 refine ⟨_,rfl,?_⟩
 obtain ⟨eX,fP,fB,lI,ru,bi,dH,dB,eH,dN,HB⟩:=p_ (Kd.bn (aG eX) hb) <| p_ (Kd.bn (aG fP) hb) <| p_ (Kd.bn (aG fB) hb) <| p_ (Kd.bn (aG lI) hb) <| p_ (Kd.bn (aG ru) hb) <| p_ (Kd.bn (aG bi) hb) <| nC (aj dH) (aj dB) (aj eH) (aj dN) ay hb
 (try clear hb)
 refine hK.out _ _ ⟨(aO dB.out 0).trans rfl,tY dH.out⟩ (fun hH=>?_)
 clear hK K
 refine fD (some 108) ?_
 refine aI 18 ?_
 refine aI 19 ?_
 refine aI 20 ?_
 refine iF (jB aS.out aB) ?_
 try go_wp2
 go_ret
 exact ⟨b_,ay⟩


end Go.Proofs.YthejdhjpbpamoaaGreatDoor.jM
