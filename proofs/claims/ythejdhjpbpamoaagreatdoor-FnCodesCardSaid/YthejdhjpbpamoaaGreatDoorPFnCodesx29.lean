/- Contracts of Go functions: each call returns what the Lean function beside it computes. Conditions: as each theorem states them. -/
import Derived.Test.YthejdhjpbpamoaaGreatDoorPkFnCodes
import Derived.Test.YthejdhjpbpamoaaGreatDoorPFnCodesx1
import Derived.Test.YthejdhjpbpamoaaGreatDoorPFnCodesx2
import Derived.Test.YthejdhjpbpamoaaGreatDoorPFnCodesx4
import Derived.Test.YthejdhjpbpamoaaGreatDoorPFnCodesx5
import Derived.Test.YthejdhjpbpamoaaGreatDoorPFnCodesx16
import Derived.Test.YthejdhjpbpamoaaGreatDoorPFnCodesx28
namespace Go.Proofs.YthejdhjpbpamoaaGreatDoor.jD
open Go.RowKit Go.Proofs.YthejdhjpbpamoaaGreatDoorW.iw Go.Proofs.YthejdhjpbpamoaaGreatDoorW.lH Go.Proofs.YthejdhjpbpamoaaGreatDoorW.oO Go.Proofs.Tryz
attribute [local go_sem] qw qB qA qF qy qE qx qC   -- for this text's walks alone
set_option linter.unusedVariables false
set_option maxHeartbeats 8000000
set_option maxRecDepth 100000
set_option linter.unusedSimpArgs false

def ni.l0:Nat→List Int→List (gI)→List Int→Int→Int→Int→Int→Int→List (aF)→Option (Bool)
 | 0,_,_,_,_,_,_,_,_,_=>none
 | k+1,x0,x5,x6,x7,a6,a7,a8,a9,aa=>if x7 < (x5.length:Int) then (if 0≤x7 then ((Ar.f k a6 a7 a8 a9 aa ((dL x5 x7).f0) ((dL x5 x7).f1) ((dL x5 x7).f2) ((dL x5 x7).f3) ((dL x5 x7).f4) ((dL x5 x7).f5)).bind fun ab=>(if x7 < (x6.length:Int) then (if ab.2.1=(rd x6 x7) then (ni.l0 k x0 x5 x6 (wrap64 (x7+1)) a6 a7 a8 a9 aa) else (some false)) else (none))) else (none)) else ((BN.f k x0).bind fun a5=>((xO.f k a5.1 a5.2).bind fun ac=>((yG.f k a5.1 a5.2).bind fun ae=>(if ac=ae then ((oH.f k a5.1 a5.2).bind fun af=>((o7.f k a5.1 a5.2).bind fun ag=>(some (af == ag)))) else (some false)))))
def ni.f (k:Nat) (l0:List Int):Option (Bool):=(Hq.f l0).bind fun a5=>(if a5=true then (some true) else (ni.l0 k l0 (([(⟨1,(⟨#[47,97]⟩:ByteArray),(⟨#[]⟩:ByteArray),0,0,(⟨#[]⟩:ByteArray)⟩:gI),(⟨1,(⟨#[47,99,47,100]⟩:ByteArray),(⟨#[]⟩:ByteArray),0,0,(⟨#[]⟩:ByteArray)⟩:gI),(⟨1,(⟨#[47,97,47,98,47,99]⟩:ByteArray),(⟨#[]⟩:ByteArray),0,0,(⟨#[]⟩:ByteArray)⟩:gI),(⟨3,(⟨#[47,97]⟩:ByteArray),(⟨#[]⟩:ByteArray),0,0,(⟨#[]⟩:ByteArray)⟩:gI),(⟨4,(⟨#[47,97]⟩:ByteArray),(⟨#[]⟩:ByteArray),0,0,(⟨#[]⟩:ByteArray)⟩:gI),(⟨4,(⟨#[47]⟩:ByteArray),(⟨#[]⟩:ByteArray),0,0,(⟨#[]⟩:ByteArray)⟩:gI),(⟨5,(⟨#[47,97]⟩:ByteArray),(⟨#[47,97,47,99]⟩:ByteArray),0,0,(⟨#[]⟩:ByteArray)⟩:gI),(⟨6,(⟨#[47,97,47,98]⟩:ByteArray),(⟨#[]⟩:ByteArray),(-1),0,(⟨#[]⟩:ByteArray)⟩:gI),(⟨7,(⟨#[47,97,47,98]⟩:ByteArray),(⟨#[]⟩:ByteArray),60,0,(⟨#[49,50,51,52,53]⟩:ByteArray)⟩:gI),(⟨7,(⟨#[47,97,47,98]⟩:ByteArray),(⟨#[]⟩:ByteArray),124,0,(⟨#[49,50,51,52,53]⟩:ByteArray)⟩:gI),(⟨10,(⟨#[47,97,47,98]⟩:ByteArray),(⟨#[]⟩:ByteArray),0,0,(⟨#[]⟩:ByteArray)⟩:gI),(⟨9,(⟨#[47,65]⟩:ByteArray),(⟨#[]⟩:ByteArray),0,0,(⟨#[]⟩:ByteArray)⟩:gI),(⟨9,(⟨#[47,97,98,99,100,101,102,103,104]⟩:ByteArray),(⟨#[]⟩:ByteArray),0,0,(⟨#[]⟩:ByteArray)⟩:gI),(⟨12,(⟨#[47]⟩:ByteArray),(⟨#[]⟩:ByteArray),0,0,(⟨#[]⟩:ByteArray)⟩:gI),(⟨9,(⟨#[47,97,47,98]⟩:ByteArray),(⟨#[]⟩:ByteArray),0,0,(⟨#[]⟩:ByteArray)⟩:gI)]:List (gI))) (([6,3,4,5,10,9,11,12,13,12,4,1,2,16,0]:List Int)) 0 1 6 4 2 (([(⟨(⟨#[47,97]⟩:ByteArray),true,(⟨#[]⟩:ByteArray)⟩:aF),(⟨(⟨#[47,97,47,98]⟩:ByteArray),false,(⟨#[120,121,122]⟩:ByteArray)⟩:aF)]:List (aF)))))
def ni.T10:Bool × List (List Nat × List Nat):=(true,[([],[]),([],[]),([],[]),([],[]),([2,3],[2,3]),([4],[4]),([0,1,5],[0,1,5]),([6],[6]),([7],[7]),([7],[7]),([],[]),([],[]),([10,8,6,0,1,2,3,4,5,6,7,8,10,11],[8,10]),([11,9,12,0,1,2,3,4,5,6,7,8,9,10,11,12],[9,11])])
def ni.B10:List Nat:=[0,0,0,0,12,28,63,127,255,255,0,0,3583,8191]
def ni.KT:Bool × List (List Nat × List Nat):=(true,[([],[]),([],[]),([0,1],[0,1]),([],[]),([],[]),([3,4,2],[3,4]),([2,5],[2,5]),([6,5],[6]),([7],[7]),([7],[7]),([8,9,7,7],[7,8,9]),([7],[7]),([7],[7]),([11,12,10,7],[7,11,12]),([10,13,7],[7,10,13]),([7,14],[7,14]),([15,13,0,1,2,3,4,5,6,7,8,9,10,11,12,13,14,15],[15])])
def ni.Ot:List Nat:=[0,0,3,0,0,31,63,127,255,255,1023,255,255,8191,16383,32767,65535]
theorem ni.aad:kZ .any (opsOf Tryz.f4 14)=ni.KT:=by kernel_rfl
theorem ni.Vx:uS ni.KT.2 ni.Ot=true:=by kernel_rfl
theorem ni.calls (k:Nat) (A0:Option Addr) (c0:Nat) (l0:List Int) (r:Bool) (w:World) (jV:iK w) (hr0:Kd.C (Kd.int .u8) w A0 l0.length l0) (hc0:l0.length≤c0) (h:ni.f k l0=some r) :
  Calls Tryz.prog 4 #[.slice A0 l0.length c0] w fun e w'=>e=.returned (.bool r)∧Below w.heap.size w w':=by
 have Bq:=underlying25
 have uf:=underlying43
 have mF:=underlying28
 have Bv:=underlying45
 have xM:=underlying49
 have HR0:=m_ hr0
 have jU:=m_ hc0
 clear hr0 hc0
 have HD:=m_ jV
 clear jV
 have HB:=m_ (Below.refl w.heap.size w)
 unfold ni.f at h
 have H:=h
 clear h
 obtain ⟨d7,A2,H⟩:=bd_ H
 have e7:=m_ H
 clear H
 go_enter func4,ntmps4
 go_upto_if 13 with (first|((with_reducible refine bT 6 ?_);refine bU (some 13) rfl rfl func6 aB rfl #[.slice A0 l0.length c0] rfl aX ?_;(with_reducible refine (Hq.calls _ _ l0 d7 _ Ug jU.out A2.out).mono ?_);rintro e w' ⟨rfl,⟨nd,rfl⟩⟩;refine ⟨_,rfl,?_⟩))
 (try simp only [Act.put,List.setIfInBounds_toArray,List.set_cons_zero,List.set_cons_succ])
 obtain ⟨H⟩:=e7
 by_cases c4:d7=true
 ·subst c4
  rw [if_pos rfl] at H
  obtain rfl:=dF H
  go_wp2
  go_ret
  exact ⟨bM,au⟩
 replace c4:=Bool.eq_false_iff.mpr c4
 subst c4
 rw [if_neg iI] at H
 obtain ⟨ae,cc⟩:∃ y_:List (aF),y_=(([(⟨(⟨#[47,97]⟩:ByteArray),true,(⟨#[]⟩:ByteArray)⟩:aF),(⟨(⟨#[47,97,47,98]⟩:ByteArray),false,(⟨#[120,121,122]⟩:ByteArray)⟩:aF)]:List (aF))):=⟨_,rfl⟩
 rw [← cc] at H
 have cw:=m_ cc
 clear cc
 obtain ⟨aa,cd⟩:∃ y_:List (gI),y_=(([(⟨1,(⟨#[47,97]⟩:ByteArray),(⟨#[]⟩:ByteArray),0,0,(⟨#[]⟩:ByteArray)⟩:gI),(⟨1,(⟨#[47,99,47,100]⟩:ByteArray),(⟨#[]⟩:ByteArray),0,0,(⟨#[]⟩:ByteArray)⟩:gI),(⟨1,(⟨#[47,97,47,98,47,99]⟩:ByteArray),(⟨#[]⟩:ByteArray),0,0,(⟨#[]⟩:ByteArray)⟩:gI),(⟨3,(⟨#[47,97]⟩:ByteArray),(⟨#[]⟩:ByteArray),0,0,(⟨#[]⟩:ByteArray)⟩:gI),(⟨4,(⟨#[47,97]⟩:ByteArray),(⟨#[]⟩:ByteArray),0,0,(⟨#[]⟩:ByteArray)⟩:gI),(⟨4,(⟨#[47]⟩:ByteArray),(⟨#[]⟩:ByteArray),0,0,(⟨#[]⟩:ByteArray)⟩:gI),(⟨5,(⟨#[47,97]⟩:ByteArray),(⟨#[47,97,47,99]⟩:ByteArray),0,0,(⟨#[]⟩:ByteArray)⟩:gI),(⟨6,(⟨#[47,97,47,98]⟩:ByteArray),(⟨#[]⟩:ByteArray),(-1),0,(⟨#[]⟩:ByteArray)⟩:gI),(⟨7,(⟨#[47,97,47,98]⟩:ByteArray),(⟨#[]⟩:ByteArray),60,0,(⟨#[49,50,51,52,53]⟩:ByteArray)⟩:gI),(⟨7,(⟨#[47,97,47,98]⟩:ByteArray),(⟨#[]⟩:ByteArray),124,0,(⟨#[49,50,51,52,53]⟩:ByteArray)⟩:gI),(⟨10,(⟨#[47,97,47,98]⟩:ByteArray),(⟨#[]⟩:ByteArray),0,0,(⟨#[]⟩:ByteArray)⟩:gI),(⟨9,(⟨#[47,65]⟩:ByteArray),(⟨#[]⟩:ByteArray),0,0,(⟨#[]⟩:ByteArray)⟩:gI),(⟨9,(⟨#[47,97,98,99,100,101,102,103,104]⟩:ByteArray),(⟨#[]⟩:ByteArray),0,0,(⟨#[]⟩:ByteArray)⟩:gI),(⟨12,(⟨#[47]⟩:ByteArray),(⟨#[]⟩:ByteArray),0,0,(⟨#[]⟩:ByteArray)⟩:gI),(⟨9,(⟨#[47,97,47,98]⟩:ByteArray),(⟨#[]⟩:ByteArray),0,0,(⟨#[]⟩:ByteArray)⟩:gI)]:List (gI))):=⟨_,rfl⟩
 rw [← cd] at H
 have cx:=m_ cd
 clear cd
 obtain ⟨b1,ce⟩:∃ y_:List Int,y_=(([6,3,4,5,10,9,11,12,13,12,4,1,2,16,0]:List Int)):=⟨_,rfl⟩
 rw [← ce] at H
 have cy:=m_ ce
 clear ce
 have H':=m_ H
 clear H
 go_wp2_with (first|((with_reducible refine dJ 3 ?_);refine dO 3 (cs:=#[ah 0,ah 0,ah 0,ah 0]) 25 ?_;intro ab hg w5 hbox hb;obtain ⟨HB,a7,dx,dy⟩:=kL au hb hbox hg;clear hb hbox hg;have dz:=yh a7.out)|((with_reducible refine dJ 17 ?_);refine Kd.sU aU _ 43 ?hg (N:=17) ?hd (xs:=([(⟨(⟨#[47,97]⟩:ByteArray),true,(⟨#[]⟩:ByteArray)⟩:aF),(⟨(⟨#[47,97,47,98]⟩:ByteArray),false,(⟨#[120,121,122]⟩:ByteArray)⟩:aF)]:List (aF))) (inner:=[.string (⟨#[47,97]⟩:ByteArray),.bool true,.string (⟨#[]⟩:ByteArray),.string (⟨#[47,97,47,98]⟩:ByteArray),.bool false,.string (⟨#[120,121,122]⟩:ByteArray)]) (ok:=fun _=>True) (iJ:=fun _=>True) ?hr ?hp (fun _ hk=>hk) trivial (Below.refl _ _) (Nat.le_refl _) (by simp) ?_;(case hd=>rfl);(case hg=>rfl);(case hr=>first|(go_simp;done)|(go_simp;rfl));(case hp=>exact (bD.c3 (show Kd.M aU _ _ _ (⟨(⟨#[47,97]⟩:ByteArray),true,(⟨#[]⟩:ByteArray)⟩:aF) [.string (⟨#[47,97]⟩:ByteArray),.bool true,.string (⟨#[]⟩:ByteArray)] from (qp _ _ _ (⟨(⟨#[47,97]⟩:ByteArray),true,(⟨#[]⟩:ByteArray)⟩:aF) )) (bD.c3 (show Kd.M aU _ _ _ (⟨(⟨#[47,97,47,98]⟩:ByteArray),false,(⟨#[120,121,122]⟩:ByteArray)⟩:aF) [.string (⟨#[47,97,47,98]⟩:ByteArray),.bool false,.string (⟨#[120,121,122]⟩:ByteArray)] from (qp _ _ _ (⟨(⟨#[47,97,47,98]⟩:ByteArray),false,(⟨#[120,121,122]⟩:ByteArray)⟩:aF) )) (bD.none _ _))));intro aza w7 y8 hb iV iW;clear iV iW;(first|rw [← cw.out] at y8|(simp only [Int.reduceToNat] at y8;rw [← cw.out] at y8));obtain ⟨ba,a7,HB⟩:=p_ (Kd.dI y8 (cZ au)) <| p_ (bZ (g:=ab) (o:=.cells #[ah 1,ah 6,ah 4,ah 2] 25) (yB a7.out) hb) <| a_ (dP au hb);clear hb y8;obtain ⟨b2,b3,eh⟩:=Kd.dK ba.out;subst eh)|((with_reducible refine dJ 4 ?_);refine dO 4 (cs:=#[.slice none 0 0]) 28 ?_;intro af hg ep hbox hb;obtain ⟨ba,a7,HB,a9,e0,e3,fB,bw⟩:=p_ (Kd.dw (aJ ba) hb) <| pq (ak a7) au hb hbox hg;clear hb hbox hg;obtain ⟨cf,cg⟩:=gB bw fB;have zY:=dh a9.out)|((with_reducible refine dJ 34 ?_);refine Kd.sU mG _ 45 ?hg (N:=34) ?hd (xs:=([(⟨1,(⟨#[47,97]⟩:ByteArray),(⟨#[]⟩:ByteArray),0,0,(⟨#[]⟩:ByteArray)⟩:gI),(⟨1,(⟨#[47,99,47,100]⟩:ByteArray),(⟨#[]⟩:ByteArray),0,0,(⟨#[]⟩:ByteArray)⟩:gI),(⟨1,(⟨#[47,97,47,98,47,99]⟩:ByteArray),(⟨#[]⟩:ByteArray),0,0,(⟨#[]⟩:ByteArray)⟩:gI),(⟨3,(⟨#[47,97]⟩:ByteArray),(⟨#[]⟩:ByteArray),0,0,(⟨#[]⟩:ByteArray)⟩:gI),(⟨4,(⟨#[47,97]⟩:ByteArray),(⟨#[]⟩:ByteArray),0,0,(⟨#[]⟩:ByteArray)⟩:gI),(⟨4,(⟨#[47]⟩:ByteArray),(⟨#[]⟩:ByteArray),0,0,(⟨#[]⟩:ByteArray)⟩:gI),(⟨5,(⟨#[47,97]⟩:ByteArray),(⟨#[47,97,47,99]⟩:ByteArray),0,0,(⟨#[]⟩:ByteArray)⟩:gI),(⟨6,(⟨#[47,97,47,98]⟩:ByteArray),(⟨#[]⟩:ByteArray),(-1),0,(⟨#[]⟩:ByteArray)⟩:gI),(⟨7,(⟨#[47,97,47,98]⟩:ByteArray),(⟨#[]⟩:ByteArray),60,0,(⟨#[49,50,51,52,53]⟩:ByteArray)⟩:gI),(⟨7,(⟨#[47,97,47,98]⟩:ByteArray),(⟨#[]⟩:ByteArray),124,0,(⟨#[49,50,51,52,53]⟩:ByteArray)⟩:gI),(⟨10,(⟨#[47,97,47,98]⟩:ByteArray),(⟨#[]⟩:ByteArray),0,0,(⟨#[]⟩:ByteArray)⟩:gI),(⟨9,(⟨#[47,65]⟩:ByteArray),(⟨#[]⟩:ByteArray),0,0,(⟨#[]⟩:ByteArray)⟩:gI),(⟨9,(⟨#[47,97,98,99,100,101,102,103,104]⟩:ByteArray),(⟨#[]⟩:ByteArray),0,0,(⟨#[]⟩:ByteArray)⟩:gI),(⟨12,(⟨#[47]⟩:ByteArray),(⟨#[]⟩:ByteArray),0,0,(⟨#[]⟩:ByteArray)⟩:gI),(⟨9,(⟨#[47,97,47,98]⟩:ByteArray),(⟨#[]⟩:ByteArray),0,0,(⟨#[]⟩:ByteArray)⟩:gI)]:List (gI))) (inner:=[ah 1,.string (⟨#[47,97]⟩:ByteArray),.string (⟨#[]⟩:ByteArray),ah 0,ah 0,.string (⟨#[]⟩:ByteArray),ah 1,.string (⟨#[47,99,47,100]⟩:ByteArray),.string (⟨#[]⟩:ByteArray),ah 0,ah 0,.string (⟨#[]⟩:ByteArray),ah 1,.string (⟨#[47,97,47,98,47,99]⟩:ByteArray),.string (⟨#[]⟩:ByteArray),ah 0,ah 0,.string (⟨#[]⟩:ByteArray),ah 3,.string (⟨#[47,97]⟩:ByteArray),.string (⟨#[]⟩:ByteArray),ah 0,ah 0,.string (⟨#[]⟩:ByteArray),ah 4,.string (⟨#[47,97]⟩:ByteArray),.string (⟨#[]⟩:ByteArray),ah 0,ah 0,.string (⟨#[]⟩:ByteArray),ah 4,.string (⟨#[47]⟩:ByteArray),.string (⟨#[]⟩:ByteArray),ah 0,ah 0,.string (⟨#[]⟩:ByteArray),ah 5,.string (⟨#[47,97]⟩:ByteArray),.string (⟨#[47,97,47,99]⟩:ByteArray),ah 0,ah 0,.string (⟨#[]⟩:ByteArray),ah 6,.string (⟨#[47,97,47,98]⟩:ByteArray),.string (⟨#[]⟩:ByteArray),ah (-1),ah 0,.string (⟨#[]⟩:ByteArray),ah 7,.string (⟨#[47,97,47,98]⟩:ByteArray),.string (⟨#[]⟩:ByteArray),ah 60,ah 0,.string (⟨#[49,50,51,52,53]⟩:ByteArray),ah 7,.string (⟨#[47,97,47,98]⟩:ByteArray),.string (⟨#[]⟩:ByteArray),ah 124,ah 0,.string (⟨#[49,50,51,52,53]⟩:ByteArray),ah 10,.string (⟨#[47,97,47,98]⟩:ByteArray),.string (⟨#[]⟩:ByteArray),ah 0,ah 0,.string (⟨#[]⟩:ByteArray),ah 9,.string (⟨#[47,65]⟩:ByteArray),.string (⟨#[]⟩:ByteArray),ah 0,ah 0,.string (⟨#[]⟩:ByteArray),ah 9,.string (⟨#[47,97,98,99,100,101,102,103,104]⟩:ByteArray),.string (⟨#[]⟩:ByteArray),ah 0,ah 0,.string (⟨#[]⟩:ByteArray),ah 12,.string (⟨#[47]⟩:ByteArray),.string (⟨#[]⟩:ByteArray),ah 0,ah 0,.string (⟨#[]⟩:ByteArray),ah 9,.string (⟨#[47,97,47,98]⟩:ByteArray),.string (⟨#[]⟩:ByteArray),ah 0,ah 0,.string (⟨#[]⟩:ByteArray)]) (ok:=fun _=>True) (iJ:=fun _=>True) ?hr ?hp (fun _ hk=>hk) trivial (Below.refl _ _) (Nat.le_refl _) (by simp) ?_;(case hd=>rfl);(case hg=>rfl);(case hr=>first|(go_simp;done)|(go_simp;rfl));(case hp=>exact (bD.c6 (show Kd.M mG _ _ _ (⟨1,(⟨#[47,97]⟩:ByteArray),(⟨#[]⟩:ByteArray),0,0,(⟨#[]⟩:ByteArray)⟩:gI) [ah 1,.string (⟨#[47,97]⟩:ByteArray),.string (⟨#[]⟩:ByteArray),ah 0,ah 0,.string (⟨#[]⟩:ByteArray)] from (wG _ _ _ (⟨1,(⟨#[47,97]⟩:ByteArray),(⟨#[]⟩:ByteArray),0,0,(⟨#[]⟩:ByteArray)⟩:gI) )) (bD.c6 (show Kd.M mG _ _ _ (⟨1,(⟨#[47,99,47,100]⟩:ByteArray),(⟨#[]⟩:ByteArray),0,0,(⟨#[]⟩:ByteArray)⟩:gI) [ah 1,.string (⟨#[47,99,47,100]⟩:ByteArray),.string (⟨#[]⟩:ByteArray),ah 0,ah 0,.string (⟨#[]⟩:ByteArray)] from (wG _ _ _ (⟨1,(⟨#[47,99,47,100]⟩:ByteArray),(⟨#[]⟩:ByteArray),0,0,(⟨#[]⟩:ByteArray)⟩:gI) )) (bD.c6 (show Kd.M mG _ _ _ (⟨1,(⟨#[47,97,47,98,47,99]⟩:ByteArray),(⟨#[]⟩:ByteArray),0,0,(⟨#[]⟩:ByteArray)⟩:gI) [ah 1,.string (⟨#[47,97,47,98,47,99]⟩:ByteArray),.string (⟨#[]⟩:ByteArray),ah 0,ah 0,.string (⟨#[]⟩:ByteArray)] from (wG _ _ _ (⟨1,(⟨#[47,97,47,98,47,99]⟩:ByteArray),(⟨#[]⟩:ByteArray),0,0,(⟨#[]⟩:ByteArray)⟩:gI) )) (bD.c6 (show Kd.M mG _ _ _ (⟨3,(⟨#[47,97]⟩:ByteArray),(⟨#[]⟩:ByteArray),0,0,(⟨#[]⟩:ByteArray)⟩:gI) [ah 3,.string (⟨#[47,97]⟩:ByteArray),.string (⟨#[]⟩:ByteArray),ah 0,ah 0,.string (⟨#[]⟩:ByteArray)] from (wG _ _ _ (⟨3,(⟨#[47,97]⟩:ByteArray),(⟨#[]⟩:ByteArray),0,0,(⟨#[]⟩:ByteArray)⟩:gI) )) (bD.c6 (show Kd.M mG _ _ _ (⟨4,(⟨#[47,97]⟩:ByteArray),(⟨#[]⟩:ByteArray),0,0,(⟨#[]⟩:ByteArray)⟩:gI) [ah 4,.string (⟨#[47,97]⟩:ByteArray),.string (⟨#[]⟩:ByteArray),ah 0,ah 0,.string (⟨#[]⟩:ByteArray)] from (wG _ _ _ (⟨4,(⟨#[47,97]⟩:ByteArray),(⟨#[]⟩:ByteArray),0,0,(⟨#[]⟩:ByteArray)⟩:gI) )) (bD.c6 (show Kd.M mG _ _ _ (⟨4,(⟨#[47]⟩:ByteArray),(⟨#[]⟩:ByteArray),0,0,(⟨#[]⟩:ByteArray)⟩:gI) [ah 4,.string (⟨#[47]⟩:ByteArray),.string (⟨#[]⟩:ByteArray),ah 0,ah 0,.string (⟨#[]⟩:ByteArray)] from (wG _ _ _ (⟨4,(⟨#[47]⟩:ByteArray),(⟨#[]⟩:ByteArray),0,0,(⟨#[]⟩:ByteArray)⟩:gI) )) (bD.c6 (show Kd.M mG _ _ _ (⟨5,(⟨#[47,97]⟩:ByteArray),(⟨#[47,97,47,99]⟩:ByteArray),0,0,(⟨#[]⟩:ByteArray)⟩:gI) [ah 5,.string (⟨#[47,97]⟩:ByteArray),.string (⟨#[47,97,47,99]⟩:ByteArray),ah 0,ah 0,.string (⟨#[]⟩:ByteArray)] from (wG _ _ _ (⟨5,(⟨#[47,97]⟩:ByteArray),(⟨#[47,97,47,99]⟩:ByteArray),0,0,(⟨#[]⟩:ByteArray)⟩:gI) )) (bD.c6 (show Kd.M mG _ _ _ (⟨6,(⟨#[47,97,47,98]⟩:ByteArray),(⟨#[]⟩:ByteArray),(-1),0,(⟨#[]⟩:ByteArray)⟩:gI) [ah 6,.string (⟨#[47,97,47,98]⟩:ByteArray),.string (⟨#[]⟩:ByteArray),ah (-1),ah 0,.string (⟨#[]⟩:ByteArray)] from (wG _ _ _ (⟨6,(⟨#[47,97,47,98]⟩:ByteArray),(⟨#[]⟩:ByteArray),(-1),0,(⟨#[]⟩:ByteArray)⟩:gI) )) (bD.c6 (show Kd.M mG _ _ _ (⟨7,(⟨#[47,97,47,98]⟩:ByteArray),(⟨#[]⟩:ByteArray),60,0,(⟨#[49,50,51,52,53]⟩:ByteArray)⟩:gI) [ah 7,.string (⟨#[47,97,47,98]⟩:ByteArray),.string (⟨#[]⟩:ByteArray),ah 60,ah 0,.string (⟨#[49,50,51,52,53]⟩:ByteArray)] from (wG _ _ _ (⟨7,(⟨#[47,97,47,98]⟩:ByteArray),(⟨#[]⟩:ByteArray),60,0,(⟨#[49,50,51,52,53]⟩:ByteArray)⟩:gI) )) (bD.c6 (show Kd.M mG _ _ _ (⟨7,(⟨#[47,97,47,98]⟩:ByteArray),(⟨#[]⟩:ByteArray),124,0,(⟨#[49,50,51,52,53]⟩:ByteArray)⟩:gI) [ah 7,.string (⟨#[47,97,47,98]⟩:ByteArray),.string (⟨#[]⟩:ByteArray),ah 124,ah 0,.string (⟨#[49,50,51,52,53]⟩:ByteArray)] from (wG _ _ _ (⟨7,(⟨#[47,97,47,98]⟩:ByteArray),(⟨#[]⟩:ByteArray),124,0,(⟨#[49,50,51,52,53]⟩:ByteArray)⟩:gI) )) (bD.c6 (show Kd.M mG _ _ _ (⟨10,(⟨#[47,97,47,98]⟩:ByteArray),(⟨#[]⟩:ByteArray),0,0,(⟨#[]⟩:ByteArray)⟩:gI) [ah 10,.string (⟨#[47,97,47,98]⟩:ByteArray),.string (⟨#[]⟩:ByteArray),ah 0,ah 0,.string (⟨#[]⟩:ByteArray)] from (wG _ _ _ (⟨10,(⟨#[47,97,47,98]⟩:ByteArray),(⟨#[]⟩:ByteArray),0,0,(⟨#[]⟩:ByteArray)⟩:gI) )) (bD.c6 (show Kd.M mG _ _ _ (⟨9,(⟨#[47,65]⟩:ByteArray),(⟨#[]⟩:ByteArray),0,0,(⟨#[]⟩:ByteArray)⟩:gI) [ah 9,.string (⟨#[47,65]⟩:ByteArray),.string (⟨#[]⟩:ByteArray),ah 0,ah 0,.string (⟨#[]⟩:ByteArray)] from (wG _ _ _ (⟨9,(⟨#[47,65]⟩:ByteArray),(⟨#[]⟩:ByteArray),0,0,(⟨#[]⟩:ByteArray)⟩:gI) )) (bD.c6 (show Kd.M mG _ _ _ (⟨9,(⟨#[47,97,98,99,100,101,102,103,104]⟩:ByteArray),(⟨#[]⟩:ByteArray),0,0,(⟨#[]⟩:ByteArray)⟩:gI) [ah 9,.string (⟨#[47,97,98,99,100,101,102,103,104]⟩:ByteArray),.string (⟨#[]⟩:ByteArray),ah 0,ah 0,.string (⟨#[]⟩:ByteArray)] from (wG _ _ _ (⟨9,(⟨#[47,97,98,99,100,101,102,103,104]⟩:ByteArray),(⟨#[]⟩:ByteArray),0,0,(⟨#[]⟩:ByteArray)⟩:gI) )) (bD.c6 (show Kd.M mG _ _ _ (⟨12,(⟨#[47]⟩:ByteArray),(⟨#[]⟩:ByteArray),0,0,(⟨#[]⟩:ByteArray)⟩:gI) [ah 12,.string (⟨#[47]⟩:ByteArray),.string (⟨#[]⟩:ByteArray),ah 0,ah 0,.string (⟨#[]⟩:ByteArray)] from (wG _ _ _ (⟨12,(⟨#[47]⟩:ByteArray),(⟨#[]⟩:ByteArray),0,0,(⟨#[]⟩:ByteArray)⟩:gI) )) (bD.c6 (show Kd.M mG _ _ _ (⟨9,(⟨#[47,97,47,98]⟩:ByteArray),(⟨#[]⟩:ByteArray),0,0,(⟨#[]⟩:ByteArray)⟩:gI) [ah 9,.string (⟨#[47,97,47,98]⟩:ByteArray),.string (⟨#[]⟩:ByteArray),ah 0,ah 0,.string (⟨#[]⟩:ByteArray)] from (wG _ _ _ (⟨9,(⟨#[47,97,47,98]⟩:ByteArray),(⟨#[]⟩:ByteArray),0,0,(⟨#[]⟩:ByteArray)⟩:gI) )) (bD.none _ _)))))))))))))))));intro akG eq Jj hb iV iW;clear iV iW;(first|rw [← cx.out] at Jj|(simp only [Int.reduceToNat] at Jj;rw [← cx.out] at Jj));have gy:=p_ (Kd.dw (by (with_reducible repeat (first|apply Kd.dB|apply Kd.dD|apply Kd.aZ));exact (Kd.bn (aH (Kd.bQ ba.out a9.out (by decide))) (fun _ dG=>dG.1))) hb) <| p_ (Kd.dI Jj (cZ au)) <| p_ (bZ (g:=ab) (o:=.cells #[ah 1,ah 6,ah 4,ah 2] 25) (nO a7.out fB.out) hb) <| p_ (bZ (g:=af) (o:=.cells #[.slice b2 ae.length b3] 28) (yB a9.out) hb) <| a_ (dP au hb);clear ba a7 a9 HB;obtain ⟨ba,bv,a7,a9,HB⟩:=gy;clear hb Jj)|((with_reducible refine dJ 35 ?_);refine Kd.sU (Kd.int .i64) _ 3 ?hg (N:=35) ?hd (xs:=([6,3,4,5,10,9,11,12,13,12,4,1,2,16,0]:List Int)) (inner:=[ah 6,ah 3,ah 4,ah 5,ah 10,ah 9,ah 11,ah 12,ah 13,ah 12,ah 4,ah 1,ah 2,ah 16,ah 0]) (ok:=fun _=>True) (iJ:=fun _=>True) ?hr ?hp (fun _ hk=>hk) trivial (Below.refl _ _) (Nat.le_refl _) (by simp) ?_;(case hd=>rfl);(case hg=>rfl);(case hr=>first|(go_simp;done)|(go_simp;rfl));(case hp=>exact (bD.one (show Kd.M (Kd.int .i64) _ _ _ 6 [ah 6] from rfl) (bD.one (show Kd.M (Kd.int .i64) _ _ _ 3 [ah 3] from rfl) (bD.one (show Kd.M (Kd.int .i64) _ _ _ 4 [ah 4] from rfl) (bD.one (show Kd.M (Kd.int .i64) _ _ _ 5 [ah 5] from rfl) (bD.one (show Kd.M (Kd.int .i64) _ _ _ 10 [ah 10] from rfl) (bD.one (show Kd.M (Kd.int .i64) _ _ _ 9 [ah 9] from rfl) (bD.one (show Kd.M (Kd.int .i64) _ _ _ 11 [ah 11] from rfl) (bD.one (show Kd.M (Kd.int .i64) _ _ _ 12 [ah 12] from rfl) (bD.one (show Kd.M (Kd.int .i64) _ _ _ 13 [ah 13] from rfl) (bD.one (show Kd.M (Kd.int .i64) _ _ _ 12 [ah 12] from rfl) (bD.one (show Kd.M (Kd.int .i64) _ _ _ 4 [ah 4] from rfl) (bD.one (show Kd.M (Kd.int .i64) _ _ _ 1 [ah 1] from rfl) (bD.one (show Kd.M (Kd.int .i64) _ _ _ 2 [ah 2] from rfl) (bD.one (show Kd.M (Kd.int .i64) _ _ _ 16 [ah 16] from rfl) (bD.one (show Kd.M (Kd.int .i64) _ _ _ 0 [ah 0] from rfl) (bD.none _ _)))))))))))))))));intro uQ er Jk hb iV iW;clear iV iW;(first|rw [← cy.out] at Jk|(simp only [Int.reduceToNat] at Jk;rw [← cy.out] at Jk));obtain ⟨ba,bv,d8,a7,a9,HB⟩:=p_ (Kd.dw (aJ ba) hb) <| p_ (Kd.dw (aJ bv) hb) <| p_ (Kd.dI Jk (cZ au)) <| Ai (ak a7) (ak a9) au hb;clear hb Jk))
 go_loopg [7] k (fun kq v7 w'=>∃ (a6:Int),v7=ah a6∧aA (ni.l0 kq l0 aa b1 a6 1 6 4 2 ae=some r)∧aA (kq≤k)∧aA (Kd.R mG 45 w' w.heap.size (fun _=>True) akG aa)∧aA (Kd.R (Kd.int .i64) 3 w' w.heap.size (fun _=>True) uQ b1)∧aA (Kd.R aU 43 w' w.heap.size (fun _=>True) (.slice b2 ae.length b3) ae)∧aA (w'.heap[ab]?=some (.cells #[ah 1,ah 6,ah 4,ah 2] 25))∧aA (w'.heap[af]?=some (.cells #[(.slice b2 ae.length b3)] 28))∧aA (Below w.heap.size w w'))
 case atStart=>exact ⟨(0),bg,H',⟨Nat.le_refl _⟩,⟨(aJ bv)⟩,⟨(aJ d8)⟩,⟨(aJ ba)⟩,⟨(ak a7)⟩,⟨(ak a9)⟩,⟨au⟩⟩
 case round =>
 clear H'
 try clear c3;try clear c4;try clear c6;try clear zY;try clear dz;try clear zY
 obtain ⟨a6,rfl,HA,gZ,dn,gQ,fU,a7,a9,HB⟩:=hrel
 cases gk with
 | zero=>exact absurd HA.out (by simp [ni.l0])
 | succ k1 =>
 obtain ⟨H⟩:=HA
 simp only [ni.l0] at H
 have dg:=m_ H
 clear H
 obtain ⟨lN,bd,e4⟩:=Kd.dK dn.out
 subst e4
 go_upto_if 39 with (fail)
 (try clear cg cf)
 obtain ⟨H⟩:=dg
 revert H;refine gJ (fun bx H=>?_) fun bx H=>?_
 rotate_left
 ·try simp only [aY,bf,bx]
  obtain ⟨⟨ap,bb⟩,e8,H⟩:=bd_ H
  obtain ⟨cz,e9,H⟩:=bd_ H
  obtain ⟨d0,ea,H⟩:=bd_ H
  revert H;refine fH (fun d9 H=>?_) fun d9 H=>?_
  rotate_left
  ·have di:=fP d9
   have dj:=fQ d9
   obtain rfl:=dF H
   try go_wp2_with (first|((with_reducible refine bT 23 ?_);refine bU (some 61) rfl rfl func23 aB rfl #[.slice A0 l0.length c0] rfl aX ?_;(with_reducible refine (BN.calls k1 _ _ l0 ap bb _ Uw jU.out e8.out).mono ?_);rintro e et ⟨akH,rfl,ho0,hb⟩;refine ⟨_,rfl,?_⟩;obtain ⟨dn,gQ,fU,l9,a7,a9,HB⟩:=p_ (Kd.dw (aJ dn) hb) <| p_ (Kd.dw (aJ gQ) hb) <| p_ (Kd.jX (aJ fU) (Kd.jo ho0) hb) <| p_ (Kd.dI (Kd.jY ho0 (Kd.jJ (aJ fU))) (cZ au)) <| Ai (ak a7) (ak a9) au hb;(try clear hb);(try clear ho0))|((with_reducible refine dJ 10 ?_);refine dO 10 (cs:=#[.slice none 0 0]) 28 ?_;intro aW hg d5 hbox hb;obtain ⟨dn,gQ,fU,l9,a7,a9,HB,l7,da,db,be,fA,dM,bh⟩:=p_ (Kd.dw (aJ dn) hb) <| p_ (Kd.dw (aJ gQ) hb) <| p_ (Kd.dw (aJ fU) hb) <| p_ (Kd.dw (aJ l9) hb) <| pU (ak a7) (ak a9) au hb hbox hg;clear hb hbox hg;obtain ⟨bi,bj,e5⟩:=Kd.dK l9.out;subst e5;obtain ⟨ch,ci,cj,ck⟩:=g_ fA be bh dM;have ale:=dh l7.out))
   have eF:aA (Kd.R mG 45 (d5.setCell ⟨aW,0,none⟩ (.slice bi ap.length bj)) w.heap.size (fun _=>True) (.slice lN aa.length bd) aa):=⟨aat⟩
   have jF:aA (Kd.R (Kd.int .i64) 3 (d5.setCell ⟨aW,0,none⟩ (.slice bi ap.length bj)) w.heap.size (fun _=>True) uQ b1):=⟨aas⟩
   have jG:aA (Kd.R aU 43 (d5.setCell ⟨aW,0,none⟩ (.slice bi ap.length bj)) w.heap.size (fun ay=>some ay≠(.slice bi ap.length bj:Value).ownBlock) (.slice b2 ae.length b3) ae):=⟨aaq⟩
   have jH:aA (Kd.R aU 43 (d5.setCell ⟨aW,0,none⟩ (.slice bi ap.length bj)) w.heap.size (fun ay=>some ay≠(.slice b2 ae.length b3:Value).ownBlock) (.slice bi ap.length bj) ap):=⟨aar⟩
   have jI:aA ((d5.setCell ⟨aW,0,none⟩ (.slice bi ap.length bj)).heap[ab]?=some (.cells #[ah 1,ah 6,ah 4,ah 2] 25)):=⟨aT⟩
   have jL:aA ((d5.setCell ⟨aW,0,none⟩ (.slice bi ap.length bj)).heap[af]?=some (.cells #[.slice b2 ae.length b3] 28)):=⟨aT⟩
   have kW:aA ((d5.setCell ⟨aW,0,none⟩ (.slice bi ap.length bj)).heap[aW]?=some (.cells #[.slice bi ap.length bj] 28)):=⟨aT⟩
   have nR:aA (Below w.heap.size w (d5.setCell ⟨aW,0,none⟩ (.slice bi ap.length bj))):=⟨au⟩
   (try clear dn)
   (try clear gQ)
   (try clear fU)
   (try clear l9)
   (try clear a7)
   (try clear a9)
   (try clear l7)
   (try clear HB)
   generalize (d5.setCell ⟨aW,0,none⟩ (.slice bi ap.length bj))=ei at eF jF jG jH jI jL kW nR ⊢
   have dn:=eF
   have gQ:=jF
   have fU:=jG
   have l9:=jH
   have a7:=jI
   have a9:=jL
   have l7:=kW
   have HB:=nR
   clear eF jF jG jH jI jL kW nR
   obtain ⟨dn,gQ,fU,l9,a7,a9,l7,HB⟩:=p_ (Kd.aZ dn.out) <| p_ (Kd.aZ gQ.out) <| p_ (Kd.aZ fU.out) <| p_ (Kd.aZ l9.out) <| yU a7 a9 l7 HB
   refine iT (n:=17) (S:=fun w'=>w'.cell? ⟨aW,0,none⟩=some (.slice bi ap.length bj)) (ds:=[]) Ls aB rfl rfl ((aP l7.out 0).trans rfl) (fun hH=>?_);refine kE ni.aad ni.Vx (fun aO fJ=>?_)
   generalize ei.drew=tY at dn gQ fU l9 a7 a9 l7 HB hH ⊢
   refine cu 1 65 Wx aO ?_
   refine cu 4 68 Wy aO ?_
   refine lI (i:=0) (N:=some 64) (v:=?_) (a':=?_) WA rfl rfl (xU aO.out fJ.out aB) (fun _ _ _ h=>h) (Or.inl ⟨(by rfl),?_⟩) hH ?_ ?_
   rotate_left
   ·intro w' s0
    go_simp
    with_reducible rfl
   rotate_left
   ·simp only [Act.put,List.setIfInBounds_toArray,List.set_cons_zero,List.set_cons_succ,aY,bf]
    rfl
   refine lI (i:=3) (N:=some 67) (v:=?_) (a':=?_) WB rfl rfl (xU aO.out fJ.out aB) (fun _ _ _ h=>h) (Or.inl ⟨(by rfl),?_⟩) hH ?_ ?_
   rotate_left
   ·intro w' s0
    go_simp
    with_reducible rfl
   rotate_left
   ·simp only [Act.put,List.setIfInBounds_toArray,List.set_cons_zero,List.set_cons_succ,aY,bf]
    rfl
   refine fD (i:=2) (N:=some 66) WL rfl rfl (jq aO.out aB) (by decide) (fun K hK=>?_)
   refine i_ func24 aB rfl #[.agg #[.slice bi ap.length bj],.string bb] (by rfl) rfl rfl aX ?_
   with_reducible refine (xO.calls k1 _ _ ap bb cz _ (iK.below HD.out au) Ii ((Kd.dN l9.out).2.1) e9.out).mono ?_
   rintro e ev ⟨rfl,hb⟩
   refine ⟨_,rfl,?_⟩
   obtain ⟨dn,gQ,fU,l9,a7,a9,l7,HB⟩:=p_ (Kd.dw (aJ dn) hb) <| p_ (Kd.dw (aJ gQ) hb) <| p_ (Kd.dw (aJ fU) hb) <| p_ (Kd.dw (aJ l9) hb) <| lD (ak a7) (ak a9) (ak l7) au hb
   (try clear hb)
   refine hK.out _ _ ((aP l7.out 0).trans rfl) (fun hH=>?_)
   clear hK K
   refine eX (some 66) ?_
   refine fD (i:=5) (N:=some 69) WM rfl rfl (jq aO.out aB) (by decide) (fun K hK=>?_)
   refine i_ func14 aB rfl #[.agg #[.slice bi ap.length bj],.string bb] (by rfl) rfl rfl aX ?_
   with_reducible refine (yG.calls k1 _ _ ap bb d0 _ Ii ((Kd.dN l9.out).2.1) ea.out).mono ?_
   rintro e ew ⟨rfl,hb⟩
   refine ⟨_,rfl,?_⟩
   obtain ⟨dn,gQ,fU,l9,a7,a9,l7,HB⟩:=p_ (Kd.dw (aJ dn) hb) <| p_ (Kd.dw (aJ gQ) hb) <| p_ (Kd.dw (aJ fU) hb) <| p_ (Kd.dw (aJ l9) hb) <| lD (ak a7) (ak a9) (ak l7) au hb
   (try clear hb)
   refine hK.out _ _ ((aP l7.out 0).trans rfl) (fun hH=>?_)
   clear hK K
   refine eX (some 69) ?_
   refine cu 6 70 WO aO ?_
   refine cu 7 71 WQ aO ?_
   refine vO 8 72 acu aO ?_
   refine vO 9 73 acv aO ?_
   refine vO 10 74 acw aO ?_
   refine vO 11 75 acy aO ?_
   refine vO 12 76 WR aO ?_
   refine vO 13 77 WS aO ?_
   refine vO 14 78 WT aO ?_
   refine cu 15 79 WU aO ?_
   refine cu 16 2 WV aO ?_
   refine iP (ku aO.out aB) ?_
   try go_wp2
   go_ret
   exact ⟨bM,au⟩
  have di:=fZ d9
  have dj:=f_ d9
  clear d9
  obtain ⟨dk,ej,H⟩:=bd_ H
  obtain ⟨dl,ek,H⟩:=bd_ H
  obtain rfl:=dF H
  try go_wp2_with (first|((with_reducible refine bT 23 ?_);refine bU (some 61) rfl rfl func23 aB rfl #[.slice A0 l0.length c0] rfl aX ?_;(with_reducible refine (BN.calls k1 _ _ l0 ap bb _ Uw jU.out e8.out).mono ?_);rintro e ex ⟨akH,rfl,ho0,hb⟩;refine ⟨_,rfl,?_⟩;obtain ⟨dn,gQ,fU,l9,a7,a9,HB⟩:=p_ (Kd.dw (aJ dn) hb) <| p_ (Kd.dw (aJ gQ) hb) <| p_ (Kd.jX (aJ fU) (Kd.jo ho0) hb) <| p_ (Kd.dI (Kd.jY ho0 (Kd.jJ (aJ fU))) (cZ au)) <| Ai (ak a7) (ak a9) au hb;(try clear hb);(try clear ho0))|((with_reducible refine dJ 10 ?_);refine dO 10 (cs:=#[.slice none 0 0]) 28 ?_;intro aW hg d6 hbox hb;obtain ⟨dn,gQ,fU,l9,a7,a9,HB,l7,da,db,be,fA,dM,bh⟩:=p_ (Kd.dw (aJ dn) hb) <| p_ (Kd.dw (aJ gQ) hb) <| p_ (Kd.dw (aJ fU) hb) <| p_ (Kd.dw (aJ l9) hb) <| pU (ak a7) (ak a9) au hb hbox hg;clear hb hbox hg;obtain ⟨jC,gG,e6⟩:=Kd.dK l9.out;subst e6;obtain ⟨ch,ci,cj,ck⟩:=g_ fA be bh dM;have alb:=dh l7.out))
  have eF:aA (Kd.R mG 45 (d6.setCell ⟨aW,0,none⟩ (.slice jC ap.length gG)) w.heap.size (fun _=>True) (.slice lN aa.length bd) aa):=⟨aat⟩
  have jF:aA (Kd.R (Kd.int .i64) 3 (d6.setCell ⟨aW,0,none⟩ (.slice jC ap.length gG)) w.heap.size (fun _=>True) uQ b1):=⟨aas⟩
  have jG:aA (Kd.R aU 43 (d6.setCell ⟨aW,0,none⟩ (.slice jC ap.length gG)) w.heap.size (fun ay=>some ay≠(.slice jC ap.length gG:Value).ownBlock) (.slice b2 ae.length b3) ae):=⟨aaq⟩
  have jH:aA (Kd.R aU 43 (d6.setCell ⟨aW,0,none⟩ (.slice jC ap.length gG)) w.heap.size (fun ay=>some ay≠(.slice b2 ae.length b3:Value).ownBlock) (.slice jC ap.length gG) ap):=⟨aar⟩
  have jI:aA ((d6.setCell ⟨aW,0,none⟩ (.slice jC ap.length gG)).heap[ab]?=some (.cells #[ah 1,ah 6,ah 4,ah 2] 25)):=⟨aT⟩
  have jL:aA ((d6.setCell ⟨aW,0,none⟩ (.slice jC ap.length gG)).heap[af]?=some (.cells #[.slice b2 ae.length b3] 28)):=⟨aT⟩
  have kW:aA ((d6.setCell ⟨aW,0,none⟩ (.slice jC ap.length gG)).heap[aW]?=some (.cells #[.slice jC ap.length gG] 28)):=⟨aT⟩
  have nR:aA (Below w.heap.size w (d6.setCell ⟨aW,0,none⟩ (.slice jC ap.length gG))):=⟨au⟩
  (try clear dn)
  (try clear gQ)
  (try clear fU)
  (try clear l9)
  (try clear a7)
  (try clear a9)
  (try clear l7)
  (try clear HB)
  generalize (d6.setCell ⟨aW,0,none⟩ (.slice jC ap.length gG))=el at eF jF jG jH jI jL kW nR ⊢
  have dn:=eF
  have gQ:=jF
  have fU:=jG
  have l9:=jH
  have a7:=jI
  have a9:=jL
  have l7:=kW
  have HB:=nR
  clear eF jF jG jH jI jL kW nR
  obtain ⟨dn,gQ,fU,l9,a7,a9,l7,HB⟩:=p_ (Kd.aZ dn.out) <| p_ (Kd.aZ gQ.out) <| p_ (Kd.aZ fU.out) <| p_ (Kd.aZ l9.out) <| yU a7 a9 l7 HB
  refine iT (n:=17) (S:=fun w'=>w'.cell? ⟨aW,0,none⟩=some (.slice jC ap.length gG)) (ds:=[]) Ls aB rfl rfl ((aP l7.out 0).trans rfl) (fun hH=>?_);refine kE ni.aad ni.Vx (fun aO fJ=>?_)
  generalize el.drew=ey at dn gQ fU l9 a7 a9 l7 HB hH ⊢
  refine cu 1 65 Wx aO ?_
  refine cu 4 68 Wy aO ?_
  refine lI (i:=0) (N:=some 64) (v:=?_) (a':=?_) WA rfl rfl (xU aO.out fJ.out aB) (fun _ _ _ h=>h) (Or.inl ⟨(by rfl),?_⟩) hH ?_ ?_
  rotate_left
  ·intro w' s0
   go_simp
   with_reducible rfl
  rotate_left
  ·simp only [Act.put,List.setIfInBounds_toArray,List.set_cons_zero,List.set_cons_succ,aY,bf]
   rfl
  refine lI (i:=3) (N:=some 67) (v:=?_) (a':=?_) WB rfl rfl (xU aO.out fJ.out aB) (fun _ _ _ h=>h) (Or.inl ⟨(by rfl),?_⟩) hH ?_ ?_
  rotate_left
  ·intro w' s0
   go_simp
   with_reducible rfl
  rotate_left
  ·simp only [Act.put,List.setIfInBounds_toArray,List.set_cons_zero,List.set_cons_succ,aY,bf]
   rfl
  refine fD (i:=2) (N:=some 66) WL rfl rfl (jq aO.out aB) (by decide) (fun K hK=>?_)
  refine i_ func24 aB rfl #[.agg #[.slice jC ap.length gG],.string bb] (by rfl) rfl rfl aX ?_
  with_reducible refine (xO.calls k1 _ _ ap bb cz _ (iK.below HD.out au) Ii ((Kd.dN l9.out).2.1) e9.out).mono ?_
  rintro e ez ⟨rfl,hb⟩
  refine ⟨_,rfl,?_⟩
  obtain ⟨dn,gQ,fU,l9,a7,a9,l7,HB⟩:=p_ (Kd.dw (aJ dn) hb) <| p_ (Kd.dw (aJ gQ) hb) <| p_ (Kd.dw (aJ fU) hb) <| p_ (Kd.dw (aJ l9) hb) <| lD (ak a7) (ak a9) (ak l7) au hb
  (try clear hb)
  refine hK.out _ _ ((aP l7.out 0).trans rfl) (fun hH=>?_)
  clear hK K
  refine eX (some 66) ?_
  refine fD (i:=5) (N:=some 69) WM rfl rfl (jq aO.out aB) (by decide) (fun K hK=>?_)
  refine i_ func14 aB rfl #[.agg #[.slice jC ap.length gG],.string bb] (by rfl) rfl rfl aX ?_
  with_reducible refine (yG.calls k1 _ _ ap bb d0 _ Ii ((Kd.dN l9.out).2.1) ea.out).mono ?_
  rintro e f7 ⟨rfl,hb⟩
  refine ⟨_,rfl,?_⟩
  obtain ⟨dn,gQ,fU,l9,a7,a9,l7,HB⟩:=p_ (Kd.dw (aJ dn) hb) <| p_ (Kd.dw (aJ gQ) hb) <| p_ (Kd.dw (aJ fU) hb) <| p_ (Kd.dw (aJ l9) hb) <| lD (ak a7) (ak a9) (ak l7) au hb
  (try clear hb)
  refine hK.out _ _ ((aP l7.out 0).trans rfl) (fun hH=>?_)
  clear hK K
  refine eX (some 69) ?_
  refine cu 6 70 WO aO ?_
  refine cu 7 71 WQ aO ?_
  refine cu 9 73 acz aO ?_
  refine cu 12 76 #[aj,aj,aj,aj,aj,aj,aj,aj,F_,aj,F_,F_,aj,F_,F_,F_,F_] aO ?_
  refine lI (i:=8) (N:=some 72) (v:=?_) (a':=?_) #[aj,aj,aj,aj,aj,aj,aj,aj,aj,aj,F_,F_,aj,F_,F_,F_,F_] rfl rfl (xU aO.out fJ.out aB) (fun _ _ _ h=>h) (Or.inl ⟨(by rfl),?_⟩) hH ?_ ?_
  rotate_left
  ·intro w' s0
   go_simp
   with_reducible rfl
  rotate_left
  ·simp only [Act.put,List.setIfInBounds_toArray,List.set_cons_zero,List.set_cons_succ,aY,bf]
   rfl
  refine lI (i:=11) (N:=some 75) (v:=?_) (a':=?_) #[aj,aj,aj,aj,aj,aj,aj,aj,aj,aj,F_,aj,aj,F_,F_,F_,F_] rfl rfl (xU aO.out fJ.out aB) (fun _ _ _ h=>h) (Or.inl ⟨(by rfl),?_⟩) hH ?_ ?_
  rotate_left
  ·intro w' s0
   go_simp
   with_reducible rfl
  rotate_left
  ·simp only [Act.put,List.setIfInBounds_toArray,List.set_cons_zero,List.set_cons_succ,aY,bf]
   rfl
  refine fD (i:=10) (N:=some 74) WR rfl rfl (jq aO.out aB) (by decide) (fun K hK=>?_)
  refine i_ func25 aB rfl #[.agg #[.slice jC ap.length gG],.string bb] (by rfl) rfl rfl aX ?_
  with_reducible refine (oH.calls k1 _ _ ap bb dk _ (iK.below HD.out au) Ii ((Kd.dN l9.out).2.1) ej.out).mono ?_
  rintro e f8 ⟨rfl,hb⟩
  refine ⟨_,rfl,?_⟩
  obtain ⟨dn,gQ,fU,l9,a7,a9,l7,HB⟩:=p_ (Kd.dw (aJ dn) hb) <| p_ (Kd.dw (aJ gQ) hb) <| p_ (Kd.dw (aJ fU) hb) <| p_ (Kd.dw (aJ l9) hb) <| lD (ak a7) (ak a9) (ak l7) au hb
  (try clear hb)
  refine hK.out _ _ ((aP l7.out 0).trans rfl) (fun hH=>?_)
  clear hK K
  refine eX (some 74) ?_
  refine fD (i:=13) (N:=some 77) WS rfl rfl (jq aO.out aB) (by decide) (fun K hK=>?_)
  refine i_ func26 aB rfl #[.agg #[.slice jC ap.length gG],.string bb] (by rfl) rfl rfl aX ?_
  with_reducible refine (o7.calls k1 _ _ ap bb dl _ Ii ((Kd.dN l9.out).2.1) ek.out).mono ?_
  rintro e fa ⟨rfl,hb⟩
  refine ⟨_,rfl,?_⟩
  obtain ⟨dn,gQ,fU,l9,a7,a9,l7,HB⟩:=p_ (Kd.dw (aJ dn) hb) <| p_ (Kd.dw (aJ gQ) hb) <| p_ (Kd.dw (aJ fU) hb) <| p_ (Kd.dw (aJ l9) hb) <| lD (ak a7) (ak a9) (ak l7) au hb
  (try clear hb)
  refine hK.out _ _ ((aP l7.out 0).trans rfl) (fun hH=>?_)
  clear hK K
  refine eX (some 77) ?_
  refine cu 14 78 WT aO ?_
  refine cu 15 79 WU aO ?_
  refine cu 16 2 WV aO ?_
  refine iP (ku aO.out aB) ?_
  try go_wp2
  go_ret
  exact ⟨bM,au⟩
 try simp only [aY,bf,bx]
 obtain ⟨ec,H⟩:=gK H
 obtain ⟨⟨az,av,aw,ax,bH,b0⟩,dv,H⟩:=bd_ H
 obtain ⟨ee,H⟩:=gK H
 have dm:=m_ H
 clear H
 try go_wp2
 obtain ⟨dn,gQ,fU,a7,a9,HB⟩:=p_ (Kd.aZ dn.out) <| p_ (Kd.aZ gQ.out) <| p_ (Kd.aZ fU.out) <| acW a7 a9 HB
 have d1:0≤(a6:Int):=bF bG
 have d2:a6 < (aa.length:Int):=bF bG
 obtain ⟨a5,lF,bo,bp,bq,br,bs,bu⟩:=ace (Kd.dN dn.out).2.2 a6 d1 d2
 cases lF
 replace d1:=eq_true d1
 replace d2:=eq_true d2
 refine iT (n:=14) (S:=fun w'=>sF w' ab (ah 1) (ah 6) (ah 4) (ah 2) <| jQ w' af (.slice b2 ae.length b3) <| vP w' (a5.add ((a6).toNat * 6)) (ah ((dL aa a6).f0)) (.string ((dL aa a6).f1)) (.string ((dL aa a6).f2)) (ah ((dL aa a6).f3)) (ah ((dL aa a6).f4)) (.string ((dL aa a6).f5))) (ds:=[]) IW aB rfl rfl (mV a7.out ⟨(aP a9.out 0).trans rfl,bo,bp,bq,br,bs,bu⟩) (fun hH=>?_);refine kE (T:=ni.T10) (B:=ni.B10) aB aB (fun aO fJ=>?_)
 generalize wr.drew=fb at dn gQ fU a7 a9 HB bo bp bq br bs bu hH ⊢
 refine cu 2 45 V9 aO ?_
 refine cu 3 46 V_ aO ?_
 refine cu 4 47 Wh aO ?_
 refine jZ 0 43 Wi aO fJ hH ?_
 refine jZ 1 44 WW aO fJ hH ?_
 refine jZ 5 48 WX aO fJ hH ?_
 refine yx (σ:=Value × Value × Nat × Nat) 2 Bj (fun s_=>[(49,.tuple #[.agg #[s_.1],.agg #[ah av,.string aw,ah ax,.bool bH,s_.2.1]]),(8,.pointer (some ⟨s_.2.2.1,0,none⟩)),(9,.pointer (some ⟨s_.2.2.2,0,none⟩)),(42,.tuple #[.agg #[s_.1],.agg #[ah av,.string aw,ah ax,.bool bH,s_.2.1]]),(50,.agg #[s_.1]),(51,.agg #[ah av,.string aw,ah ax,.bool bH,s_.2.1])]) (fun s_ w'=>(sF w' ab (ah 1) (ah 6) (ah 4) (ah 2) <| jQ w' af (.slice b2 ae.length b3) <| vP w' (a5.add ((a6).toNat * 6)) (ah ((dL aa a6).f0)) (.string ((dL aa a6).f1)) (.string ((dL aa a6).f2)) (ah ((dL aa a6).f3)) (ah ((dL aa a6).f4)) (.string ((dL aa a6).f5)))∧(Kd.R aU 43 w' w.heap.size (fun ay=>some ay≠(.slice b2 ae.length b3:Value).ownBlock) s_.1 az)∧(Kd.R Kd.string 9 w' w.heap.size (fun _=>True) s_.2.1 b0)∧(Kd.R aU 43 w' w.heap.size (fun ay=>some ay≠(s_.1:Value).ownBlock) (.slice b2 ae.length b3) ae)∧(Kd.R mG 45 w' w.heap.size (fun _=>True) (.slice (some a5) aa.length bd) aa)∧(Kd.R (Kd.int .i64) 3 w' w.heap.size (fun _=>True) uQ b1)∧(w'.heap[ab]?=some (.cells #[ah 1,ah 6,ah 4,ah 2] 25))∧(w'.heap[af]?=some (.cells #[.slice b2 ae.length b3] 28))∧(w'.heap[s_.2.2.1]?=some (.cells #[.slice none 0 0] 28))∧(w'.heap[s_.2.2.2]?=some (.cells #[ah 0,.string (⟨#[]⟩:ByteArray),ah 0,.bool false,.slice none 0 0] 49))∧(w.heap.size≤s_.2.2.1)∧(w.heap.size≤s_.2.2.1)∧(ab≠s_.2.2.1)∧(s_.2.2.1≠ab)∧(af≠s_.2.2.1)∧(s_.2.2.1≠af)∧(s_.2.2.2≠s_.2.2.1)∧(s_.2.2.1≠s_.2.2.2)∧(w.heap.size≤s_.2.2.2)∧(w.heap.size≤s_.2.2.2)∧(ab≠s_.2.2.2)∧(s_.2.2.2≠ab)∧(af≠s_.2.2.2)∧(s_.2.2.2≠af)∧(Below w.heap.size w w')) ?_ ?_
 rotate_left
 ·intro Qi
  refine yx (σ:=Value × Value × Nat) 3 Lj (fun s_=>[(49,.tuple #[.agg #[s_.1],.agg #[ah av,.string aw,ah ax,.bool bH,s_.2.1]]),(8,.pointer (some ⟨s_.2.2,0,none⟩)),(42,.tuple #[.agg #[s_.1],.agg #[ah av,.string aw,ah ax,.bool bH,s_.2.1]]),(50,.agg #[s_.1]),(51,.agg #[ah av,.string aw,ah ax,.bool bH,s_.2.1])]) (fun s_ w'=>(sF w' ab (ah 1) (ah 6) (ah 4) (ah 2) <| jQ w' af (.slice b2 ae.length b3) <| vP w' (a5.add ((a6).toNat * 6)) (ah ((dL aa a6).f0)) (.string ((dL aa a6).f1)) (.string ((dL aa a6).f2)) (ah ((dL aa a6).f3)) (ah ((dL aa a6).f4)) (.string ((dL aa a6).f5)))∧(Kd.R aU 43 w' w.heap.size (fun ay=>some ay≠(.slice b2 ae.length b3:Value).ownBlock) s_.1 az)∧(Kd.R Kd.string 9 w' w.heap.size (fun _=>True) s_.2.1 b0)∧(Kd.R aU 43 w' w.heap.size (fun ay=>some ay≠(s_.1:Value).ownBlock) (.slice b2 ae.length b3) ae)∧(Kd.R mG 45 w' w.heap.size (fun _=>True) (.slice (some a5) aa.length bd) aa)∧(Kd.R (Kd.int .i64) 3 w' w.heap.size (fun _=>True) uQ b1)∧(w'.heap[ab]?=some (.cells #[ah 1,ah 6,ah 4,ah 2] 25))∧(w'.heap[af]?=some (.cells #[.slice b2 ae.length b3] 28))∧(w'.heap[s_.2.2]?=some (.cells #[.slice none 0 0] 28))∧(w.heap.size≤s_.2.2)∧(w.heap.size≤s_.2.2)∧(ab≠s_.2.2)∧(s_.2.2≠ab)∧(af≠s_.2.2)∧(s_.2.2≠af)∧(Below w.heap.size w w')) ?_ ?_
  rotate_left
  ·intro XE
   refine yx (σ:=Value × Value × Nat) 3 IZ (fun s_=>[(49,.tuple #[.agg #[s_.1],.agg #[ah av,.string aw,ah ax,.bool bH,s_.2.1]]),(9,.pointer (some ⟨s_.2.2,0,none⟩)),(42,.tuple #[.agg #[s_.1],.agg #[ah av,.string aw,ah ax,.bool bH,s_.2.1]]),(50,.agg #[s_.1]),(51,.agg #[ah av,.string aw,ah ax,.bool bH,s_.2.1])]) (fun s_ w'=>(sF w' ab (ah 1) (ah 6) (ah 4) (ah 2) <| jQ w' af (.slice b2 ae.length b3) <| vP w' (a5.add ((a6).toNat * 6)) (ah ((dL aa a6).f0)) (.string ((dL aa a6).f1)) (.string ((dL aa a6).f2)) (ah ((dL aa a6).f3)) (ah ((dL aa a6).f4)) (.string ((dL aa a6).f5)))∧(Kd.R aU 43 w' w.heap.size (fun ay=>some ay≠(.slice b2 ae.length b3:Value).ownBlock) s_.1 az)∧(Kd.R Kd.string 9 w' w.heap.size (fun _=>True) s_.2.1 b0)∧(Kd.R aU 43 w' w.heap.size (fun ay=>some ay≠(s_.1:Value).ownBlock) (.slice b2 ae.length b3) ae)∧(Kd.R mG 45 w' w.heap.size (fun _=>True) (.slice (some a5) aa.length bd) aa)∧(Kd.R (Kd.int .i64) 3 w' w.heap.size (fun _=>True) uQ b1)∧(w'.heap[ab]?=some (.cells #[ah 1,ah 6,ah 4,ah 2] 25))∧(w'.heap[af]?=some (.cells #[.slice b2 ae.length b3] 28))∧(w'.heap[s_.2.2]?=some (.cells #[ah 0,.string (⟨#[]⟩:ByteArray),ah 0,.bool false,.slice none 0 0] 49))∧(w.heap.size≤s_.2.2)∧(w.heap.size≤s_.2.2)∧(ab≠s_.2.2)∧(s_.2.2≠ab)∧(af≠s_.2.2)∧(s_.2.2≠af)∧(Below w.heap.size w w')) ?_ ?_
   rotate_left
   ·intro XF
    refine yx (σ:=Nat × Nat) 6 PL (fun s_=>[(8,.pointer (some ⟨s_.1,0,none⟩)),(9,.pointer (some ⟨s_.2,0,none⟩))]) (fun s_ w'=>(sF w' ab (ah 1) (ah 6) (ah 4) (ah 2) <| jQ w' af (.slice b2 ae.length b3) <| vP w' (a5.add ((a6).toNat * 6)) (ah ((dL aa a6).f0)) (.string ((dL aa a6).f1)) (.string ((dL aa a6).f2)) (ah ((dL aa a6).f3)) (ah ((dL aa a6).f4)) (.string ((dL aa a6).f5)))∧(Kd.R aU 43 w' w.heap.size (fun _=>True) (.slice b2 ae.length b3) ae)∧(Kd.R mG 45 w' w.heap.size (fun _=>True) (.slice (some a5) aa.length bd) aa)∧(Kd.R (Kd.int .i64) 3 w' w.heap.size (fun _=>True) uQ b1)∧(w'.heap[ab]?=some (.cells #[ah 1,ah 6,ah 4,ah 2] 25))∧(w'.heap[af]?=some (.cells #[.slice b2 ae.length b3] 28))∧(w'.heap[s_.1]?=some (.cells #[.slice none 0 0] 28))∧(w'.heap[s_.2]?=some (.cells #[ah 0,.string (⟨#[]⟩:ByteArray),ah 0,.bool false,.slice none 0 0] 49))∧(w.heap.size≤s_.1)∧(w.heap.size≤s_.1)∧(ab≠s_.1)∧(s_.1≠ab)∧(af≠s_.1)∧(s_.1≠af)∧(s_.2≠s_.1)∧(s_.1≠s_.2)∧(w.heap.size≤s_.2)∧(w.heap.size≤s_.2)∧(ab≠s_.2)∧(s_.2≠ab)∧(af≠s_.2)∧(s_.2≠af)∧(Below w.heap.size w w')) ?_ ?_
    rotate_left
    ·intro XD
     refine yx (σ:=Value × Value) 4 PN (fun s_=>[(49,.tuple #[.agg #[s_.1],.agg #[ah av,.string aw,ah ax,.bool bH,s_.2]]),(42,.tuple #[.agg #[s_.1],.agg #[ah av,.string aw,ah ax,.bool bH,s_.2]]),(50,.agg #[s_.1]),(51,.agg #[ah av,.string aw,ah ax,.bool bH,s_.2])]) (fun s_ w'=>(sF w' ab (ah 1) (ah 6) (ah 4) (ah 2) <| jQ w' af (.slice b2 ae.length b3) <| vP w' (a5.add ((a6).toNat * 6)) (ah ((dL aa a6).f0)) (.string ((dL aa a6).f1)) (.string ((dL aa a6).f2)) (ah ((dL aa a6).f3)) (ah ((dL aa a6).f4)) (.string ((dL aa a6).f5)))∧(Kd.R aU 43 w' w.heap.size (fun ay=>some ay≠(.slice b2 ae.length b3:Value).ownBlock) s_.1 az)∧(Kd.R Kd.string 9 w' w.heap.size (fun _=>True) s_.2 b0)∧(Kd.R aU 43 w' w.heap.size (fun ay=>some ay≠(s_.1:Value).ownBlock) (.slice b2 ae.length b3) ae)∧(Kd.R mG 45 w' w.heap.size (fun _=>True) (.slice (some a5) aa.length bd) aa)∧(Kd.R (Kd.int .i64) 3 w' w.heap.size (fun _=>True) uQ b1)∧(w'.heap[ab]?=some (.cells #[ah 1,ah 6,ah 4,ah 2] 25))∧(w'.heap[af]?=some (.cells #[.slice b2 ae.length b3] 28))∧(Below w.heap.size w w')) ?_ ?_
     rotate_left
     ·intro ada
      refine yx (σ:=Nat) 7 WC (fun s_=>[(8,.pointer (some ⟨s_,0,none⟩))]) (fun s_ w'=>(sF w' ab (ah 1) (ah 6) (ah 4) (ah 2) <| jQ w' af (.slice b2 ae.length b3) <| vP w' (a5.add ((a6).toNat * 6)) (ah ((dL aa a6).f0)) (.string ((dL aa a6).f1)) (.string ((dL aa a6).f2)) (ah ((dL aa a6).f3)) (ah ((dL aa a6).f4)) (.string ((dL aa a6).f5)))∧(Kd.R aU 43 w' w.heap.size (fun _=>True) (.slice b2 ae.length b3) ae)∧(Kd.R mG 45 w' w.heap.size (fun _=>True) (.slice (some a5) aa.length bd) aa)∧(Kd.R (Kd.int .i64) 3 w' w.heap.size (fun _=>True) uQ b1)∧(w'.heap[ab]?=some (.cells #[ah 1,ah 6,ah 4,ah 2] 25))∧(w'.heap[af]?=some (.cells #[.slice b2 ae.length b3] 28))∧(w'.heap[s_]?=some (.cells #[.slice none 0 0] 28))∧(w.heap.size≤s_)∧(w.heap.size≤s_)∧(ab≠s_)∧(s_≠ab)∧(af≠s_)∧(s_≠af)∧(Below w.heap.size w w')) ?_ ?_
      rotate_left
      ·intro ac_
       refine yx (σ:=Nat) 7 PD (fun s_=>[(9,.pointer (some ⟨s_,0,none⟩))]) (fun s_ w'=>(sF w' ab (ah 1) (ah 6) (ah 4) (ah 2) <| jQ w' af (.slice b2 ae.length b3) <| vP w' (a5.add ((a6).toNat * 6)) (ah ((dL aa a6).f0)) (.string ((dL aa a6).f1)) (.string ((dL aa a6).f2)) (ah ((dL aa a6).f3)) (ah ((dL aa a6).f4)) (.string ((dL aa a6).f5)))∧(Kd.R aU 43 w' w.heap.size (fun _=>True) (.slice b2 ae.length b3) ae)∧(Kd.R mG 45 w' w.heap.size (fun _=>True) (.slice (some a5) aa.length bd) aa)∧(Kd.R (Kd.int .i64) 3 w' w.heap.size (fun _=>True) uQ b1)∧(w'.heap[ab]?=some (.cells #[ah 1,ah 6,ah 4,ah 2] 25))∧(w'.heap[af]?=some (.cells #[.slice b2 ae.length b3] 28))∧(w'.heap[s_]?=some (.cells #[ah 0,.string (⟨#[]⟩:ByteArray),ah 0,.bool false,.slice none 0 0] 49))∧(w.heap.size≤s_)∧(w.heap.size≤s_)∧(ab≠s_)∧(s_≠ab)∧(af≠s_)∧(s_≠af)∧(Below w.heap.size w w')) ?_ ?_
       rotate_left
       ·intro ac'
        refine akA (i:=6) (j:=10) (k:=11) (Ni:=some 49) (uJ:=some 8) (O4:=some 9) Wj WC PD rfl rfl rfl rfl rfl rfl (akB aO.out aB) (by decide) (by decide) (by decide) (fun K hK=>?_) (fun K hK=>?_) (fun K hK=>?_)
        ·skip
         refine i_ func22 aB rfl #[.agg #[ah 1,ah 6,ah 4,ah 2],.agg #[.slice b2 ae.length b3],.agg #[ah ((dL aa a6).f0),.string ((dL aa a6).f1),.string ((dL aa a6).f2),ah ((dL aa a6).f3),ah ((dL aa a6).f4),.string ((dL aa a6).f5)]] (by rfl) rfl rfl aX ?_
         with_reducible refine (Ar.calls k1 1 6 4 2 _ _ ae ((dL aa a6).f0) ((dL aa a6).f1) ((dL aa a6).f2) ((dL aa a6).f3) ((dL aa a6).f4) ((dL aa a6).f5) az av aw ax bH b0 _ (iK.below HD.out au) NZ ((Kd.dN fU.out).2.1) dv.out).mono ?_
         rintro e ef ⟨sD,uI,rfl,ho0,ho1,hb⟩
         have nM:=(hb.cell (World.block_lt_of_cell? _ _ (hH.2.2.2.2.2.1))).trans (hH.2.2.2.2.2.1)
         have qY:=(hb.cell (World.block_lt_of_cell? _ _ (hH.2.2.2.2.2.2.1))).trans (hH.2.2.2.2.2.2.1)
         have qZ:=(hb.cell (World.block_lt_of_cell? _ _ (hH.2.2.2.2.2.2.2.1))).trans (hH.2.2.2.2.2.2.2.1)
         have q_:=(hb.cell (World.block_lt_of_cell? _ _ (hH.2.2.2.2.2.2.2.2.1))).trans (hH.2.2.2.2.2.2.2.2.1)
         have ru:=(hb.cell (World.block_lt_of_cell? _ _ (hH.2.2.2.2.2.2.2.2.2.1))).trans (hH.2.2.2.2.2.2.2.2.2.1)
         have qX:=(hb.cell (World.block_lt_of_cell? _ _ (hH.2.2.2.2.2.2.2.2.2.2))).trans (hH.2.2.2.2.2.2.2.2.2.2)
         refine ⟨_,rfl,?_⟩
         obtain ⟨dn,gQ,fU,o8,ao,a7,a9,HB⟩:=p_ (Kd.dw (aJ dn) hb) <| p_ (Kd.dw (aJ gQ) hb) <| p_ (Kd.jX (aJ fU) (Kd.jo ho0) hb) <| p_ (Kd.dI (Kd.jY ho0 (Kd.jJ (aJ fU))) (cZ au)) <| p_ (Kd.dI ho1 (cZ au)) <| Ai (ak a7) (ak a9) au hb
         (try clear hb)
         (try clear ho0)
         (try clear ho1)
         refine hK.out _ _ (mV a7.out ⟨(aP a9.out 0).trans rfl,nM,qY,qZ,q_,ru,qX⟩) (fun hH=>?_)
         clear hK K
         refine eX (some 49) ?_
         refine cu 7 42 Wn aO ?_
         refine cu 8 50 Wp aO ?_
         refine cu 9 51 PN aO ?_
         exact lW yK (ada (sD,uI) _ ⟨hH,Ob,(aJ ao),Oa,(aJ dn),(aJ gQ),(ak a7),(ak a9),au⟩)
        ·skip
         refine wU ?hg (N:=8) ?hd (cs:=#[.slice none 0 0]) (t:=28) ?hr ?_;(case hd=>rfl);(case hg=>rfl);(case hr=>first|(go_simp;done)|(go_simp;rfl))
         intro ag hg ef hbox hb
         have nM:=(hb.cell (World.block_lt_of_cell? _ _ (hH.2.2.2.2.2.1))).trans (hH.2.2.2.2.2.1)
         have qY:=(hb.cell (World.block_lt_of_cell? _ _ (hH.2.2.2.2.2.2.1))).trans (hH.2.2.2.2.2.2.1)
         have qZ:=(hb.cell (World.block_lt_of_cell? _ _ (hH.2.2.2.2.2.2.2.1))).trans (hH.2.2.2.2.2.2.2.1)
         have q_:=(hb.cell (World.block_lt_of_cell? _ _ (hH.2.2.2.2.2.2.2.2.1))).trans (hH.2.2.2.2.2.2.2.2.1)
         have ru:=(hb.cell (World.block_lt_of_cell? _ _ (hH.2.2.2.2.2.2.2.2.2.1))).trans (hH.2.2.2.2.2.2.2.2.2.1)
         have qX:=(hb.cell (World.block_lt_of_cell? _ _ (hH.2.2.2.2.2.2.2.2.2.2))).trans (hH.2.2.2.2.2.2.2.2.2.2)
         obtain ⟨dn,gQ,fU,a7,a9,HB,lJ,b5,b6,ai,aQ,aN,al⟩:=p_ (Kd.dw (aJ dn) hb) <| p_ (Kd.dw (aJ gQ) hb) <| p_ (Kd.dw (aJ fU) hb) <| pU (ak a7) (ak a9) au hb hbox hg
         clear hb hbox hg
         refine hK.out _ _ (mV a7.out ⟨(aP a9.out 0).trans rfl,nM,qY,qZ,q_,ru,qX⟩) (fun hH=>?_)
         clear hK K
         refine eX (some 8) ?_
         exact lW yK (ac_ (ag) _ ⟨hH,(aJ fU),(aJ dn),(aJ gQ),(ak a7),(ak a9),(ak lJ),b5.out,b6.out,ai.out,aQ.out,aN.out,al.out,au⟩)
        ·skip
         refine wU ?hg (N:=9) ?hd (cs:=#[ah 0,.string (⟨#[]⟩:ByteArray),ah 0,.bool false,.slice none 0 0]) (t:=49) ?hr ?_;(case hd=>rfl);(case hg=>rfl);(case hr=>first|(go_simp;done)|(go_simp;rfl))
         intro a8 hg ef hbox hb
         have nM:=(hb.cell (World.block_lt_of_cell? _ _ (hH.2.2.2.2.2.1))).trans (hH.2.2.2.2.2.1)
         have qY:=(hb.cell (World.block_lt_of_cell? _ _ (hH.2.2.2.2.2.2.1))).trans (hH.2.2.2.2.2.2.1)
         have qZ:=(hb.cell (World.block_lt_of_cell? _ _ (hH.2.2.2.2.2.2.2.1))).trans (hH.2.2.2.2.2.2.2.1)
         have q_:=(hb.cell (World.block_lt_of_cell? _ _ (hH.2.2.2.2.2.2.2.2.1))).trans (hH.2.2.2.2.2.2.2.2.1)
         have ru:=(hb.cell (World.block_lt_of_cell? _ _ (hH.2.2.2.2.2.2.2.2.2.1))).trans (hH.2.2.2.2.2.2.2.2.2.1)
         have qX:=(hb.cell (World.block_lt_of_cell? _ _ (hH.2.2.2.2.2.2.2.2.2.2))).trans (hH.2.2.2.2.2.2.2.2.2.2)
         obtain ⟨dn,gQ,fU,a7,a9,HB,jR,b7,b8,ac,am,aK,an⟩:=p_ (Kd.dw (aJ dn) hb) <| p_ (Kd.dw (aJ gQ) hb) <| p_ (Kd.dw (aJ fU) hb) <| pU (ak a7) (ak a9) au hb hbox hg
         clear hb hbox hg
         refine hK.out _ _ (mV a7.out ⟨(aP a9.out 0).trans rfl,nM,qY,qZ,q_,ru,qX⟩) (fun hH=>?_)
         clear hK K
         refine eX (some 9) ?_
         exact lW yK (ac' (a8) _ ⟨hH,(aJ fU),(aJ dn),(aJ gQ),(ak a7),(ak a9),(ak jR),b7.out,b8.out,ac.out,am.out,aK.out,an.out,au⟩)
       ·skip
        rintro a8 b9 ⟨oG,rG,rH,rJ,rM,rO,rP,rQ,rU,wu,wz,vY,vZ,wo⟩
        obtain ⟨fU,dn,gQ,a7,a9,jR,b7,b8,ac,am,aK,an,HB⟩:=bY (⟨rG⟩:aA (Kd.R aU 43 b9 w.heap.size (fun _=>True) (.slice b2 ae.length b3) ae)) <| bY (⟨rH⟩:aA (Kd.R mG 45 b9 w.heap.size (fun _=>True) (.slice (some a5) aa.length bd) aa)) <| bY (⟨rJ⟩:aA (Kd.R (Kd.int .i64) 3 b9 w.heap.size (fun _=>True) uQ b1)) <| bY (⟨rM⟩:aA (b9.heap[ab]?=some (.cells #[ah 1,ah 6,ah 4,ah 2] 25))) <| bY (⟨rO⟩:aA (b9.heap[af]?=some (.cells #[.slice b2 ae.length b3] 28))) <| bY (⟨rP⟩:aA (b9.heap[a8]?=some (.cells #[ah 0,.string (⟨#[]⟩:ByteArray),ah 0,.bool false,.slice none 0 0] 49))) <| bY (⟨rQ⟩:aA (w.heap.size≤a8)) <| bY (⟨rU⟩:aA (w.heap.size≤a8)) <| bY (⟨wu⟩:aA (ab≠a8)) <| bY (⟨wz⟩:aA (a8≠ab)) <| bY (⟨vY⟩:aA (af≠a8)) <| bY (⟨vZ⟩:aA (a8≠af)) <| (⟨wo⟩:aA (Below w.heap.size w b9))
        have hH:sF b9 ab (ah 1) (ah 6) (ah 4) (ah 2) <| jQ b9 af (.slice b2 ae.length b3) <| vP b9 (a5.add ((a6).toNat * 6)) (ah ((dL aa a6).f0)) (.string ((dL aa a6).f1)) (.string ((dL aa a6).f2)) (ah ((dL aa a6).f3)) (ah ((dL aa a6).f4)) (.string ((dL aa a6).f5)):=oG
        refine lW (a':=?_) ?_ ?_
        rotate_left
        ·simp only [uO,Act.put,List.setIfInBounds_toArray,List.set_cons_zero,List.set_cons_succ]
         rfl
        refine yM (i:=6) (j:=10) (Ni:=some 49) (uJ:=some 8) PE PL rfl rfl rfl rfl (yN aO.out aB) (by decide) (by decide) (fun K hK=>?_) (fun K hK=>?_)
        ·skip
         refine i_ func22 aB rfl #[.agg #[ah 1,ah 6,ah 4,ah 2],.agg #[.slice b2 ae.length b3],.agg #[ah ((dL aa a6).f0),.string ((dL aa a6).f1),.string ((dL aa a6).f2),ah ((dL aa a6).f3),ah ((dL aa a6).f4),.string ((dL aa a6).f5)]] (by rfl) rfl rfl aX ?_
         with_reducible refine (Ar.calls k1 1 6 4 2 _ _ ae ((dL aa a6).f0) ((dL aa a6).f1) ((dL aa a6).f2) ((dL aa a6).f3) ((dL aa a6).f4) ((dL aa a6).f5) az av aw ax bH b0 _ (iK.below HD.out au) NZ ((Kd.dN fU.out).2.1) dv.out).mono ?_
         rintro e b4 ⟨sD,uI,rfl,ho0,ho1,hb⟩
         have nM:=(hb.cell (World.block_lt_of_cell? _ _ (hH.2.2.2.2.2.1))).trans (hH.2.2.2.2.2.1)
         have qY:=(hb.cell (World.block_lt_of_cell? _ _ (hH.2.2.2.2.2.2.1))).trans (hH.2.2.2.2.2.2.1)
         have qZ:=(hb.cell (World.block_lt_of_cell? _ _ (hH.2.2.2.2.2.2.2.1))).trans (hH.2.2.2.2.2.2.2.1)
         have q_:=(hb.cell (World.block_lt_of_cell? _ _ (hH.2.2.2.2.2.2.2.2.1))).trans (hH.2.2.2.2.2.2.2.2.1)
         have ru:=(hb.cell (World.block_lt_of_cell? _ _ (hH.2.2.2.2.2.2.2.2.2.1))).trans (hH.2.2.2.2.2.2.2.2.2.1)
         have qX:=(hb.cell (World.block_lt_of_cell? _ _ (hH.2.2.2.2.2.2.2.2.2.2))).trans (hH.2.2.2.2.2.2.2.2.2.2)
         refine ⟨_,rfl,?_⟩
         obtain ⟨dn,gQ,fU,o8,ao,a7,a9,jR,HB⟩:=p_ (Kd.dw (aJ dn) hb) <| p_ (Kd.dw (aJ gQ) hb) <| p_ (Kd.jX (aJ fU) (Kd.jo ho0) hb) <| p_ (Kd.dI (Kd.jY ho0 (Kd.jJ (aJ fU))) (cZ au)) <| p_ (Kd.dI ho1 (cZ au)) <| lD (ak a7) (ak a9) (ak jR) au hb
         (try clear hb)
         (try clear ho0)
         (try clear ho1)
         refine hK.out _ _ (mV a7.out ⟨(aP a9.out 0).trans rfl,nM,qY,qZ,q_,ru,qX⟩) (fun hH=>?_)
         clear hK K
         refine eX (some 49) ?_
         refine cu 7 42 PG aO ?_
         refine cu 8 50 PI aO ?_
         refine cu 9 51 IZ aO ?_
         exact lW yK (XF (sD,uI,a8) _ ⟨hH,Ob,(aJ ao),Oa,(aJ dn),(aJ gQ),(ak a7),(ak a9),(ak jR),b7.out,b8.out,ac.out,am.out,aK.out,an.out,au⟩)
        ·skip
         refine wU ?hg (N:=8) ?hd (cs:=#[.slice none 0 0]) (t:=28) ?hr ?_;(case hd=>rfl);(case hg=>rfl);(case hr=>first|(go_simp;done)|(go_simp;rfl))
         intro ag hg b4 hbox hb
         have nM:=(hb.cell (World.block_lt_of_cell? _ _ (hH.2.2.2.2.2.1))).trans (hH.2.2.2.2.2.1)
         have qY:=(hb.cell (World.block_lt_of_cell? _ _ (hH.2.2.2.2.2.2.1))).trans (hH.2.2.2.2.2.2.1)
         have qZ:=(hb.cell (World.block_lt_of_cell? _ _ (hH.2.2.2.2.2.2.2.1))).trans (hH.2.2.2.2.2.2.2.1)
         have q_:=(hb.cell (World.block_lt_of_cell? _ _ (hH.2.2.2.2.2.2.2.2.1))).trans (hH.2.2.2.2.2.2.2.2.1)
         have ru:=(hb.cell (World.block_lt_of_cell? _ _ (hH.2.2.2.2.2.2.2.2.2.1))).trans (hH.2.2.2.2.2.2.2.2.2.1)
         have qX:=(hb.cell (World.block_lt_of_cell? _ _ (hH.2.2.2.2.2.2.2.2.2.2))).trans (hH.2.2.2.2.2.2.2.2.2.2)
         obtain ⟨dn,gQ,fU,a7,a9,jR,HB,lJ,b5,b6,ai,aQ,aN,al,aq,ar⟩:=p_ (Kd.dw (aJ dn) hb) <| p_ (Kd.dw (aJ gQ) hb) <| p_ (Kd.dw (aJ fU) hb) <| vI (ak a7) (ak a9) (ak jR) au hb hbox hg
         clear hb hbox hg
         refine hK.out _ _ (mV a7.out ⟨(aP a9.out 0).trans rfl,nM,qY,qZ,q_,ru,qX⟩) (fun hH=>?_)
         clear hK K
         refine eX (some 8) ?_
         exact lW yK (XD (ag,a8) _ ⟨hH,(aJ fU),(aJ dn),(aJ gQ),(ak a7),(ak a9),(ak lJ),(ak jR),b5.out,b6.out,ai.out,aQ.out,aN.out,al.out,aq.out,ar.out,b7.out,b8.out,ac.out,am.out,aK.out,an.out,au⟩)
      ·skip
       rintro ag b9 ⟨oG,rG,rH,rJ,rM,rO,rP,rQ,rU,wu,wz,vY,vZ,wo⟩
       obtain ⟨fU,dn,gQ,a7,a9,lJ,b5,b6,ai,aQ,aN,al,HB⟩:=bY (⟨rG⟩:aA (Kd.R aU 43 b9 w.heap.size (fun _=>True) (.slice b2 ae.length b3) ae)) <| bY (⟨rH⟩:aA (Kd.R mG 45 b9 w.heap.size (fun _=>True) (.slice (some a5) aa.length bd) aa)) <| bY (⟨rJ⟩:aA (Kd.R (Kd.int .i64) 3 b9 w.heap.size (fun _=>True) uQ b1)) <| bY (⟨rM⟩:aA (b9.heap[ab]?=some (.cells #[ah 1,ah 6,ah 4,ah 2] 25))) <| bY (⟨rO⟩:aA (b9.heap[af]?=some (.cells #[.slice b2 ae.length b3] 28))) <| bY (⟨rP⟩:aA (b9.heap[ag]?=some (.cells #[.slice none 0 0] 28))) <| bY (⟨rQ⟩:aA (w.heap.size≤ag)) <| bY (⟨rU⟩:aA (w.heap.size≤ag)) <| bY (⟨wu⟩:aA (ab≠ag)) <| bY (⟨wz⟩:aA (ag≠ab)) <| bY (⟨vY⟩:aA (af≠ag)) <| bY (⟨vZ⟩:aA (ag≠af)) <| (⟨wo⟩:aA (Below w.heap.size w b9))
       have hH:sF b9 ab (ah 1) (ah 6) (ah 4) (ah 2) <| jQ b9 af (.slice b2 ae.length b3) <| vP b9 (a5.add ((a6).toNat * 6)) (ah ((dL aa a6).f0)) (.string ((dL aa a6).f1)) (.string ((dL aa a6).f2)) (ah ((dL aa a6).f3)) (ah ((dL aa a6).f4)) (.string ((dL aa a6).f5)):=oG
       refine lW (a':=?_) ?_ ?_
       rotate_left
       ·simp only [uO,Act.put,List.setIfInBounds_toArray,List.set_cons_zero,List.set_cons_succ]
        rfl
       refine yM (i:=6) (j:=11) (Ni:=some 49) (uJ:=some 9) #[aj,aj,aj,aj,aj,aj,aj,F_,F_,F_,aj,F_,F_,F_] PL rfl rfl rfl rfl (yN aO.out aB) (by decide) (by decide) (fun K hK=>?_) (fun K hK=>?_)
       ·skip
        refine i_ func22 aB rfl #[.agg #[ah 1,ah 6,ah 4,ah 2],.agg #[.slice b2 ae.length b3],.agg #[ah ((dL aa a6).f0),.string ((dL aa a6).f1),.string ((dL aa a6).f2),ah ((dL aa a6).f3),ah ((dL aa a6).f4),.string ((dL aa a6).f5)]] (by rfl) rfl rfl aX ?_
        with_reducible refine (Ar.calls k1 1 6 4 2 _ _ ae ((dL aa a6).f0) ((dL aa a6).f1) ((dL aa a6).f2) ((dL aa a6).f3) ((dL aa a6).f4) ((dL aa a6).f5) az av aw ax bH b0 _ (iK.below HD.out au) NZ ((Kd.dN fU.out).2.1) dv.out).mono ?_
        rintro e b4 ⟨sD,uI,rfl,ho0,ho1,hb⟩
        have nM:=(hb.cell (World.block_lt_of_cell? _ _ (hH.2.2.2.2.2.1))).trans (hH.2.2.2.2.2.1)
        have qY:=(hb.cell (World.block_lt_of_cell? _ _ (hH.2.2.2.2.2.2.1))).trans (hH.2.2.2.2.2.2.1)
        have qZ:=(hb.cell (World.block_lt_of_cell? _ _ (hH.2.2.2.2.2.2.2.1))).trans (hH.2.2.2.2.2.2.2.1)
        have q_:=(hb.cell (World.block_lt_of_cell? _ _ (hH.2.2.2.2.2.2.2.2.1))).trans (hH.2.2.2.2.2.2.2.2.1)
        have ru:=(hb.cell (World.block_lt_of_cell? _ _ (hH.2.2.2.2.2.2.2.2.2.1))).trans (hH.2.2.2.2.2.2.2.2.2.1)
        have qX:=(hb.cell (World.block_lt_of_cell? _ _ (hH.2.2.2.2.2.2.2.2.2.2))).trans (hH.2.2.2.2.2.2.2.2.2.2)
        refine ⟨_,rfl,?_⟩
        obtain ⟨dn,gQ,fU,o8,ao,a7,a9,lJ,HB⟩:=p_ (Kd.dw (aJ dn) hb) <| p_ (Kd.dw (aJ gQ) hb) <| p_ (Kd.jX (aJ fU) (Kd.jo ho0) hb) <| p_ (Kd.dI (Kd.jY ho0 (Kd.jJ (aJ fU))) (cZ au)) <| p_ (Kd.dI ho1 (cZ au)) <| lD (ak a7) (ak a9) (ak lJ) au hb
        (try clear hb)
        (try clear ho0)
        (try clear ho1)
        refine hK.out _ _ (mV a7.out ⟨(aP a9.out 0).trans rfl,nM,qY,qZ,q_,ru,qX⟩) (fun hH=>?_)
        clear hK K
        refine eX (some 49) ?_
        refine cu 7 42 #[aj,aj,aj,aj,aj,aj,aj,aj,F_,F_,aj,F_,F_,F_] aO ?_
        refine cu 8 50 #[aj,aj,aj,aj,aj,aj,aj,aj,aj,F_,aj,F_,F_,F_] aO ?_
        refine cu 9 51 Lj aO ?_
        exact lW yK (XE (sD,uI,ag) _ ⟨hH,Ob,(aJ ao),Oa,(aJ dn),(aJ gQ),(ak a7),(ak a9),(ak lJ),b5.out,b6.out,ai.out,aQ.out,aN.out,al.out,au⟩)
       ·skip
        refine wU ?hg (N:=9) ?hd (cs:=#[ah 0,.string (⟨#[]⟩:ByteArray),ah 0,.bool false,.slice none 0 0]) (t:=49) ?hr ?_;(case hd=>rfl);(case hg=>rfl);(case hr=>first|(go_simp;done)|(go_simp;rfl))
        intro a8 hg b4 hbox hb
        have nM:=(hb.cell (World.block_lt_of_cell? _ _ (hH.2.2.2.2.2.1))).trans (hH.2.2.2.2.2.1)
        have qY:=(hb.cell (World.block_lt_of_cell? _ _ (hH.2.2.2.2.2.2.1))).trans (hH.2.2.2.2.2.2.1)
        have qZ:=(hb.cell (World.block_lt_of_cell? _ _ (hH.2.2.2.2.2.2.2.1))).trans (hH.2.2.2.2.2.2.2.1)
        have q_:=(hb.cell (World.block_lt_of_cell? _ _ (hH.2.2.2.2.2.2.2.2.1))).trans (hH.2.2.2.2.2.2.2.2.1)
        have ru:=(hb.cell (World.block_lt_of_cell? _ _ (hH.2.2.2.2.2.2.2.2.2.1))).trans (hH.2.2.2.2.2.2.2.2.2.1)
        have qX:=(hb.cell (World.block_lt_of_cell? _ _ (hH.2.2.2.2.2.2.2.2.2.2))).trans (hH.2.2.2.2.2.2.2.2.2.2)
        obtain ⟨dn,gQ,fU,a7,a9,lJ,HB,jR,b7,b8,ac,am,aK,an,ar,aq⟩:=p_ (Kd.dw (aJ dn) hb) <| p_ (Kd.dw (aJ gQ) hb) <| p_ (Kd.dw (aJ fU) hb) <| vI (ak a7) (ak a9) (ak lJ) au hb hbox hg
        clear hb hbox hg
        refine hK.out _ _ (mV a7.out ⟨(aP a9.out 0).trans rfl,nM,qY,qZ,q_,ru,qX⟩) (fun hH=>?_)
        clear hK K
        refine eX (some 9) ?_
        exact lW yK (XD (ag,a8) _ ⟨hH,(aJ fU),(aJ dn),(aJ gQ),(ak a7),(ak a9),(ak lJ),(ak jR),b5.out,b6.out,ai.out,aQ.out,aN.out,al.out,aq.out,ar.out,b7.out,b8.out,ac.out,am.out,aK.out,an.out,au⟩)
     ·skip
      rintro ⟨sD,uI⟩ b9 ⟨oG,rG,rH,rJ,rM,rO,rP,rQ,rU⟩
      obtain ⟨o8,ao,fU,dn,gQ,a7,a9,HB⟩:=bY (⟨rG⟩:aA (Kd.R aU 43 b9 w.heap.size (fun ay=>some ay≠(.slice b2 ae.length b3:Value).ownBlock) sD az)) <| bY (⟨rH⟩:aA (Kd.R Kd.string 9 b9 w.heap.size (fun _=>True) uI b0)) <| bY (⟨rJ⟩:aA (Kd.R aU 43 b9 w.heap.size (fun ay=>some ay≠(sD:Value).ownBlock) (.slice b2 ae.length b3) ae)) <| bY (⟨rM⟩:aA (Kd.R mG 45 b9 w.heap.size (fun _=>True) (.slice (some a5) aa.length bd) aa)) <| bY (⟨rO⟩:aA (Kd.R (Kd.int .i64) 3 b9 w.heap.size (fun _=>True) uQ b1)) <| bY (⟨rP⟩:aA (b9.heap[ab]?=some (.cells #[ah 1,ah 6,ah 4,ah 2] 25))) <| bY (⟨rQ⟩:aA (b9.heap[af]?=some (.cells #[.slice b2 ae.length b3] 28))) <| (⟨rU⟩:aA (Below w.heap.size w b9))
      have hH:sF b9 ab (ah 1) (ah 6) (ah 4) (ah 2) <| jQ b9 af (.slice b2 ae.length b3) <| vP b9 (a5.add ((a6).toNat * 6)) (ah ((dL aa a6).f0)) (.string ((dL aa a6).f1)) (.string ((dL aa a6).f2)) (ah ((dL aa a6).f3)) (ah ((dL aa a6).f4)) (.string ((dL aa a6).f5)):=oG
      refine lW (a':=?_) ?_ ?_
      rotate_left
      ·simp only [uO,Act.put,List.setIfInBounds_toArray,List.set_cons_zero,List.set_cons_succ]
       rfl
      refine yM (i:=10) (j:=11) (Ni:=some 8) (uJ:=some 9) Lj IZ rfl rfl rfl rfl (yN aO.out aB) (by decide) (by decide) (fun K hK=>?_) (fun K hK=>?_)
      ·skip
       refine wU ?hg (N:=8) ?hd (cs:=#[.slice none 0 0]) (t:=28) ?hr ?_;(case hd=>rfl);(case hg=>rfl);(case hr=>first|(go_simp;done)|(go_simp;rfl))
       intro ag hg b4 hbox hb
       have nM:=(hb.cell (World.block_lt_of_cell? _ _ (hH.2.2.2.2.2.1))).trans (hH.2.2.2.2.2.1)
       have qY:=(hb.cell (World.block_lt_of_cell? _ _ (hH.2.2.2.2.2.2.1))).trans (hH.2.2.2.2.2.2.1)
       have qZ:=(hb.cell (World.block_lt_of_cell? _ _ (hH.2.2.2.2.2.2.2.1))).trans (hH.2.2.2.2.2.2.2.1)
       have q_:=(hb.cell (World.block_lt_of_cell? _ _ (hH.2.2.2.2.2.2.2.2.1))).trans (hH.2.2.2.2.2.2.2.2.1)
       have ru:=(hb.cell (World.block_lt_of_cell? _ _ (hH.2.2.2.2.2.2.2.2.2.1))).trans (hH.2.2.2.2.2.2.2.2.2.1)
       have qX:=(hb.cell (World.block_lt_of_cell? _ _ (hH.2.2.2.2.2.2.2.2.2.2))).trans (hH.2.2.2.2.2.2.2.2.2.2)
       obtain ⟨dn,gQ,fU,o8,ao,a7,a9,HB,lJ,b5,b6,ai,aQ,aN,al⟩:=p_ (Kd.dw (aJ dn) hb) <| p_ (Kd.dw (aJ gQ) hb) <| p_ (Kd.dw (aJ fU) hb) <| p_ (Kd.dw (aJ o8) hb) <| p_ (Kd.dw (aJ ao) hb) <| pU (ak a7) (ak a9) au hb hbox hg
       clear hb hbox hg
       refine hK.out _ _ (mV a7.out ⟨(aP a9.out 0).trans rfl,nM,qY,qZ,q_,ru,qX⟩) (fun hH=>?_)
       clear hK K
       refine eX (some 8) ?_
       exact lW yK (XE (sD,uI,ag) _ ⟨hH,(aJ o8),(aJ ao),(aJ fU),(aJ dn),(aJ gQ),(ak a7),(ak a9),(ak lJ),b5.out,b6.out,ai.out,aQ.out,aN.out,al.out,au⟩)
      ·skip
       refine wU ?hg (N:=9) ?hd (cs:=#[ah 0,.string (⟨#[]⟩:ByteArray),ah 0,.bool false,.slice none 0 0]) (t:=49) ?hr ?_;(case hd=>rfl);(case hg=>rfl);(case hr=>first|(go_simp;done)|(go_simp;rfl))
       intro a8 hg b4 hbox hb
       have nM:=(hb.cell (World.block_lt_of_cell? _ _ (hH.2.2.2.2.2.1))).trans (hH.2.2.2.2.2.1)
       have qY:=(hb.cell (World.block_lt_of_cell? _ _ (hH.2.2.2.2.2.2.1))).trans (hH.2.2.2.2.2.2.1)
       have qZ:=(hb.cell (World.block_lt_of_cell? _ _ (hH.2.2.2.2.2.2.2.1))).trans (hH.2.2.2.2.2.2.2.1)
       have q_:=(hb.cell (World.block_lt_of_cell? _ _ (hH.2.2.2.2.2.2.2.2.1))).trans (hH.2.2.2.2.2.2.2.2.1)
       have ru:=(hb.cell (World.block_lt_of_cell? _ _ (hH.2.2.2.2.2.2.2.2.2.1))).trans (hH.2.2.2.2.2.2.2.2.2.1)
       have qX:=(hb.cell (World.block_lt_of_cell? _ _ (hH.2.2.2.2.2.2.2.2.2.2))).trans (hH.2.2.2.2.2.2.2.2.2.2)
       obtain ⟨dn,gQ,fU,o8,ao,a7,a9,HB,jR,b7,b8,ac,am,aK,an⟩:=p_ (Kd.dw (aJ dn) hb) <| p_ (Kd.dw (aJ gQ) hb) <| p_ (Kd.dw (aJ fU) hb) <| p_ (Kd.dw (aJ o8) hb) <| p_ (Kd.dw (aJ ao) hb) <| pU (ak a7) (ak a9) au hb hbox hg
       clear hb hbox hg
       refine hK.out _ _ (mV a7.out ⟨(aP a9.out 0).trans rfl,nM,qY,qZ,q_,ru,qX⟩) (fun hH=>?_)
       clear hK K
       refine eX (some 9) ?_
       exact lW yK (XF (sD,uI,a8) _ ⟨hH,(aJ o8),(aJ ao),(aJ fU),(aJ dn),(aJ gQ),(ak a7),(ak a9),(ak jR),b7.out,b8.out,ac.out,am.out,aK.out,an.out,au⟩)
    ·skip
     rintro ⟨ag,a8⟩ b4 ⟨oG,rG,rH,rJ,rM,rO,rP,rQ,rU,wu,wz,vY,vZ,wo,yY,yZ,Dv,Dw,Dx,Dy,Dz,Qg,Qh⟩
     obtain ⟨fU,dn,gQ,a7,a9,lJ,jR,b5,b6,ai,aQ,aN,al,aq,ar,b7,b8,ac,am,aK,an,HB⟩:=bY (⟨rG⟩:aA (Kd.R aU 43 b4 w.heap.size (fun _=>True) (.slice b2 ae.length b3) ae)) <| bY (⟨rH⟩:aA (Kd.R mG 45 b4 w.heap.size (fun _=>True) (.slice (some a5) aa.length bd) aa)) <| bY (⟨rJ⟩:aA (Kd.R (Kd.int .i64) 3 b4 w.heap.size (fun _=>True) uQ b1)) <| bY (⟨rM⟩:aA (b4.heap[ab]?=some (.cells #[ah 1,ah 6,ah 4,ah 2] 25))) <| bY (⟨rO⟩:aA (b4.heap[af]?=some (.cells #[.slice b2 ae.length b3] 28))) <| bY (⟨rP⟩:aA (b4.heap[ag]?=some (.cells #[.slice none 0 0] 28))) <| bY (⟨rQ⟩:aA (b4.heap[a8]?=some (.cells #[ah 0,.string (⟨#[]⟩:ByteArray),ah 0,.bool false,.slice none 0 0] 49))) <| bY (⟨rU⟩:aA (w.heap.size≤ag)) <| bY (⟨wu⟩:aA (w.heap.size≤ag)) <| bY (⟨wz⟩:aA (ab≠ag)) <| bY (⟨vY⟩:aA (ag≠ab)) <| bY (⟨vZ⟩:aA (af≠ag)) <| bY (⟨wo⟩:aA (ag≠af)) <| bY (⟨yY⟩:aA (a8≠ag)) <| bY (⟨yZ⟩:aA (ag≠a8)) <| bY (⟨Dv⟩:aA (w.heap.size≤a8)) <| bY (⟨Dw⟩:aA (w.heap.size≤a8)) <| bY (⟨Dx⟩:aA (ab≠a8)) <| bY (⟨Dy⟩:aA (a8≠ab)) <| bY (⟨Dz⟩:aA (af≠a8)) <| bY (⟨Qg⟩:aA (a8≠af)) <| (⟨Qh⟩:aA (Below w.heap.size w b4))
     have hH:sF b4 ab (ah 1) (ah 6) (ah 4) (ah 2) <| jQ b4 af (.slice b2 ae.length b3) <| vP b4 (a5.add ((a6).toNat * 6)) (ah ((dL aa a6).f0)) (.string ((dL aa a6).f1)) (.string ((dL aa a6).f2)) (ah ((dL aa a6).f3)) (ah ((dL aa a6).f4)) (.string ((dL aa a6).f5)):=oG
     refine lW (a':=?_) ?_ ?_
     rotate_left
     ·simp only [uO,Act.put,List.setIfInBounds_toArray,List.set_cons_zero,List.set_cons_succ]
      rfl
     refine fD (i:=6) (N:=some 49) #[aj,aj,aj,aj,aj,aj,aj,F_,F_,F_,aj,aj,F_,F_] rfl rfl (jq aO.out aB) (by decide) (fun K hK=>?_)
     refine i_ func22 aB rfl #[.agg #[ah 1,ah 6,ah 4,ah 2],.agg #[.slice b2 ae.length b3],.agg #[ah ((dL aa a6).f0),.string ((dL aa a6).f1),.string ((dL aa a6).f2),ah ((dL aa a6).f3),ah ((dL aa a6).f4),.string ((dL aa a6).f5)]] (by rfl) rfl rfl aX ?_
     with_reducible refine (Ar.calls k1 1 6 4 2 _ _ ae ((dL aa a6).f0) ((dL aa a6).f1) ((dL aa a6).f2) ((dL aa a6).f3) ((dL aa a6).f4) ((dL aa a6).f5) az av aw ax bH b0 _ (iK.below HD.out au) NZ ((Kd.dN fU.out).2.1) dv.out).mono ?_
     rintro e bc ⟨sD,uI,rfl,ho0,ho1,hb⟩
     have nM:=(hb.cell (World.block_lt_of_cell? _ _ (hH.2.2.2.2.2.1))).trans (hH.2.2.2.2.2.1)
     have qY:=(hb.cell (World.block_lt_of_cell? _ _ (hH.2.2.2.2.2.2.1))).trans (hH.2.2.2.2.2.2.1)
     have qZ:=(hb.cell (World.block_lt_of_cell? _ _ (hH.2.2.2.2.2.2.2.1))).trans (hH.2.2.2.2.2.2.2.1)
     have q_:=(hb.cell (World.block_lt_of_cell? _ _ (hH.2.2.2.2.2.2.2.2.1))).trans (hH.2.2.2.2.2.2.2.2.1)
     have ru:=(hb.cell (World.block_lt_of_cell? _ _ (hH.2.2.2.2.2.2.2.2.2.1))).trans (hH.2.2.2.2.2.2.2.2.2.1)
     have qX:=(hb.cell (World.block_lt_of_cell? _ _ (hH.2.2.2.2.2.2.2.2.2.2))).trans (hH.2.2.2.2.2.2.2.2.2.2)
     refine ⟨_,rfl,?_⟩
     obtain ⟨dn,gQ,fU,o8,ao,a7,a9,lJ,jR,HB⟩:=p_ (Kd.dw (aJ dn) hb) <| p_ (Kd.dw (aJ gQ) hb) <| p_ (Kd.jX (aJ fU) (Kd.jo ho0) hb) <| p_ (Kd.dI (Kd.jY ho0 (Kd.jJ (aJ fU))) (cZ au)) <| p_ (Kd.dI ho1 (cZ au)) <| I4 (ak a7) (ak a9) (ak lJ) (ak jR) au hb
     (try clear hb)
     (try clear ho0)
     (try clear ho1)
     refine hK.out _ _ (mV a7.out ⟨(aP a9.out 0).trans rfl,nM,qY,qZ,q_,ru,qX⟩) (fun hH=>?_)
     clear hK K
     refine eX (some 49) ?_
     refine cu 7 42 #[aj,aj,aj,aj,aj,aj,aj,aj,F_,F_,aj,aj,F_,F_] aO ?_
     refine cu 8 50 #[aj,aj,aj,aj,aj,aj,aj,aj,aj,F_,aj,aj,F_,F_] aO ?_
     refine cu 9 51 Bj aO ?_
     exact lW yK (Qi (sD,uI,ag,a8) _ ⟨hH,Ob,(aJ ao),Oa,(aJ dn),(aJ gQ),(ak a7),(ak a9),(ak lJ),(ak jR),b5.out,b6.out,ai.out,aQ.out,aN.out,al.out,aq.out,ar.out,b7.out,b8.out,ac.out,am.out,aK.out,an.out,au⟩)
   ·skip
    rintro ⟨sD,uI,a8⟩ b4 ⟨oG,rG,rH,rJ,rM,rO,rP,rQ,rU,wu,wz,vY,vZ,wo,yY,yZ⟩
    obtain ⟨o8,ao,fU,dn,gQ,a7,a9,jR,b7,b8,ac,am,aK,an,HB⟩:=bY (⟨rG⟩:aA (Kd.R aU 43 b4 w.heap.size (fun ay=>some ay≠(.slice b2 ae.length b3:Value).ownBlock) sD az)) <| bY (⟨rH⟩:aA (Kd.R Kd.string 9 b4 w.heap.size (fun _=>True) uI b0)) <| bY (⟨rJ⟩:aA (Kd.R aU 43 b4 w.heap.size (fun ay=>some ay≠(sD:Value).ownBlock) (.slice b2 ae.length b3) ae)) <| bY (⟨rM⟩:aA (Kd.R mG 45 b4 w.heap.size (fun _=>True) (.slice (some a5) aa.length bd) aa)) <| bY (⟨rO⟩:aA (Kd.R (Kd.int .i64) 3 b4 w.heap.size (fun _=>True) uQ b1)) <| bY (⟨rP⟩:aA (b4.heap[ab]?=some (.cells #[ah 1,ah 6,ah 4,ah 2] 25))) <| bY (⟨rQ⟩:aA (b4.heap[af]?=some (.cells #[.slice b2 ae.length b3] 28))) <| bY (⟨rU⟩:aA (b4.heap[a8]?=some (.cells #[ah 0,.string (⟨#[]⟩:ByteArray),ah 0,.bool false,.slice none 0 0] 49))) <| bY (⟨wu⟩:aA (w.heap.size≤a8)) <| bY (⟨wz⟩:aA (w.heap.size≤a8)) <| bY (⟨vY⟩:aA (ab≠a8)) <| bY (⟨vZ⟩:aA (a8≠ab)) <| bY (⟨wo⟩:aA (af≠a8)) <| bY (⟨yY⟩:aA (a8≠af)) <| (⟨yZ⟩:aA (Below w.heap.size w b4))
    have hH:sF b4 ab (ah 1) (ah 6) (ah 4) (ah 2) <| jQ b4 af (.slice b2 ae.length b3) <| vP b4 (a5.add ((a6).toNat * 6)) (ah ((dL aa a6).f0)) (.string ((dL aa a6).f1)) (.string ((dL aa a6).f2)) (ah ((dL aa a6).f3)) (ah ((dL aa a6).f4)) (.string ((dL aa a6).f5)):=oG
    refine lW (a':=?_) ?_ ?_
    rotate_left
    ·simp only [uO,Act.put,List.setIfInBounds_toArray,List.set_cons_zero,List.set_cons_succ]
     rfl
    refine fD (i:=10) (N:=some 8) Bj rfl rfl (jq aO.out aB) (by decide) (fun K hK=>?_)
    refine wU ?hg (N:=8) ?hd (cs:=#[.slice none 0 0]) (t:=28) ?hr ?_;(case hd=>rfl);(case hg=>rfl);(case hr=>first|(go_simp;done)|(go_simp;rfl))
    intro ag hg bc hbox hb
    have nM:=(hb.cell (World.block_lt_of_cell? _ _ (hH.2.2.2.2.2.1))).trans (hH.2.2.2.2.2.1)
    have qY:=(hb.cell (World.block_lt_of_cell? _ _ (hH.2.2.2.2.2.2.1))).trans (hH.2.2.2.2.2.2.1)
    have qZ:=(hb.cell (World.block_lt_of_cell? _ _ (hH.2.2.2.2.2.2.2.1))).trans (hH.2.2.2.2.2.2.2.1)
    have q_:=(hb.cell (World.block_lt_of_cell? _ _ (hH.2.2.2.2.2.2.2.2.1))).trans (hH.2.2.2.2.2.2.2.2.1)
    have ru:=(hb.cell (World.block_lt_of_cell? _ _ (hH.2.2.2.2.2.2.2.2.2.1))).trans (hH.2.2.2.2.2.2.2.2.2.1)
    have qX:=(hb.cell (World.block_lt_of_cell? _ _ (hH.2.2.2.2.2.2.2.2.2.2))).trans (hH.2.2.2.2.2.2.2.2.2.2)
    obtain ⟨dn,gQ,fU,o8,ao,a7,a9,jR,HB,lJ,b5,b6,ai,aQ,aN,al,aq,ar⟩:=p_ (Kd.dw (aJ dn) hb) <| p_ (Kd.dw (aJ gQ) hb) <| p_ (Kd.dw (aJ fU) hb) <| p_ (Kd.dw (aJ o8) hb) <| p_ (Kd.dw (aJ ao) hb) <| vI (ak a7) (ak a9) (ak jR) au hb hbox hg
    clear hb hbox hg
    refine hK.out _ _ (mV a7.out ⟨(aP a9.out 0).trans rfl,nM,qY,qZ,q_,ru,qX⟩) (fun hH=>?_)
    clear hK K
    refine eX (some 8) ?_
    exact lW yK (Qi (sD,uI,ag,a8) _ ⟨hH,(aJ o8),(aJ ao),(aJ fU),(aJ dn),(aJ gQ),(ak a7),(ak a9),(ak lJ),(ak jR),b5.out,b6.out,ai.out,aQ.out,aN.out,al.out,aq.out,ar.out,b7.out,b8.out,ac.out,am.out,aK.out,an.out,au⟩)
  ·skip
   rintro ⟨sD,uI,ag⟩ b4 ⟨oG,rG,rH,rJ,rM,rO,rP,rQ,rU,wu,wz,vY,vZ,wo,yY,yZ⟩
   obtain ⟨o8,ao,fU,dn,gQ,a7,a9,lJ,b5,b6,ai,aQ,aN,al,HB⟩:=bY (⟨rG⟩:aA (Kd.R aU 43 b4 w.heap.size (fun ay=>some ay≠(.slice b2 ae.length b3:Value).ownBlock) sD az)) <| bY (⟨rH⟩:aA (Kd.R Kd.string 9 b4 w.heap.size (fun _=>True) uI b0)) <| bY (⟨rJ⟩:aA (Kd.R aU 43 b4 w.heap.size (fun ay=>some ay≠(sD:Value).ownBlock) (.slice b2 ae.length b3) ae)) <| bY (⟨rM⟩:aA (Kd.R mG 45 b4 w.heap.size (fun _=>True) (.slice (some a5) aa.length bd) aa)) <| bY (⟨rO⟩:aA (Kd.R (Kd.int .i64) 3 b4 w.heap.size (fun _=>True) uQ b1)) <| bY (⟨rP⟩:aA (b4.heap[ab]?=some (.cells #[ah 1,ah 6,ah 4,ah 2] 25))) <| bY (⟨rQ⟩:aA (b4.heap[af]?=some (.cells #[.slice b2 ae.length b3] 28))) <| bY (⟨rU⟩:aA (b4.heap[ag]?=some (.cells #[.slice none 0 0] 28))) <| bY (⟨wu⟩:aA (w.heap.size≤ag)) <| bY (⟨wz⟩:aA (w.heap.size≤ag)) <| bY (⟨vY⟩:aA (ab≠ag)) <| bY (⟨vZ⟩:aA (ag≠ab)) <| bY (⟨wo⟩:aA (af≠ag)) <| bY (⟨yY⟩:aA (ag≠af)) <| (⟨yZ⟩:aA (Below w.heap.size w b4))
   have hH:sF b4 ab (ah 1) (ah 6) (ah 4) (ah 2) <| jQ b4 af (.slice b2 ae.length b3) <| vP b4 (a5.add ((a6).toNat * 6)) (ah ((dL aa a6).f0)) (.string ((dL aa a6).f1)) (.string ((dL aa a6).f2)) (ah ((dL aa a6).f3)) (ah ((dL aa a6).f4)) (.string ((dL aa a6).f5)):=oG
   refine lW (a':=?_) ?_ ?_
   rotate_left
   ·simp only [uO,Act.put,List.setIfInBounds_toArray,List.set_cons_zero,List.set_cons_succ]
    rfl
   refine fD (i:=11) (N:=some 9) Bj rfl rfl (jq aO.out aB) (by decide) (fun K hK=>?_)
   refine wU ?hg (N:=9) ?hd (cs:=#[ah 0,.string (⟨#[]⟩:ByteArray),ah 0,.bool false,.slice none 0 0]) (t:=49) ?hr ?_;(case hd=>rfl);(case hg=>rfl);(case hr=>first|(go_simp;done)|(go_simp;rfl))
   intro a8 hg bc hbox hb
   have nM:=(hb.cell (World.block_lt_of_cell? _ _ (hH.2.2.2.2.2.1))).trans (hH.2.2.2.2.2.1)
   have qY:=(hb.cell (World.block_lt_of_cell? _ _ (hH.2.2.2.2.2.2.1))).trans (hH.2.2.2.2.2.2.1)
   have qZ:=(hb.cell (World.block_lt_of_cell? _ _ (hH.2.2.2.2.2.2.2.1))).trans (hH.2.2.2.2.2.2.2.1)
   have q_:=(hb.cell (World.block_lt_of_cell? _ _ (hH.2.2.2.2.2.2.2.2.1))).trans (hH.2.2.2.2.2.2.2.2.1)
   have ru:=(hb.cell (World.block_lt_of_cell? _ _ (hH.2.2.2.2.2.2.2.2.2.1))).trans (hH.2.2.2.2.2.2.2.2.2.1)
   have qX:=(hb.cell (World.block_lt_of_cell? _ _ (hH.2.2.2.2.2.2.2.2.2.2))).trans (hH.2.2.2.2.2.2.2.2.2.2)
   obtain ⟨dn,gQ,fU,o8,ao,a7,a9,lJ,HB,jR,b7,b8,ac,am,aK,an,ar,aq⟩:=p_ (Kd.dw (aJ dn) hb) <| p_ (Kd.dw (aJ gQ) hb) <| p_ (Kd.dw (aJ fU) hb) <| p_ (Kd.dw (aJ o8) hb) <| p_ (Kd.dw (aJ ao) hb) <| vI (ak a7) (ak a9) (ak lJ) au hb hbox hg
   clear hb hbox hg
   refine hK.out _ _ (mV a7.out ⟨(aP a9.out 0).trans rfl,nM,qY,qZ,q_,ru,qX⟩) (fun hH=>?_)
   clear hK K
   refine eX (some 9) ?_
   exact lW yK (Qi (sD,uI,ag,a8) _ ⟨hH,(aJ o8),(aJ ao),(aJ fU),(aJ dn),(aJ gQ),(ak a7),(ak a9),(ak lJ),(ak jR),b5.out,b6.out,ai.out,aQ.out,aN.out,al.out,aq.out,ar.out,b7.out,b8.out,ac.out,am.out,aK.out,an.out,au⟩)
 rintro ⟨sD,uI,ag,a8⟩ bc ⟨oG,rG,rH,rJ,rM,rO,rP,rQ,rU,wu,wz,vY,vZ,wo,yY,yZ,Dv,Dw,Dx,Dy,Dz,Qg,Qh,ac7,ac8⟩
 obtain ⟨o8,ao,fU,dn,gQ,a7,a9,lJ,jR,b5,b6,ai,aQ,aN,al,aq,ar,b7,b8,ac,am,aK,an,HB⟩:=bY (⟨rG⟩:aA (Kd.R aU 43 bc w.heap.size (fun ay=>some ay≠(.slice b2 ae.length b3:Value).ownBlock) sD az)) <| bY (⟨rH⟩:aA (Kd.R Kd.string 9 bc w.heap.size (fun _=>True) uI b0)) <| bY (⟨rJ⟩:aA (Kd.R aU 43 bc w.heap.size (fun ay=>some ay≠(sD:Value).ownBlock) (.slice b2 ae.length b3) ae)) <| bY (⟨rM⟩:aA (Kd.R mG 45 bc w.heap.size (fun _=>True) (.slice (some a5) aa.length bd) aa)) <| bY (⟨rO⟩:aA (Kd.R (Kd.int .i64) 3 bc w.heap.size (fun _=>True) uQ b1)) <| bY (⟨rP⟩:aA (bc.heap[ab]?=some (.cells #[ah 1,ah 6,ah 4,ah 2] 25))) <| bY (⟨rQ⟩:aA (bc.heap[af]?=some (.cells #[.slice b2 ae.length b3] 28))) <| bY (⟨rU⟩:aA (bc.heap[ag]?=some (.cells #[.slice none 0 0] 28))) <| bY (⟨wu⟩:aA (bc.heap[a8]?=some (.cells #[ah 0,.string (⟨#[]⟩:ByteArray),ah 0,.bool false,.slice none 0 0] 49))) <| bY (⟨wz⟩:aA (w.heap.size≤ag)) <| bY (⟨vY⟩:aA (w.heap.size≤ag)) <| bY (⟨vZ⟩:aA (ab≠ag)) <| bY (⟨wo⟩:aA (ag≠ab)) <| bY (⟨yY⟩:aA (af≠ag)) <| bY (⟨yZ⟩:aA (ag≠af)) <| bY (⟨Dv⟩:aA (a8≠ag)) <| bY (⟨Dw⟩:aA (ag≠a8)) <| bY (⟨Dx⟩:aA (w.heap.size≤a8)) <| bY (⟨Dy⟩:aA (w.heap.size≤a8)) <| bY (⟨Dz⟩:aA (ab≠a8)) <| bY (⟨Qg⟩:aA (a8≠ab)) <| bY (⟨Qh⟩:aA (af≠a8)) <| bY (⟨ac7⟩:aA (a8≠af)) <| (⟨ac8⟩:aA (Below w.heap.size w bc))
 have hH:sF bc ab (ah 1) (ah 6) (ah 4) (ah 2) <| jQ bc af (.slice b2 ae.length b3) <| vP bc (a5.add ((a6).toNat * 6)) (ah ((dL aa a6).f0)) (.string ((dL aa a6).f1)) (.string ((dL aa a6).f2)) (ah ((dL aa a6).f3)) (ah ((dL aa a6).f4)) (.string ((dL aa a6).f5)):=oG
 obtain ⟨bl,bm,dp⟩:=Kd.dK o8.out
 (first|subst dp|(injection dp with dV gU dW;have gV:=dV.symm;have gW:=dW.symm;clear dV gU dW;subst gV;subst gW))
 obtain ⟨jf,jg,dq⟩:=Kd.dK ao.out
 (first|subst dq|(injection dq with dV gU dW;have gV:=dV.symm;have gW:=dW.symm;clear dV gU dW;subst gV;subst gW))
 refine lW (a':=?_) ?_ ?_
 rotate_left
 ·simp only [uO,Act.put,List.setIfInBounds_toArray,List.set_cons_zero,List.set_cons_succ]
  rfl
 refine fD (i:=12) (N:=none) WI rfl rfl (jq aO.out aB) (by decide) (fun K hK=>?_)
 have aiE:bc.cell? ⟨ag,0,none⟩=some (.slice none 0 0):=(aP lJ.out 0).trans rfl
 have afU:=bP lJ.out 0
 obtain ⟨cl,cm,cn,co,cp,cq⟩:=kJ ai aN aq aQ al ar
 refine iM (w1:=?_) (by rfl) rfl ?_ ?_
 rotate_left
 ·go_simp
  rfl
 refine hK.out _ _ ⟨(aG ai hH.1),(aG ai hH.2.1),(aG ai hH.2.2.1),(aG ai hH.2.2.2.1),(aG aN hH.2.2.2.2.1),((cell_far (p:=⟨ag,_,none⟩) Ib _).trans (hH.2.2.2.2.2.1)),((cell_far (p:=⟨ag,_,none⟩) Ib _).trans (hH.2.2.2.2.2.2.1)),((cell_far (p:=⟨ag,_,none⟩) Ib _).trans (hH.2.2.2.2.2.2.2.1)),((cell_far (p:=⟨ag,_,none⟩) Ib _).trans (hH.2.2.2.2.2.2.2.2.1)),((cell_far (p:=⟨ag,_,none⟩) Ib _).trans (hH.2.2.2.2.2.2.2.2.2.1)),((cell_far (p:=⟨ag,_,none⟩) Ib _).trans (hH.2.2.2.2.2.2.2.2.2.2))⟩ (fun hH=>?_)
 clear hK K
 refine fD (i:=13) (N:=none) WJ rfl rfl (jq aO.out aB) (by decide) (fun K hK=>?_)
 have aiF:bc.cell? ⟨a8,0,none⟩=some (ah 0):=(aP jR.out 0).trans rfl
 have afV:=bP jR.out 0
 obtain ⟨cr,ct,iO,cv⟩:=g_ ac aK am an
 have aiG:bc.cell? ⟨a8,1,none⟩=some (.string (⟨#[]⟩:ByteArray)):=(aP jR.out 1).trans rfl
 have afW:=bP jR.out 1
 have aiH:bc.cell? ⟨a8,2,none⟩=some (ah 0):=(aP jR.out 2).trans rfl
 have afX:=bP jR.out 2
 have axQ:bc.cell? ⟨a8,3,none⟩=some (.bool false):=(aP jR.out 3).trans rfl
 have aq':=bP jR.out 3
 have ax4:bc.cell? ⟨a8,4,none⟩=some (.slice none 0 0):=(aP jR.out 4).trans rfl
 have ars:=bP jR.out 4
 refine iM (w1:=?_) (by rfl) rfl ?_ ?_
 rotate_left
 ·go_simp
  rfl
 refine hK.out _ _ ⟨(aG ac (aG ac (aG ac (aG ac (aG ac hH.1))))),(aG ac (aG ac (aG ac (aG ac (aG ac hH.2.1))))),(aG ac (aG ac (aG ac (aG ac (aG ac hH.2.2.1))))),(aG ac (aG ac (aG ac (aG ac (aG ac hH.2.2.2.1))))),(aG aK (aG aK (aG aK (aG aK (aG aK hH.2.2.2.2.1))))),((cell_far (p:=⟨a8,_,none⟩) oq _).trans (((cell_far (p:=⟨a8,_,none⟩) oq _).trans (((cell_far (p:=⟨a8,_,none⟩) oq _).trans (((cell_far (p:=⟨a8,_,none⟩) oq _).trans (((cell_far (p:=⟨a8,_,none⟩) oq _).trans (hH.2.2.2.2.2.1)))))))))),((cell_far (p:=⟨a8,_,none⟩) oq _).trans (((cell_far (p:=⟨a8,_,none⟩) oq _).trans (((cell_far (p:=⟨a8,_,none⟩) oq _).trans (((cell_far (p:=⟨a8,_,none⟩) oq _).trans (((cell_far (p:=⟨a8,_,none⟩) oq _).trans (hH.2.2.2.2.2.2.1)))))))))),((cell_far (p:=⟨a8,_,none⟩) oq _).trans (((cell_far (p:=⟨a8,_,none⟩) oq _).trans (((cell_far (p:=⟨a8,_,none⟩) oq _).trans (((cell_far (p:=⟨a8,_,none⟩) oq _).trans (((cell_far (p:=⟨a8,_,none⟩) oq _).trans (hH.2.2.2.2.2.2.2.1)))))))))),((cell_far (p:=⟨a8,_,none⟩) oq _).trans (((cell_far (p:=⟨a8,_,none⟩) oq _).trans (((cell_far (p:=⟨a8,_,none⟩) oq _).trans (((cell_far (p:=⟨a8,_,none⟩) oq _).trans (((cell_far (p:=⟨a8,_,none⟩) oq _).trans (hH.2.2.2.2.2.2.2.2.1)))))))))),((cell_far (p:=⟨a8,_,none⟩) oq _).trans (((cell_far (p:=⟨a8,_,none⟩) oq _).trans (((cell_far (p:=⟨a8,_,none⟩) oq _).trans (((cell_far (p:=⟨a8,_,none⟩) oq _).trans (((cell_far (p:=⟨a8,_,none⟩) oq _).trans (hH.2.2.2.2.2.2.2.2.2.1)))))))))),((cell_far (p:=⟨a8,_,none⟩) oq _).trans (((cell_far (p:=⟨a8,_,none⟩) oq _).trans (((cell_far (p:=⟨a8,_,none⟩) oq _).trans (((cell_far (p:=⟨a8,_,none⟩) oq _).trans (((cell_far (p:=⟨a8,_,none⟩) oq _).trans (hH.2.2.2.2.2.2.2.2.2.2))))))))))⟩ (fun hH=>?_)
 clear hK K
 refine iP (ku aO.out aB) ?_
 try go_wp2
 have eF:aA (Kd.R mG 45 ((((((bc.setCell ⟨ag,0,none⟩ (.slice bl az.length bm)).setCell ⟨a8,0,none⟩ (ah av)).setCell ⟨a8,1,none⟩ (.string aw)).setCell ⟨a8,2,none⟩ (ah ax)).setCell ⟨a8,3,none⟩ (.bool bH)).setCell ⟨a8,4,none⟩ (.slice jf b0.length jg)) w.heap.size (fun _=>True) (.slice (some a5) aa.length bd) aa):=⟨(by (with_reducible repeat (first|apply Kd.dB|apply Kd.dD|apply Kd.aZ));exact Kd.bn (aH (aH (aH (aH (aH (aH (Kd.bQ (Kd.bQ dn.out lJ.out (by decide)) jR.out (by decide)) (fun _ hk=>hk.1.2))))))) (fun _ hk=>trivial))⟩
 have jF:aA (Kd.R (Kd.int .i64) 3 ((((((bc.setCell ⟨ag,0,none⟩ (.slice bl az.length bm)).setCell ⟨a8,0,none⟩ (ah av)).setCell ⟨a8,1,none⟩ (.string aw)).setCell ⟨a8,2,none⟩ (ah ax)).setCell ⟨a8,3,none⟩ (.bool bH)).setCell ⟨a8,4,none⟩ (.slice jf b0.length jg)) w.heap.size (fun _=>True) uQ b1):=⟨(by (with_reducible repeat (first|apply Kd.dB|apply Kd.dD|apply Kd.aZ));exact Kd.bn (aH (aH (aH (aH (aH (aH (Kd.bQ (Kd.bQ gQ.out lJ.out (by decide)) jR.out (by decide)) (fun _ hk=>hk.1.2))))))) (fun _ hk=>trivial))⟩
 have jG:aA (Kd.R aU 43 ((((((bc.setCell ⟨ag,0,none⟩ (.slice bl az.length bm)).setCell ⟨a8,0,none⟩ (ah av)).setCell ⟨a8,1,none⟩ (.string aw)).setCell ⟨a8,2,none⟩ (ah ax)).setCell ⟨a8,3,none⟩ (.bool bH)).setCell ⟨a8,4,none⟩ (.slice jf b0.length jg)) w.heap.size (fun ay=>some ay≠(.slice bl az.length bm:Value).ownBlock) (.slice b2 ae.length b3) ae):=⟨(by (with_reducible repeat (first|apply Kd.dB|apply Kd.dD|apply Kd.aZ));exact Kd.bn (aH (aH (aH (aH (aH (aH (Kd.bQ (Kd.bQ fU.out lJ.out (by decide)) jR.out (by decide)) (fun _ hk=>hk.1.2))))))) (fun _ hk=>hk.1.1))⟩
 have jH:aA (Kd.R aU 43 ((((((bc.setCell ⟨ag,0,none⟩ (.slice bl az.length bm)).setCell ⟨a8,0,none⟩ (ah av)).setCell ⟨a8,1,none⟩ (.string aw)).setCell ⟨a8,2,none⟩ (ah ax)).setCell ⟨a8,3,none⟩ (.bool bH)).setCell ⟨a8,4,none⟩ (.slice jf b0.length jg)) w.heap.size (fun ay=>some ay≠(.slice b2 ae.length b3:Value).ownBlock) (.slice bl az.length bm) az):=⟨(by (with_reducible repeat (first|apply Kd.dB|apply Kd.dD|apply Kd.aZ));exact Kd.bn (aH (aH (aH (aH (aH (aH (Kd.bQ (Kd.bQ o8.out lJ.out (by decide)) jR.out (by decide)) (fun _ hk=>hk.1.2))))))) (fun _ hk=>hk.1.1))⟩
 have jI:aA (Kd.R Kd.string 9 ((((((bc.setCell ⟨ag,0,none⟩ (.slice bl az.length bm)).setCell ⟨a8,0,none⟩ (ah av)).setCell ⟨a8,1,none⟩ (.string aw)).setCell ⟨a8,2,none⟩ (ah ax)).setCell ⟨a8,3,none⟩ (.bool bH)).setCell ⟨a8,4,none⟩ (.slice jf b0.length jg)) w.heap.size (fun _=>True) (.slice jf b0.length jg) b0):=⟨(by (with_reducible repeat (first|apply Kd.dB|apply Kd.dD|apply Kd.aZ));exact Kd.bn (aH (aH (aH (aH (aH (aH (Kd.bQ (Kd.bQ ao.out lJ.out (by decide)) jR.out (by decide)) (fun _ hk=>hk.1.2))))))) (fun _ hk=>trivial))⟩
 have jL:aA (((((((bc.setCell ⟨ag,0,none⟩ (.slice bl az.length bm)).setCell ⟨a8,0,none⟩ (ah av)).setCell ⟨a8,1,none⟩ (.string aw)).setCell ⟨a8,2,none⟩ (ah ax)).setCell ⟨a8,3,none⟩ (.bool bH)).setCell ⟨a8,4,none⟩ (.slice jf b0.length jg)).heap[ab]?=some (.cells #[ah 1,ah 6,ah 4,ah 2] 25)):=⟨aT⟩
 have kW:aA (((((((bc.setCell ⟨ag,0,none⟩ (.slice bl az.length bm)).setCell ⟨a8,0,none⟩ (ah av)).setCell ⟨a8,1,none⟩ (.string aw)).setCell ⟨a8,2,none⟩ (ah ax)).setCell ⟨a8,3,none⟩ (.bool bH)).setCell ⟨a8,4,none⟩ (.slice jf b0.length jg)).heap[af]?=some (.cells #[.slice b2 ae.length b3] 28)):=⟨aT⟩
 have nR:aA (((((((bc.setCell ⟨ag,0,none⟩ (.slice bl az.length bm)).setCell ⟨a8,0,none⟩ (ah av)).setCell ⟨a8,1,none⟩ (.string aw)).setCell ⟨a8,2,none⟩ (ah ax)).setCell ⟨a8,3,none⟩ (.bool bH)).setCell ⟨a8,4,none⟩ (.slice jf b0.length jg)).heap[ag]?=some (.cells #[.slice bl az.length bm] 28)):=⟨aT⟩
 have zq:aA (((((((bc.setCell ⟨ag,0,none⟩ (.slice bl az.length bm)).setCell ⟨a8,0,none⟩ (ah av)).setCell ⟨a8,1,none⟩ (.string aw)).setCell ⟨a8,2,none⟩ (ah ax)).setCell ⟨a8,3,none⟩ (.bool bH)).setCell ⟨a8,4,none⟩ (.slice jf b0.length jg)).heap[a8]?=some (.cells #[ah av,.string aw,ah ax,.bool bH,.slice jf b0.length jg] 49)):=⟨aT⟩
 have zu:aA (Below w.heap.size w ((((((bc.setCell ⟨ag,0,none⟩ (.slice bl az.length bm)).setCell ⟨a8,0,none⟩ (ah av)).setCell ⟨a8,1,none⟩ (.string aw)).setCell ⟨a8,2,none⟩ (ah ax)).setCell ⟨a8,3,none⟩ (.bool bH)).setCell ⟨a8,4,none⟩ (.slice jf b0.length jg))):=⟨au⟩
 (try clear dn)
 (try clear gQ)
 (try clear fU)
 (try clear o8)
 (try clear ao)
 (try clear a7)
 (try clear a9)
 (try clear lJ)
 (try clear jR)
 (try clear HB)
 generalize ((((((bc.setCell ⟨ag,0,none⟩ (.slice bl az.length bm)).setCell ⟨a8,0,none⟩ (ah av)).setCell ⟨a8,1,none⟩ (.string aw)).setCell ⟨a8,2,none⟩ (ah ax)).setCell ⟨a8,3,none⟩ (.bool bH)).setCell ⟨a8,4,none⟩ (.slice jf b0.length jg))=em at eF jF jG jH jI jL kW nR zq zu ⊢
 have dn:=eF
 have gQ:=jF
 have fU:=jG
 have o8:=jH
 have ao:=jI
 have a7:=jL
 have a9:=kW
 have lJ:=nR
 have jR:=zq
 have HB:=zu
 clear eF jF jG jH jI jL kW nR zq zu
 obtain ⟨dn,gQ,fU,o8,ao,a7,a9,lJ,jR,HB⟩:=p_ (Kd.aZ dn.out) <| p_ (Kd.aZ gQ.out) <| p_ (Kd.aZ fU.out) <| p_ (Kd.aZ o8.out) <| p_ (Kd.aZ ao.out) <| wV a7 a9 lJ jR HB
 obtain ⟨en,eo,dr⟩:=Kd.dK gQ.out
 (first|subst dr|(injection dr with dV gU dW;have gV:=dV.symm;have gW:=dW.symm;clear dV gU dW;subst gV;subst gW))
 have d3:0≤(a6:Int):=bF bG
 have d4:a6 < (b1.length:Int):=bF bG
 obtain ⟨dd,dt,bz⟩:=Kd.Lc (Kd.dN gQ.out).2.2 a6 d3 d4
 cases dt
 replace d3:=eq_true d3
 replace d4:=eq_true d4
 refine iT (n:=7) (S:=fun w'=>aa9 w' a8 (ah av) (.string aw) (ah ax) (.bool bH) (.slice jf b0.length jg) <| w'.cell? (dd.add (a6).toNat)=some (ah (rd b1 a6))) (ds:=[]) Ll aB rfl rfl (acg jR.out (bz)) (fun hH=>?_)
 generalize em.drew=fc at dn gQ fU o8 ao a7 a9 lJ jR HB bz hH ⊢
 refine sN (i:=0) (N:=some 52) #[aj,F_,F_,F_,F_,F_,F_] aB ?_
 refine sN (i:=2) (N:=some 54) #[aj,F_,aj,F_,F_,F_,F_] aB ?_
 refine sN (i:=3) (N:=some 55) #[aj,F_,aj,aj,F_,F_,F_] aB ?_
 refine sN (i:=4) (N:=some 56) #[aj,F_,aj,aj,aj,F_,F_] aB ?_
 refine lI (i:=1) (N:=some 53) (v:=?_) (a':=?_) Lm rfl rfl aB (fun _ _ _ h=>h) (Or.inl ⟨(by rfl),?_⟩) hH ?_ ?_
 rotate_left
 ·rintro w' ⟨s0,s1,s2,s3,s4,s5⟩
  go_simp
  with_reducible rfl
 rotate_left
 ·simp only [Act.put,List.setIfInBounds_toArray,List.set_cons_zero,List.set_cons_succ,aY,bf]
  rfl
 refine lI (i:=5) (N:=some 57) (v:=?_) (a':=?_) Lp rfl rfl aB (fun _ _ _ h=>h) (Or.inl ⟨(by rfl),?_⟩) hH ?_ ?_
 rotate_left
 ·rintro w' ⟨s0,s1,s2,s3,s4,s5⟩
  go_simp
  with_reducible rfl
 rotate_left
 ·simp only [Act.put,List.setIfInBounds_toArray,List.set_cons_zero,List.set_cons_succ,aY,bf]
  rfl
 refine sN (i:=6) (N:=some 58) Lr aB ?_
 refine iP aB ?_
 go_upto_if 58 with (fail)
 (try clear cl cr cm ct co cp cq iO cv cn)
 (try clear bo bp bq br bs bu)
 obtain ⟨H⟩:=dm
 revert H;refine fH (fun de H=>?_) fun de H=>?_
 rotate_left
 ·have ca:=fP de
  have du:=fQ de
  try simp only [aY,bf,ca]
  obtain rfl:=dF H
  go_wp2
  go_ret
  exact ⟨bM,au⟩
 have ca:=fZ de
 have du:=f_ de
 clear de
 try simp only [aY,bf,ca]
 have H':=m_ H
 clear H
 go_wp2
 go_roundg k1
 case measure=>have:=gZ.out;omega
 case rel=>exact ⟨(wrap64 (a6+1)),bg,H',⟨ou⟩,⟨(aJ dn)⟩,⟨(aJ gQ)⟩,⟨(by (with_reducible repeat (first|apply Kd.dB|apply Kd.dD|apply Kd.aZ));exact Kd.bn fU.out (fun _ hk=>trivial))⟩,⟨(ak a7)⟩,⟨(ak a9)⟩,⟨au⟩⟩


end Go.Proofs.YthejdhjpbpamoaaGreatDoor.jD
