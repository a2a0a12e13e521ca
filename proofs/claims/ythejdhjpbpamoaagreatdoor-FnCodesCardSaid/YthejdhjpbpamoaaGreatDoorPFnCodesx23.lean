/- Contracts of Go functions: each call returns what the Lean function beside it computes. Conditions: as each theorem states them. -/
import Derived.Test.YthejdhjpbpamoaaGreatDoorPkFnCodes
import Derived.Test.YthejdhjpbpamoaaGreatDoorPFnCodesx1
import Derived.Test.YthejdhjpbpamoaaGreatDoorPFnCodesx17
namespace Go.Proofs.YthejdhjpbpamoaaGreatDoor.jD
open Go.RowKit Go.Proofs.YthejdhjpbpamoaaGreatDoorW.iw Go.Proofs.YthejdhjpbpamoaaGreatDoorW.lH Go.Proofs.YthejdhjpbpamoaaGreatDoorW.oO Go.Proofs.Tryz
attribute [local go_sem] qw qB qA qF qy qE qx qC   -- for this text's walks alone
set_option linter.unusedVariables false
set_option maxHeartbeats 8000000
set_option maxRecDepth 100000
set_option linter.unusedSimpArgs false

def vM.j0:Nat→Int→Int→Int→Bool→Option (Int)
 | 0,_,_,_,_=>none
 | k+1,x0,x1,x2,a5=>if a5=true then (some x1) else (if x0 > x2 then (some x2) else (some x0))
def vM.f (k:Nat) (a0:Int) (a1:Int) (a2:Int):Option (Int):=if a2 < a1 then (vM.j0 k a0 a1 a2 true) else (vM.j0 k a0 a1 a2 (decide (a0 < a1)))
theorem vM.calls (k:Nat) (a0:Int) (a1:Int) (a2:Int) (r:Int) (w:World) (h:vM.f k a0 a1 a2=some r) :
  Calls Tryz.prog 123 #[ah a0,ah a1,ah a2] w fun e w'=>e=.returned (ah r)∧nU w w':=by
 unfold vM.f at h
 have H:=h
 clear h
 have a7:=m_ H
 clear H
 go_enter func123,ntmps123
 go_upto_region 1 with (fail)
 go_cut [14] (fun v14 wc=>∃ (kq:Nat) (a5:Bool),v14=.bool a5∧aA (vM.j0 kq a0 a1 a2 a5=some r)∧aA (kq≤k)∧nU w wc)
 case first =>
  obtain ⟨H⟩:=a7
  revert H;refine gJ (fun a6 H=>?_) fun a6 H=>?_
  ·try simp only [aY,bf,a6]
   have H':=m_ H
   clear H
   go_wp2
   go_meet
   case rel=>exact ⟨_,(true),bg,H',⟨kC⟩,kN⟩
  try simp only [aY,bf,a6]
  have H':=m_ H
  clear H
  go_wp2
  go_meet
  case rel=>exact ⟨_,(decide (a0 < a1)),bg,H',⟨kC⟩,kN⟩
 case rest =>
 clear a7
 obtain ⟨kq,a5,rfl,HA,Iu,⟨ayO,rfl⟩⟩:=hcut
 cases kq with
 | zero=>exact absurd HA.out (by simp [vM.j0])
 | succ AB =>
 obtain ⟨H⟩:=HA
 simp only [vM.j0] at H
 by_cases c6:a5=true
 ·subst c6
  rw [if_pos rfl] at H
  obtain rfl:=dF H
  go_wp2
  go_ret
  exact ⟨bg,kN⟩
 replace c6:=Bool.eq_false_iff.mpr c6
 subst c6
 rw [if_neg iI] at H
 revert H;refine gJ (fun a8 H=>?_) fun a8 H=>?_
 ·obtain rfl:=dF H
  go_wp2
  go_ret
  exact ⟨bg,kN⟩
 obtain rfl:=dF H
 go_wp2
 go_ret
 exact ⟨bg,kN⟩

def BO.f (a0:Int):Option (Int):=if a0≤0 then (some 0) else (some (wrap64 ((wrap64 (Int.tdiv (wrap64 (a0 - 1)) 32))+1)))
theorem BO.calls (a0:Int) (r:Int) (w:World) (h:BO.f a0=some r) :
  Calls Tryz.prog 99 #[ah a0] w fun e w'=>e=.returned (ah r)∧nU w w':=by
 unfold BO.f at h
 have H:=h
 clear h
 revert H;refine gJ (fun a5 H=>?_) fun a5 H=>?_
 ·obtain rfl:=dF H
  go_enter func99,ntmps99
  go_wp2
  go_ret
  exact ⟨bg,kN⟩
 obtain rfl:=dF H
 go_enter func99,ntmps99
 go_wp2
 go_ret
 exact ⟨bg,kN⟩

def uP.l0:Nat→Int→Int→List (aF)→Option (Int)
 | 0,_,_,_=>none
 | k+1,x3,x4,a5=>if x4 < (a5.length:Int) then (if 0≤x4 then (if ((aC a5 x4).f1=true) then (uP.l0 k x3 (wrap64 (x4+1)) a5) else ((BO.f (((aC a5 x4).f2).size:Int)).bind fun a6=>(uP.l0 k (wrap64 (x3+a6)) (wrap64 (x4+1)) a5))) else (none)) else (some x3)
def uP.f (k:Nat) (a5:List (aF)):Option (Int):=uP.l0 k 0 0 a5
theorem uP.calls (k:Nat) (ag:Option Addr) (aK:Nat) (aI:List (aF)) (r:Int) (w:World) (aN:Kd.C aU w ag aI.length aI) (aQ:aI.length≤aK) (h:uP.f k aI=some r) :
  Calls Tryz.prog 52 #[.agg #[.slice ag aI.length aK]] w fun e w'=>e=.returned (ah r)∧Below w.heap.size w w':=by
 have mF:=underlying28
 have lq:=m_ aN
 have ax:=m_ aQ
 clear aN aQ
 have HB:=m_ (Below.refl w.heap.size w)
 unfold uP.f at h
 have H:=h
 clear h
 have H':=m_ H
 clear H
 go_enter func52,ntmps52
 go_wp2_with (first|((with_reducible refine dJ 1 ?_);refine dO 1 (cs:=#[.slice ag aI.length aK]) 28 ?_;intro ap hg w2 hbox hb;obtain ⟨HB,a6,bH,az⟩:=kL au hb hbox hg;clear hb hbox hg))
 go_loopg [3,4] k (fun kq v3 v4 w'=>∃ (ab:Int) (a5:Int),v3=ah ab∧v4=ah a5∧aA (uP.l0 kq ab a5 aI=some r)∧aA (kq≤k)∧aA (w'.heap[ap]?=some (.cells #[(.slice ag aI.length aK)] 28))∧aA (Below w.heap.size w w'))
 case atStart=>exact ⟨(0),(0),bg,bg,H',⟨Nat.le_refl _⟩,⟨(ak a6)⟩,⟨au⟩⟩
 case round =>
 clear H'
 obtain ⟨ab,a5,rfl,rfl,HA,gZ,a6,HB⟩:=hrel
 cases gk with
 | zero=>exact absurd HA.out (by simp [uP.l0])
 | succ k1 =>
 obtain ⟨H⟩:=HA
 simp only [uP.l0] at H
 have b0:=m_ H
 clear H
 have ak':=dh a6.out
 go_upto_if 9 with (fail)
 (try clear ak')
 obtain ⟨H⟩:=b0
 revert H;refine gJ (fun af H=>?_) fun af H=>?_
 rotate_left
 ·try simp only [aY,bf,af]
  obtain rfl:=dF H
  go_wp2
  go_ret
  exact ⟨bM,au⟩
 try simp only [aY,bf,af]
 obtain ⟨b2,H⟩:=gK H
 have b1:=m_ H
 clear H
 have AY:=dh a6.out
 have al:0≤(a5:Int):=bF bG
 have am:a5 < (aI.length:Int):=bF bG
 obtain ⟨aq,av,a7,a8,a9⟩:=kY lq.out a5 al am
 cases av
 replace a7:=iQ HB.out a7
 replace a8:=iQ HB.out a8
 replace a9:=iQ HB.out a9
 replace al:=eq_true al
 replace am:=eq_true am
 go_upto_if 18 with (fail)
 (try clear AY)
 (try clear a7 a8 a9)
 obtain ⟨H⟩:=b1
 obtain ⟨VG,Qn⟩:∃ IK:Bool,IK=((aC aI a5).f1):=⟨_,rfl⟩
 replace H:(if (VG=true) then (uP.l0 k1 ab (wrap64 (a5+1)) aI) else ((BO.f (((aC aI a5).f2).size:Int)).bind fun ai=>(uP.l0 k1 (wrap64 (ab+ai)) (wrap64 (a5+1)) aI)))=some r:=by rw [← Qn] at H;exact H
 have Vg:=m_ Qn
 clear Qn
 (try rw [← Vg.out])
 by_cases aW:(VG=true)
 ·subst aW
  rw [if_pos rfl] at H
  have H':=m_ H
  clear H
  go_wp2
  go_roundg k1
  case measure=>have:=gZ.out;omega
  case rel=>exact ⟨(ab),(wrap64 (a5+1)),bg,bg,H',⟨ou⟩,⟨(ak a6)⟩,⟨au⟩⟩
 replace aW:=Bool.eq_false_iff.mpr aW
 subst aW
 rw [if_neg iI] at H
 obtain ⟨ai,b3,H⟩:=bd_ H
 have H':=m_ H
 clear H
 have zY:=dh a6.out
 have an:0≤(a5:Int):=bF bG
 have ao:a5 < (aI.length:Int):=bF bG
 obtain ⟨ar,aw,ac,aa,ae⟩:=kY lq.out a5 an ao
 (try rw [← Vg.out] at aa)
 obtain rfl:aq=ar:=(by injection aw)
 replace ac:=iQ HB.out ac
 replace aa:=iQ HB.out aa
 replace ae:=iQ HB.out ae
 replace an:=eq_true an
 replace ao:=eq_true ao
 go_wp2_with (first|((with_reducible refine bT 99 ?_);refine bU (some 27) rfl rfl func99 aB rfl #[ah (((aC aI a5).f2).size:Int)] rfl aX ?_;(with_reducible refine (BO.calls (((aC aI a5).f2).size:Int) ai _ b3.out).mono ?_);rintro e w' ⟨rfl,⟨nd,rfl⟩⟩;refine ⟨_,rfl,?_⟩))
 go_roundg k1
 case measure=>have:=gZ.out;omega
 case rel=>exact ⟨(wrap64 (ab+ai)),(wrap64 (a5+1)),bg,bg,H',⟨ou⟩,⟨(ak a6)⟩,⟨au⟩⟩

def xR.f (k:Nat) (ab:Int) (ac:Int) (ae:Int) (a8:Int) (a5:List (aF)) (a2:Int) (a3:ByteArray):Option ((List (aF)) × Int):=if 0≤a2 then (if a2 < (a5.length:Int) then ((qH.f a5).bind fun a6=>(if a2 < (a6.length:Int) then ((some (a6.set (a2:Int).toNat (⟨(aC a5 a2).f0,(aC a5 a2).f1,a3⟩:aF):List (aF))).bind fun a7=>((uP.f k a7).bind fun a9=>(if a9 > a8 then ((qH.f a5).bind fun aa=>(some (aa,13))) else (some (a7,0))))) else (none))) else (none)) else (none)
theorem xR.calls (k:Nat) (bs:Int) (bu:Int) (bv:Int) (bb:Int) (cr:Option Addr) (bc:Nat) (cO:List (aF)) (a2:Int) (a3:ByteArray) (r1:List (aF)) (r2:Int) (w:World) (cm:Kd.C aU w cr cO.length cO) (cn:cO.length≤bc) (h:xR.f k bs bu bv bb cO a2 a3=some (r1,r2)) :
  Calls Tryz.prog 124 #[.agg #[ah bs,ah bu,ah bv,ah bb],.agg #[.slice cr cO.length bc],ah a2,.string a3] w fun e w'=>∃ eP:Value,e=.returned (.tuple #[.agg #[eP],ah r2])∧Kd.R aU 43 w' w.heap.size (fun _=>True) eP r1∧Below w.heap.size w w':=by
 have Bq:=underlying25
 have mF:=underlying28
 have uf:=underlying43
 have yP:=m_ cm
 have co:=m_ cn
 clear cm cn
 have HB:=m_ (Below.refl w.heap.size w)
 unfold xR.f at h
 have H:=h
 clear h
 obtain ⟨e5,H⟩:=gK H
 obtain ⟨e6,H⟩:=gK H
 obtain ⟨aa,A7,H⟩:=bd_ H
 obtain ⟨e7,H⟩:=gK H
 obtain ⟨ca,d0,H⟩:=vH H
 obtain ⟨d1,e8,H⟩:=bd_ H
 have d2:=m_ H
 clear H
 go_enter func124,ntmps124
 try go_wp2_with (first|((with_reducible refine dJ 4 ?_);refine dO 4 (cs:=#[ah bs,ah bu,ah bv,ah bb]) 25 ?_;intro ao hg ed hbox hb;obtain ⟨HB,a7,dk,dl⟩:=kL au hb hbox hg;clear hb hbox hg)|((with_reducible refine dJ 5 ?_);refine dO 5 (cs:=#[.slice cr cO.length bc]) 28 ?_;intro cc hg ee hbox hb;obtain ⟨a7,HB,a5,dm,lF,az,b0⟩:=pq (ak a7) au hb hbox hg;clear hb hbox hg)|((with_reducible refine dJ 8 ?_);refine dO 8 (cs:=#[.slice none 0 0]) 28 ?_;intro bd hg ef hbox hb;obtain ⟨a7,a5,HB,a8,dp,dq,b1,b2,af,ag⟩:=pU (ak a7) (ak a5) au hb hbox hg;clear hb hbox hg;obtain ⟨be,fA,ap,aq⟩:=g_ b0 az af ag;have UH:=dh a5.out;have ct:0≤(a2:Int):=bF bG;have iO:a2 < (cO.length:Int):=bF bG;obtain ⟨dM,dd,b7,b8,b9⟩:=kY yP.out a2 ct iO;cases dd;replace b7:=iQ HB.out b7;replace b8:=iQ HB.out b8;replace b9:=iQ HB.out b9;replace ct:=eq_true ct;replace iO:=eq_true iO)|((with_reducible refine dJ 10 ?_);refine dO 10 (cs:=#[.string (⟨#[]⟩:ByteArray),.bool false,.string (⟨#[]⟩:ByteArray)]) 43 ?_;intro an hg eh hbox hb;obtain ⟨a7,a5,a8,HB,tJ,dr,dt,b3,bz,aK,b4,ab,ai⟩:=vI (ak a7) (ak a5) (ak a8) au hb hbox hg;clear hb hbox hg;obtain ⟨cd,ce,bh,bi,ar,aW⟩:=kJ bz b3 b4 aK ai ab;have d3:=uw tJ.out;have Oo:=dh a5.out)|((with_reducible refine bT 73 ?_);refine bU (some 20) rfl rfl func73 aB rfl #[.agg #[.slice (some dM) cO.length bc]] rfl aX ?_;(with_reducible refine (qH.calls _ _ cO aa _ (Kd.pJ yP.out au) co.out A7.out).mono ?_);rintro e ei ⟨az8,rfl,ho0,hb⟩;refine ⟨_,rfl,?_⟩;obtain ⟨a6,a7,a5,a8,tJ,HB⟩:=p_ (Kd.dI (Kd.vS ho0 (g:=an) (o:=.cells #[.string ((aC cO a2).f0),.bool ((aC cO a2).f1),.string a3] 43) aaG) (cZ au)) <| p_ (bZ (g:=ao) (o:=.cells #[ah bs,ah bu,ah bv,ah bb] 25) (nO a7.out b3.out) hb) <| p_ (bZ (g:=cc) (o:=.cells #[.slice (some dM) cO.length bc] 28) (nO a5.out aK.out) hb) <| p_ (bZ (g:=bd) (o:=.cells #[.slice none 0 0] 28) (nO a8.out ab.out) hb) <| p_ (bZ (g:=an) (o:=.cells #[.string ((aC cO a2).f0),.bool ((aC cO a2).f1),.string a3] 43) aaG hb) <| a_ (dP au hb);(try clear hb))|((with_reducible refine dJ 11 ?_);refine dO 11 (cs:=#[.slice none 0 0]) 28 ?_;intro bw hg e9 hbox hb;obtain ⟨a6,a7,a5,a8,tJ,HB,a9,du,dv,aN,b5,ac,aQ,ae,al,am,b6⟩:=p_ (Kd.dw (aJ a6) hb) <| EU (ak a7) (ak a5) (ak a8) (ak tJ) au hb hbox hg;clear hb hbox hg;obtain ⟨cv,ba,de⟩:=Kd.dK a6.out;subst de;obtain ⟨bj,bl,av,aw,ax,bH,bm,fB⟩:=iH b5 aN aQ ac al ae b6 am;have aA8:=dh a9.out)|((with_reducible refine Qe (t:=28) (p:=11) rfl ?_);refine Ua (t:=28) (p:=11) (v:=?aAG) (w1:=(e9.setCell ⟨bw,0,none⟩ (.slice cv aa.length ba))) ?hg ?ho ?hn ?hr ?_;(case ho=>rfl);(case hg=>rfl);(case hn=>rfl);(case hr=>first|(go_simp;done)|(go_simp;rfl));intro bq hw;have gy:=bY (⟨(by rw [hw];exact (by (with_reducible repeat (first|apply Kd.dB|apply Kd.dD|apply Kd.aZ));exact Kd.bn (aH (Kd.bQ a6.out a9.out (by decide))) (fun _ hk=>hk.1.2)))⟩:aA (Kd.R aU 43 bq w.heap.size (fun ay=>ay≠an) (.slice cv aa.length ba) aa)) <| bY (⟨(by rw [hw];exact (nO a7.out aN.out))⟩:aA (bq.heap[ao]?=some (.cells #[ah bs,ah bu,ah bv,ah bb] 25))) <| bY (⟨(by rw [hw];exact (nO a5.out ac.out))⟩:aA (bq.heap[cc]?=some (.cells #[.slice (some dM) cO.length bc] 28))) <| bY (⟨(by rw [hw];exact (nO a8.out ae.out))⟩:aA (bq.heap[bd]?=some (.cells #[.slice none 0 0] 28))) <| bY (⟨(by rw [hw];exact (nO tJ.out am.out))⟩:aA (bq.heap[an]?=some (.cells #[.string ((aC cO a2).f0),.bool ((aC cO a2).f1),.string a3] 43))) <| bY (⟨(by rw [hw];exact (yB a9.out))⟩:aA (bq.heap[bw]?=some (.cells #[.slice cv aa.length ba] 28))) <| (⟨(by rw [hw];exact au)⟩:aA (Below w.heap.size w bq));clear hw a6 a7 a5 a8 tJ a9 HB;obtain ⟨a6,a7,a5,a8,tJ,a9,HB⟩:=gy;have aA':=dh a9.out;have d4:=uw tJ.out;have p9:0≤(a2:Int):=bF bG;have q9:(a2:Int) < ((aa.length:Int):Int):=bF bG;obtain ⟨br,ej,jU,dx,ea,ek,dy⟩:=Kd.yQ a6.out (by omega);(first|cases jU|(injection jU with kQ uX uV;(first|subst kQ|(injection kQ with kQ;subst kQ));subst uV;clear uX));have df:=m_ dx;have el:=m_ dy;clear dx ea dy;obtain ⟨em,dg,dz,ck,cl⟩:=Kd.oP a6.out z43 (a2:Int) p9 q9;obtain rfl:=oW dz;have d5:bq.cell? ⟨br,(a2:Int).toNat * 3,none⟩=some (.string ((aC aa a2).f0)):=ck 0 _ rfl;have d6:bq.cell? ⟨br,(a2:Int).toNat * 3+1,none⟩=some (.bool ((aC aa a2).f1)):=ck 1 _ rfl;have d7:bq.cell? ⟨br,(a2:Int).toNat * 3+2,none⟩=some (.string ((aC aa a2).f2)):=ck 2 _ rfl;have e0:bq.frozen? ⟨br,(a2:Int).toNat * 3,none⟩=false:=cl 0;have e3:bq.frozen? ⟨br,(a2:Int).toNat * 3+1,none⟩=false:=cl 1;have e4:bq.frozen? ⟨br,(a2:Int).toNat * 3+2,none⟩=false:=cl 2;clear dg ck cl dz;replace p9:=eq_true p9;replace q9:=eq_true q9;have d8:=m_ (show Kd.R aU 43 bq w.heap.size (fun ay=>ay≠an) (.slice (some ⟨br,0,none⟩) aa.length ba) aa from (aJ a6));obtain ⟨eb,cp,d9,bo,bx⟩:=Kd.oP d8.out z43 (a2:Int) (bF bG) (by have dG:(a2:Int) < ((aa.length:Int):Int):=bF bG;first|exact dG|(have e_:=(Kd.dN a6.out).1;omega)|simpa using dG);obtain rfl:=oW d9;have OL:=Kd.yc d8.out (a2:Int) (bF bG) (by have dG:(a2:Int) < ((aa.length:Int):Int):=bF bG;first|exact dG|(have e_:=(Kd.dN a6.out).1;omega)|simpa using dG) (seg:=[.string ((aC cO a2).f0),.bool ((aC cO a2).f1),.string a3]) (j:=0) cp bo (show 3≤3 from by decide) (x':=(⟨(aC cO a2).f0,(aC cO a2).f1,a3⟩:aF)) (qp _ _ _ (⟨(aC cO a2).f0,(aC cO a2).f1,a3⟩:aF) ) (fun _ hk=>hk);have cf:=bo 0 _ rfl;(try simp only [show (aU).sz=3 from rfl,Nat.mul_one,Nat.add_zero] at cf);have cw:=bx 0;(try simp only [show (aU).sz=3 from rfl,Nat.mul_one,Nat.add_zero] at cw);have cg:=bo 1 _ rfl;(try simp only [show (aU).sz=3 from rfl,Nat.mul_one,Nat.add_zero] at cg);have cx:=bx 1;(try simp only [show (aU).sz=3 from rfl,Nat.mul_one,Nat.add_zero] at cx);have ch:=bo 2 _ rfl;(try simp only [show (aU).sz=3 from rfl,Nat.mul_one,Nat.add_zero] at ch);have cy:=bx 2;(try simp only [show (aU).sz=3 from rfl,Nat.mul_one,Nat.add_zero] at cy);clear cp bo bx d9)|((with_reducible refine Qe (t:=43) (p:=25) rfl ?_);refine Ua (t:=43) (p:=25) (v:=?aAH) (w1:=(((bq.setCell ⟨br,(a2:Int).toNat * 3,none⟩ (.string ((aC cO a2).f0))).setCell ⟨br,(a2:Int).toNat * 3+1,none⟩ (.bool ((aC cO a2).f1))).setCell ⟨br,(a2:Int).toNat * 3+2,none⟩ (.string a3))) ?hg ?ho ?hn ?hr ?_;(case ho=>rfl);(case hg=>rfl);(case hn=>rfl);(case hr=>first|(go_simp;done)|(go_simp;rfl));intro db hw;have hg:bq.grownBy db (some br):=(by rw [hw];exact OL.2);have Jt:Kd.R aU 43 db w.heap.size (fun ay=>ay≠an) (.slice (some ⟨br,0,none⟩) aa.length ba) ca:=(by rw [hw,d0.out];exact OL.1);clear OL;have gy:=p_ (iy (g:=ao) (o:=.cells #[ah bs,ah bu,ah bv,ah bb] 25) (ak a7) hg (Kd.fV a6.out a7.out (by decide))) <| p_ (iy (g:=cc) (o:=.cells #[.slice (some dM) cO.length bc] 28) (ak a5) hg (Kd.fV a6.out a5.out (by decide))) <| p_ (iy (g:=bd) (o:=.cells #[.slice none 0 0] 28) (ak a8) hg (Kd.fV a6.out a8.out (by decide))) <| p_ (iy (g:=an) (o:=.cells #[.string ((aC cO a2).f0),.bool ((aC cO a2).f1),.string a3] 43) (ak tJ) hg (Kd.rC a6.out (fun _ hk=>hk))) <| p_ (Jt) <| p_ (iy (g:=bw) (o:=.cells #[.slice (some ⟨br,0,none⟩) aa.length ba] 28) (ak a9) hg (Kd.fV a6.out a9.out (by decide))) <| a_ ((by rw [hw];exact iF (iF (iF (HB.out) df.out) df.out) df.out:Below w.heap.size w db));clear a7 a5 a8 tJ a6 a9 HB;obtain ⟨a7,a5,a8,tJ,a6,a9,HB⟩:=gy;clear hg hw Jt))
 obtain ⟨a6,a7,a5,a8,tJ,a9,HB⟩:=p_ (Kd.aZ a6.out) <| yV a7 a5 a8 tJ a9 HB
 refine iT (n:=5) (S:=fun w'=>jQ w' bw (.slice (some ⟨br,0,none⟩) aa.length ba) <| aa8 w' ao (ah bs) (ah bu) (ah bv) (ah bb)) (ds:=[]) Di aB rfl rfl ⟨(aP a9.out 0).trans rfl,VA a7.out⟩ (fun hH=>?_)
 generalize db.drew=en at a6 a7 a5 a8 tJ a9 HB hH ⊢
 refine sN (i:=2) (N:=some 28) #[F_,F_,aj,F_,F_] aB ?_
 refine lI (i:=0) (N:=some 26) (v:=?_) (a':=?_) #[aj,F_,aj,F_,F_] rfl rfl aB (fun _ _ _ h=>h) (Or.inl ⟨(by rfl),?_⟩) hH ?_ ?_
 rotate_left
 ·rintro w' ⟨s0,s1,s2,s3,s4⟩
  go_simp
  with_reducible rfl
 rotate_left
 ·simp only [Act.put,List.setIfInBounds_toArray,List.set_cons_zero,List.set_cons_succ,aY,bf]
  rfl
 refine lI (i:=3) (N:=some 29) (v:=?_) (a':=?_) #[aj,F_,aj,aj,F_] rfl rfl aB (fun _ _ _ h=>h) (Or.inl ⟨(by rfl),?_⟩) hH ?_ ?_
 rotate_left
 ·rintro w' ⟨s0,s1,s2,s3,s4⟩
  go_simp
  with_reducible rfl
 rotate_left
 ·simp only [Act.put,List.setIfInBounds_toArray,List.set_cons_zero,List.set_cons_succ,aY,bf]
  rfl
 refine fD (i:=1) (N:=some 27) Dj rfl rfl aB (by decide) (fun K hK=>?_)
 refine i_ func52 aB rfl #[.agg #[.slice (some ⟨br,0,none⟩) ca.length ba]] (by rfl) rfl rfl (by (try simp only [List.map_toArray,List.map_cons,List.map_nil]);first|done|(rw [show ca.length=aa.length from (Kd.dN a6.out).1.symm] <;> rfl)|rfl|(simp only [List.length_drop,List.length_take];rfl)) ?_
 with_reducible refine (uP.calls k _ _ ca d1 _ ?kX ?wH e8.out).mono ?_
 (case kX=>repeat (first|exact (Kd.dN a6.out).2.2|(with_reducible refine Kd.jO ?_ _)|(with_reducible refine Kd.jT ?_ _)|(with_reducible refine Kd.jS ?_)))
 (case wH=>rw [show ca.length=aa.length from (Kd.dN a6.out).1.symm];exact (Kd.dN a6.out).2.1)
 rintro e eo ⟨rfl,hb⟩
 refine ⟨_,rfl,?_⟩
 obtain ⟨a6,a7,a5,a8,tJ,a9,HB⟩:=p_ (Kd.dw (aJ a6) hb) <| oD (ak a7) (ak a5) (ak a8) (ak tJ) (ak a9) au hb
 (try clear hb)
 refine hK.out _ _ ⟨(aP a9.out 0).trans rfl,VA a7.out⟩ (fun hH=>?_)
 clear hK K
 refine eX (some 27) ?_
 refine sN (i:=4) (N:=some 30) Dk aB ?_
 refine iP aB ?_
 go_upto_if 30 with (fail)
 (try clear fA ce bl be ap bi aw aq aW bH cd bh ar fB bj av ax bm)
 (try clear d3)
 (try clear d4)
 (try clear cf cg ch)
 (try clear b7 b8 b9)
 (try clear d5 d6 d7)
 obtain ⟨H⟩:=d2
 revert H;refine gJ (fun bp H=>?_) fun bp H=>?_
 rotate_left
 ·try simp only [aY,bf,bp]
  simp only [Option.some.injEq,Prod.mk.injEq] at H
  obtain ⟨rfl,rfl⟩:=H
  obtain ⟨bj,bl,av,aw,ax,bH,bm,fB⟩:=iH b5 aN aQ ac al ae b6 am
  have aBj:=dh a9.out
  obtain ⟨ci,cj,aq,ap,aW,ar⟩:=kJ b2 b1 ag af ab ai
  have aaW:=dh a8.out
  go_wp2
  refine bodyPost_ret (Nz rfl _ _ bd 28 #[.slice (some ⟨br,0,none⟩) aa.length ba] (0,0) _ rfl aT underlying28 rfl aB) rfl ?_
  exact ⟨_,bM,(by (with_reducible repeat (first|apply Kd.dB|apply Kd.dD|apply Kd.aZ));exact Kd.bn (aH (Kd.bQ a6.out a8.out (by decide))) (fun _ hk=>trivial)),au⟩
 try simp only [aY,bf,bp]
 obtain ⟨da,ec,H⟩:=bd_ H
 simp only [Option.some.injEq,Prod.mk.injEq] at H
 obtain ⟨rfl,rfl⟩:=H
 obtain ⟨be,fA,ap,aq,bi,bh,aw,av⟩:=iH b0 az af ag aK b4 ac aQ
 have aBf:=dh a5.out
 go_wp2_with (first|((with_reducible refine bT 73 ?_);refine bU (some 32) rfl rfl func73 aB rfl #[.agg #[.slice (some dM) cO.length bc]] rfl aX ?_;(with_reducible refine (qH.calls _ _ cO da _ pG co.out ec.out).mono ?_);rintro e ep ⟨az9,rfl,ho0,hb⟩;refine ⟨_,rfl,?_⟩;obtain ⟨a6,cq,a7,a5,a8,tJ,a9,HB⟩:=p_ (Kd.jX (aJ a6) (Kd.jo ho0) hb) <| p_ (Kd.dI (Kd.vS (Kd.jY ho0 (Kd.jJ (aJ a6))) (g:=an) (o:=.cells #[.string ((aC cO a2).f0),.bool ((aC cO a2).f1),.string a3] 43) (ak tJ)) (cZ au)) <| oD (ak a7) (ak a5) (ak a8) (ak tJ) (ak a9) au hb;(try clear hb);(try clear ho0);obtain ⟨lN,di,dj⟩:=Kd.dK cq.out;subst dj;obtain ⟨ci,cj,aW,ar,bH,ax⟩:=kJ b2 b1 ab ai ae al;have ala:=dh a8.out))
 refine bodyPost_ret (Nz rfl _ _ bd 28 #[.slice lN da.length di] (0,0) _ rfl aT underlying28 rfl aB) rfl ?_
 exact ⟨_,bM,(by (with_reducible repeat (first|apply Kd.dB|apply Kd.dD|apply Kd.aZ));exact Kd.bn (aH (Kd.bQ cq.out a8.out (by decide))) (fun _ hk=>trivial)),au⟩

def sK.l0:Nat→Int→Int→List Int→Int→Option (ByteArray)
 | 0,_,_,_,_=>none
 | k+1,x0,x1,x5,x6=>if x6 < x0 then (if 0≤x6 then (if x6 < (x5.length:Int) then (sK.l0 k x0 x1 (x5.set (x6:Int).toNat x1) (wrap64 (x6+1))) else (none)) else (none)) else (some (strOfNums x5))
def sK.f (k:Nat) (a0:Int) (a1:Int):Option (ByteArray):=if 0≤a0 then (if (a0:Int).toNat≤281474976710656 then (sK.l0 k a0 a1 (List.replicate (a0:Int).toNat 0) 0) else (none)) else (none)
theorem sK.calls (k:Nat) (a0:Int) (a1:Int) (r:ByteArray) (w:World) (h:sK.f k a0 a1=some r) :
  Calls Tryz.prog 91 #[ah a0,.int .u8 a1] w fun e w'=>e=.returned (.string r)∧Below w.heap.size w w':=by
 have HB:=m_ (Below.refl w.heap.size w)
 unfold sK.f at h
 have H:=h
 clear h
 obtain ⟨aN,aQ,H⟩:=jE H
 obtain ⟨al,am,H⟩:=jE H
 obtain ⟨ac,a7⟩:∃ y_:List Int,y_=(List.replicate (a0:Int).toNat 0):=⟨_,rfl⟩
 rw [← a7] at H
 have a9:=m_ a7
 clear a7
 have H':=m_ H
 clear H
 go_enter func91,ntmps91
 go_wp2_with (first|((with_reducible refine dJ 8 ?_);refine Kd.abS (Kd.int .u8) _ 5 rfl (N:=8) rfl 22 _ _ rfl a0 rfl rfl underlying22 (.int .u8 0) 1 info5 rfl (by decide) (by omega) 0 (ok:=fun _=>True) (iJ:=fun _=>True) rfl (fun _ hk=>hk) trivial (bF bG) (Nat.le_trans (Nat.mul_le_mul_right _ (bF bG:a0.toNat≤281474976710656)) (by omega)) (Below.refl _ _) (Nat.le_refl _) ?_;intro akW w5 uZ hb iV iW;clear iV iW;(first|rw [← a9.out] at uZ|(simp only [Int.reduceToNat] at uZ;rw [← a9.out] at uZ));obtain ⟨ae,HB⟩:=p_ (Kd.dI uZ (cZ au)) <| a_ (dP au hb);clear hb uZ))
 go_loopg [6] k (fun kq v6 w'=>∃ (a6:List Int) (a5:Int),v6=ah a5∧aA (sK.l0 kq a0 a1 a6 a5=some r)∧aA (kq≤k)∧aA (Kd.R (Kd.int .u8) 5 w' w.heap.size (fun _=>True) akW a6)∧aA (Below w.heap.size w w'))
 case atStart=>exact ⟨(ac),(0),bg,H',⟨Nat.le_refl _⟩,⟨(aJ ae)⟩,⟨au⟩⟩
 case round =>
 clear H'
 try clear c3;try clear aN;try clear aQ;try clear c4;try clear al;try clear am
 obtain ⟨a6,a5,rfl,HA,gZ,dn,HB⟩:=hrel
 cases gk with
 | zero=>exact absurd HA.out (by simp [sK.l0])
 | succ k1 =>
 obtain ⟨H⟩:=HA
 simp only [sK.l0] at H
 revert H;refine gJ (fun an H=>?_) fun an H=>?_
 rotate_left
 ·obtain rfl:=dF H
  have al2:=Zz (P:=Tryz.prog) underlying22 underlying5 underlying9 (Kd.Nv dn.out)
  go_wp2
  go_ret
  exact ⟨bM,au⟩
 obtain ⟨bH,H⟩:=gK H
 obtain ⟨az,H⟩:=gK H
 obtain ⟨aa,a8⟩:∃ y_:List Int,y_=(a6.set (a5:Int).toNat a1):=⟨_,rfl⟩
 rw [← a8] at H
 have af:=m_ a8
 clear a8
 have H':=m_ H
 clear H
 have ao:0≤(a5:Int):=bF bG
 have ap:(a5:Int) < ((a6.length:Int):Int):=bF bG
 obtain ⟨ab,aq,ag,aK,ar,b0,ai⟩:=Kd.yQ dn.out (by omega)
 (first|cases ag|(injection ag with kQ uX uV;(first|subst kQ|(injection kQ with kQ;subst kQ));subst uV;clear uX))
 have aW:=m_ aK
 have b1:=m_ ai
 clear aK ar ai
 obtain ⟨av,aw⟩:=Kd.abQ 0 dn.out (a5:Int) ao ap
 replace ao:=eq_true ao
 replace ap:=eq_true ap
 have OD:=Kd.abV dn.out (a5:Int) a1
 go_wp2_with (first|((with_reducible refine Qe (t:=5) (p:=17) rfl ?_);refine Ua (t:=5) (p:=17) (v:=?aAF) (w1:=(wr.setCell ⟨ab,(a5:Int).toNat,none⟩ (.int .u8 a1))) ?hg ?ho ?hn ?hr ?_;(case ho=>rfl);(case hg=>rfl);(case hn=>rfl);(case hr=>first|(go_simp;done)|(go_simp;rfl));intro ax hw;have hg:wr.grownBy ax (some ab):=(by rw [hw];exact OD.2);have Jt:Kd.R (Kd.int .u8) 5 ax w.heap.size (fun _=>True) (.slice (some ⟨ab,0,none⟩) a6.length aq) aa:=(by rw [hw,af.out];exact OD.1);clear OD;have gy:=p_ (Jt) <| a_ ((by rw [hw];exact iF (HB.out) aW.out:Below w.heap.size w ax));clear dn HB;obtain ⟨dn,HB⟩:=gy;clear hg hw Jt))
 go_roundg k1
 case measure=>have:=gZ.out;omega
 case rel=>exact ⟨(aa),(wrap64 (a5+1)),bg,H',⟨ou⟩,⟨(aJ dn)⟩,⟨au⟩⟩

def zx.f (k:Nat) (a0:Int):Option (ByteArray):=(uh.f a0 0 20000).bind fun a5=>(if a5=true then ((sK.f k a0 0).bind fun a6=>(some a6)) else (some (⟨#[]⟩:ByteArray)))
theorem zx.calls (k:Nat) (a0:Int) (r:ByteArray) (w:World) (h:zx.f k a0=some r) :
  Calls Tryz.prog 146 #[ah a0] w fun e w'=>e=.returned (.string r)∧Below w.heap.size w w':=by
 have HB:=m_ (Below.refl w.heap.size w)
 unfold zx.f at h
 have H:=h
 clear h
 obtain ⟨a5,A2,H⟩:=bd_ H
 have a7:=m_ H
 clear H
 go_enter func146,ntmps146
 go_upto_if 5 with (first|((with_reducible refine bT 98 ?_);refine bU (some 4) rfl rfl func98 aB rfl #[ah a0,ah 0,ah 20000] rfl aX ?_;(with_reducible refine (uh.calls a0 0 20000 a5 _ A2.out).mono ?_);rintro e w' ⟨rfl,⟨nd,rfl⟩⟩;refine ⟨_,rfl,?_⟩))
 (try simp only [Act.put,List.setIfInBounds_toArray,List.set_cons_zero,List.set_cons_succ])
 obtain ⟨H⟩:=a7
 by_cases c4:a5=true
 rotate_left
 ·replace c4:=Bool.eq_false_iff.mpr c4
  subst c4
  rw [if_neg iI] at H
  obtain rfl:=dF H
  go_wp2
  go_ret
  exact ⟨bM,au⟩
 subst c4
 rw [if_pos rfl] at H
 obtain ⟨a6,A5,H⟩:=bd_ H
 obtain rfl:=dF H
 go_wp2_with (first|((with_reducible refine bT 91 ?_);refine bU (some 7) rfl rfl func91 aB rfl #[ah a0,.int .u8 0] rfl aX ?_;(with_reducible refine (sK.calls k a0 0 a6 _ A5.out).mono ?_);rintro e w6 ⟨rfl,hb⟩;refine ⟨_,rfl,?_⟩;have eF:=m_ (dP au hb);clear HB;have HB:=eF;clear eF;(try clear hb)))
 go_ret
 exact ⟨bM,au⟩

def uF.j0:Nat→ByteArray→Int→ByteArray→Bool→Option (ByteArray)
 | 0,_,_,_,_=>none
 | k+1,x0,x1,x2,aQ=>if aQ=true then (some x0) else (if (x0.size:Int) < x1 then ((zx.f k (wrap64 (x1 - (x0.size:Int)))).bind fun a6=>(if x0.size+a6.size≤9223372036854775807 then ((some (x0++a6:ByteArray)).bind fun a5=>(if (wrap64 (x1+(x2.size:Int))) > (a5.size:Int) then (if 0≤x1 then (if x1≤(a5.size:Int) then ((some (a5.extract 0 (x1:Int).toNat:ByteArray)).bind fun a7=>(if a7.size+x2.size≤9223372036854775807 then ((some (a7++x2:ByteArray)).bind fun ag=>(some ag)) else (none))) else (none)) else (none)) else (if 0≤x1 then (if x1≤(a5.size:Int) then ((some (a5.extract 0 (x1:Int).toNat:ByteArray)).bind fun a8=>(if a8.size+x2.size≤9223372036854775807 then ((some (a8++x2:ByteArray)).bind fun a9=>(if 0≤(wrap64 (x1+(x2.size:Int))) then (if (wrap64 (x1+(x2.size:Int)))≤(a5.size:Int) then ((some (a5.extract ((wrap64 (x1+(x2.size:Int))):Int).toNat a5.size:ByteArray)).bind fun aa=>(if a9.size+aa.size≤9223372036854775807 then ((some (a9++aa:ByteArray)).bind fun aK=>(some aK)) else (none))) else (none)) else (none))) else (none))) else (none)) else (none)))) else (none))) else (if (wrap64 (x1+(x2.size:Int))) > (x0.size:Int) then (if 0≤x1 then (if x1≤(x0.size:Int) then ((some (x0.extract 0 (x1:Int).toNat:ByteArray)).bind fun ab=>(if ab.size+x2.size≤9223372036854775807 then ((some (ab++x2:ByteArray)).bind fun ai=>(some ai)) else (none))) else (none)) else (none)) else (if 0≤x1 then (if x1≤(x0.size:Int) then ((some (x0.extract 0 (x1:Int).toNat:ByteArray)).bind fun ac=>(if ac.size+x2.size≤9223372036854775807 then ((some (ac++x2:ByteArray)).bind fun ae=>(if 0≤(wrap64 (x1+(x2.size:Int))) then (if (wrap64 (x1+(x2.size:Int)))≤(x0.size:Int) then ((some (x0.extract ((wrap64 (x1+(x2.size:Int))):Int).toNat x0.size:ByteArray)).bind fun af=>(if ae.size+af.size≤9223372036854775807 then ((some (ae++af:ByteArray)).bind fun aN=>(some aN)) else (none))) else (none)) else (none))) else (none))) else (none)) else (none))))
def uF.f (k:Nat) (a0:ByteArray) (a1:Int) (a2:ByteArray):Option (ByteArray):=if a2.toList=([]:List UInt8) then (uF.j0 k a0 a1 a2 true) else (if a1 < 0 then (uF.j0 k a0 a1 a2 true) else (if a1 > (wrap64 (128 - (a2.size:Int))) then (uF.j0 k a0 a1 a2 true) else (uF.j0 k a0 a1 a2 (decide ((a0.size:Int) > 128)))))
theorem uF.calls (k:Nat) (a0:ByteArray) (a1:Int) (a2:ByteArray) (r:ByteArray) (w:World) (h:uF.f k a0 a1 a2=some r) :
  Calls Tryz.prog 125 #[.string a0,ah a1,.string a2] w fun e w'=>e=.returned (.string r)∧Below w.heap.size w w':=by
 have HB:=m_ (Below.refl w.heap.size w)
 unfold uF.f at h
 have H:=h
 clear h
 have dM:=m_ H
 clear H
 go_enter func125,ntmps125
 go_upto_region 1 with (fail)
 repeat (go_quiet (fail);go_upto_region 1 with (fail))
 go_cut [25] (fun v25 wc=>∃ (kq:Nat) (aK:Bool),v25=.bool aK∧aA (uF.j0 kq a0 a1 a2 aK=some r)∧aA (kq≤k)∧aA (Below w.heap.size w wc))
 case first =>
  obtain ⟨H⟩:=dM
  revert H;refine fH (fun c5 H=>?_) fun c5 H=>?_
  ·have ae:=fZ c5
   have b5:=f_ c5
   clear c5
   (first|rw [ae]|(simp only [aY,bf];rw [ae])|rw [show (a2.toList).isEmpty=true from by simpa using ae]|skip)
   have H':=m_ H
   clear H
   go_wp2
   repeat (go_quiet (fail);try go_wp2)
   go_meet
   case rel=>exact ⟨_,(true),bg,H',⟨kC⟩,⟨au⟩⟩
  have ae:=fP c5
  have b5:=fQ c5
  (first|rw [ae]|(simp only [aY,bf];rw [ae])|rw [show (a2.toList).isEmpty=false from by simpa using ae]|skip)
  revert H;refine gJ (fun b6 H=>?_) fun b6 H=>?_
  ·have H':=m_ H
   clear H
   go_wp2
   repeat (go_quiet (fail);try go_wp2)
   go_meet
   case rel=>exact ⟨_,(true),bg,H',⟨kC⟩,⟨au⟩⟩
  revert H;refine gJ (fun b7 H=>?_) fun b7 H=>?_
  ·have H':=m_ H
   clear H
   go_wp2
   repeat (go_quiet (fail);try go_wp2)
   go_meet
   case rel=>exact ⟨_,(true),bg,H',⟨kC⟩,⟨au⟩⟩
  have H':=m_ H
  clear H
  go_wp2
  repeat (go_quiet (fail);try go_wp2)
  go_meet
  case rel=>exact ⟨_,(decide ((a0.size:Int) > 128)),bg,H',⟨kC⟩,⟨au⟩⟩
 case rest =>
 clear dM
 obtain ⟨kq,aK,rfl,HA,Iu,HB⟩:=hcut
 cases kq with
 | zero=>exact absurd HA.out (by simp [uF.j0])
 | succ AB =>
 obtain ⟨H⟩:=HA
 simp only [uF.j0] at H
 by_cases c8:aK=true
 ·subst c8
  rw [if_pos rfl] at H
  obtain rfl:=dF H
  go_wp2
  repeat (go_quiet (fail);try go_wp2)
  go_ret
  exact ⟨bM,au⟩
 replace c8:=Bool.eq_false_iff.mpr c8
 subst c8
 rw [if_neg iI] at H
 revert H;refine gJ (fun bh H=>?_) fun bh H=>?_
 rotate_left
 ·revert H;refine gJ (fun am H=>?_) fun am H=>?_
  ·obtain ⟨bx,bz,H⟩:=jE H
   obtain ⟨ca,cc,H⟩:=jE H
   obtain ⟨aQ,an⟩:∃ y_:ByteArray,(a0.extract 0 (a1:Int).toNat)=y_:=⟨_,rfl⟩
   replace H:(if aQ.size+a2.size≤9223372036854775807 then ((some (aQ++a2:ByteArray)).bind fun b2=>(some b2)) else (none))=some r:=by rw [← an];exact (Option.bind_some _ _).symm.trans H
   (try simp only [Int.toNat_natCast] at an)
   obtain ⟨b9,H⟩:=kV H
   have cd:=eq_true b9
   have ce:=mM b9
   try have cf:(9223372036854775807 < aQ.size+a2.size)=False:=eq_false (Nat.not_lt.2 b9)
   clear b9
   obtain ⟨b2,ao⟩:∃ y_:ByteArray,(aQ++a2)=y_:=⟨_,rfl⟩
   replace H:(some b2)=some r:=by rw [← ao];exact (Option.bind_some _ _).symm.trans H
   (try simp only [Int.toNat_natCast] at ao)
   obtain rfl:=dF H
   go_wp2
   repeat (go_quiet (fail);try go_wp2)
   go_ret
   exact ⟨bM,au⟩
  obtain ⟨cg,ch,H⟩:=jE H
  obtain ⟨ci,cj,H⟩:=jE H
  obtain ⟨al,ap⟩:∃ y_:ByteArray,(a0.extract 0 (a1:Int).toNat)=y_:=⟨_,rfl⟩
  replace H:(if al.size+a2.size≤9223372036854775807 then ((some (al++a2:ByteArray)).bind fun a9=>(if 0≤(wrap64 (a1+(a2.size:Int))) then (if (wrap64 (a1+(a2.size:Int)))≤(a0.size:Int) then ((some (a0.extract ((wrap64 (a1+(a2.size:Int))):Int).toNat a0.size:ByteArray)).bind fun a8=>(if a9.size+a8.size≤9223372036854775807 then ((some (a9++a8:ByteArray)).bind fun ac=>(some ac)) else (none))) else (none)) else (none))) else (none))=some r:=by rw [← ap];exact (Option.bind_some _ _).symm.trans H
  (try simp only [Int.toNat_natCast] at ap)
  obtain ⟨ba,H⟩:=kV H
  have ck:=eq_true ba
  have cl:=mM ba
  try have cm:(9223372036854775807 < al.size+a2.size)=False:=eq_false (Nat.not_lt.2 ba)
  clear ba
  obtain ⟨a9,aq⟩:∃ y_:ByteArray,(al++a2)=y_:=⟨_,rfl⟩
  replace H:(if 0≤(wrap64 (a1+(a2.size:Int))) then (if (wrap64 (a1+(a2.size:Int)))≤(a0.size:Int) then ((some (a0.extract ((wrap64 (a1+(a2.size:Int))):Int).toNat a0.size:ByteArray)).bind fun a8=>(if a9.size+a8.size≤9223372036854775807 then ((some (a9++a8:ByteArray)).bind fun ac=>(some ac)) else (none))) else (none)) else (none))=some r:=by rw [← aq];exact (Option.bind_some _ _).symm.trans H
  (try simp only [Int.toNat_natCast] at aq)
  obtain ⟨JH,Jf⟩:∃ lU:Int,(wrap64 (a1+(a2.size:Int)))=lU:=⟨_,rfl⟩
  replace H:(if 0≤(JH) then (if (JH)≤(a0.size:Int) then ((some (a0.extract ((JH):Int).toNat a0.size:ByteArray)).bind fun a8=>(if a9.size+a8.size≤9223372036854775807 then ((some (a9++a8:ByteArray)).bind fun ac=>(some ac)) else (none))) else (none)) else (none))=some r:=by first|(rw [Jf] at H;exact H)|(simp only [Jf] at H ⊢;exact H)
  (try rw [Jf] at am)
  have awz:(IntKind.i64.wrap (a1+(a2.size:Int)))=JH:=(aY _).trans Jf
  obtain ⟨cn,co,H⟩:=jE H
  obtain ⟨cp,cq,H⟩:=jE H
  obtain ⟨a8,ar⟩:∃ y_:ByteArray,(a0.extract ((JH):Int).toNat a0.size)=y_:=⟨_,rfl⟩
  replace H:(if a9.size+a8.size≤9223372036854775807 then ((some (a9++a8:ByteArray)).bind fun ac=>(some ac)) else (none))=some r:=by rw [← ar];exact (Option.bind_some _ _).symm.trans H
  (try simp only [Int.toNat_natCast] at ar)
  obtain ⟨bb,H⟩:=kV H
  have cr:=eq_true bb
  have ct:=mM bb
  try have iO:(9223372036854775807 < a9.size+a8.size)=False:=eq_false (Nat.not_lt.2 bb)
  clear bb
  obtain ⟨ac,aW⟩:∃ y_:ByteArray,(a9++a8)=y_:=⟨_,rfl⟩
  replace H:(some ac)=some r:=by rw [← aW];exact (Option.bind_some _ _).symm.trans H
  (try simp only [Int.toNat_natCast] at aW)
  obtain rfl:=dF H
  go_wp2
  repeat (go_quiet (fail);try go_wp2)
  go_ret
  exact ⟨(by first|rfl|(simp [rD,rE] <;> rfl)|(simp only [← Jf];first|rfl|(simp [rD,rE] <;> rfl))|(simp [*,rD,rE] <;> rfl)),au⟩
 obtain ⟨ai,bp,H⟩:=bd_ H
 obtain ⟨bc,H⟩:=kV H
 have cv:=eq_true bc
 have cw:=mM bc
 try have cx:(9223372036854775807 < a0.size+ai.size)=False:=eq_false (Nat.not_lt.2 bc)
 clear bc
 obtain ⟨a5,av⟩:∃ y_:ByteArray,(a0++ai)=y_:=⟨_,rfl⟩
 replace H:(if (wrap64 (a1+(a2.size:Int))) > (a5.size:Int) then (if 0≤a1 then (if a1≤(a5.size:Int) then ((some (a5.extract 0 (a1:Int).toNat:ByteArray)).bind fun af=>(if af.size+a2.size≤9223372036854775807 then ((some (af++a2:ByteArray)).bind fun aN=>(some aN)) else (none))) else (none)) else (none)) else (if 0≤a1 then (if a1≤(a5.size:Int) then ((some (a5.extract 0 (a1:Int).toNat:ByteArray)).bind fun ag=>(if ag.size+a2.size≤9223372036854775807 then ((some (ag++a2:ByteArray)).bind fun a7=>(if 0≤(wrap64 (a1+(a2.size:Int))) then (if (wrap64 (a1+(a2.size:Int)))≤(a5.size:Int) then ((some (a5.extract ((wrap64 (a1+(a2.size:Int))):Int).toNat a5.size:ByteArray)).bind fun a6=>(if a7.size+a6.size≤9223372036854775807 then ((some (a7++a6:ByteArray)).bind fun aa=>(some aa)) else (none))) else (none)) else (none))) else (none))) else (none)) else (none)))=some r:=by rw [← av];exact (Option.bind_some _ _).symm.trans H
 (try simp only [Int.toNat_natCast] at av)
 have b8:=m_ H
 clear H
 go_upto_if 45 with (first|(go_at_call 146;(with_reducible refine (zx.calls AB (wrap64 (a1 - (a0.size:Int))) ai _ bp.out).mono ?_);rintro e cy ⟨rfl,hb⟩;have eF:=m_ (dP au hb);clear HB;have HB:=eF;clear eF;(try clear hb)))
 repeat (go_quiet (first|(go_at_call 146;(with_reducible refine (zx.calls AB (wrap64 (a1 - (a0.size:Int))) ai _ bp.out).mono ?_);rintro e cy ⟨rfl,hb⟩;have eF:=m_ (dP au hb);clear HB;have HB:=eF;clear eF;(try clear hb)));go_upto_if 45 with (first|(go_at_call 146;(with_reducible refine (zx.calls AB (wrap64 (a1 - (a0.size:Int))) ai _ bp.out).mono ?_);rintro e cy ⟨rfl,hb⟩;have eF:=m_ (dP au hb);clear HB;have HB:=eF;clear eF;(try clear hb))))
 (try simp only [Act.put,List.setIfInBounds_toArray,List.set_cons_zero,List.set_cons_succ])
 obtain ⟨H⟩:=b8
 revert H;refine gJ (fun ab H=>?_) fun ab H=>?_
 ·try simp only [aY,bf,ab]
  obtain ⟨cz,d0,H⟩:=jE H
  obtain ⟨d1,d2,H⟩:=jE H
  obtain ⟨af,aw⟩:∃ y_:ByteArray,(a5.extract 0 (a1:Int).toNat)=y_:=⟨_,rfl⟩
  replace H:(if af.size+a2.size≤9223372036854775807 then ((some (af++a2:ByteArray)).bind fun aN=>(some aN)) else (none))=some r:=by rw [← aw];exact (Option.bind_some _ _).symm.trans H
  (try simp only [Int.toNat_natCast] at aw)
  obtain ⟨bd,H⟩:=kV H
  have d3:=eq_true bd
  have d4:=mM bd
  try have d5:(9223372036854775807 < af.size+a2.size)=False:=eq_false (Nat.not_lt.2 bd)
  clear bd
  obtain ⟨aN,ax⟩:∃ y_:ByteArray,(af++a2)=y_:=⟨_,rfl⟩
  replace H:(some aN)=some r:=by rw [← ax];exact (Option.bind_some _ _).symm.trans H
  (try simp only [Int.toNat_natCast] at ax)
  obtain rfl:=dF H
  go_wp2
  repeat (go_quiet (fail);try go_wp2)
  go_ret
  exact ⟨bM,au⟩
 try simp only [aY,bf,ab]
 obtain ⟨d6,d7,H⟩:=jE H
 obtain ⟨d8,d9,H⟩:=jE H
 obtain ⟨ag,bH⟩:∃ y_:ByteArray,(a5.extract 0 (a1:Int).toNat)=y_:=⟨_,rfl⟩
 replace H:(if ag.size+a2.size≤9223372036854775807 then ((some (ag++a2:ByteArray)).bind fun a7=>(if 0≤(wrap64 (a1+(a2.size:Int))) then (if (wrap64 (a1+(a2.size:Int)))≤(a5.size:Int) then ((some (a5.extract ((wrap64 (a1+(a2.size:Int))):Int).toNat a5.size:ByteArray)).bind fun a6=>(if a7.size+a6.size≤9223372036854775807 then ((some (a7++a6:ByteArray)).bind fun aa=>(some aa)) else (none))) else (none)) else (none))) else (none))=some r:=by rw [← bH];exact (Option.bind_some _ _).symm.trans H
 (try simp only [Int.toNat_natCast] at bH)
 obtain ⟨be,H⟩:=kV H
 have da:=eq_true be
 have db:=mM be
 try have dd:(9223372036854775807 < ag.size+a2.size)=False:=eq_false (Nat.not_lt.2 be)
 clear be
 obtain ⟨a7,az⟩:∃ y_:ByteArray,(ag++a2)=y_:=⟨_,rfl⟩
 replace H:(if 0≤(wrap64 (a1+(a2.size:Int))) then (if (wrap64 (a1+(a2.size:Int)))≤(a5.size:Int) then ((some (a5.extract ((wrap64 (a1+(a2.size:Int))):Int).toNat a5.size:ByteArray)).bind fun a6=>(if a7.size+a6.size≤9223372036854775807 then ((some (a7++a6:ByteArray)).bind fun aa=>(some aa)) else (none))) else (none)) else (none))=some r:=by rw [← az];exact (Option.bind_some _ _).symm.trans H
 (try simp only [Int.toNat_natCast] at az)
 obtain ⟨JG,Je⟩:∃ lU:Int,(wrap64 (a1+(a2.size:Int)))=lU:=⟨_,rfl⟩
 replace H:(if 0≤(JG) then (if (JG)≤(a5.size:Int) then ((some (a5.extract ((JG):Int).toNat a5.size:ByteArray)).bind fun a6=>(if a7.size+a6.size≤9223372036854775807 then ((some (a7++a6:ByteArray)).bind fun aa=>(some aa)) else (none))) else (none)) else (none))=some r:=by first|(rw [Je] at H;exact H)|(simp only [Je] at H ⊢;exact H)
 (try rw [Je] at ab)
 have awy:(IntKind.i64.wrap (a1+(a2.size:Int)))=JG:=(aY _).trans Je
 obtain ⟨de,df,H⟩:=jE H
 obtain ⟨dg,lN,H⟩:=jE H
 obtain ⟨a6,b0⟩:∃ y_:ByteArray,(a5.extract ((JG):Int).toNat a5.size)=y_:=⟨_,rfl⟩
 replace H:(if a7.size+a6.size≤9223372036854775807 then ((some (a7++a6:ByteArray)).bind fun aa=>(some aa)) else (none))=some r:=by rw [← b0];exact (Option.bind_some _ _).symm.trans H
 (try simp only [Int.toNat_natCast] at b0)
 obtain ⟨fA,H⟩:=kV H
 have di:=eq_true fA
 have dj:=mM fA
 try have dk:(9223372036854775807 < a7.size+a6.size)=False:=eq_false (Nat.not_lt.2 fA)
 clear fA
 obtain ⟨aa,b1⟩:∃ y_:ByteArray,(a7++a6)=y_:=⟨_,rfl⟩
 replace H:(some aa)=some r:=by rw [← b1];exact (Option.bind_some _ _).symm.trans H
 (try simp only [Int.toNat_natCast] at b1)
 obtain rfl:=dF H
 go_wp2
 repeat (go_quiet (fail);try go_wp2)
 go_ret
 exact ⟨(by first|rfl|(simp [rD,rE] <;> rfl)|(simp only [← Je];first|rfl|(simp [rD,rE] <;> rfl))|(simp [*,rD,rE] <;> rfl)),au⟩

def BP.f (k:Nat) (a0:ByteArray) (a1:Int):Option (ByteArray):=(uh.f a1 0 128).bind fun a6=>(if a6=true then (if a1≤(a0.size:Int) then (if 0≤a1 then (some (a0.extract 0 (a1:Int).toNat)) else (none)) else ((zx.f k (wrap64 (a1 - (a0.size:Int)))).bind fun a5=>(if a0.size+a5.size≤9223372036854775807 then (some (a0++a5)) else (none)))) else (some a0))
theorem BP.calls (k:Nat) (a0:ByteArray) (a1:Int) (r:ByteArray) (w:World) (h:BP.f k a0 a1=some r) :
  Calls Tryz.prog 126 #[.string a0,ah a1] w fun e w'=>e=.returned (.string r)∧Below w.heap.size w w':=by
 have HB:=m_ (Below.refl w.heap.size w)
 unfold BP.f at h
 have H:=h
 clear h
 obtain ⟨a6,A3,H⟩:=bd_ H
 have a9:=m_ H
 clear H
 go_enter func126,ntmps126
 go_upto_if 7 with (first|((with_reducible refine bT 98 ?_);refine bU (some 6) rfl rfl func98 aB rfl #[ah a1,ah 0,ah 128] rfl aX ?_;(with_reducible refine (uh.calls a1 0 128 a6 _ A3.out).mono ?_);rintro e w' ⟨rfl,⟨nd,rfl⟩⟩;refine ⟨_,rfl,?_⟩))
 (try simp only [Act.put,List.setIfInBounds_toArray,List.set_cons_zero,List.set_cons_succ])
 obtain ⟨H⟩:=a9
 by_cases c5:a6=true
 rotate_left
 ·replace c5:=Bool.eq_false_iff.mpr c5
  subst c5
  rw [if_neg iI] at H
  obtain rfl:=dF H
  go_wp2
  go_ret
  exact ⟨bM,au⟩
 subst c5
 rw [if_pos rfl] at H
 revert H;refine gJ (fun a5 H=>?_) fun a5 H=>?_
 ·try simp only [aY,bf,a5]
  obtain ⟨ae,af,H⟩:=jE H
  have ag:=eq_true (bF bG:a1≤(a0.size:Int))
  obtain rfl:=dF H
  go_wp2
  go_ret
  exact ⟨bM,au⟩
 try simp only [aY,bf,a5]
 obtain ⟨a7,A9,H⟩:=bd_ H
 obtain ⟨a8,H⟩:=kV H
 have aa:=eq_true a8
 have ab:=mM a8
 try have ac:(9223372036854775807 < a0.size+a7.size)=False:=eq_false (Nat.not_lt.2 a8)
 obtain rfl:=dF H
 go_wp2_with (first|((with_reducible refine bT 146 ?_);refine bU (some 21) rfl rfl func146 aB rfl #[ah (wrap64 (a1 - (a0.size:Int)))] rfl aX ?_;(with_reducible refine (zx.calls k (wrap64 (a1 - (a0.size:Int))) a7 _ A9.out).mono ?_);rintro e aK ⟨rfl,hb⟩;refine ⟨_,rfl,?_⟩;have eF:=m_ (dP au hb);clear HB;have HB:=eF;clear eF;(try clear hb)))
 go_ret
 exact ⟨bM,au⟩

end Go.Proofs.YthejdhjpbpamoaaGreatDoor.jD
