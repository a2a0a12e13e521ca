/- Contracts of Go functions: each call returns what the Lean function beside it computes. Conditions: as each theorem states them. -/
import Derived.Test.YthejdhjpbpamoaaGreatDoorPkFnMoves
import Derived.Test.YthejdhjpbpamoaaGreatDoorPFnMovesx1
import Derived.Test.YthejdhjpbpamoaaGreatDoorPFnMovesx3
import Derived.Test.YthejdhjpbpamoaaGreatDoorPFnMovesx4
namespace Go.Proofs.YthejdhjpbpamoaaGreatDoor.jM
open Go.RowKit Go.Proofs.YthejdhjpbpamoaaGreatDoorW.iK Go.Proofs.YthejdhjpbpamoaaGreatDoorW.lX Go.Proofs.YthejdhjpbpamoaaGreatDoorW.oV Go.Proofs.Tryz
attribute [local go_sem] qI qM qL qP qK qO qJ qN   -- for this text's walks alone
set_option linter.unusedVariables false
set_option maxHeartbeats 8000000
set_option maxRecDepth 100000
set_option linter.unusedSimpArgs false

def u_.j0:Nat→Int→Int→Int→Bool→Option (Int)
 | 0,_,_,_,_=>none
 | k+1,x0,x1,x2,a5=>if a5=true then (some x1) else (if x0 > x2 then (some x2) else (some x0))
def u_.f (k:Nat) (a0:Int) (a1:Int) (a2:Int):Option (Int):=if a2 < a1 then (u_.j0 k a0 a1 a2 true) else (u_.j0 k a0 a1 a2 (decide (a0 < a1)))
theorem u_.calls (k:Nat) (a0:Int) (a1:Int) (a2:Int) (r:Int) (w:World) (h:u_.f k a0 a1 a2=some r) :
  Calls Tryz.prog 123 #[ah a0,ah a1,ah a2] w fun e w'=>e=.returned (ah r)∧nH w w':=by
 unfold u_.f at h
 have H:=h
 clear h
 have a7:=m_ H
 clear H
 go_enter func123,ntmps123
 go_upto_region 1 with (fail)
 go_cut [14] (fun v14 wc=>∃ (kq:Nat) (a5:Bool),v14=.bool a5∧aA (u_.j0 kq a0 a1 a2 a5=some r)∧aA (kq≤k)∧nH w wc)
 case first =>
  obtain ⟨H⟩:=a7
  revert H;refine gI (fun a6 H=>?_) fun a6 H=>?_
  ·try simp only [bI,bY,a6]
   have H':=m_ H
   clear H
   go_wp2
   go_meet
   case rel=>exact ⟨_,(true),bg,H',⟨kH⟩,jS⟩
  try simp only [bI,bY,a6]
  have H':=m_ H
  clear H
  go_wp2
  go_meet
  case rel=>exact ⟨_,(decide (a0 < a1)),bg,H',⟨kH⟩,jS⟩
 case rest =>
 clear a7
 obtain ⟨kq,a5,rfl,HA,I4,⟨aib,rfl⟩⟩:=hcut
 cases kq with
 | zero=>exact absurd HA.out (by simp [u_.j0])
 | succ DJ =>
 obtain ⟨H⟩:=HA
 simp only [u_.j0] at H
 by_cases c6:a5=true
 ·subst c6
  rw [if_pos rfl] at H
  obtain rfl:=cZ H
  go_wp2
  go_ret
  exact ⟨bg,jS⟩
 replace c6:=Bool.eq_false_iff.mpr c6
 subst c6
 rw [if_neg iO] at H
 revert H;refine gI (fun a8 H=>?_) fun a8 H=>?_
 ·obtain rfl:=cZ H
  go_wp2
  go_ret
  exact ⟨bg,jS⟩
 obtain rfl:=cZ H
 go_wp2
 go_ret
 exact ⟨bg,jS⟩

def BG.f (a0:Int):Option (Int):=if a0≤0 then (some 0) else (some (wrap64 ((wrap64 (Int.tdiv (wrap64 (a0 - 1)) 32))+1)))
theorem BG.calls (a0:Int) (r:Int) (w:World) (h:BG.f a0=some r) :
  Calls Tryz.prog 99 #[ah a0] w fun e w'=>e=.returned (ah r)∧nH w w':=by
 unfold BG.f at h
 have H:=h
 clear h
 revert H;refine gI (fun a5 H=>?_) fun a5 H=>?_
 ·obtain rfl:=cZ H
  go_enter func99,ntmps99
  go_wp2
  go_ret
  exact ⟨bg,jS⟩
 obtain rfl:=cZ H
 go_enter func99,ntmps99
 go_wp2
 go_ret
 exact ⟨bg,jS⟩

def rX.l0:Nat→Int→Int→List (aC)→Option (Int)
 | 0,_,_,_=>none
 | k+1,x3,x4,a5=>if x4 < (a5.length:Int) then (if 0≤x4 then (if ((au a5 x4).f1=true) then (rX.l0 k x3 (wrap64 (x4+1)) a5) else ((BG.f (((au a5 x4).f2).size:Int)).bind fun a6=>(rX.l0 k (wrap64 (x3+a6)) (wrap64 (x4+1)) a5))) else (none)) else (some x3)
def rX.f (k:Nat) (a5:List (aC)):Option (Int):=rX.l0 k 0 0 a5
theorem rX.calls (k:Nat) (ag:Option Addr) (aP:Nat) (aH:List (aC)) (r:Int) (w:World) (aN:Kd.C bF w ag aH.length aH) (aT:aH.length≤aP) (h:rX.f k aH=some r) :
  Calls Tryz.prog 52 #[.agg #[.slice ag aH.length aP]] w fun e w'=>e=.returned (ah r)∧Below w.heap.size w w':=by
 have oq:=underlying28
 have lF:=m_ aN
 have ax:=m_ aT
 clear aN aT
 have HB:=m_ (Below.refl w.heap.size w)
 unfold rX.f at h
 have H:=h
 clear h
 have H':=m_ H
 clear H
 go_enter func52,ntmps52
 go_wp2_with (first|((with_reducible refine dG 1 ?_);refine dU 1 (cs:=#[.slice ag aH.length aP]) 28 ?_;intro ap hg w2 hbox hb;obtain ⟨HB,a6,dw,az⟩:=kE ay hb hbox hg;clear hb hbox hg))
 go_loopg [3,4] k (fun kq v3 v4 w'=>∃ (ab:Int) (a5:Int),v3=ah ab∧v4=ah a5∧aA (rX.l0 kq ab a5 aH=some r)∧aA (kq≤k)∧aA (w'.heap[ap]?=some (.cells #[(.slice ag aH.length aP)] 28))∧aA (Below w.heap.size w w'))
 case atStart=>exact ⟨(0),(0),bg,bg,H',⟨Nat.le_refl _⟩,⟨(aj a6)⟩,⟨ay⟩⟩
 case round =>
 clear H'
 obtain ⟨ab,a5,rfl,rfl,HA,iq,a6,HB⟩:=hrel
 cases gk with
 | zero=>exact absurd HA.out (by simp [rX.l0])
 | succ k1 =>
 obtain ⟨H⟩:=HA
 simp only [rX.l0] at H
 have b0:=m_ H
 clear H
 have adq:=cu a6.out
 go_upto_if 9 with (fail)
 (try clear adq)
 obtain ⟨H⟩:=b0
 revert H;refine gI (fun af H=>?_) fun af H=>?_
 rotate_left
 ·try simp only [bI,bY,af]
  obtain rfl:=cZ H
  go_wp2
  go_ret
  exact ⟨b_,ay⟩
 try simp only [bI,bY,af]
 obtain ⟨b2,H⟩:=fU H
 have b1:=m_ H
 clear H
 have wH:=cu a6.out
 have al:0≤(a5:Int):=bC bD
 have am:a5 < (aH.length:Int):=bC bD
 obtain ⟨aq,av,a7,a8,a9⟩:=jP lF.out a5 al am
 cases av
 replace a7:=gu HB.out a7
 replace a8:=gu HB.out a8
 replace a9:=gu HB.out a9
 replace al:=eq_true al
 replace am:=eq_true am
 go_upto_if 18 with (fail)
 (try clear wH)
 (try clear a7 a8 a9)
 obtain ⟨H⟩:=b1
 obtain ⟨Rq,N7⟩:∃ Gl:Bool,Gl=((au aH a5).f1):=⟨_,rfl⟩
 replace H:(if (Rq=true) then (rX.l0 k1 ab (wrap64 (a5+1)) aH) else ((BG.f (((au aH a5).f2).size:Int)).bind fun ai=>(rX.l0 k1 (wrap64 (ab+ai)) (wrap64 (a5+1)) aH)))=some r:=by rw [← N7] at H;exact H
 have QJ:=m_ N7
 clear N7
 (try rw [← QJ.out])
 by_cases bP:(Rq=true)
 ·subst bP
  rw [if_pos rfl] at H
  have H':=m_ H
  clear H
  go_wp2
  go_roundg k1
  case measure=>have:=iq.out;omega
  case rel=>exact ⟨(ab),(wrap64 (a5+1)),bg,bg,H',⟨nT⟩,⟨(aj a6)⟩,⟨ay⟩⟩
 replace bP:=Bool.eq_false_iff.mpr bP
 subst bP
 rw [if_neg iO] at H
 obtain ⟨ai,b3,H⟩:=bd_ H
 have H':=m_ H
 clear H
 have zF:=cu a6.out
 have an:0≤(a5:Int):=bC bD
 have ao:a5 < (aH.length:Int):=bC bD
 obtain ⟨ar,aw,ac,aa,ae⟩:=jP lF.out a5 an ao
 (try rw [← QJ.out] at aa)
 obtain rfl:aq=ar:=(by injection aw)
 replace ac:=gu HB.out ac
 replace aa:=gu HB.out aa
 replace ae:=gu HB.out ae
 replace an:=eq_true an
 replace ao:=eq_true ao
 go_wp2_with (first|((with_reducible refine bU 99 ?_);refine bV (some 27) rfl rfl func99 aB rfl #[ah (((au aH a5).f2).size:Int)] rfl aW ?_;(with_reducible refine (BG.calls (((au aH a5).f2).size:Int) ai _ b3.out).mono ?_);rintro e w' ⟨rfl,⟨nd,rfl⟩⟩;refine ⟨_,rfl,?_⟩))
 go_roundg k1
 case measure=>have:=iq.out;omega
 case rel=>exact ⟨(wrap64 (ab+ai)),(wrap64 (a5+1)),bg,bg,H',⟨nT⟩,⟨(aj a6)⟩,⟨ay⟩⟩

def xu.f (k:Nat) (ab:Int) (ac:Int) (ae:Int) (a8:Int) (a5:List (aC)) (a2:Int) (a3:ByteArray):Option ((List (aC)) × Int):=if 0≤a2 then (if a2 < (a5.length:Int) then ((pY.f a5).bind fun a6=>(if a2 < (a6.length:Int) then ((some (a6.set (a2:Int).toNat (⟨(au a5 a2).f0,(au a5 a2).f1,a3⟩:aC):List (aC))).bind fun a7=>((rX.f k a7).bind fun a9=>(if a9 > a8 then ((pY.f a5).bind fun aa=>(some (aa,13))) else (some (a7,0))))) else (none))) else (none)) else (none)
theorem xu.calls (k:Nat) (bs:Int) (bu:Int) (bv:Int) (bb:Int) (cr:Option Addr) (bc:Nat) (aK:List (aC)) (a2:Int) (a3:ByteArray) (r1:List (aC)) (r2:Int) (w:World) (cm:Kd.C bF w cr aK.length aK) (cn:aK.length≤bc) (h:xu.f k bs bu bv bb aK a2 a3=some (r1,r2)) :
  Calls Tryz.prog 124 #[.agg #[ah bs,ah bu,ah bv,ah bb],.agg #[.slice cr aK.length bc],ah a2,.string a3] w fun e w'=>∃ gQ:Value,e=.returned (.tuple #[.agg #[gQ],ah r2])∧Kd.R bF 43 w' w.heap.size (fun _=>True) gQ r1∧Below w.heap.size w w':=by
 have w_:=underlying25
 have oq:=underlying28
 have rF:=underlying43
 have rC:=m_ cm
 have co:=m_ cn
 clear cm cn
 have HB:=m_ (Below.refl w.heap.size w)
 unfold xu.f at h
 have H:=h
 clear h
 obtain ⟨e5,H⟩:=fU H
 obtain ⟨e6,H⟩:=fU H
 obtain ⟨aa,A7,H⟩:=bd_ H
 obtain ⟨e7,H⟩:=fU H
 obtain ⟨ca,d0,H⟩:=uU H
 obtain ⟨d1,e8,H⟩:=bd_ H
 have d2:=m_ H
 clear H
 go_enter func124,ntmps124
 try go_wp2_with (first|((with_reducible refine dG 4 ?_);refine dU 4 (cs:=#[ah bs,ah bu,ah bv,ah bb]) 25 ?_;intro ao hg ed hbox hb;obtain ⟨HB,a7,dk,dl⟩:=kE ay hb hbox hg;clear hb hbox hg)|((with_reducible refine dG 5 ?_);refine dU 5 (cs:=#[.slice cr aK.length bc]) 28 ?_;intro cc hg ee hbox hb;obtain ⟨a7,HB,a5,dm,kM,az,b0⟩:=qj (aj a7) ay hb hbox hg;clear hb hbox hg)|((with_reducible refine dG 8 ?_);refine dU 8 (cs:=#[.slice none 0 0]) 28 ?_;intro bd hg ef hbox hb;obtain ⟨a7,a5,HB,a8,dp,dq,b1,b2,af,ag⟩:=wu (aj a7) (aj a5) ay hb hbox hg;clear hb hbox hg;obtain ⟨be,fF,ap,aq⟩:=jE b0 az af ag;have Qj:=cu a5.out;have ct:0≤(a2:Int):=bC bD;have jg:a2 < (aK.length:Int):=bC bD;obtain ⟨dM,dd,b7,b8,b9⟩:=jP rC.out a2 ct jg;cases dd;replace b7:=gu HB.out b7;replace b8:=gu HB.out b8;replace b9:=gu HB.out b9;replace ct:=eq_true ct;replace jg:=eq_true jg)|((with_reducible refine dG 10 ?_);refine dU 10 (cs:=#[.string (⟨#[]⟩:ByteArray),.bool false,.string (⟨#[]⟩:ByteArray)]) 43 ?_;intro an hg eh hbox hb;obtain ⟨a7,a5,a8,HB,rO,dr,dt,b3,bz,aP,b4,ab,ai⟩:=yF (aj a7) (aj a5) (aj a8) ay hb hbox hg;clear hb hbox hg;obtain ⟨cd,ce,bh,bi,ar,bP⟩:=kL bz b3 b4 aP ai ab;have d3:=nP rO.out;have K_:=cu a5.out)|((with_reducible refine bU 73 ?_);refine bV (some 20) rfl rfl func73 aB rfl #[.agg #[.slice (some dM) aK.length bc]] rfl aW ?_;(with_reducible refine (pY.calls _ _ aK aa _ (Kd.qg rC.out ay) co.out A7.out).mono ?_);rintro e ei ⟨aiW,rfl,ho0,hb⟩;refine ⟨_,rfl,?_⟩;obtain ⟨a6,a7,a5,a8,rO,HB⟩:=p_ (Kd.dK (Kd.vg ho0 (g:=an) (o:=.cells #[.string ((au aK a2).f0),.bool ((au aK a2).f1),.string a3] 43) Xr) (dO ay)) <| p_ (bG (g:=ao) (o:=.cells #[ah bs,ah bu,ah bv,ah bb] 25) (lM a7.out b3.out) hb) <| p_ (bG (g:=cc) (o:=.cells #[.slice (some dM) aK.length bc] 28) (lM a5.out aP.out) hb) <| p_ (bG (g:=bd) (o:=.cells #[.slice none 0 0] 28) (lM a8.out ab.out) hb) <| p_ (bG (g:=an) (o:=.cells #[.string ((au aK a2).f0),.bool ((au aK a2).f1),.string a3] 43) Xr hb) <| a_ (dI ay hb);(try clear hb))|((with_reducible refine dG 11 ?_);refine dU 11 (cs:=#[.slice none 0 0]) 28 ?_;intro bw hg e9 hbox hb;obtain ⟨a6,a7,a5,a8,rO,HB,a9,du,dv,aN,b5,ac,aT,ae,al,am,b6⟩:=p_ (Kd.bn (aG a6) hb) <| zQ (aj a7) (aj a5) (aj a8) (aj rO) ay hb hbox hg;clear hb hbox hg;obtain ⟨cv,ba,de⟩:=Kd.dJ a6.out;subst de;obtain ⟨bj,bl,av,aw,ax,dw,bm,fK⟩:=i_ b5 aN aT ac al ae b6 am;have akx:=cu a9.out)|((with_reducible refine ND (t:=28) (p:=11) rfl ?_);refine Pq (t:=28) (p:=11) (v:=?ajT) (w1:=(e9.setCell ⟨bw,0,none⟩ (.slice cv aa.length ba))) ?hg ?ho ?hn ?hr ?_;(case ho=>rfl);(case hg=>rfl);(case hn=>rfl);(case hr=>first|(go_simp;done)|(go_simp;rfl));intro bq hw;have eP:=fM (⟨(by rw [hw];exact (by (with_reducible repeat (first|apply Kd.dR|apply Kd.dS|apply Kd.bK));exact Kd.bW (aU (Kd.dL a6.out a9.out (by decide))) (fun _ hk=>hk.1.2)))⟩:aA (Kd.R bF 43 bq w.heap.size (fun aF=>aF≠an) (.slice cv aa.length ba) aa)) <| fM (⟨(by rw [hw];exact (lM a7.out aN.out))⟩:aA (bq.heap[ao]?=some (.cells #[ah bs,ah bu,ah bv,ah bb] 25))) <| fM (⟨(by rw [hw];exact (lM a5.out ac.out))⟩:aA (bq.heap[cc]?=some (.cells #[.slice (some dM) aK.length bc] 28))) <| fM (⟨(by rw [hw];exact (lM a8.out ae.out))⟩:aA (bq.heap[bd]?=some (.cells #[.slice none 0 0] 28))) <| fM (⟨(by rw [hw];exact (lM rO.out am.out))⟩:aA (bq.heap[an]?=some (.cells #[.string ((au aK a2).f0),.bool ((au aK a2).f1),.string a3] 43))) <| fM (⟨(by rw [hw];exact (wB a9.out))⟩:aA (bq.heap[bw]?=some (.cells #[.slice cv aa.length ba] 28))) <| (⟨(by rw [hw];exact ay)⟩:aA (Below w.heap.size w bq));clear hw a6 a7 a5 a8 rO a9 HB;obtain ⟨a6,a7,a5,a8,rO,a9,HB⟩:=eP;have akA:=cu a9.out;have d4:=nP rO.out;have p9:0≤(a2:Int):=bC bD;have q9:(a2:Int) < ((aa.length:Int):Int):=bC bD;obtain ⟨br,ej,lZ,dx,ea,ek,dy⟩:=Kd.zf a6.out (by omega);(first|cases lZ|(injection lZ with lK vH vG;(first|subst lK|(injection lK with lK;subst lK));subst vG;clear vH));have df:=m_ dx;have el:=m_ dy;clear dx ea dy;obtain ⟨em,dg,dz,ck,cl⟩:=Kd.oW a6.out z43 (a2:Int) p9 q9;obtain rfl:=o9 dz;have d5:bq.cell? ⟨br,(a2:Int).toNat * 3,none⟩=some (.string ((au aa a2).f0)):=ck 0 _ rfl;have d6:bq.cell? ⟨br,(a2:Int).toNat * 3+1,none⟩=some (.bool ((au aa a2).f1)):=ck 1 _ rfl;have d7:bq.cell? ⟨br,(a2:Int).toNat * 3+2,none⟩=some (.string ((au aa a2).f2)):=ck 2 _ rfl;have e0:bq.frozen? ⟨br,(a2:Int).toNat * 3,none⟩=false:=cl 0;have e3:bq.frozen? ⟨br,(a2:Int).toNat * 3+1,none⟩=false:=cl 1;have e4:bq.frozen? ⟨br,(a2:Int).toNat * 3+2,none⟩=false:=cl 2;clear dg ck cl dz;replace p9:=eq_true p9;replace q9:=eq_true q9;have d8:=m_ (show Kd.R bF 43 bq w.heap.size (fun aF=>aF≠an) (.slice (some ⟨br,0,none⟩) aa.length ba) aa from (aG a6));obtain ⟨eb,cp,d9,bo,bx⟩:=Kd.oW d8.out z43 (a2:Int) (bC bD) (by have dV:(a2:Int) < ((aa.length:Int):Int):=bC bD;first|exact dV|(have e_:=(Kd.bZ a6.out).1;omega)|simpa using dV);obtain rfl:=o9 d9;have LQ:=Kd.yu d8.out (a2:Int) (bC bD) (by have dV:(a2:Int) < ((aa.length:Int):Int):=bC bD;first|exact dV|(have e_:=(Kd.bZ a6.out).1;omega)|simpa using dV) (seg:=[.string ((au aK a2).f0),.bool ((au aK a2).f1),.string a3]) (j:=0) cp bo (show 3≤3 from by decide) (x':=(⟨(au aK a2).f0,(au aK a2).f1,a3⟩:aC)) (qX _ _ _ (⟨(au aK a2).f0,(au aK a2).f1,a3⟩:aC) ) (fun _ hk=>hk);have cf:=bo 0 _ rfl;(try simp only [show (bF).sz=3 from rfl,Nat.mul_one,Nat.add_zero] at cf);have cw:=bx 0;(try simp only [show (bF).sz=3 from rfl,Nat.mul_one,Nat.add_zero] at cw);have cg:=bo 1 _ rfl;(try simp only [show (bF).sz=3 from rfl,Nat.mul_one,Nat.add_zero] at cg);have cx:=bx 1;(try simp only [show (bF).sz=3 from rfl,Nat.mul_one,Nat.add_zero] at cx);have ch:=bo 2 _ rfl;(try simp only [show (bF).sz=3 from rfl,Nat.mul_one,Nat.add_zero] at ch);have cy:=bx 2;(try simp only [show (bF).sz=3 from rfl,Nat.mul_one,Nat.add_zero] at cy);clear cp bo bx d9)|((with_reducible refine ND (t:=43) (p:=25) rfl ?_);refine Pq (t:=43) (p:=25) (v:=?ajU) (w1:=(((bq.setCell ⟨br,(a2:Int).toNat * 3,none⟩ (.string ((au aK a2).f0))).setCell ⟨br,(a2:Int).toNat * 3+1,none⟩ (.bool ((au aK a2).f1))).setCell ⟨br,(a2:Int).toNat * 3+2,none⟩ (.string a3))) ?hg ?ho ?hn ?hr ?_;(case ho=>rfl);(case hg=>rfl);(case hn=>rfl);(case hr=>first|(go_simp;done)|(go_simp;rfl));intro db hw;have hg:bq.grownBy db (some br):=(by rw [hw];exact LQ.2);have Hq:Kd.R bF 43 db w.heap.size (fun aF=>aF≠an) (.slice (some ⟨br,0,none⟩) aa.length ba) ca:=(by rw [hw,d0.out];exact LQ.1);clear LQ;have eP:=p_ (iE (g:=ao) (o:=.cells #[ah bs,ah bu,ah bv,ah bb] 25) (aj a7) hg (Kd.iw a6.out a7.out (by decide))) <| p_ (iE (g:=cc) (o:=.cells #[.slice (some dM) aK.length bc] 28) (aj a5) hg (Kd.iw a6.out a5.out (by decide))) <| p_ (iE (g:=bd) (o:=.cells #[.slice none 0 0] 28) (aj a8) hg (Kd.iw a6.out a8.out (by decide))) <| p_ (iE (g:=an) (o:=.cells #[.string ((au aK a2).f0),.bool ((au aK a2).f1),.string a3] 43) (aj rO) hg (Kd.qB a6.out (fun _ hk=>hk))) <| p_ (Hq) <| p_ (iE (g:=bw) (o:=.cells #[.slice (some ⟨br,0,none⟩) aa.length ba] 28) (aj a9) hg (Kd.iw a6.out a9.out (by decide))) <| a_ ((by rw [hw];exact iL (iL (iL (HB.out) df.out) df.out) df.out:Below w.heap.size w db));clear a7 a5 a8 rO a6 a9 HB;obtain ⟨a7,a5,a8,rO,a6,a9,HB⟩:=eP;clear hg hw Hq))
 obtain ⟨a6,a7,a5,a8,rO,a9,HB⟩:=p_ (Kd.bK a6.out) <| yG a7 a5 a8 rO a9 HB
 refine iH (n:=5) (S:=fun w'=>lD w' bw (.slice (some ⟨br,0,none⟩) aa.length ba) <| FY w' ao (ah bs) (ah bu) (ah bv) (ah bb)) (ds:=[]) Gt aB rfl rfl ⟨(aO a9.out 0).trans rfl,tY a7.out⟩ (fun hH=>?_)
 generalize db.drew=en at a6 a7 a5 a8 rO a9 HB hH ⊢
 refine xZ (i:=2) (N:=some 28) #[F_,F_,ak,F_,F_] aB ?_
 refine ng (i:=0) (N:=some 26) (v:=?_) (a':=?_) #[ak,F_,ak,F_,F_] rfl rfl aB (fun _ _ _ h=>h) (Or.inl ⟨(by rfl),?_⟩) hH ?_ ?_
 rotate_left
 ·rintro w' ⟨s0,s1,s2,s3,s4⟩
  go_simp
  with_reducible rfl
 rotate_left
 ·simp only [Act.put,List.setIfInBounds_toArray,List.set_cons_zero,List.set_cons_succ,bI,bY]
  rfl
 refine ng (i:=3) (N:=some 29) (v:=?_) (a':=?_) #[ak,F_,ak,ak,F_] rfl rfl aB (fun _ _ _ h=>h) (Or.inl ⟨(by rfl),?_⟩) hH ?_ ?_
 rotate_left
 ·rintro w' ⟨s0,s1,s2,s3,s4⟩
  go_simp
  with_reducible rfl
 rotate_left
 ·simp only [Act.put,List.setIfInBounds_toArray,List.set_cons_zero,List.set_cons_succ,bI,bY]
  rfl
 refine gB (i:=1) (N:=some 27) Gu rfl rfl aB (by decide) (fun K hK=>?_)
 refine iR func52 aB rfl #[.agg #[.slice (some ⟨br,0,none⟩) ca.length ba]] (by rfl) rfl rfl (by (try simp only [List.map_toArray,List.map_cons,List.map_nil]);first|done|(rw [show ca.length=aa.length from (Kd.bZ a6.out).1.symm] <;> rfl)|rfl|(simp only [List.length_drop,List.length_take];rfl)) ?_
 with_reducible refine (rX.calls k _ _ ca d1 _ ?kG ?pX e8.out).mono ?_
 (case kG=>repeat (first|exact (Kd.bZ a6.out).2.2|(with_reducible refine Kd.jJ ?_ _)|(with_reducible refine Kd.jL ?_ _)|(with_reducible refine Kd.jK ?_)))
 (case pX=>rw [show ca.length=aa.length from (Kd.bZ a6.out).1.symm];exact (Kd.bZ a6.out).2.1)
 rintro e eo ⟨rfl,hb⟩
 refine ⟨_,rfl,?_⟩
 obtain ⟨a6,a7,a5,a8,rO,a9,HB⟩:=p_ (Kd.bn (aG a6) hb) <| nM (aj a7) (aj a5) (aj a8) (aj rO) (aj a9) ay hb
 (try clear hb)
 refine hK.out _ _ ⟨(aO a9.out 0).trans rfl,tY a7.out⟩ (fun hH=>?_)
 clear hK K
 refine fD (some 27) ?_
 refine xZ (i:=4) (N:=some 30) Gv aB ?_
 refine iF aB ?_
 go_upto_if 30 with (fail)
 (try clear fF ce bl be ap bi aw aq bP dw cd bh ar fK bj av ax bm)
 (try clear d3)
 (try clear d4)
 (try clear cf cg ch)
 (try clear b7 b8 b9)
 (try clear d5 d6 d7)
 obtain ⟨H⟩:=d2
 revert H;refine gI (fun bp H=>?_) fun bp H=>?_
 rotate_left
 ·try simp only [bI,bY,bp]
  simp only [Option.some.injEq,Prod.mk.injEq] at H
  obtain ⟨rfl,rfl⟩:=H
  obtain ⟨bj,bl,av,aw,ax,dw,bm,fK⟩:=i_ b5 aN aT ac al ae b6 am
  have akN:=cu a9.out
  obtain ⟨ci,cj,aq,ap,bP,ar⟩:=kL b2 b1 ag af ab ai
  have XC:=cu a8.out
  go_wp2
  refine bodyPost_ret (VH rfl _ _ bd 28 #[.slice (some ⟨br,0,none⟩) aa.length ba] (0,0) _ rfl bH underlying28 rfl aB) rfl ?_
  exact ⟨_,b_,(by (with_reducible repeat (first|apply Kd.dR|apply Kd.dS|apply Kd.bK));exact Kd.bW (aU (Kd.dL a6.out a8.out (by decide))) (fun _ hk=>trivial)),ay⟩
 try simp only [bI,bY,bp]
 obtain ⟨da,ec,H⟩:=bd_ H
 simp only [Option.some.injEq,Prod.mk.injEq] at H
 obtain ⟨rfl,rfl⟩:=H
 obtain ⟨be,fF,ap,aq,bi,bh,aw,av⟩:=i_ b0 az af ag aP b4 ac aT
 have akH:=cu a5.out
 go_wp2_with (first|((with_reducible refine bU 73 ?_);refine bV (some 32) rfl rfl func73 aB rfl #[.agg #[.slice (some dM) aK.length bc]] rfl aW ?_;(with_reducible refine (pY.calls _ _ aK da _ l9 co.out ec.out).mono ?_);rintro e ep ⟨aiX,rfl,ho0,hb⟩;refine ⟨_,rfl,?_⟩;obtain ⟨a6,cq,a7,a5,a8,rO,a9,HB⟩:=p_ (Kd.iY (aG a6) (Kd.iW ho0) hb) <| p_ (Kd.dK (Kd.vg (Kd.iZ ho0 (Kd.iD (aG a6))) (g:=an) (o:=.cells #[.string ((au aK a2).f0),.bool ((au aK a2).f1),.string a3] 43) (aj rO)) (dO ay)) <| nM (aj a7) (aj a5) (aj a8) (aj rO) (aj a9) ay hb;(try clear hb);(try clear ho0);obtain ⟨lg,di,dj⟩:=Kd.dJ cq.out;subst dj;obtain ⟨ci,cj,bP,ar,dw,ax⟩:=kL b2 b1 ab ai ae al;have adr:=cu a8.out))
 refine bodyPost_ret (VH rfl _ _ bd 28 #[.slice lg da.length di] (0,0) _ rfl bH underlying28 rfl aB) rfl ?_
 exact ⟨_,b_,(by (with_reducible repeat (first|apply Kd.dR|apply Kd.dS|apply Kd.bK));exact Kd.bW (aU (Kd.dL cq.out a8.out (by decide))) (fun _ hk=>trivial)),ay⟩

def qZ.l0:Nat→Int→Int→List Int→Int→Option (ByteArray)
 | 0,_,_,_,_=>none
 | k+1,x0,x1,x5,x6=>if x6 < x0 then (if 0≤x6 then (if x6 < (x5.length:Int) then (qZ.l0 k x0 x1 (x5.set (x6:Int).toNat x1) (wrap64 (x6+1))) else (none)) else (none)) else (some (strOfNums x5))
def qZ.f (k:Nat) (a0:Int) (a1:Int):Option (ByteArray):=if 0≤a0 then (if (a0:Int).toNat≤281474976710656 then (qZ.l0 k a0 a1 (List.replicate (a0:Int).toNat 0) 0) else (none)) else (none)
theorem qZ.calls (k:Nat) (a0:Int) (a1:Int) (r:ByteArray) (w:World) (h:qZ.f k a0 a1=some r) :
  Calls Tryz.prog 91 #[ah a0,.int .u8 a1] w fun e w'=>e=.returned (.string r)∧Below w.heap.size w w':=by
 have HB:=m_ (Below.refl w.heap.size w)
 unfold qZ.f at h
 have H:=h
 clear h
 obtain ⟨aT,al,H⟩:=kT H
 obtain ⟨am,an,H⟩:=kT H
 obtain ⟨ae,a8⟩:∃ y_:List Int,y_=(List.replicate (a0:Int).toNat 0):=⟨_,rfl⟩
 rw [← a8] at H
 have aa:=m_ a8
 clear a8
 have H':=m_ H
 clear H
 go_enter func91,ntmps91
 go_wp2_with (first|((with_reducible refine dG 8 ?_);refine Kd.Yl (Kd.int .u8) _ 5 rfl (N:=8) rfl 22 _ _ rfl a0 rfl rfl underlying22 (.int .u8 0) 1 info5 rfl (by decide) (by omega) 0 (ok:=fun _=>True) (iT:=fun _=>True) rfl (fun _ hk=>hk) trivial (bC bD) (Nat.le_trans (Nat.mul_le_mul_right _ (bC bD:a0.toNat≤281474976710656)) (by omega)) (Below.refl _ _) (Nat.le_refl _) ?_;intro ac4 w5 uI hb jc jd;clear jc jd;(first|rw [← aa.out] at uI|(simp only [Int.reduceToNat] at uI;rw [← aa.out] at uI));obtain ⟨af,HB⟩:=p_ (Kd.dK uI (dO ay)) <| a_ (dI ay hb);clear hb uI))
 go_loopg [6] k (fun kq v6 w'=>∃ (a7:List Int) (a5:Int),v6=ah a5∧aA (qZ.l0 kq a0 a1 a7 a5=some r)∧aA (kq≤k)∧aA (Kd.R (Kd.int .u8) 5 w' w.heap.size (fun _=>True) ac4 a7)∧aA (Below w.heap.size w w'))
 case atStart=>exact ⟨(ae),(0),bg,H',⟨Nat.le_refl _⟩,⟨(aG af)⟩,⟨ay⟩⟩
 case round =>
 clear H'
 try clear c3;try clear aT;try clear al;try clear c4;try clear am;try clear an
 obtain ⟨a7,a5,rfl,HA,iq,a6,HB⟩:=hrel
 cases gk with
 | zero=>exact absurd HA.out (by simp [qZ.l0])
 | succ k1 =>
 obtain ⟨H⟩:=HA
 simp only [qZ.l0] at H
 revert H;refine gI (fun ao H=>?_) fun ao H=>?_
 rotate_left
 ·obtain rfl:=cZ H
  have aeg:=Vm (P:=Tryz.prog) underlying22 underlying5 underlying9 (Kd.J8 a6.out)
  go_wp2
  go_ret
  exact ⟨b_,ay⟩
 obtain ⟨az,H⟩:=fU H
 obtain ⟨b0,H⟩:=fU H
 obtain ⟨ab,a9⟩:∃ y_:List Int,y_=(a7.set (a5:Int).toNat a1):=⟨_,rfl⟩
 rw [← a9] at H
 have ag:=m_ a9
 clear a9
 have H':=m_ H
 clear H
 have ap:0≤(a5:Int):=bC bD
 have aq:(a5:Int) < ((a7.length:Int):Int):=bC bD
 obtain ⟨ac,ar,aP,ai,bP,b1,aN⟩:=Kd.zf a6.out (by omega)
 (first|cases aP|(injection aP with lK vH vG;(first|subst lK|(injection lK with lK;subst lK));subst vG;clear vH))
 have av:=m_ ai
 have b2:=m_ aN
 clear ai bP aN
 obtain ⟨aw,ax⟩:=Kd.Yj 0 a6.out (a5:Int) ap aq
 replace ap:=eq_true ap
 replace aq:=eq_true aq
 have LG:=Kd.Yo a6.out (a5:Int) a1
 go_wp2_with (first|((with_reducible refine ND (t:=5) (p:=17) rfl ?_);refine Pq (t:=5) (p:=17) (v:=?ajS) (w1:=(wr.setCell ⟨ac,(a5:Int).toNat,none⟩ (.int .u8 a1))) ?hg ?ho ?hn ?hr ?_;(case ho=>rfl);(case hg=>rfl);(case hn=>rfl);(case hr=>first|(go_simp;done)|(go_simp;rfl));intro dw hw;have hg:wr.grownBy dw (some ac):=(by rw [hw];exact LG.2);have Hq:Kd.R (Kd.int .u8) 5 dw w.heap.size (fun _=>True) (.slice (some ⟨ac,0,none⟩) a7.length ar) ab:=(by rw [hw,ag.out];exact LG.1);clear LG;have eP:=p_ (Hq) <| a_ ((by rw [hw];exact iL (HB.out) av.out:Below w.heap.size w dw));clear a6 HB;obtain ⟨a6,HB⟩:=eP;clear hg hw Hq))
 go_roundg k1
 case measure=>have:=iq.out;omega
 case rel=>exact ⟨(ab),(wrap64 (a5+1)),bg,H',⟨nT⟩,⟨(aG a6)⟩,⟨ay⟩⟩

def yX.f (k:Nat) (a0:Int):Option (ByteArray):=(mZ.f a0 0 20000).bind fun a5=>(if a5=true then ((qZ.f k a0 0).bind fun a6=>(some a6)) else (some (⟨#[]⟩:ByteArray)))
theorem yX.calls (k:Nat) (a0:Int) (r:ByteArray) (w:World) (h:yX.f k a0=some r) :
  Calls Tryz.prog 146 #[ah a0] w fun e w'=>e=.returned (.string r)∧Below w.heap.size w w':=by
 have HB:=m_ (Below.refl w.heap.size w)
 unfold yX.f at h
 have H:=h
 clear h
 obtain ⟨a5,A2,H⟩:=bd_ H
 have a7:=m_ H
 clear H
 go_enter func146,ntmps146
 go_upto_if 5 with (first|((with_reducible refine bU 98 ?_);refine bV (some 4) rfl rfl func98 aB rfl #[ah a0,ah 0,ah 20000] rfl aW ?_;(with_reducible refine (mZ.calls a0 0 20000 a5 _ A2.out).mono ?_);rintro e w' ⟨rfl,⟨nd,rfl⟩⟩;refine ⟨_,rfl,?_⟩))
 (try simp only [Act.put,List.setIfInBounds_toArray,List.set_cons_zero,List.set_cons_succ])
 obtain ⟨H⟩:=a7
 by_cases c4:a5=true
 rotate_left
 ·replace c4:=Bool.eq_false_iff.mpr c4
  subst c4
  rw [if_neg iO] at H
  obtain rfl:=cZ H
  go_wp2
  go_ret
  exact ⟨b_,ay⟩
 subst c4
 rw [if_pos rfl] at H
 obtain ⟨a6,A5,H⟩:=bd_ H
 obtain rfl:=cZ H
 go_wp2_with (first|((with_reducible refine bU 91 ?_);refine bV (some 7) rfl rfl func91 aB rfl #[ah a0,.int .u8 0] rfl aW ?_;(with_reducible refine (qZ.calls k a0 0 a6 _ A5.out).mono ?_);rintro e w6 ⟨rfl,hb⟩;refine ⟨_,rfl,?_⟩;have gX:=m_ (dI ay hb);clear HB;have HB:=gX;clear gX;(try clear hb)))
 go_ret
 exact ⟨b_,ay⟩

def tC.j0:Nat→ByteArray→Int→ByteArray→Bool→Option (ByteArray)
 | 0,_,_,_,_=>none
 | k+1,x0,x1,x2,aT=>if aT=true then (some x0) else (if (x0.size:Int) < x1 then ((yX.f k (wrap64 (x1 - (x0.size:Int)))).bind fun a6=>(if x0.size+a6.size≤9223372036854775807 then ((some (x0++a6:ByteArray)).bind fun a5=>(if (wrap64 (x1+(x2.size:Int))) > (a5.size:Int) then (if 0≤x1 then (if x1≤(a5.size:Int) then ((some (a5.extract 0 (x1:Int).toNat:ByteArray)).bind fun a7=>(if a7.size+x2.size≤9223372036854775807 then ((some (a7++x2:ByteArray)).bind fun ag=>(some ag)) else (none))) else (none)) else (none)) else (if 0≤x1 then (if x1≤(a5.size:Int) then ((some (a5.extract 0 (x1:Int).toNat:ByteArray)).bind fun a8=>(if a8.size+x2.size≤9223372036854775807 then ((some (a8++x2:ByteArray)).bind fun a9=>(if 0≤(wrap64 (x1+(x2.size:Int))) then (if (wrap64 (x1+(x2.size:Int)))≤(a5.size:Int) then ((some (a5.extract ((wrap64 (x1+(x2.size:Int))):Int).toNat a5.size:ByteArray)).bind fun aa=>(if a9.size+aa.size≤9223372036854775807 then ((some (a9++aa:ByteArray)).bind fun aP=>(some aP)) else (none))) else (none)) else (none))) else (none))) else (none)) else (none)))) else (none))) else (if (wrap64 (x1+(x2.size:Int))) > (x0.size:Int) then (if 0≤x1 then (if x1≤(x0.size:Int) then ((some (x0.extract 0 (x1:Int).toNat:ByteArray)).bind fun ab=>(if ab.size+x2.size≤9223372036854775807 then ((some (ab++x2:ByteArray)).bind fun ai=>(some ai)) else (none))) else (none)) else (none)) else (if 0≤x1 then (if x1≤(x0.size:Int) then ((some (x0.extract 0 (x1:Int).toNat:ByteArray)).bind fun ac=>(if ac.size+x2.size≤9223372036854775807 then ((some (ac++x2:ByteArray)).bind fun ae=>(if 0≤(wrap64 (x1+(x2.size:Int))) then (if (wrap64 (x1+(x2.size:Int)))≤(x0.size:Int) then ((some (x0.extract ((wrap64 (x1+(x2.size:Int))):Int).toNat x0.size:ByteArray)).bind fun af=>(if ae.size+af.size≤9223372036854775807 then ((some (ae++af:ByteArray)).bind fun aN=>(some aN)) else (none))) else (none)) else (none))) else (none))) else (none)) else (none))))
def tC.f (k:Nat) (a0:ByteArray) (a1:Int) (a2:ByteArray):Option (ByteArray):=if a2.toList=([]:List UInt8) then (tC.j0 k a0 a1 a2 true) else (if a1 < 0 then (tC.j0 k a0 a1 a2 true) else (if a1 > (wrap64 (128 - (a2.size:Int))) then (tC.j0 k a0 a1 a2 true) else (tC.j0 k a0 a1 a2 (decide ((a0.size:Int) > 128)))))
theorem tC.calls (k:Nat) (a0:ByteArray) (a1:Int) (a2:ByteArray) (r:ByteArray) (w:World) (h:tC.f k a0 a1 a2=some r) :
  Calls Tryz.prog 125 #[.string a0,ah a1,.string a2] w fun e w'=>e=.returned (.string r)∧Below w.heap.size w w':=by
 have HB:=m_ (Below.refl w.heap.size w)
 unfold tC.f at h
 have H:=h
 clear h
 have dM:=m_ H
 clear H
 go_enter func125,ntmps125
 go_upto_region 1 with (fail)
 repeat (go_quiet (fail);go_upto_region 1 with (fail))
 go_cut [25] (fun v25 wc=>∃ (kq:Nat) (aP:Bool),v25=.bool aP∧aA (tC.j0 kq a0 a1 a2 aP=some r)∧aA (kq≤k)∧aA (Below w.heap.size w wc))
 case first =>
  obtain ⟨H⟩:=dM
  revert H;refine fJ (fun c5 H=>?_) fun c5 H=>?_
  ·have ae:=gZ c5
   have b5:=g_ c5
   clear c5
   (first|rw [ae]|(simp only [bI,bY];rw [ae])|rw [show (a2.toList).isEmpty=true from by simpa using ae]|skip)
   have H':=m_ H
   clear H
   go_wp2
   repeat (go_quiet (fail);try go_wp2)
   go_meet
   case rel=>exact ⟨_,(true),bg,H',⟨kH⟩,⟨ay⟩⟩
  have ae:=gU c5
  have b5:=gV c5
  (first|rw [ae]|(simp only [bI,bY];rw [ae])|rw [show (a2.toList).isEmpty=false from by simpa using ae]|skip)
  revert H;refine gI (fun b6 H=>?_) fun b6 H=>?_
  ·have H':=m_ H
   clear H
   go_wp2
   repeat (go_quiet (fail);try go_wp2)
   go_meet
   case rel=>exact ⟨_,(true),bg,H',⟨kH⟩,⟨ay⟩⟩
  revert H;refine gI (fun b7 H=>?_) fun b7 H=>?_
  ·have H':=m_ H
   clear H
   go_wp2
   repeat (go_quiet (fail);try go_wp2)
   go_meet
   case rel=>exact ⟨_,(true),bg,H',⟨kH⟩,⟨ay⟩⟩
  have H':=m_ H
  clear H
  go_wp2
  repeat (go_quiet (fail);try go_wp2)
  go_meet
  case rel=>exact ⟨_,(decide ((a0.size:Int) > 128)),bg,H',⟨kH⟩,⟨ay⟩⟩
 case rest =>
 clear dM
 obtain ⟨kq,aP,rfl,HA,I4,HB⟩:=hcut
 cases kq with
 | zero=>exact absurd HA.out (by simp [tC.j0])
 | succ DJ =>
 obtain ⟨H⟩:=HA
 simp only [tC.j0] at H
 by_cases c8:aP=true
 ·subst c8
  rw [if_pos rfl] at H
  obtain rfl:=cZ H
  go_wp2
  repeat (go_quiet (fail);try go_wp2)
  go_ret
  exact ⟨b_,ay⟩
 replace c8:=Bool.eq_false_iff.mpr c8
 subst c8
 rw [if_neg iO] at H
 revert H;refine gI (fun bh H=>?_) fun bh H=>?_
 rotate_left
 ·revert H;refine gI (fun am H=>?_) fun am H=>?_
  ·obtain ⟨bx,bz,H⟩:=kT H
   obtain ⟨ca,cc,H⟩:=kT H
   obtain ⟨aT,an⟩:∃ y_:ByteArray,(a0.extract 0 (a1:Int).toNat)=y_:=⟨_,rfl⟩
   replace H:(if aT.size+a2.size≤9223372036854775807 then ((some (aT++a2:ByteArray)).bind fun b2=>(some b2)) else (none))=some r:=by rw [← an];exact (Option.bind_some _ _).symm.trans H
   (try simp only [Int.toNat_natCast] at an)
   obtain ⟨b9,H⟩:=lG H
   have cd:=eq_true b9
   have ce:=lC b9
   try have cf:(9223372036854775807 < aT.size+a2.size)=False:=eq_false (Nat.not_lt.2 b9)
   clear b9
   obtain ⟨b2,ao⟩:∃ y_:ByteArray,(aT++a2)=y_:=⟨_,rfl⟩
   replace H:(some b2)=some r:=by rw [← ao];exact (Option.bind_some _ _).symm.trans H
   (try simp only [Int.toNat_natCast] at ao)
   obtain rfl:=cZ H
   go_wp2
   repeat (go_quiet (fail);try go_wp2)
   go_ret
   exact ⟨b_,ay⟩
  obtain ⟨cg,ch,H⟩:=kT H
  obtain ⟨ci,cj,H⟩:=kT H
  obtain ⟨al,ap⟩:∃ y_:ByteArray,(a0.extract 0 (a1:Int).toNat)=y_:=⟨_,rfl⟩
  replace H:(if al.size+a2.size≤9223372036854775807 then ((some (al++a2:ByteArray)).bind fun a9=>(if 0≤(wrap64 (a1+(a2.size:Int))) then (if (wrap64 (a1+(a2.size:Int)))≤(a0.size:Int) then ((some (a0.extract ((wrap64 (a1+(a2.size:Int))):Int).toNat a0.size:ByteArray)).bind fun a8=>(if a9.size+a8.size≤9223372036854775807 then ((some (a9++a8:ByteArray)).bind fun ac=>(some ac)) else (none))) else (none)) else (none))) else (none))=some r:=by rw [← ap];exact (Option.bind_some _ _).symm.trans H
  (try simp only [Int.toNat_natCast] at ap)
  obtain ⟨ba,H⟩:=lG H
  have ck:=eq_true ba
  have cl:=lC ba
  try have cm:(9223372036854775807 < al.size+a2.size)=False:=eq_false (Nat.not_lt.2 ba)
  clear ba
  obtain ⟨a9,aq⟩:∃ y_:ByteArray,(al++a2)=y_:=⟨_,rfl⟩
  replace H:(if 0≤(wrap64 (a1+(a2.size:Int))) then (if (wrap64 (a1+(a2.size:Int)))≤(a0.size:Int) then ((some (a0.extract ((wrap64 (a1+(a2.size:Int))):Int).toNat a0.size:ByteArray)).bind fun a8=>(if a9.size+a8.size≤9223372036854775807 then ((some (a9++a8:ByteArray)).bind fun ac=>(some ac)) else (none))) else (none)) else (none))=some r:=by rw [← aq];exact (Option.bind_some _ _).symm.trans H
  (try simp only [Int.toNat_natCast] at aq)
  obtain ⟨H9,GX⟩:∃ mQ:Int,(wrap64 (a1+(a2.size:Int)))=mQ:=⟨_,rfl⟩
  replace H:(if 0≤(H9) then (if (H9)≤(a0.size:Int) then ((some (a0.extract ((H9):Int).toNat a0.size:ByteArray)).bind fun a8=>(if a9.size+a8.size≤9223372036854775807 then ((some (a9++a8:ByteArray)).bind fun ac=>(some ac)) else (none))) else (none)) else (none))=some r:=by first|(rw [GX] at H;exact H)|(simp only [GX] at H ⊢;exact H)
  (try rw [GX] at am)
  have af':(IntKind.i64.wrap (a1+(a2.size:Int)))=H9:=(bI _).trans GX
  obtain ⟨cn,co,H⟩:=kT H
  obtain ⟨cp,cq,H⟩:=kT H
  obtain ⟨a8,ar⟩:∃ y_:ByteArray,(a0.extract ((H9):Int).toNat a0.size)=y_:=⟨_,rfl⟩
  replace H:(if a9.size+a8.size≤9223372036854775807 then ((some (a9++a8:ByteArray)).bind fun ac=>(some ac)) else (none))=some r:=by rw [← ar];exact (Option.bind_some _ _).symm.trans H
  (try simp only [Int.toNat_natCast] at ar)
  obtain ⟨bb,H⟩:=lG H
  have cr:=eq_true bb
  have ct:=lC bb
  try have jg:(9223372036854775807 < a9.size+a8.size)=False:=eq_false (Nat.not_lt.2 bb)
  clear bb
  obtain ⟨ac,bP⟩:∃ y_:ByteArray,(a9++a8)=y_:=⟨_,rfl⟩
  replace H:(some ac)=some r:=by rw [← bP];exact (Option.bind_some _ _).symm.trans H
  (try simp only [Int.toNat_natCast] at bP)
  obtain rfl:=cZ H
  go_wp2
  repeat (go_quiet (fail);try go_wp2)
  go_ret
  exact ⟨(by first|rfl|(simp [yI,yJ] <;> rfl)|(simp only [← GX];first|rfl|(simp [yI,yJ] <;> rfl))|(simp [*,yI,yJ] <;> rfl)),ay⟩
 obtain ⟨ai,bp,H⟩:=bd_ H
 obtain ⟨bc,H⟩:=lG H
 have cv:=eq_true bc
 have cw:=lC bc
 try have cx:(9223372036854775807 < a0.size+ai.size)=False:=eq_false (Nat.not_lt.2 bc)
 clear bc
 obtain ⟨a5,av⟩:∃ y_:ByteArray,(a0++ai)=y_:=⟨_,rfl⟩
 replace H:(if (wrap64 (a1+(a2.size:Int))) > (a5.size:Int) then (if 0≤a1 then (if a1≤(a5.size:Int) then ((some (a5.extract 0 (a1:Int).toNat:ByteArray)).bind fun af=>(if af.size+a2.size≤9223372036854775807 then ((some (af++a2:ByteArray)).bind fun aN=>(some aN)) else (none))) else (none)) else (none)) else (if 0≤a1 then (if a1≤(a5.size:Int) then ((some (a5.extract 0 (a1:Int).toNat:ByteArray)).bind fun ag=>(if ag.size+a2.size≤9223372036854775807 then ((some (ag++a2:ByteArray)).bind fun a7=>(if 0≤(wrap64 (a1+(a2.size:Int))) then (if (wrap64 (a1+(a2.size:Int)))≤(a5.size:Int) then ((some (a5.extract ((wrap64 (a1+(a2.size:Int))):Int).toNat a5.size:ByteArray)).bind fun a6=>(if a7.size+a6.size≤9223372036854775807 then ((some (a7++a6:ByteArray)).bind fun aa=>(some aa)) else (none))) else (none)) else (none))) else (none))) else (none)) else (none)))=some r:=by rw [← av];exact (Option.bind_some _ _).symm.trans H
 (try simp only [Int.toNat_natCast] at av)
 have b8:=m_ H
 clear H
 go_upto_if 45 with (first|(go_at_call 146;(with_reducible refine (yX.calls DJ (wrap64 (a1 - (a0.size:Int))) ai _ bp.out).mono ?_);rintro e cy ⟨rfl,hb⟩;have gX:=m_ (dI ay hb);clear HB;have HB:=gX;clear gX;(try clear hb)))
 repeat (go_quiet (first|(go_at_call 146;(with_reducible refine (yX.calls DJ (wrap64 (a1 - (a0.size:Int))) ai _ bp.out).mono ?_);rintro e cy ⟨rfl,hb⟩;have gX:=m_ (dI ay hb);clear HB;have HB:=gX;clear gX;(try clear hb)));go_upto_if 45 with (first|(go_at_call 146;(with_reducible refine (yX.calls DJ (wrap64 (a1 - (a0.size:Int))) ai _ bp.out).mono ?_);rintro e cy ⟨rfl,hb⟩;have gX:=m_ (dI ay hb);clear HB;have HB:=gX;clear gX;(try clear hb))))
 (try simp only [Act.put,List.setIfInBounds_toArray,List.set_cons_zero,List.set_cons_succ])
 obtain ⟨H⟩:=b8
 revert H;refine gI (fun ab H=>?_) fun ab H=>?_
 ·try simp only [bI,bY,ab]
  obtain ⟨cz,d0,H⟩:=kT H
  obtain ⟨d1,d2,H⟩:=kT H
  obtain ⟨af,aw⟩:∃ y_:ByteArray,(a5.extract 0 (a1:Int).toNat)=y_:=⟨_,rfl⟩
  replace H:(if af.size+a2.size≤9223372036854775807 then ((some (af++a2:ByteArray)).bind fun aN=>(some aN)) else (none))=some r:=by rw [← aw];exact (Option.bind_some _ _).symm.trans H
  (try simp only [Int.toNat_natCast] at aw)
  obtain ⟨bd,H⟩:=lG H
  have d3:=eq_true bd
  have d4:=lC bd
  try have d5:(9223372036854775807 < af.size+a2.size)=False:=eq_false (Nat.not_lt.2 bd)
  clear bd
  obtain ⟨aN,ax⟩:∃ y_:ByteArray,(af++a2)=y_:=⟨_,rfl⟩
  replace H:(some aN)=some r:=by rw [← ax];exact (Option.bind_some _ _).symm.trans H
  (try simp only [Int.toNat_natCast] at ax)
  obtain rfl:=cZ H
  go_wp2
  repeat (go_quiet (fail);try go_wp2)
  go_ret
  exact ⟨b_,ay⟩
 try simp only [bI,bY,ab]
 obtain ⟨d6,d7,H⟩:=kT H
 obtain ⟨d8,d9,H⟩:=kT H
 obtain ⟨ag,dw⟩:∃ y_:ByteArray,(a5.extract 0 (a1:Int).toNat)=y_:=⟨_,rfl⟩
 replace H:(if ag.size+a2.size≤9223372036854775807 then ((some (ag++a2:ByteArray)).bind fun a7=>(if 0≤(wrap64 (a1+(a2.size:Int))) then (if (wrap64 (a1+(a2.size:Int)))≤(a5.size:Int) then ((some (a5.extract ((wrap64 (a1+(a2.size:Int))):Int).toNat a5.size:ByteArray)).bind fun a6=>(if a7.size+a6.size≤9223372036854775807 then ((some (a7++a6:ByteArray)).bind fun aa=>(some aa)) else (none))) else (none)) else (none))) else (none))=some r:=by rw [← dw];exact (Option.bind_some _ _).symm.trans H
 (try simp only [Int.toNat_natCast] at dw)
 obtain ⟨be,H⟩:=lG H
 have da:=eq_true be
 have db:=lC be
 try have dd:(9223372036854775807 < ag.size+a2.size)=False:=eq_false (Nat.not_lt.2 be)
 clear be
 obtain ⟨a7,az⟩:∃ y_:ByteArray,(ag++a2)=y_:=⟨_,rfl⟩
 replace H:(if 0≤(wrap64 (a1+(a2.size:Int))) then (if (wrap64 (a1+(a2.size:Int)))≤(a5.size:Int) then ((some (a5.extract ((wrap64 (a1+(a2.size:Int))):Int).toNat a5.size:ByteArray)).bind fun a6=>(if a7.size+a6.size≤9223372036854775807 then ((some (a7++a6:ByteArray)).bind fun aa=>(some aa)) else (none))) else (none)) else (none))=some r:=by rw [← az];exact (Option.bind_some _ _).symm.trans H
 (try simp only [Int.toNat_natCast] at az)
 obtain ⟨H8,GV⟩:∃ mQ:Int,(wrap64 (a1+(a2.size:Int)))=mQ:=⟨_,rfl⟩
 replace H:(if 0≤(H8) then (if (H8)≤(a5.size:Int) then ((some (a5.extract ((H8):Int).toNat a5.size:ByteArray)).bind fun a6=>(if a7.size+a6.size≤9223372036854775807 then ((some (a7++a6:ByteArray)).bind fun aa=>(some aa)) else (none))) else (none)) else (none))=some r:=by first|(rw [GV] at H;exact H)|(simp only [GV] at H ⊢;exact H)
 (try rw [GV] at ab)
 have af_:(IntKind.i64.wrap (a1+(a2.size:Int)))=H8:=(bI _).trans GV
 obtain ⟨de,df,H⟩:=kT H
 obtain ⟨dg,lg,H⟩:=kT H
 obtain ⟨a6,b0⟩:∃ y_:ByteArray,(a5.extract ((H8):Int).toNat a5.size)=y_:=⟨_,rfl⟩
 replace H:(if a7.size+a6.size≤9223372036854775807 then ((some (a7++a6:ByteArray)).bind fun aa=>(some aa)) else (none))=some r:=by rw [← b0];exact (Option.bind_some _ _).symm.trans H
 (try simp only [Int.toNat_natCast] at b0)
 obtain ⟨fF,H⟩:=lG H
 have di:=eq_true fF
 have dj:=lC fF
 try have dk:(9223372036854775807 < a7.size+a6.size)=False:=eq_false (Nat.not_lt.2 fF)
 clear fF
 obtain ⟨aa,b1⟩:∃ y_:ByteArray,(a7++a6)=y_:=⟨_,rfl⟩
 replace H:(some aa)=some r:=by rw [← b1];exact (Option.bind_some _ _).symm.trans H
 (try simp only [Int.toNat_natCast] at b1)
 obtain rfl:=cZ H
 go_wp2
 repeat (go_quiet (fail);try go_wp2)
 go_ret
 exact ⟨(by first|rfl|(simp [yI,yJ] <;> rfl)|(simp only [← GV];first|rfl|(simp [yI,yJ] <;> rfl))|(simp [*,yI,yJ] <;> rfl)),ay⟩

def BH.f (k:Nat) (a0:ByteArray) (a1:Int):Option (ByteArray):=(mZ.f a1 0 128).bind fun a6=>(if a6=true then (if a1≤(a0.size:Int) then (if 0≤a1 then (some (a0.extract 0 (a1:Int).toNat)) else (none)) else ((yX.f k (wrap64 (a1 - (a0.size:Int)))).bind fun a5=>(if a0.size+a5.size≤9223372036854775807 then (some (a0++a5)) else (none)))) else (some a0))
theorem BH.calls (k:Nat) (a0:ByteArray) (a1:Int) (r:ByteArray) (w:World) (h:BH.f k a0 a1=some r) :
  Calls Tryz.prog 126 #[.string a0,ah a1] w fun e w'=>e=.returned (.string r)∧Below w.heap.size w w':=by
 have HB:=m_ (Below.refl w.heap.size w)
 unfold BH.f at h
 have H:=h
 clear h
 obtain ⟨a6,A3,H⟩:=bd_ H
 have a9:=m_ H
 clear H
 go_enter func126,ntmps126
 go_upto_if 7 with (first|((with_reducible refine bU 98 ?_);refine bV (some 6) rfl rfl func98 aB rfl #[ah a1,ah 0,ah 128] rfl aW ?_;(with_reducible refine (mZ.calls a1 0 128 a6 _ A3.out).mono ?_);rintro e w' ⟨rfl,⟨nd,rfl⟩⟩;refine ⟨_,rfl,?_⟩))
 (try simp only [Act.put,List.setIfInBounds_toArray,List.set_cons_zero,List.set_cons_succ])
 obtain ⟨H⟩:=a9
 by_cases c5:a6=true
 rotate_left
 ·replace c5:=Bool.eq_false_iff.mpr c5
  subst c5
  rw [if_neg iO] at H
  obtain rfl:=cZ H
  go_wp2
  go_ret
  exact ⟨b_,ay⟩
 subst c5
 rw [if_pos rfl] at H
 revert H;refine gI (fun a5 H=>?_) fun a5 H=>?_
 ·try simp only [bI,bY,a5]
  obtain ⟨ae,af,H⟩:=kT H
  have ag:=eq_true (bC bD:a1≤(a0.size:Int))
  obtain rfl:=cZ H
  go_wp2
  go_ret
  exact ⟨b_,ay⟩
 try simp only [bI,bY,a5]
 obtain ⟨a7,A9,H⟩:=bd_ H
 obtain ⟨a8,H⟩:=lG H
 have aa:=eq_true a8
 have ab:=lC a8
 try have ac:(9223372036854775807 < a0.size+a7.size)=False:=eq_false (Nat.not_lt.2 a8)
 obtain rfl:=cZ H
 go_wp2_with (first|((with_reducible refine bU 146 ?_);refine bV (some 21) rfl rfl func146 aB rfl #[ah (wrap64 (a1 - (a0.size:Int)))] rfl aW ?_;(with_reducible refine (yX.calls k (wrap64 (a1 - (a0.size:Int))) a7 _ A9.out).mono ?_);rintro e aP ⟨rfl,hb⟩;refine ⟨_,rfl,?_⟩;have gX:=m_ (dI ay hb);clear HB;have HB:=gX;clear gX;(try clear hb)))
 go_ret
 exact ⟨b_,ay⟩

end Go.Proofs.YthejdhjpbpamoaaGreatDoor.jM
