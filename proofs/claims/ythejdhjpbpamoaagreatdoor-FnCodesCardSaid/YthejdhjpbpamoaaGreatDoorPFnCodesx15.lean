/- Contracts of Go functions: each call returns what the Lean function beside it computes. Conditions: as each theorem states them. -/
import Derived.Test.YthejdhjpbpamoaaGreatDoorPkFnCodes
import Derived.Test.YthejdhjpbpamoaaGreatDoorPFnCodesx1
import Derived.Test.YthejdhjpbpamoaaGreatDoorPFnCodesx3
import Derived.Test.YthejdhjpbpamoaaGreatDoorPFnCodesx4
import Derived.Test.YthejdhjpbpamoaaGreatDoorPFnCodesx5
import Derived.Test.YthejdhjpbpamoaaGreatDoorPFnCodesx6
import Derived.Test.YthejdhjpbpamoaaGreatDoorPFnCodesx12
import Derived.Test.YthejdhjpbpamoaaGreatDoorPFnCodesx14
namespace Go.Proofs.YthejdhjpbpamoaaGreatDoor.jD
open Go.RowKit Go.Proofs.YthejdhjpbpamoaaGreatDoorW.iw Go.Proofs.YthejdhjpbpamoaaGreatDoorW.lH Go.Proofs.YthejdhjpbpamoaaGreatDoorW.oO Go.Proofs.Tryz
attribute [local go_sem] qw qB qA qF qy qE qx qC   -- for this text's walks alone
set_option linter.unusedVariables false
set_option maxHeartbeats 8000000
set_option maxRecDepth 100000
set_option linter.unusedSimpArgs false

mutual
def lT.j0:Nat→Bool→Int→Int→Int→Int→List (aF)→Int→ByteArray→ByteArray→Int→Int→ByteArray→ByteArray→Bool→ByteArray→Option ((List (aF)) × Int × ByteArray × Int × Bool × List ByteArray)
 | 0,_,_,_,_,_,_,_,_,_,_,_,_,_,_,_=>none
 | k+1,an,a8,a9,aa,ab,a5,ac,a6,ae,af,ag,aK,ai,aN,aQ=>if an=true then ((JE.f k a8 a9 aa ab a5 ac a6 ae af ag aK ai aN aQ).bind fun a7=>(some (a7.1,a7.2.1,a7.2.2.1,a7.2.2.2.1,a7.2.2.2.2.1,a7.2.2.2.2.2))) else ((oH.f k a5 a6).bind fun am=>(if am=0 then ((ug.f a5 a6).bind fun al=>(if al ≥ 0 then (lT.j1 k al (a6.toList != ([47]:List UInt8)) a8 a9 aa ab a5 ac a6 ae af ag aK (⟨#[47]⟩:ByteArray) true (⟨#[]⟩:ByteArray)) else (lT.j1 k al false a8 a9 aa ab a5 ac a6 ae af ag aK (⟨#[47]⟩:ByteArray) true (⟨#[]⟩:ByteArray)))) else (some (a5,am,(⟨#[]⟩:ByteArray),0,false,([]:List ByteArray)))))
def lT.j1:Nat→Int→Bool→Int→Int→Int→Int→List (aF)→Int→ByteArray→ByteArray→Int→Int→ByteArray→ByteArray→Bool→ByteArray→Option ((List (aF)) × Int × ByteArray × Int × Bool × List ByteArray)
 | 0,_,_,_,_,_,_,_,_,_,_,_,_,_,_,_,_=>none
 | k+1,x5,aQ,a6,a7,a8,a9,a5,aa,ab,ac,ae,af,ag,aK,ai,aN=>if aQ=true then (if 0≤x5 then (if x5 < (a5.length:Int) then (lT.j2 k a6 a7 a8 a9 a5 aa ab ac ae af ag ((aC a5 x5).f0) ((aC a5 x5).f1) ((aC a5 x5).f2)) else (none)) else (none)) else (lT.j2 k a6 a7 a8 a9 a5 aa ab ac ae af ag aK ai aN)
def lT.j2:Nat→Int→Int→Int→Int→List (aF)→Int→ByteArray→ByteArray→Int→Int→ByteArray→ByteArray→Bool→ByteArray→Option ((List (aF)) × Int × ByteArray × Int × Bool × List ByteArray)
 | 0,_,_,_,_,_,_,_,_,_,_,_,_,_,_=>none
 | k+1,a6,a7,a8,a9,aa,a5,ab,ac,ae,af,ag,aK,ai,aN=>if a5=3 then (lT.j3 k a5 (a5 == 3) a6 a7 a8 a9 aa a5 ab ac ae af ag aK ai aN) else (lT.j3 k a5 (a5 == 4) a6 a7 a8 a9 aa a5 ab ac ae af ag aK ai aN)
def lT.j3:Nat→Int→Bool→Int→Int→Int→Int→List (aF)→Int→ByteArray→ByteArray→Int→Int→ByteArray→ByteArray→Bool→ByteArray→Option ((List (aF)) × Int × ByteArray × Int × Bool × List ByteArray)
 | 0,_,_,_,_,_,_,_,_,_,_,_,_,_,_,_,_=>none
 | k+1,an,ao,a5,a6,a7,a8,a9,aa,ab,ac,ae,af,ag,aK,ai,aN=>if ao=true then ((zh.f k a5 a6 a7 a8 a9 aa ab ac ae af ag aK ai aN).bind fun aQ=>(some (aQ.1,aQ.2.1,aQ.2.2.1,aQ.2.2.2.1,aQ.2.2.2.2.1,aQ.2.2.2.2.2))) else (if an=5 then ((oV.f k a5 a6 a7 a8 a9 aa ab ac ae af ag aK ai aN).bind fun al=>(some (al.1,al.2.1,al.2.2.1,al.2.2.2.1,al.2.2.2.2.1,al.2.2.2.2.2))) else (if an=6 then ((Az.f a5 a6 a7 a8 a9 aa ab ac ae af ag aK ai aN).bind fun am=>(some (am.1,am.2.1,am.2.2.1,am.2.2.2.1,am.2.2.2.2.1,am.2.2.2.2.2))) else (if an=7 then (lT.j4 k an (an == 7) a5 a6 a7 a8 a9 aa ab ac ae af ag aK ai aN) else (lT.j4 k an (an == 8) a5 a6 a7 a8 a9 aa ab ac ae af ag aK ai aN))))
def lT.j4:Nat→Int→Bool→Int→Int→Int→Int→List (aF)→Int→ByteArray→ByteArray→Int→Int→ByteArray→ByteArray→Bool→ByteArray→Option ((List (aF)) × Int × ByteArray × Int × Bool × List ByteArray)
 | 0,_,_,_,_,_,_,_,_,_,_,_,_,_,_,_,_=>none
 | k+1,am,an,aa,ab,ac,ae,a5,af,ag,aK,ai,aN,aQ,al,a8,a9=>if an=true then ((nJ.f k aa ab ac ae a5 af ag aK ai aN aQ al a8 a9).bind fun a6=>(some (a6.1,a6.2.1,a6.2.2.1,a6.2.2.2.1,a6.2.2.2.2.1,a6.2.2.2.2.2))) else (if am=9 then (if a8=true then (some (a5,0,(⟨#[]⟩:ByteArray),0,true,([]:List ByteArray))) else (some (a5,0,(⟨#[]⟩:ByteArray),(a9.size:Int),false,([]:List ByteArray)))) else (if am=10 then ((Aw.f k aa ab ac ae a5 af ag aK ai aN aQ al a8 a9).bind fun a7=>(some (a7.1,a7.2.1,a7.2.2.1,a7.2.2.2.1,a7.2.2.2.2.1,a7.2.2.2.2.2))) else (some (a5,0,(⟨#[]⟩:ByteArray),0,false,([]:List ByteArray)))))
end
def lT.f (k:Nat) (aa:Int) (ab:Int) (ac:Int) (ae:Int) (af:List (aF)) (a5:Int) (ag:ByteArray) (aK:ByteArray) (ai:Int) (aN:Int) (a6:ByteArray) (a7:ByteArray) (a8:Bool) (a9:ByteArray):Option ((List (aF)) × Int × ByteArray × Int × Bool × List ByteArray):=if a5=1 then (lT.j0 k true aa ab ac ae af a5 ag aK ai aN a6 a7 a8 a9) else (lT.j0 k (a5 == 2) aa ab ac ae af a5 ag aK ai aN a6 a7 a8 a9)
def lT.ab3:Bool × List (List Nat × List Nat):=(true,[([],[]),([0],[0]),([],[]),([2],[2]),([3],[3]),([4],[4]),([5],[5]),([1,0,1],[1]),([6,7,0,1,2,3,4,5,6,7],[6])])
def lT.aa6:List Nat:=[0,1,0,4,12,28,60,3,255]
theorem lT.calls (k:Nat) (an:Int) (ao:Int) (ap:Int) (aq:Int) (nX:Nat→Prop) (eu:Option Addr) (d_:Nat) (bW:List (aF)) (aK:Int) (aQ:ByteArray) (ar:ByteArray) (aW:Int) (av:Int) (ag:ByteArray) (b5:ByteArray) (b6:Bool) (b7:ByteArray) (r1:List (aF)) (r2:Int) (r3:ByteArray) (r4:Int) (r5:Bool) (r6:List ByteArray) (w:World) (jV:iK w) (DR:Kd.V aU 43 w w.heap.size (fun ay=>nX ay) (.slice eu bW.length d_) bW) (h:lT.f k an ao ap aq bW aK aQ ar aW av ag b5 b6 b7=some (r1,r2,r3,r4,r5,r6)) :
  Calls Tryz.prog 68 #[.agg #[ah an,ah ao,ah ap,ah aq,.slice eu bW.length d_,ah aK,.string aQ,.string ar,ah aW,ah av,.string ag,.string b5,.bool b6,.string b7]] w fun e w'=>∃ eP lY:Value,e=.returned (.tuple #[.agg #[eP],.agg #[ah r2,.string r3,ah r4,.bool r5,lY]])∧Kd.V aU 43 w' w.heap.size (fun ay=>(nX ay∨w.heap.size≤ay)∧some ay≠(lY:Value).ownBlock) eP r1∧Kd.R Kd.string 9 w' w.heap.size (fun ay=>(w.heap.size≤ay)) lY r6∧Below w.heap.size w w':=by
 have DT:=underlying90
 have mF:=underlying28
 have xM:=underlying49
 have uf:=underlying43
 have lK:=m_ (show Kd.V aU 43 w w.heap.size (fun ay=>(nX ay∨w.heap.size≤ay)) (.slice eu bW.length d_) bW from Kd.iL DR (fun ay hk=>.inl hk))
 have HD:=m_ jV
 clear jV
 have HB:=m_ (Below.refl w.heap.size w)
 unfold lT.f at h
 have H:=h
 clear h
 have fc:=m_ H
 clear H
 go_enter func68,ntmps68
 go_upto_region 1 with (first|((with_reducible refine dJ 1 ?_);refine dO 1 (cs:=#[ah an,ah ao,ah ap,ah aq,.slice eu bW.length d_,ah aK,.string aQ,.string ar,ah aW,ah av,.string ag,.string b5,.bool b6,.string b7]) 90 ?_;intro nP hg w3 hbox hb;obtain ⟨lK,HB,a6,yu,gr⟩:=p_ (Kd.sV (Kd.vT wK nP (Nat.le_of_eq hg.symm)) hb) <| kL au hb hbox hg;clear hb hbox hg)|((with_reducible refine dJ 2 ?_);refine dO 2 (cs:=#[.slice none 0 0]) 28 ?_;intro af hg w4 hbox hb;obtain ⟨lK,a6,HB,a8,gs,gt,ae,al⟩:=p_ (Kd.sV (Kd.vT wK af (Nat.le_of_eq hg.symm)) hb) <| pq (ak a6) au hb hbox hg;clear hb hbox hg)|((with_reducible refine dJ 3 ?_);refine dO 3 (cs:=#[ah 0,.string (⟨#[]⟩:ByteArray),ah 0,.bool false,.slice none 0 0]) 49 ?_;intro a7 hg w5 hbox hb;obtain ⟨lK,a6,a8,HB,a9,Am,gv,a5,am,ai,aN⟩:=p_ (Kd.sV (Kd.vT wK a7 (Nat.le_of_eq hg.symm)) hb) <| pU (ak a6) (ak a8) au hb hbox hg;clear hb hbox hg))
 (try simp only [Act.put,List.setIfInBounds_toArray,List.set_cons_zero,List.set_cons_succ])
 go_cut [15] (fun v15 wc=>∃ (kq:Nat) (bm:Bool),v15=.bool bm∧aA (lT.j0 kq bm an ao ap aq bW aK aQ ar aW av ag b5 b6 b7=some (r1,r2,r3,r4,r5,r6))∧aA (kq≤k)∧aA (Kd.V aU 43 wc w.heap.size (fun ay=>(nX ay∨w.heap.size≤ay)∧ay≠nP∧ay≠af∧ay≠a7) (.slice eu bW.length d_) bW)∧aA (wc.heap[nP]?=some (.cells #[ah an,ah ao,ah ap,ah aq,(.slice eu bW.length d_),ah aK,.string aQ,.string ar,ah aW,ah av,.string ag,.string b5,.bool b6,.string b7] 90))∧aA (wc.heap[af]?=some (.cells #[(.slice none 0 0)] 28))∧aA (wc.heap[a7]?=some (.cells #[ah 0,.string (⟨#[]⟩:ByteArray),ah 0,.bool false,(.slice none 0 0)] 49))∧aA (Below w.heap.size w wc))
 case first =>
  obtain ⟨H⟩:=fc
  revert H;refine fH (fun c6 H=>?_) fun c6 H=>?_
  ·have b9:=fZ c6
   have fB:=f_ c6
   clear c6
   try simp only [aY,bf,b9]
   have H':=m_ H
   clear H
   obtain ⟨aw,ax,bH,az⟩:=g_ ae al a5 am
   obtain ⟨QX,QY,Q9,Q_,Rf,Rh,Ri,Rj,Rk,Rl,QZ,Q5,Q7,Q8⟩:=iq a6.out
   obtain ⟨Sm,Sr,SC,SE,SG,SH,SI,SK,SL,SN,Sv,Sz,SA,SB⟩:=jA a6.out
   go_wp2
   go_meet
   case rel=>exact ⟨_,(true),bg,H',⟨kC⟩,⟨NY⟩,⟨(ak a6)⟩,⟨(ak a8)⟩,⟨(ak a9)⟩,⟨au⟩⟩
  have b9:=fP c6
  have fB:=fQ c6
  try simp only [aY,bf,b9]
  have H':=m_ H
  clear H
  obtain ⟨aw,ax,bH,az⟩:=g_ ae al a5 am
  obtain ⟨E8,E9,Fg,Fh,Fj,Fp,Fq,Fv,Fz,FB,E_,Fa,Fb,Fe⟩:=iq a6.out
  obtain ⟨FZ,F5,Gf,Gg,Gh,Gi,Gj,Gl,Gm,Gn,F6,F7,F8,F9⟩:=jA a6.out
  go_wp2
  go_meet
  case rel=>exact ⟨_,((aK == 2)),bg,H',⟨kC⟩,⟨NY⟩,⟨(ak a6)⟩,⟨(ak a8)⟩,⟨(ak a9)⟩,⟨au⟩⟩
 case rest =>
 clear fc
 obtain ⟨kq,bm,rfl,HA,sQ,nC,a6,a8,a9,HB⟩:=hcut
 cases kq with
 | zero=>exact absurd HA.out (by simp [lT.j0])
 | succ zN =>
 obtain ⟨H⟩:=HA
 simp only [lT.j0] at H
 by_cases ce:bm=true
 ·subst ce
  rw [if_pos rfl] at H
  obtain ⟨⟨dv,jU,dx,dy,dz,e0⟩,hu,H⟩:=bd_ H
  simp only [Option.some.injEq,Prod.mk.injEq] at H
  obtain ⟨rfl,rfl,rfl,rfl,rfl,rfl⟩:=H
  obtain ⟨aw,ax,bH,az⟩:=g_ ae al a5 am
  obtain ⟨XJ,XK,XQ,XR,XT,XU,XV,XW,XY,XZ,XL,XM,XO,XP⟩:=iq a6.out
  obtain ⟨Yh,Yi,Yn,Yo,Yp,Yq,Yr,Yt,Yu,Yv,Yj,Yk,Yl,Ym⟩:=jA a6.out
  go_wp2_with (first|((with_reducible refine bT 115 ?_);refine bU (some 17) rfl rfl func115 aB rfl #[.agg #[ah an,ah ao,ah ap,ah aq,.slice eu bW.length d_,ah aK,.string aQ,.string ar,ah aW,ah av,.string ag,.string b5,.bool b6,.string b7]] rfl aX ?_;(with_reducible refine (JE.calls zN an ao ap aq _ _ bW aK aQ ar aW av ag b5 b6 b7 dv jU dx dy dz e0 _ (iK.below HD.out au) N7 ((Kd.vU nC.out).2.1) hu.out).mono ?_);rintro e ia ⟨azE,azF,rfl,ho0,ho1,hb⟩;refine ⟨_,rfl,?_⟩;obtain ⟨nC,cf,br,a6,a8,a9,HB⟩:=p_ (Kd.iL (Kd.EM (Kd.EM (Kd.Pg xg hb) (Kd.jo ho0)) (Kd.jo ho1)) (fun _ dG=>dG.1)) <| p_ (Kd.dI (Kd.yR (M:=fun ay=>(w.heap.size≤ay)) ho0 (cZ au) (fun ay dG=>dG)) (cZ au)) <| p_ (Kd.dI (Kd.yR (M:=fun ay=>(w.heap.size≤ay)) ho1 (cZ au) (fun ay dG=>dG)) (cZ au)) <| lD (ak a6) (ak a8) (ak a9) au hb;(try clear hb);(try clear ho0);(try clear ho1);obtain ⟨fd,fe,ff⟩:=Kd.dK cf.out;subst ff;obtain ⟨b0,b1⟩:=gB ai aN;have Om:=dh a8.out;have bh:=kK a9.out;obtain ⟨fg,fh,fi⟩:=Kd.dK br.out;subst fi))
  refine bodyPost_ret (iR rfl _ _ af a7 28 49 #[.slice fd dv.length fe] #[ah jU,.string dx,ah dy,.bool dz,.slice fg e0.length fh] (0,0) (0,0) _ _ rfl aT underlying28 rfl aB rfl aT underlying49 rfl aB) rfl ?_
  exact ⟨_,_,bM,Kd.KN (base:=w.heap.size) (by (with_reducible repeat (first|apply Kd.dB|apply Kd.dD|apply Kd.aZ));exact Kd.bn (aH (aH (aH (aH (aH (aH (Kd.bQ (Kd.bQ (Kd.O5 cf.out (Kd.O8 br.out) (by decide)) a8.out (by decide)) a9.out (by decide)) (fun _ hk=>hk.1.2))))))) (fun _ hk=>⟨.inr hk.1.1.1.1,hk.1.1.2⟩)),(by (with_reducible repeat (first|apply Kd.dB|apply Kd.dD|apply Kd.aZ));exact Kd.bn (aH (aH (aH (aH (aH (aH (Kd.bQ (Kd.bQ br.out a8.out (by decide)) a9.out (by decide)) (fun _ hk=>hk.1.2))))))) (fun _ hk=>hk.1.1.1)),au⟩
 replace ce:=Bool.eq_false_iff.mpr ce
 subst ce
 rw [if_neg iI] at H
 obtain ⟨ca,hy,H⟩:=bd_ H
 have e3:=m_ H
 clear H
 obtain ⟨aw,ax,bH,az⟩:=g_ ae al a5 am
 obtain ⟨X0,X3,X8,X9,X_,Ya,Yb,Yc,Yd,Ye,X4,X5,X6,X7⟩:=iq a6.out
 obtain ⟨Yw,Yx,YC,YD,YE,YF,YG,YH,YI,YJ,Yy,Yz,YA,YB⟩:=jA a6.out
 go_upto_if 27 with (first|((with_reducible refine bT 25 ?_);refine bU (some 25) rfl rfl func25 aB rfl #[.agg #[.slice eu bW.length d_],.string aQ] rfl aX ?_;(with_reducible refine (oH.calls zN _ _ bW aQ ca _ (iK.below HD.out au) N7 ((Kd.vU nC.out).2.1) hy.out).mono ?_);rintro e ib ⟨rfl,hb⟩;refine ⟨_,rfl,?_⟩;obtain ⟨nC,a6,a8,a9,HB⟩:=p_ (Kd.sV xg hb) <| lD (ak a6) (ak a8) (ak a9) au hb;(try clear hb)))
 (try simp only [Act.put,List.setIfInBounds_toArray,List.set_cons_zero,List.set_cons_succ])
 (try clear aw bH ax az)
 (try clear X0 X3 X4 X5 X6 X7 X8 X9 X_ Ya Yb Yc Yd Ye)
 (try clear Yw Yx Yy Yz YA YB YC YD YE YF YG YH YI YJ)
 obtain ⟨H⟩:=e3
 revert H;refine fH (fun bs H=>?_) fun bs H=>?_
 rotate_left
 ·have b2:=fP bs
  have bi:=fQ bs
  try simp only [aY,bf,b2]
  simp only [Option.some.injEq,Prod.mk.injEq] at H
  obtain ⟨rfl,rfl,rfl,rfl,rfl,rfl⟩:=H
  obtain ⟨amK,amL,amQ,amR,amS,amT,amU,amV,amW,amX,amM,amN,amO,amP⟩:=iq a6.out
  obtain ⟨asP,asQ,asW,asX,asY,asZ,as1,as2,as3,as4,asR,asT,asU,asV⟩:=jA a6.out
  obtain ⟨b0,b1⟩:=gB ai aN
  have aAT:=dh a8.out
  have gw:=kK a9.out
  go_wp2
  refine bodyPost_ret (iR rfl _ _ af a7 28 49 #[.slice eu bW.length d_] #[ah ca,.string (⟨#[]⟩:ByteArray),ah 0,.bool false,.slice none 0 0] (0,0) (0,0) _ _ rfl aT underlying28 rfl aB rfl aT underlying49 rfl aB) rfl ?_
  exact ⟨_,_,bM,(by (with_reducible repeat (first|apply Kd.qh|apply Kd.qj|apply Kd.mQ));exact Kd.iL (Kd.fF (p:=⟨a7,4,none⟩) (Kd.fF (p:=⟨a7,3,none⟩) (Kd.fF (p:=⟨a7,2,none⟩) (Kd.fF (p:=⟨a7,1,none⟩) (Kd.fF (p:=⟨a7,0,none⟩) (Kd.fF (p:=⟨af,0,none⟩) (Kd.iL (Kd.iL nC.out (fun ay hk=>(⟨hk,hk.2.2.1⟩:_∧ay≠af))) (fun ay hk=>(⟨hk,hk.1.2.2.2⟩:_∧ay≠a7))) (fun _ hk=>hk.1.2) (.slice eu bW.length d_)) (fun _ hk=>hk.2) (ah ca)) (fun _ hk=>hk.2) (.string (⟨#[]⟩:ByteArray))) (fun _ hk=>hk.2) (ah 0)) (fun _ hk=>hk.2) (.bool false)) (fun _ hk=>hk.2) (.slice none 0 0)) (fun _ hk=>⟨hk.1.1.1,yJ⟩)),kD,au⟩
 have b2:=fZ bs
 have bi:=f_ bs
 clear bs
 try simp only [aY,bf,b2]
 obtain ⟨b4,i1,H⟩:=bd_ H
 have d2:=m_ H
 clear H
 obtain ⟨aei,aej,aeo,aep,aer,aes,aeu,aev,aew,aex,aek,ael,aem,aen⟩:=iq a6.out
 obtain ⟨ag0,ag1,ag6,ag7,ag8,ag9,ag_,ag',aha,ahb,ag2,ag3,ag4,ag5⟩:=jA a6.out
 go_upto_region 8 with (first|((with_reducible refine bT 17 ?_);refine bU (some 39) rfl rfl func17 aB rfl #[.agg #[.slice eu bW.length d_],.string aQ] rfl aX ?_;(with_reducible refine (ug.calls _ _ bW aQ b4 _ ?kX ((Kd.vU nC.out).2.1) i1.out).mono ?_);(case kX=>refine (Kd.vU (e:=43) (base:=w.heap.size) (ok:=fun ay=>((nX ay∨w.heap.size≤ay)∧(ay≠nP∧(ay≠af∧ay≠a7)))) (n:=bW.length) (c:=d_) ?_).2.2;exact aaJ);rintro e ic ⟨rfl,hb⟩;refine ⟨_,rfl,?_⟩;obtain ⟨nC,a6,a8,a9,HB⟩:=p_ (Kd.sV aaJ hb) <| p_ (bZ (g:=nP) (o:=.cells #[ah an,ah ao,ah ap,ah aq,.slice eu bW.length d_,ah aK,.string aQ,.string ar,ah aW,ah av,.string ag,.string (⟨#[47]⟩:ByteArray),.bool true,.string (⟨#[]⟩:ByteArray)] 90) (yB a6.out) hb) <| p_ (bZ (g:=af) (o:=.cells #[.slice none 0 0] 28) (nO a8.out al.out) hb) <| p_ (bZ (g:=a7) (o:=.cells #[ah 0,.string (⟨#[]⟩:ByteArray),ah 0,.bool false,.slice none 0 0] 49) (nO a9.out am.out) hb) <| a_ (dP au hb);(try clear hb);(try clear hk)))
 (try simp only [Act.put,List.setIfInBounds_toArray,List.set_cons_zero,List.set_cons_succ])
 go_cut [47] (fun v47 wc=>∃ (kq:Nat) (bb:Bool),v47=.bool bb∧aA (lT.j1 kq b4 bb an ao ap aq bW aK aQ ar aW av ag (⟨#[47]⟩:ByteArray) true (⟨#[]⟩:ByteArray)=some (r1,r2,r3,r4,r5,r6))∧aA (kq≤zN)∧aA (Kd.V aU 43 wc w.heap.size (fun ay=>(nX ay∨w.heap.size≤ay)∧ay≠nP∧ay≠af∧ay≠a7) (.slice eu bW.length d_) bW)∧aA (wc.heap[nP]?=some (.cells #[ah an,ah ao,ah ap,ah aq,(.slice eu bW.length d_),ah aK,.string aQ,.string ar,ah aW,ah av,.string ag,.string (⟨#[47]⟩:ByteArray),.bool true,.string (⟨#[]⟩:ByteArray)] 90))∧aA (wc.heap[af]?=some (.cells #[(.slice none 0 0)] 28))∧aA (wc.heap[a7]?=some (.cells #[ah 0,.string (⟨#[]⟩:ByteArray),ah 0,.bool false,(.slice none 0 0)] 49))∧aA (Below w.heap.size w wc))
 case first =>
  obtain ⟨H⟩:=d2
  revert H;refine gJ (fun b3 H=>?_) fun b3 H=>?_
  rotate_left
  ·try simp only [aY,bf,b3]
   have H':=m_ H
   clear H
   go_wp2
   go_meet
   case rel=>exact ⟨_,(false),bg,H',⟨(by have:=sQ.out;first|omega|exact Nat.le_refl _)⟩,⟨xg⟩,⟨(ak a6)⟩,⟨(ak a8)⟩,⟨(ak a9)⟩,⟨au⟩⟩
  try simp only [aY,bf,b3]
  have H':=m_ H
  clear H
  obtain ⟨Qr,Qs,Qy,Qz,QA,QB,QC,QD,QE,QF,Qu,Qv,Qw,Qx⟩:=iq a6.out
  obtain ⟨Rn,Ro,Rx,Ry,Rz,RD,RF,RG,RH,RI,Rq,Rt,Ru,Rw⟩:=jA a6.out
  go_wp2
  go_meet
  case rel=>exact ⟨_,((aQ.toList != ([47]:List UInt8))),bg,H',⟨(by have:=sQ.out;first|omega|exact Nat.le_refl _)⟩,⟨xg⟩,⟨(ak a6)⟩,⟨(ak a8)⟩,⟨(ak a9)⟩,⟨au⟩⟩
 case rest =>
 clear d2
 try clear ce;try clear bs;try clear b2;try clear bi;try clear aei;try clear aej;try clear aek;try clear ael;try clear aem;try clear aen;try clear aeo;try clear aep;try clear aer;try clear aes;try clear aeu;try clear aev;try clear aew;try clear aex;try clear ag0;try clear ag1;try clear ag2;try clear ag3;try clear ag4;try clear ag5;try clear ag6;try clear ag7;try clear ag8;try clear ag9;try clear ag_;try clear ag';try clear aha;try clear ahb
 obtain ⟨kq,bb,rfl,HA,zB,nC,a6,a8,a9,HB⟩:=hcut
 cases kq with
 | zero=>exact absurd HA.out (by simp [lT.j1])
 | succ zl =>
 obtain ⟨H⟩:=HA
 simp only [lT.j1] at H
 have d3:=m_ H
 clear H
 go_upto_if 47 with (fail)
 go_cut [] (fun wc=>∃ (kq:Nat) (ab:ByteArray) (ac:Bool) (aa:ByteArray),aA (lT.j2 kq an ao ap aq bW aK aQ ar aW av ag ab ac aa=some (r1,r2,r3,r4,r5,r6))∧aA (kq≤zl)∧aA (Kd.V aU 43 wc w.heap.size (fun ay=>(nX ay∨w.heap.size≤ay)∧ay≠nP∧ay≠af∧ay≠a7) (.slice eu bW.length d_) bW)∧aA (wc.heap[nP]?=some (.cells #[ah an,ah ao,ah ap,ah aq,(.slice eu bW.length d_),ah aK,.string aQ,.string ar,ah aW,ah av,.string ag,.string ab,.bool ac,.string aa] 90))∧aA (wc.heap[af]?=some (.cells #[(.slice none 0 0)] 28))∧aA (wc.heap[a7]?=some (.cells #[ah 0,.string (⟨#[]⟩:ByteArray),ah 0,.bool false,(.slice none 0 0)] 49))∧aA (Below w.heap.size w wc))
 case first =>
  obtain ⟨H⟩:=d3
  by_cases d4:bb=true
  rotate_left
  ·replace d4:=Bool.eq_false_iff.mpr d4
   subst d4
   rw [if_neg iI] at H
   have H':=m_ H
   clear H
   go_wp2
   go_meet
   case rel=>exact ⟨_,((⟨#[47]⟩:ByteArray)),(true),((⟨#[]⟩:ByteArray)),H',⟨(by have:=sQ.out;have:=zB.out;first|omega|exact Nat.le_refl _)⟩,⟨xg⟩,⟨(ak a6)⟩,⟨(ak a8)⟩,⟨(ak a9)⟩,⟨au⟩⟩
  subst d4
  rw [if_pos rfl] at H
  obtain ⟨bj,H⟩:=gK H
  try simp only [aY,bf,bj]
  obtain ⟨bu,H⟩:=gK H
  have H':=m_ H
  clear H
  obtain ⟨an8,an9,aoc,aod,aoe,aof,aog,aoh,aoi,aoj,an_,an',aoa,aob⟩:=iq a6.out
  obtain ⟨aun,auo,aut,auu,auv,auw,auy,auz,auA,auB,aup,auq,aur,aus⟩:=jA a6.out
  have bo:0≤(b4:Int):=bF bG
  have bp:b4 < (bW.length:Int):=bF bG
  obtain ⟨gx,fx,bc,bd,be⟩:=kY (Kd.vU nC.out).2.2 b4 bo bp
  cases fx
  replace bo:=eq_true bo
  replace bp:=eq_true bp
  go_wp2
  go_meet
  case rel=>exact ⟨_,((aC bW b4).f0),((aC bW b4).f1),((aC bW b4).f2),H',⟨(by have:=sQ.out;have:=zB.out;first|omega|exact Nat.le_refl _)⟩,⟨(by (with_reducible repeat (first|apply Kd.qh|apply Kd.qj|apply Kd.mQ));exact Kd.iL (Kd.fF (p:=⟨nP,13,none⟩) (Kd.fF (p:=⟨nP,12,none⟩) (Kd.fF (p:=⟨nP,11,none⟩) (Kd.iL nC.out (fun ay hk=>(⟨hk,hk.2.1⟩:_∧ay≠nP))) (fun _ hk=>hk.2) (.string ((aC bW b4).f0))) (fun _ hk=>hk.2) (.bool ((aC bW b4).f1))) (fun _ hk=>hk.2) (.string ((aC bW b4).f2))) (fun _ hk=>⟨hk.1.1,⟨hk.1.2.1,⟨hk.1.2.2.1,hk.1.2.2.2⟩⟩⟩))⟩,⟨aT⟩,⟨aT⟩,⟨aT⟩,⟨au⟩⟩
 case rest =>
 clear d3
 obtain ⟨kq,ab,ac,aa,HA,KD,nC,a6,a8,a9,HB⟩:=hcut
 cases kq with
 | zero=>exact absurd HA.out (by simp [lT.j2])
 | succ ajh =>
 obtain ⟨H⟩:=HA
 simp only [lT.j2] at H
 have d5:=m_ H
 clear H
 obtain ⟨aeM,aeN,aeS,aeT,aeU,aeV,aeW,aeX,aeY,aeZ,aeO,aeP,aeQ,aeR⟩:=iq a6.out
 obtain ⟨ahq,ahr,ahw,ahx,ahy,ahz,ahA,ahB,ahC,ahD,ahs,aht,ahu,ahv⟩:=jA a6.out
 go_upto_if 58 with (fail)
 go_cut [58] (fun v58 wc=>∃ (kq:Nat) (fA:Bool),v58=.bool fA∧aA (lT.j3 kq aK fA an ao ap aq bW aK aQ ar aW av ag ab ac aa=some (r1,r2,r3,r4,r5,r6))∧aA (kq≤ajh)∧aA (Kd.V aU 43 wc w.heap.size (fun ay=>(nX ay∨w.heap.size≤ay)∧ay≠nP∧ay≠af∧ay≠a7) (.slice eu bW.length d_) bW)∧aA (wc.heap[nP]?=some (.cells #[ah an,ah ao,ah ap,ah aq,(.slice eu bW.length d_),ah aK,.string aQ,.string ar,ah aW,ah av,.string ag,.string ab,.bool ac,.string aa] 90))∧aA (wc.heap[af]?=some (.cells #[(.slice none 0 0)] 28))∧aA (wc.heap[a7]?=some (.cells #[ah 0,.string (⟨#[]⟩:ByteArray),ah 0,.bool false,(.slice none 0 0)] 49))∧aA (Below w.heap.size w wc))
 case first =>
  obtain ⟨H⟩:=d5
  revert H;refine fH (fun cc H=>?_) fun cc H=>?_
  rotate_left
  ·have b8:=fP cc
   have bv:=fQ cc
   try simp only [aY,bf,b8]
   have H':=m_ H
   clear H
   go_wp2
   go_meet
   case rel=>exact ⟨_,((aK == 4)),bg,H',⟨(by have:=sQ.out;have:=zB.out;have:=KD.out;first|omega|exact Nat.le_refl _)⟩,⟨xg⟩,⟨(ak a6)⟩,⟨(ak a8)⟩,⟨(ak a9)⟩,⟨au⟩⟩
  have b8:=fZ cc
  have bv:=f_ cc
  clear cc
  try simp only [aY,bf,b8]
  have H':=m_ H
  clear H
  go_wp2
  go_meet
  case rel=>exact ⟨_,((aK == 3)),bg,H',⟨(by have:=sQ.out;have:=zB.out;have:=KD.out;first|omega|exact Nat.le_refl _)⟩,⟨xg⟩,⟨(ak a6)⟩,⟨(ak a8)⟩,⟨(ak a9)⟩,⟨au⟩⟩
 case rest =>
 clear d5
 try clear aeM;try clear aeN;try clear aeO;try clear aeP;try clear aeQ;try clear aeR;try clear aeS;try clear aeT;try clear aeU;try clear aeV;try clear aeW;try clear aeX;try clear aeY;try clear aeZ;try clear ahq;try clear ahr;try clear ahs;try clear aht;try clear ahu;try clear ahv;try clear ahw;try clear ahx;try clear ahy;try clear ahz;try clear ahA;try clear ahB;try clear ahC;try clear ahD
 obtain ⟨kq,fA,rfl,HA,U5,nC,a6,a8,a9,HB⟩:=hcut
 cases kq with
 | zero=>exact absurd HA.out (by simp [lT.j3])
 | succ TA =>
 obtain ⟨H⟩:=HA
 simp only [lT.j3] at H
 by_cases e6:fA=true
 ·subst e6
  rw [if_pos rfl] at H
  obtain ⟨⟨e7,e8,e9,ea,eb,ec⟩,i4,H⟩:=bd_ H
  simp only [Option.some.injEq,Prod.mk.injEq] at H
  obtain ⟨rfl,rfl,rfl,rfl,rfl,rfl⟩:=H
  obtain ⟨aon,aoo,aot,aou,aov,aow,aox,aoy,aoz,aoA,aop,aoq,aor,aos⟩:=iq a6.out
  obtain ⟨auE,auF,auK,auL,auM,auN,auO,auP,auQ,auR,auG,auH,auI,auJ⟩:=jA a6.out
  go_wp2_with (first|((with_reducible refine bT 116 ?_);refine bU (some 62) rfl rfl func116 aB rfl #[.agg #[ah an,ah ao,ah ap,ah aq,.slice eu bW.length d_,ah aK,.string aQ,.string ar,ah aW,ah av,.string ag,.string ab,.bool ac,.string aa]] rfl aX ?_;(with_reducible refine (zh.calls TA an ao ap aq _ _ bW aK aQ ar aW av ag ab ac aa e7 e8 e9 ea eb ec _ (iK.below HD.out au) N7 ((Kd.vU nC.out).2.1) i4.out).mono ?_);rintro e id ⟨azG,azH,rfl,ho0,ho1,hb⟩;refine ⟨_,rfl,?_⟩;obtain ⟨nC,cg,bw,a6,a8,a9,HB⟩:=p_ (Kd.iL (Kd.EM (Kd.EM (Kd.Pg xg hb) (Kd.jo ho0)) (Kd.jo ho1)) (fun _ dG=>dG.1)) <| p_ (Kd.dI (Kd.yR (M:=fun ay=>(w.heap.size≤ay)) ho0 (cZ au) (fun ay dG=>dG)) (cZ au)) <| p_ (Kd.dI (Kd.yR (M:=fun ay=>(w.heap.size≤ay)) ho1 (cZ au) (fun ay dG=>dG)) (cZ au)) <| lD (ak a6) (ak a8) (ak a9) au hb;(try clear hb);(try clear ho0);(try clear ho1);obtain ⟨fy,fz,g7⟩:=Kd.dK cg.out;subst g7;obtain ⟨b0,b1⟩:=gB ai aN;have UM:=dh a8.out;have ed:=kK a9.out;obtain ⟨g8,g9,ga⟩:=Kd.dK bw.out;subst ga))
  refine bodyPost_ret (iR rfl _ _ af a7 28 49 #[.slice fy e7.length fz] #[ah e8,.string e9,ah ea,.bool eb,.slice g8 ec.length g9] (0,0) (0,0) _ _ rfl aT underlying28 rfl aB rfl aT underlying49 rfl aB) rfl ?_
  exact ⟨_,_,bM,Kd.KN (base:=w.heap.size) (by (with_reducible repeat (first|apply Kd.dB|apply Kd.dD|apply Kd.aZ));exact Kd.bn (aH (aH (aH (aH (aH (aH (Kd.bQ (Kd.bQ (Kd.O5 cg.out (Kd.O8 bw.out) (by decide)) a8.out (by decide)) a9.out (by decide)) (fun _ hk=>hk.1.2))))))) (fun _ hk=>⟨.inr hk.1.1.1.1,hk.1.1.2⟩)),(by (with_reducible repeat (first|apply Kd.dB|apply Kd.dD|apply Kd.aZ));exact Kd.bn (aH (aH (aH (aH (aH (aH (Kd.bQ (Kd.bQ bw.out a8.out (by decide)) a9.out (by decide)) (fun _ hk=>hk.1.2))))))) (fun _ hk=>hk.1.1.1)),au⟩
 replace e6:=Bool.eq_false_iff.mpr e6
 subst e6
 rw [if_neg iI] at H
 revert H;refine fH (fun ch H=>?_) fun ch H=>?_
 ·have ci:=fZ ch
  have cj:=f_ ch
  clear ch
  obtain ⟨⟨ee,ef,eh,ei,ej,ek⟩,i5,H⟩:=bd_ H
  simp only [Option.some.injEq,Prod.mk.injEq] at H
  obtain ⟨rfl,rfl,rfl,rfl,rfl,rfl⟩:=H
  obtain ⟨aoS,aoT,aoY,aoZ,ao0,ao1,ao2,ao3,ao4,ao5,aoU,aoV,aoW,aoX⟩:=iq a6.out
  obtain ⟨au8,au9,avc,avd,ave,avf,avg,avh,avi,avj,au_,au',ava,avb⟩:=jA a6.out
  go_wp2_with (first|((with_reducible refine bT 117 ?_);refine bU (some 68) rfl rfl func117 aB rfl #[.agg #[ah an,ah ao,ah ap,ah aq,.slice eu bW.length d_,ah aK,.string aQ,.string ar,ah aW,ah av,.string ag,.string ab,.bool ac,.string aa]] rfl aX ?_;(with_reducible refine (oV.calls TA an ao ap aq _ _ bW aK aQ ar aW av ag ab ac aa ee ef eh ei ej ek _ (iK.below HD.out au) N7 ((Kd.vU nC.out).2.1) i5.out).mono ?_);rintro e ie ⟨azI,azJ,rfl,ho0,ho1,hb⟩;refine ⟨_,rfl,?_⟩;obtain ⟨nC,ck,bx,a6,a8,a9,HB⟩:=p_ (Kd.iL (Kd.EM (Kd.EM (Kd.Pg xg hb) (Kd.jo ho0)) (Kd.jo ho1)) (fun _ dG=>dG.1)) <| p_ (Kd.dI (Kd.yR (M:=fun ay=>(w.heap.size≤ay)) ho0 (cZ au) (fun ay dG=>dG)) (cZ au)) <| p_ (Kd.dI (Kd.yR (M:=fun ay=>(w.heap.size≤ay)) ho1 (cZ au) (fun ay dG=>dG)) (cZ au)) <| lD (ak a6) (ak a8) (ak a9) au hb;(try clear hb);(try clear ho0);(try clear ho1);obtain ⟨gc,gd,gf⟩:=Kd.dK ck.out;subst gf;obtain ⟨b0,b1⟩:=gB ai aN;have aBq:=dh a8.out;have el:=kK a9.out;obtain ⟨gh,gi,gj⟩:=Kd.dK bx.out;subst gj))
  refine bodyPost_ret (iR rfl _ _ af a7 28 49 #[.slice gc ee.length gd] #[ah ef,.string eh,ah ei,.bool ej,.slice gh ek.length gi] (0,0) (0,0) _ _ rfl aT underlying28 rfl aB rfl aT underlying49 rfl aB) rfl ?_
  exact ⟨_,_,bM,Kd.KN (base:=w.heap.size) (by (with_reducible repeat (first|apply Kd.dB|apply Kd.dD|apply Kd.aZ));exact Kd.bn (aH (aH (aH (aH (aH (aH (Kd.bQ (Kd.bQ (Kd.O5 ck.out (Kd.O8 bx.out) (by decide)) a8.out (by decide)) a9.out (by decide)) (fun _ hk=>hk.1.2))))))) (fun _ hk=>⟨.inr hk.1.1.1.1,hk.1.1.2⟩)),(by (with_reducible repeat (first|apply Kd.dB|apply Kd.dD|apply Kd.aZ));exact Kd.bn (aH (aH (aH (aH (aH (aH (Kd.bQ (Kd.bQ bx.out a8.out (by decide)) a9.out (by decide)) (fun _ hk=>hk.1.2))))))) (fun _ hk=>hk.1.1.1)),au⟩
 have ci:=fP ch
 have cj:=fQ ch
 revert H;refine fH (fun cl H=>?_) fun cl H=>?_
 ·have cm:=fZ cl
  have cn:=f_ cl
  clear cl
  obtain ⟨⟨d6,d7,d8,d9,da,db⟩,i6,H⟩:=bd_ H
  simp only [Option.some.injEq,Prod.mk.injEq] at H
  obtain ⟨rfl,rfl,rfl,rfl,rfl,rfl⟩:=H
  obtain ⟨apz,apA,apF,apG,apH,apI,apJ,apK,apL,apM,apB,apC,apD,apE⟩:=iq a6.out
  obtain ⟨avN,avO,avT,avU,avV,avW,avX,avY,avZ,av1,avP,avQ,avR,avS⟩:=jA a6.out
  go_wp2_with (first|((with_reducible refine bT 118 ?_);refine bU (some 74) rfl rfl func118 aB rfl #[.agg #[ah an,ah ao,ah ap,ah aq,.slice eu bW.length d_,ah aK,.string aQ,.string ar,ah aW,ah av,.string ag,.string ab,.bool ac,.string aa]] rfl aX ?_;(with_reducible refine (Az.calls an ao ap aq (fun ay=>((nX ay∨w.heap.size≤ay)∧(ay≠nP∧(ay≠af∧ay≠a7)))) _ _ bW aK aQ ar aW av ag ab ac aa d6 d7 d8 d9 da db _ nC.out i6.out).mono ?_);rintro e DU ⟨azK,akP,rfl,ho0,ho1,hb⟩;refine ⟨_,rfl,?_⟩;obtain ⟨nC,co,cp,a6,a8,a9,HB⟩:=p_ (Kd.CY xg (Kd.jo ho1) hb) <| p_ (Kd.KU (Kd.iL (ok':=fun ay=>(nX ay∨w.heap.size≤ay)∧some ay≠(akP:Value).ownBlock∧ay≠nP∧ay≠af∧ay≠a7) ho0 (fun ay mZ=>⟨Or.elim mZ.1 (fun hs_=>hs_.1) (fun mD=>(.inr (Nat.le_trans (cZ au) mD))),mZ.2,Or.elim mZ.1 (fun hs_=>hs_.2.1) (fun mD=>(Kd.tZ (g:=nP) (o:=.cells #[ah an,ah ao,ah ap,ah aq,.slice eu bW.length d_,ah aK,.string aQ,.string ar,ah aW,ah av,.string ag,.string ab,.bool ac,.string aa] 90) (ak a6) ay mD)),Or.elim mZ.1 (fun hs_=>hs_.2.2.1) (fun mD=>(Kd.tZ (g:=af) (o:=.cells #[.slice none 0 0] 28) (ak a8) ay mD)),Or.elim mZ.1 (fun hs_=>hs_.2.2.2) (fun mD=>(Kd.tZ (g:=a7) (o:=.cells #[ah 0,.string (⟨#[]⟩:ByteArray),ah 0,.bool false,.slice none 0 0] 49) (ak a9) ay mD))⟩)) (cZ au)) <| p_ (Kd.dI (Kd.yR (M:=fun ay=>(w.heap.size≤ay)) (Kd.bn (ok':=fun ay=>True) ho1 (fun _ mZ=>trivial)) (cZ au) (fun ay dG=>dG)) (cZ au)) <| lD (ak a6) (ak a8) (ak a9) au hb;(try clear hb);(try clear ho0);(try clear ho1);obtain ⟨em,en,gl⟩:=Kd.KW co.out;subst gl;obtain ⟨b0,b1⟩:=gB ai aN;have alj:=dh a8.out;have eo:=kK a9.out;obtain ⟨ep,eq,gm⟩:=Kd.dK cp.out;subst gm))
  refine bodyPost_ret (iR rfl _ _ af a7 28 49 #[.slice em d6.length en] #[ah d7,.string d8,ah d9,.bool da,.slice ep db.length eq] (0,0) (0,0) _ _ rfl aT underlying28 rfl aB rfl aT underlying49 rfl aB) rfl ?_
  exact ⟨_,_,bM,(by (with_reducible repeat (first|apply Kd.qh|apply Kd.qj|apply Kd.mQ));exact Kd.iL (Kd.fF (p:=⟨a7,4,none⟩) (Kd.fF (p:=⟨a7,3,none⟩) (Kd.fF (p:=⟨a7,2,none⟩) (Kd.fF (p:=⟨a7,1,none⟩) (Kd.fF (p:=⟨a7,0,none⟩) (Kd.fF (p:=⟨af,0,none⟩) (Kd.iL (Kd.iL co.out (fun ay hk=>(⟨hk,hk.2.2.2.1⟩:_∧ay≠af))) (fun ay hk=>(⟨hk,hk.1.2.2.2.2⟩:_∧ay≠a7))) (fun _ hk=>hk.1.2) (.slice em d6.length en)) (fun _ hk=>hk.2) (ah d7)) (fun _ hk=>hk.2) (.string d8)) (fun _ hk=>hk.2) (ah d9)) (fun _ hk=>hk.2) (.bool da)) (fun _ hk=>hk.2) (.slice ep db.length eq)) (fun _ hk=>⟨hk.1.1.1,hk.1.1.2.1⟩)),(by (with_reducible repeat (first|apply Kd.dB|apply Kd.dD|apply Kd.aZ));exact Kd.bn (aH (aH (aH (aH (aH (aH (Kd.bQ (Kd.bQ cp.out a8.out (by decide)) a9.out (by decide)) (fun _ hk=>hk.1.2))))))) (fun _ hk=>hk.1.1.1)),au⟩
 have cm:=fP cl
 have cn:=fQ cl
 have dd:=m_ H
 clear H
 go_upto_if 77 with (fail)
 go_cut [77] (fun v77 wc=>∃ (kq:Nat) (dM:Bool),v77=.bool dM∧aA (lT.j4 kq aK dM an ao ap aq bW aK aQ ar aW av ag ab ac aa=some (r1,r2,r3,r4,r5,r6))∧aA (kq≤TA)∧aA (Kd.V aU 43 wc w.heap.size (fun ay=>(nX ay∨w.heap.size≤ay)∧ay≠nP∧ay≠af∧ay≠a7) (.slice eu bW.length d_) bW)∧aA (wc.heap[nP]?=some (.cells #[ah an,ah ao,ah ap,ah aq,(.slice eu bW.length d_),ah aK,.string aQ,.string ar,ah aW,ah av,.string ag,.string ab,.bool ac,.string aa] 90))∧aA (wc.heap[af]?=some (.cells #[(.slice none 0 0)] 28))∧aA (wc.heap[a7]?=some (.cells #[ah 0,.string (⟨#[]⟩:ByteArray),ah 0,.bool false,(.slice none 0 0)] 49))∧aA (Below w.heap.size w wc))
 case first =>
  obtain ⟨H⟩:=dd
  revert H;refine fH (fun cq H=>?_) fun cq H=>?_
  rotate_left
  ·have ba:=fP cq
   have cr:=fQ cq
   try simp only [aY,bf,ba]
   have H':=m_ H
   clear H
   go_wp2
   go_meet
   case rel=>exact ⟨_,((aK == 8)),bg,H',⟨(by have:=sQ.out;have:=zB.out;have:=KD.out;have:=U5.out;first|omega|exact Nat.le_refl _)⟩,⟨xg⟩,⟨(ak a6)⟩,⟨(ak a8)⟩,⟨(ak a9)⟩,⟨au⟩⟩
  have ba:=fZ cq
  have cr:=f_ cq
  clear cq
  try simp only [aY,bf,ba]
  have H':=m_ H
  clear H
  go_wp2
  go_meet
  case rel=>exact ⟨_,((aK == 7)),bg,H',⟨(by have:=sQ.out;have:=zB.out;have:=KD.out;have:=U5.out;first|omega|exact Nat.le_refl _)⟩,⟨xg⟩,⟨(ak a6)⟩,⟨(ak a8)⟩,⟨(ak a9)⟩,⟨au⟩⟩
 case rest =>
 clear dd
 try clear e6;try clear ch;try clear ci;try clear cj;try clear cl;try clear cm;try clear cn
 obtain ⟨kq,dM,rfl,HA,alB,nC,a6,a8,a9,HB⟩:=hcut
 cases kq with
 | zero=>exact absurd HA.out (by simp [lT.j4])
 | succ Zi =>
 obtain ⟨H⟩:=HA
 simp only [lT.j4] at H
 by_cases fb:dM=true
 ·subst fb
  rw [if_pos rfl] at H
  obtain ⟨⟨de,df,dg,lN,di,dj⟩,i7,H⟩:=bd_ H
  simp only [Option.some.injEq,Prod.mk.injEq] at H
  obtain ⟨rfl,rfl,rfl,rfl,rfl,rfl⟩:=H
  obtain ⟨ap1,ap2,ap7,ap8,ap9,ap_,ap',aqa,aqb,aqc,ap3,ap4,ap5,ap6⟩:=iq a6.out
  obtain ⟨awg,awh,awm,awn,awo,awp,awq,awr,awt,awu,awi,awj,awk,awl⟩:=jA a6.out
  go_wp2_with (first|((with_reducible refine bT 119 ?_);refine bU (some 81) rfl rfl func119 aB rfl #[.agg #[ah an,ah ao,ah ap,ah aq,.slice eu bW.length d_,ah aK,.string aQ,.string ar,ah aW,ah av,.string ag,.string ab,.bool ac,.string aa]] rfl aX ?_;(with_reducible refine (nJ.calls Zi an ao ap aq (fun ay=>((nX ay∨w.heap.size≤ay)∧(ay≠nP∧(ay≠af∧ay≠a7)))) _ _ bW aK aQ ar aW av ag ab ac aa de df dg lN di dj _ nC.out i7.out).mono ?_);rintro e iu ⟨azL,akQ,rfl,ho0,ho1,hb⟩;refine ⟨_,rfl,?_⟩;obtain ⟨nC,ct,iO,a6,a8,a9,HB⟩:=p_ (Kd.CY xg (Kd.jo ho1) hb) <| p_ (Kd.KU (Kd.iL (ok':=fun ay=>(nX ay∨w.heap.size≤ay)∧some ay≠(akQ:Value).ownBlock∧ay≠nP∧ay≠af∧ay≠a7) ho0 (fun ay mZ=>⟨Or.elim mZ.1 (fun hs_=>hs_.1) (fun mD=>(.inr (Nat.le_trans (cZ au) mD))),mZ.2,Or.elim mZ.1 (fun hs_=>hs_.2.1) (fun mD=>(Kd.tZ (g:=nP) (o:=.cells #[ah an,ah ao,ah ap,ah aq,.slice eu bW.length d_,ah aK,.string aQ,.string ar,ah aW,ah av,.string ag,.string ab,.bool ac,.string aa] 90) (ak a6) ay mD)),Or.elim mZ.1 (fun hs_=>hs_.2.2.1) (fun mD=>(Kd.tZ (g:=af) (o:=.cells #[.slice none 0 0] 28) (ak a8) ay mD)),Or.elim mZ.1 (fun hs_=>hs_.2.2.2) (fun mD=>(Kd.tZ (g:=a7) (o:=.cells #[ah 0,.string (⟨#[]⟩:ByteArray),ah 0,.bool false,.slice none 0 0] 49) (ak a9) ay mD))⟩)) (cZ au)) <| p_ (Kd.dI (Kd.yR (M:=fun ay=>(w.heap.size≤ay)) (Kd.bn (ok':=fun ay=>True) ho1 (fun _ mZ=>trivial)) (cZ au) (fun ay dG=>dG)) (cZ au)) <| lD (ak a6) (ak a8) (ak a9) au hb;(try clear hb);(try clear ho0);(try clear ho1);obtain ⟨er,es,gn⟩:=Kd.KW ct.out;subst gn;obtain ⟨b0,b1⟩:=gB ai aN;have aBz:=dh a8.out;have i8:=kK a9.out;obtain ⟨et,tY,go⟩:=Kd.dK iO.out;subst go))
  refine bodyPost_ret (iR rfl _ _ af a7 28 49 #[.slice er de.length es] #[ah df,.string dg,ah lN,.bool di,.slice et dj.length tY] (0,0) (0,0) _ _ rfl aT underlying28 rfl aB rfl aT underlying49 rfl aB) rfl ?_
  exact ⟨_,_,bM,(by (with_reducible repeat (first|apply Kd.qh|apply Kd.qj|apply Kd.mQ));exact Kd.iL (Kd.fF (p:=⟨a7,4,none⟩) (Kd.fF (p:=⟨a7,3,none⟩) (Kd.fF (p:=⟨a7,2,none⟩) (Kd.fF (p:=⟨a7,1,none⟩) (Kd.fF (p:=⟨a7,0,none⟩) (Kd.fF (p:=⟨af,0,none⟩) (Kd.iL (Kd.iL ct.out (fun ay hk=>(⟨hk,hk.2.2.2.1⟩:_∧ay≠af))) (fun ay hk=>(⟨hk,hk.1.2.2.2.2⟩:_∧ay≠a7))) (fun _ hk=>hk.1.2) (.slice er de.length es)) (fun _ hk=>hk.2) (ah df)) (fun _ hk=>hk.2) (.string dg)) (fun _ hk=>hk.2) (ah lN)) (fun _ hk=>hk.2) (.bool di)) (fun _ hk=>hk.2) (.slice et dj.length tY)) (fun _ hk=>⟨hk.1.1.1,hk.1.1.2.1⟩)),(by (with_reducible repeat (first|apply Kd.dB|apply Kd.dD|apply Kd.aZ));exact Kd.bn (aH (aH (aH (aH (aH (aH (Kd.bQ (Kd.bQ iO.out a8.out (by decide)) a9.out (by decide)) (fun _ hk=>hk.1.2))))))) (fun _ hk=>hk.1.1.1)),au⟩
 replace fb:=Bool.eq_false_iff.mpr fb
 subst fb
 rw [if_neg iI] at H
 revert H;refine fH (fun dk H=>?_) fun dk H=>?_
 rotate_left
 ·have ev:=fP dk
  have ew:=fQ dk
  revert H;refine fH (fun bl H=>?_) fun bl H=>?_
  rotate_left
  ·have dl:=fP bl
   have dm:=fQ bl
   simp only [Option.some.injEq,Prod.mk.injEq] at H
   obtain ⟨rfl,rfl,rfl,rfl,rfl,rfl⟩:=H
   obtain ⟨amv,amw,amC,amD,amE,amF,amG,amH,amI,amJ,amx,amy,amA,amB⟩:=iq a6.out
   obtain ⟨asB,asC,asH,asI,asJ,asK,asL,asM,asN,asO,asD,asE,asF,asG⟩:=jA a6.out
   obtain ⟨b0,b1⟩:=gB ai aN
   have aAR:=dh a8.out
   have h8:=kK a9.out
   go_wp2
   refine bodyPost_ret (iR rfl _ _ af a7 28 49 #[.slice eu bW.length d_] #[ah 0,.string (⟨#[]⟩:ByteArray),ah 0,.bool false,.slice none 0 0] (0,0) (0,0) _ _ rfl aT underlying28 rfl aB rfl aT underlying49 rfl aB) rfl ?_
   exact ⟨_,_,bM,(by (with_reducible repeat (first|apply Kd.qh|apply Kd.qj|apply Kd.mQ));exact Kd.iL (Kd.fF (p:=⟨a7,4,none⟩) (Kd.fF (p:=⟨a7,3,none⟩) (Kd.fF (p:=⟨a7,2,none⟩) (Kd.fF (p:=⟨a7,1,none⟩) (Kd.fF (p:=⟨a7,0,none⟩) (Kd.fF (p:=⟨af,0,none⟩) (Kd.iL (Kd.iL nC.out (fun ay hk=>(⟨hk,hk.2.2.1⟩:_∧ay≠af))) (fun ay hk=>(⟨hk,hk.1.2.2.2⟩:_∧ay≠a7))) (fun _ hk=>hk.1.2) (.slice eu bW.length d_)) (fun _ hk=>hk.2) (ah 0)) (fun _ hk=>hk.2) (.string (⟨#[]⟩:ByteArray))) (fun _ hk=>hk.2) (ah 0)) (fun _ hk=>hk.2) (.bool false)) (fun _ hk=>hk.2) (.slice none 0 0)) (fun _ hk=>⟨hk.1.1.1,yJ⟩)),kD,au⟩
  have dl:=fZ bl
  have dm:=f_ bl
  clear bl
  obtain ⟨⟨lF,dp,dq,dr,dt,du⟩,gp,H⟩:=bd_ H
  simp only [Option.some.injEq,Prod.mk.injEq] at H
  obtain ⟨rfl,rfl,rfl,rfl,rfl,rfl⟩:=H
  obtain ⟨amf,amg,aml,amm,amn,amo,amq,amr,ams,amu,amh,ami,amj,amk⟩:=iq a6.out
  obtain ⟨asi,asj,asr,asu,asv,asw,asx,asy,asz,asA,asl,asn,aso,asq⟩:=jA a6.out
  go_wp2_with (first|((with_reducible refine bT 120 ?_);refine bU (some 102) rfl rfl func120 aB rfl #[.agg #[ah an,ah ao,ah ap,ah aq,.slice eu bW.length d_,ah aK,.string aQ,.string ar,ah aW,ah av,.string ag,.string ab,.bool ac,.string aa]] rfl aX ?_;(with_reducible refine (Aw.calls Zi an ao ap aq (fun ay=>((nX ay∨w.heap.size≤ay)∧(ay≠nP∧(ay≠af∧ay≠a7)))) _ _ bW aK aQ ar aW av ag ab ac aa lF dp dq dr dt du _ (iK.below HD.out au) nC.out gp.out).mono ?_);rintro e i9 ⟨azM,akR,rfl,ho0,ho1,hb⟩;refine ⟨_,rfl,?_⟩;obtain ⟨nC,cv,cw,a6,a8,a9,HB⟩:=p_ (Kd.CY xg (Kd.jo ho1) hb) <| p_ (Kd.KU (Kd.iL (ok':=fun ay=>(nX ay∨w.heap.size≤ay)∧some ay≠(akR:Value).ownBlock∧ay≠nP∧ay≠af∧ay≠a7) ho0 (fun ay mZ=>⟨Or.elim mZ.1 (fun hs_=>hs_.1) (fun mD=>(.inr (Nat.le_trans (cZ au) mD))),mZ.2,Or.elim mZ.1 (fun hs_=>hs_.2.1) (fun mD=>(Kd.tZ (g:=nP) (o:=.cells #[ah an,ah ao,ah ap,ah aq,.slice eu bW.length d_,ah aK,.string aQ,.string ar,ah aW,ah av,.string ag,.string ab,.bool ac,.string aa] 90) (ak a6) ay mD)),Or.elim mZ.1 (fun hs_=>hs_.2.2.1) (fun mD=>(Kd.tZ (g:=af) (o:=.cells #[.slice none 0 0] 28) (ak a8) ay mD)),Or.elim mZ.1 (fun hs_=>hs_.2.2.2) (fun mD=>(Kd.tZ (g:=a7) (o:=.cells #[ah 0,.string (⟨#[]⟩:ByteArray),ah 0,.bool false,.slice none 0 0] 49) (ak a9) ay mD))⟩)) (cZ au)) <| p_ (Kd.dI (Kd.yR (M:=fun ay=>(w.heap.size≤ay)) (Kd.bn (ok':=fun ay=>True) ho1 (fun _ mZ=>trivial)) (cZ au) (fun ay dG=>dG)) (cZ au)) <| lD (ak a6) (ak a8) (ak a9) au hb;(try clear hb);(try clear ho0);(try clear ho1);obtain ⟨cx,cy,ex⟩:=Kd.KW cv.out;subst ex;obtain ⟨b0,b1⟩:=gB ai aN;have aAQ:=dh a8.out;have h9:=kK a9.out;obtain ⟨cz,d0,ey⟩:=Kd.dK cw.out;subst ey))
  refine bodyPost_ret (iR rfl _ _ af a7 28 49 #[.slice cx lF.length cy] #[ah dp,.string dq,ah dr,.bool dt,.slice cz du.length d0] (0,0) (0,0) _ _ rfl aT underlying28 rfl aB rfl aT underlying49 rfl aB) rfl ?_
  exact ⟨_,_,bM,(by (with_reducible repeat (first|apply Kd.qh|apply Kd.qj|apply Kd.mQ));exact Kd.iL (Kd.fF (p:=⟨a7,4,none⟩) (Kd.fF (p:=⟨a7,3,none⟩) (Kd.fF (p:=⟨a7,2,none⟩) (Kd.fF (p:=⟨a7,1,none⟩) (Kd.fF (p:=⟨a7,0,none⟩) (Kd.fF (p:=⟨af,0,none⟩) (Kd.iL (Kd.iL cv.out (fun ay hk=>(⟨hk,hk.2.2.2.1⟩:_∧ay≠af))) (fun ay hk=>(⟨hk,hk.1.2.2.2.2⟩:_∧ay≠a7))) (fun _ hk=>hk.1.2) (.slice cx lF.length cy)) (fun _ hk=>hk.2) (ah dp)) (fun _ hk=>hk.2) (.string dq)) (fun _ hk=>hk.2) (ah dr)) (fun _ hk=>hk.2) (.bool dt)) (fun _ hk=>hk.2) (.slice cz du.length d0)) (fun _ hk=>⟨hk.1.1.1,hk.1.1.2.1⟩)),(by (with_reducible repeat (first|apply Kd.dB|apply Kd.dD|apply Kd.aZ));exact Kd.bn (aH (aH (aH (aH (aH (aH (Kd.bQ (Kd.bQ cw.out a8.out (by decide)) a9.out (by decide)) (fun _ hk=>hk.1.2))))))) (fun _ hk=>hk.1.1.1)),au⟩
 have ev:=fZ dk
 have ew:=f_ dk
 clear dk
 have d1:=m_ H
 clear H
 obtain ⟨ado,adp,adu,adv,adw,adx,ady,adz,adA,adB,adq,adr,ads,adt⟩:=iq a6.out
 obtain ⟨af5,af6,af',aga,agb,agc,agd,agf,agh,agi,af7,af8,af9,af_⟩:=jA a6.out
 go_upto_if 88 with (fail)
 (try clear aw bH ax az)
 (try clear ado adp adq adr ads adt adu adv adw adx ady adz adA adB)
 (try clear af5 af6 af7 af8 af9 af_ af' aga agb agc agd agf agh agi)
 obtain ⟨H⟩:=d1
 by_cases cd:ac=true
 ·subst cd
  rw [if_pos rfl] at H
  simp only [Option.some.injEq,Prod.mk.injEq] at H
  obtain ⟨rfl,rfl,rfl,rfl,rfl,rfl⟩:=H
  obtain ⟨aw,ax,bH,az⟩:=g_ ae al a5 am
  obtain ⟨al3,al4,al9,al_,al',ama,amb,amc,amd,ame,al5,al6,al7,al8⟩:=iq a6.out
  obtain ⟨ar5,ar6,ar',asa,asb,asc,ase,asf,asg,ash,ar7,ar8,ar9,ar_⟩:=jA a6.out
  obtain ⟨b0,b1⟩:=gB ai aN
  have aAM:=dh a8.out
  have hs:=kK a9.out
  go_wp2
  refine bodyPost_ret (iR rfl _ _ af a7 28 49 #[.slice eu bW.length d_] #[ah 0,.string (⟨#[]⟩:ByteArray),ah 0,.bool true,.slice none 0 0] (0,0) (0,0) _ _ rfl aT underlying28 rfl aB rfl aT underlying49 rfl aB) rfl ?_
  exact ⟨_,_,bM,(by (with_reducible repeat (first|apply Kd.qh|apply Kd.qj|apply Kd.mQ));exact Kd.iL (Kd.fF (p:=⟨a7,4,none⟩) (Kd.fF (p:=⟨a7,3,none⟩) (Kd.fF (p:=⟨a7,2,none⟩) (Kd.fF (p:=⟨a7,1,none⟩) (Kd.fF (p:=⟨a7,0,none⟩) (Kd.fF (p:=⟨af,0,none⟩) (Kd.iL (Kd.iL nC.out (fun ay hk=>(⟨hk,hk.2.2.1⟩:_∧ay≠af))) (fun ay hk=>(⟨hk,hk.1.2.2.2⟩:_∧ay≠a7))) (fun _ hk=>hk.1.2) (.slice eu bW.length d_)) (fun _ hk=>hk.2) (ah 0)) (fun _ hk=>hk.2) (.string (⟨#[]⟩:ByteArray))) (fun _ hk=>hk.2) (ah 0)) (fun _ hk=>hk.2) (.bool true)) (fun _ hk=>hk.2) (.slice none 0 0)) (fun _ hk=>⟨hk.1.1.1,yJ⟩)),kD,au⟩
 replace cd:=Bool.eq_false_iff.mpr cd
 subst cd
 rw [if_neg iI] at H
 simp only [Option.some.injEq,Prod.mk.injEq] at H
 obtain ⟨rfl,rfl,rfl,rfl,rfl,rfl⟩:=H
 try go_wp2
 obtain ⟨nC,a6,a8,a9,HB⟩:=p_ (Kd.mQ nC.out) <| yU a6 a8 a9 HB
 refine iT (n:=9) (S:=fun w'=>AZ w' nP (ah an) (ah ao) (ah ap) (ah aq) (.slice eu bW.length d_) (ah aK) (.string aQ) (.string ar) (ah aW) (ah av) (.string ag) (.string ab) (.bool false) (.string aa)) (ds:=[]) EP aB rfl rfl (iq a6.out) (fun hH=>?_);refine kE (T:=lT.ab3) (B:=lT.aa6) aB aB (fun aO fJ=>?_)
 generalize wc.drew=bq at nC a6 a8 a9 HB hH ⊢
 refine bV 0 ?_
 refine bV 2 ?_
 refine cu 3 95 #[aj,F_,aj,aj,F_,F_,F_,F_,F_] aO ?_
 refine lg 1 hH ?_
 refine lg 4 hH ?_
 refine bV 5 ?_
 refine bV 6 ?_
 refine oZ 7 (fun K hK=>?_)
 have air:bq.cell? ⟨af,0,none⟩=some (.slice none 0 0):=(aP a8.out 0).trans rfl
 have afH:=bP a8.out 0
 obtain ⟨aw,b1,ax,b0⟩:=g_ ae aN al ai
 refine iM (w1:=?_) (by rfl) rfl ?_ ?_
 rotate_left
 ·go_simp
  rfl
 refine hK.out _ _ ⟨(aG ae hH.1),(aG ae hH.2.1),(aG ae hH.2.2.1),(aG ae hH.2.2.2.1),(aG ae hH.2.2.2.2.1),(aG ae hH.2.2.2.2.2.1),(aG ae hH.2.2.2.2.2.2.1),(aG ae hH.2.2.2.2.2.2.2.1),(aG ae hH.2.2.2.2.2.2.2.2.1),(aG ae hH.2.2.2.2.2.2.2.2.2.1),(aG ae hH.2.2.2.2.2.2.2.2.2.2.1),(aG ae hH.2.2.2.2.2.2.2.2.2.2.2.1),(aG ae hH.2.2.2.2.2.2.2.2.2.2.2.2.1),(aG ae hH.2.2.2.2.2.2.2.2.2.2.2.2.2)⟩ (fun hH=>?_)
 clear hK K
 refine oZ 8 (fun K hK=>?_)
 have ais:bq.cell? ⟨a7,0,none⟩=some (ah 0):=(aP a9.out 0).trans rfl
 have afI:=bP a9.out 0
 obtain ⟨bH,az⟩:=gB a5 am
 have ait:bq.cell? ⟨a7,1,none⟩=some (.string (⟨#[]⟩:ByteArray)):=(aP a9.out 1).trans rfl
 have afJ:=bP a9.out 1
 have awV:bq.cell? ⟨a7,2,none⟩=some (ah 0):=(aP a9.out 2).trans rfl
 have aqf:=bP a9.out 2
 have aiu:bq.cell? ⟨a7,3,none⟩=some (.bool false):=(aP a9.out 3).trans rfl
 have afK:=bP a9.out 3
 have awW:bq.cell? ⟨a7,4,none⟩=some (.slice none 0 0):=(aP a9.out 4).trans rfl
 have aqg:=bP a9.out 4
 refine iM (w1:=?_) (by rfl) rfl ?_ ?_
 rotate_left
 ·go_simp
  rfl
 refine hK.out _ _ ⟨(aG a5 (aG a5 (aG a5 (aG a5 (aG a5 hH.1))))),(aG a5 (aG a5 (aG a5 (aG a5 (aG a5 hH.2.1))))),(aG a5 (aG a5 (aG a5 (aG a5 (aG a5 hH.2.2.1))))),(aG a5 (aG a5 (aG a5 (aG a5 (aG a5 hH.2.2.2.1))))),(aG a5 (aG a5 (aG a5 (aG a5 (aG a5 hH.2.2.2.2.1))))),(aG a5 (aG a5 (aG a5 (aG a5 (aG a5 hH.2.2.2.2.2.1))))),(aG a5 (aG a5 (aG a5 (aG a5 (aG a5 hH.2.2.2.2.2.2.1))))),(aG a5 (aG a5 (aG a5 (aG a5 (aG a5 hH.2.2.2.2.2.2.2.1))))),(aG a5 (aG a5 (aG a5 (aG a5 (aG a5 hH.2.2.2.2.2.2.2.2.1))))),(aG a5 (aG a5 (aG a5 (aG a5 (aG a5 hH.2.2.2.2.2.2.2.2.2.1))))),(aG a5 (aG a5 (aG a5 (aG a5 (aG a5 hH.2.2.2.2.2.2.2.2.2.2.1))))),(aG a5 (aG a5 (aG a5 (aG a5 (aG a5 hH.2.2.2.2.2.2.2.2.2.2.2.1))))),(aG a5 (aG a5 (aG a5 (aG a5 (aG a5 hH.2.2.2.2.2.2.2.2.2.2.2.2.1))))),(aG a5 (aG a5 (aG a5 (aG a5 (aG a5 hH.2.2.2.2.2.2.2.2.2.2.2.2.2)))))⟩ (fun hH=>?_)
 clear hK K
 refine iP (ku aO.out aB) ?_
 try go_wp2
 refine bodyPost_ret (iR rfl _ _ af a7 28 49 #[.slice eu bW.length d_] #[ah 0,.string (⟨#[]⟩:ByteArray),ah (aa.size:Int),.bool false,.slice none 0 0] (0,0) (0,0) _ _ rfl aT underlying28 rfl aB rfl aT underlying49 rfl aB) rfl ?_
 exact ⟨_,_,bM,(by (with_reducible repeat (first|apply Kd.qh|apply Kd.qj|apply Kd.mQ));exact Kd.iL (Kd.fF (p:=⟨a7,4,none⟩) (Kd.fF (p:=⟨a7,3,none⟩) (Kd.fF (p:=⟨a7,2,none⟩) (Kd.fF (p:=⟨a7,1,none⟩) (Kd.fF (p:=⟨a7,0,none⟩) (Kd.fF (p:=⟨af,0,none⟩) (Kd.iL (Kd.iL nC.out (fun ay hk=>(⟨hk,hk.2.2.1⟩:_∧ay≠af))) (fun ay hk=>(⟨hk,hk.1.2.2.2⟩:_∧ay≠a7))) (fun _ hk=>hk.1.2) (.slice eu bW.length d_)) (fun _ hk=>hk.2) (ah 0)) (fun _ hk=>hk.2) (.string (⟨#[]⟩:ByteArray))) (fun _ hk=>hk.2) (ah (aa.size:Int))) (fun _ hk=>hk.2) (.bool false)) (fun _ hk=>hk.2) (.slice none 0 0)) (fun _ hk=>⟨hk.1.1.1,yJ⟩)),kD,au⟩

end Go.Proofs.YthejdhjpbpamoaaGreatDoor.jD
