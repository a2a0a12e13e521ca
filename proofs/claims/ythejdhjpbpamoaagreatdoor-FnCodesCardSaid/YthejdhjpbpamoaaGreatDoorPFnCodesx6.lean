/- Contracts of Go functions: each call returns what the Lean function beside it computes. Conditions: as each theorem states them. -/
import Derived.Test.YthejdhjpbpamoaaGreatDoorPkFnCodes
import Derived.Test.YthejdhjpbpamoaaGreatDoorPFnCodesx1
import Derived.Test.YthejdhjpbpamoaaGreatDoorPFnCodesx3
import Derived.Test.YthejdhjpbpamoaaGreatDoorPFnCodesx4
import Derived.Test.YthejdhjpbpamoaaGreatDoorPFnCodesx5
namespace Go.Proofs.YthejdhjpbpamoaaGreatDoor.jD
open Go.RowKit Go.Proofs.YthejdhjpbpamoaaGreatDoorW.iw Go.Proofs.YthejdhjpbpamoaaGreatDoorW.lH Go.Proofs.YthejdhjpbpamoaaGreatDoorW.oO Go.Proofs.Tryz
attribute [local go_sem] qw qB qA qF qy qE qx qC   -- for this text's walks alone
set_option linter.unusedVariables false
set_option maxHeartbeats 8000000
set_option maxRecDepth 100000
set_option linter.unusedSimpArgs false

def zh.j0:Nat→Int→Bool→Int→Int→Int→Int→List (aF)→Int→ByteArray→ByteArray→Int→Int→ByteArray→ByteArray→Bool→ByteArray→Option ((List (aF)) × Int × ByteArray × Int × Bool × List ByteArray)
 | 0,_,_,_,_,_,_,_,_,_,_,_,_,_,_,_,_=>none
 | k+1,x4,x5,a9,aa,ab,ac,a6,a7,a5,ae,af,ag,aK,ai,a8,aN=>if x5=true then ((u_.f a6 a5).bind fun aQ=>(some (aQ,5,(⟨#[]⟩:ByteArray),0,false,([]:List ByteArray)))) else (if a7=3 then ((u_.f a6 a5).bind fun al=>(some (al,x4,(⟨#[]⟩:ByteArray),0,false,([]:List ByteArray)))) else (if a5.toList=([47]:List UInt8) then ((u_.f a6 a5).bind fun am=>(some (am,9,(⟨#[]⟩:ByteArray),0,false,([]:List ByteArray)))) else (if a8=true then ((sZ.f k a6 a5).bind fun an=>(if (an.length:Int) > 0 then ((u_.f a6 a5).bind fun ao=>(some (ao,10,(⟨#[]⟩:ByteArray),0,false,([]:List ByteArray)))) else ((u_.f a6 a5).bind fun ap=>(some (ap,x4,(⟨#[]⟩:ByteArray),0,false,([]:List ByteArray)))))) else ((u_.f a6 a5).bind fun aq=>(some (aq,4,(⟨#[]⟩:ByteArray),0,false,([]:List ByteArray)))))))
def zh.f (k:Nat) (aa:Int) (ab:Int) (ac:Int) (ae:Int) (af:List (aF)) (a9:Int) (ag:ByteArray) (aK:ByteArray) (ai:Int) (aN:Int) (a6:ByteArray) (a7:ByteArray) (a5:Bool) (a8:ByteArray):Option ((List (aF)) × Int × ByteArray × Int × Bool × List ByteArray):=if a9=3 then (zh.j0 k 0 a5 aa ab ac ae af a9 ag aK ai aN a6 a7 a5 a8) else (zh.j0 k 0 false aa ab ac ae af a9 ag aK ai aN a6 a7 a5 a8)
theorem zh.calls (k:Nat) (b1:Int) (b2:Int) (b3:Int) (b4:Int) (eu:Option Addr) (d_:Nat) (bW:List (aF)) (az:Int) (aN:ByteArray) (b5:ByteArray) (b6:Int) (b7:Int) (ar:ByteArray) (aW:ByteArray) (am:Bool) (av:ByteArray) (r1:List (aF)) (r2:Int) (r3:ByteArray) (r4:Int) (r5:Bool) (r6:List ByteArray) (w:World) (jV:iK w) (bb:Kd.C aU w eu bW.length bW) (bc:bW.length≤d_) (h:zh.f k b1 b2 b3 b4 bW az aN b5 b6 b7 ar aW am av=some (r1,r2,r3,r4,r5,r6)) :
  Calls Tryz.prog 116 #[.agg #[ah b1,ah b2,ah b3,ah b4,.slice eu bW.length d_,ah az,.string aN,.string b5,ah b6,ah b7,.string ar,.string aW,.bool am,.string av]] w fun e w'=>∃ eP lY:Value,e=.returned (.tuple #[.agg #[eP],.agg #[ah r2,.string r3,ah r4,.bool r5,lY]])∧Kd.R aU 43 w' w.heap.size (fun _=>True) eP r1∧Kd.R Kd.string 9 w' w.heap.size (fun _=>True) lY r6∧Below w.heap.size w w':=by
 have DT:=underlying90
 have mF:=underlying28
 have xM:=underlying49
 have OU:=m_ bb
 have an:=m_ bc
 clear bb bc
 have HD:=m_ jV
 clear jV
 have HB:=m_ (Below.refl w.heap.size w)
 unfold zh.f at h
 have H:=h
 clear h
 have cg:=m_ H
 clear H
 go_enter func116,ntmps116
 go_upto_region 2 with (first|((with_reducible refine dJ 1 ?_);refine dO 1 (cs:=#[ah b1,ah b2,ah b3,ah b4,.slice eu bW.length d_,ah az,.string aN,.string b5,ah b6,ah b7,.string ar,.string aW,.bool am,.string av]) 90 ?_;intro fB hg w3 hbox hb;obtain ⟨HB,a5,d1,d2⟩:=kL au hb hbox hg;clear hb hbox hg)|((with_reducible refine dJ 2 ?_);refine dO 2 (cs:=#[.slice none 0 0]) 28 ?_;intro ao hg w4 hbox hb;obtain ⟨a5,HB,a6,d3,d4,ac,ae⟩:=pq (ak a5) au hb hbox hg;clear hb hbox hg)|((with_reducible refine dJ 3 ?_);refine dO 3 (cs:=#[ah 0,.string (⟨#[]⟩:ByteArray),ah 0,.bool false,.slice none 0 0]) 49 ?_;intro ap hg w5 hbox hb;obtain ⟨a5,a6,HB,a7,d5,d6,af,ag,aK,ai⟩:=pU (ak a5) (ak a6) au hb hbox hg;clear hb hbox hg))
 (try simp only [Act.put,List.setIfInBounds_toArray,List.set_cons_zero,List.set_cons_succ])
 go_cut [5] (fun v5 wc=>∃ (kq:Nat) (b9:Bool),v5=.bool b9∧aA (zh.j0 kq 0 b9 b1 b2 b3 b4 bW az aN b5 b6 b7 ar aW am av=some (r1,r2,r3,r4,r5,r6))∧aA (kq≤k)∧aA (wc.heap[fB]?=some (.cells #[ah b1,ah b2,ah b3,ah b4,(.slice eu bW.length d_),ah az,.string aN,.string b5,ah b6,ah b7,.string ar,.string aW,.bool am,.string av] 90))∧aA (wc.heap[ao]?=some (.cells #[(.slice none 0 0)] 28))∧aA (wc.heap[ap]?=some (.cells #[ah 0,.string (⟨#[]⟩:ByteArray),ah 0,.bool false,(.slice none 0 0)] 49))∧aA (Below w.heap.size w wc))
 case first =>
  obtain ⟨H⟩:=cg
  revert H;refine fH (fun c6 H=>?_) fun c6 H=>?_
  ·have b0:=fZ c6
   have bo:=f_ c6
   clear c6
   try simp only [aY,bf,b0]
   have H':=m_ H
   clear H
   obtain ⟨a8,a9,aa,ab⟩:=g_ ac ae af ag
   obtain ⟨QX,QY,Q9,Q_,Rf,Rh,Ri,Rj,Rk,Rl,QZ,Q5,Q7,Q8⟩:=iq a5.out
   obtain ⟨Sm,Sr,SC,SE,SG,SH,SI,SK,SL,SN,Sv,Sz,SA,SB⟩:=jA a5.out
   go_wp2
   go_meet
   case rel=>exact ⟨_,(am),bg,H',⟨kC⟩,⟨(ak a5)⟩,⟨(ak a6)⟩,⟨(ak a7)⟩,⟨au⟩⟩
  have b0:=fP c6
  have bo:=fQ c6
  try simp only [aY,bf,b0]
  have H':=m_ H
  clear H
  obtain ⟨a8,a9,aa,ab⟩:=g_ ac ae af ag
  obtain ⟨E8,E9,Fg,Fh,Fj,Fp,Fq,Fv,Fz,FB,E_,Fa,Fb,Fe⟩:=iq a5.out
  obtain ⟨FZ,F5,Gf,Gg,Gh,Gi,Gj,Gl,Gm,Gn,F6,F7,F8,F9⟩:=jA a5.out
  go_wp2
  go_meet
  case rel=>exact ⟨_,(false),bg,H',⟨kC⟩,⟨(ak a5)⟩,⟨(ak a6)⟩,⟨(ak a7)⟩,⟨au⟩⟩
 case rest =>
 clear cg
 obtain ⟨kq,b9,rfl,HA,sQ,a5,a6,a7,HB⟩:=hcut
 cases kq with
 | zero=>exact absurd HA.out (by simp [zh.j0])
 | succ zN =>
 obtain ⟨H⟩:=HA
 simp only [zh.j0] at H
 by_cases ce:b9=true
 ·subst ce
  rw [if_pos rfl] at H
  obtain ⟨bp,d7,H⟩:=bd_ H
  simp only [Option.some.injEq,Prod.mk.injEq] at H
  obtain ⟨rfl,rfl,rfl,rfl,rfl,rfl⟩:=H
  obtain ⟨a8,a9,aa,ab⟩:=g_ ac ae af ag
  obtain ⟨XJ,XK,XQ,XR,XT,XU,XV,XW,XY,XZ,XL,XM,XO,XP⟩:=iq a5.out
  obtain ⟨Yh,Yi,Yn,Yo,Yp,Yq,Yr,Yt,Yu,Yv,Yj,Yk,Yl,Ym⟩:=jA a5.out
  go_wp2_with (first|((with_reducible refine bT 64 ?_);refine bU (some 44) rfl rfl func64 aB rfl #[.agg #[.slice eu bW.length d_],.string aN] rfl aX ?_;(with_reducible refine (u_.calls _ _ bW aN bp _ vN an.out d7.out).mono ?_);rintro e dq ⟨azr,rfl,ho0,hb⟩;refine ⟨_,rfl,?_⟩;obtain ⟨bd,a5,a6,a7,HB⟩:=p_ (Kd.dI ho0 (cZ au)) <| lD (ak a5) (ak a6) (ak a7) au hb;(try clear hb);(try clear ho0);obtain ⟨ch,ci,cj⟩:=Kd.dK bd.out;subst cj;obtain ⟨aQ,al⟩:=gB aK ai;have Om:=dh a6.out;have d8:=kK a7.out))
  refine bodyPost_ret (iR rfl _ _ ao ap 28 49 #[.slice ch bp.length ci] #[ah 5,.string (⟨#[]⟩:ByteArray),ah 0,.bool false,.slice none 0 0] (0,0) (0,0) _ _ rfl aT underlying28 rfl aB rfl aT underlying49 rfl aB) rfl ?_
  exact ⟨_,_,bM,(by (with_reducible repeat (first|apply Kd.dB|apply Kd.dD|apply Kd.aZ));exact Kd.bn (aH (aH (aH (aH (aH (aH (Kd.bQ (Kd.bQ bd.out a6.out (by decide)) a7.out (by decide)) (fun _ hk=>hk.1.2))))))) (fun _ hk=>trivial)),kD,au⟩
 replace ce:=Bool.eq_false_iff.mpr ce
 subst ce
 rw [if_neg iI] at H
 have bq:=m_ H
 clear H
 obtain ⟨a8,a9,aa,ab⟩:=g_ ac ae af ag
 obtain ⟨FC,FD,FN,FP,FQ,FT,FU,FV,FW,FX,FH,FI,FK,FM⟩:=iq a5.out
 obtain ⟨Gp,Gq,Gw,Gx,Gy,Gz,GH,GI,GK,GL,Gs,Gt,Gu,Gv⟩:=jA a5.out
 go_upto_if 15 with (fail)
 (try clear a8 aa a9 ab)
 (try clear FC FD FH FI FK FM FN FP FQ FT FU FV FW FX)
 (try clear Gp Gq Gs Gt Gu Gv Gw Gx Gy Gz GH GI GK GL)
 obtain ⟨H⟩:=bq
 revert H;refine fH (fun bj H=>?_) fun bj H=>?_
 ·have aw:=fZ bj
  have br:=f_ bj
  clear bj
  try simp only [aY,bf,aw]
  obtain ⟨bs,d9,H⟩:=bd_ H
  simp only [Option.some.injEq,Prod.mk.injEq] at H
  obtain ⟨rfl,rfl,rfl,rfl,rfl,rfl⟩:=H
  obtain ⟨anq,anr,anx,anz,anA,anB,anC,anD,anE,anF,ant,anu,anv,anw⟩:=iq a5.out
  obtain ⟨atz,atA,atF,atG,atH,atI,atJ,atK,atL,atM,atB,atC,atD,atE⟩:=jA a5.out
  go_wp2_with (first|((with_reducible refine bT 64 ?_);refine bU (some 44) rfl rfl func64 aB rfl #[.agg #[.slice eu bW.length d_],.string aN] rfl aX ?_;(with_reducible refine (u_.calls _ _ bW aN bs _ vN an.out d9.out).mono ?_);rintro e dr ⟨azs,rfl,ho0,hb⟩;refine ⟨_,rfl,?_⟩;obtain ⟨be,a5,a6,a7,HB⟩:=p_ (Kd.dI ho0 (cZ au)) <| lD (ak a5) (ak a6) (ak a7) au hb;(try clear hb);(try clear ho0);obtain ⟨ck,cl,cm⟩:=Kd.dK be.out;subst cm;obtain ⟨aQ,al⟩:=gB aK ai;have aBa:=dh a6.out;have da:=kK a7.out))
  refine bodyPost_ret (iR rfl _ _ ao ap 28 49 #[.slice ck bs.length cl] #[ah 0,.string (⟨#[]⟩:ByteArray),ah 0,.bool false,.slice none 0 0] (0,0) (0,0) _ _ rfl aT underlying28 rfl aB rfl aT underlying49 rfl aB) rfl ?_
  exact ⟨_,_,bM,(by (with_reducible repeat (first|apply Kd.dB|apply Kd.dD|apply Kd.aZ));exact Kd.bn (aH (aH (aH (aH (aH (aH (Kd.bQ (Kd.bQ be.out a6.out (by decide)) a7.out (by decide)) (fun _ hk=>hk.1.2))))))) (fun _ hk=>trivial)),kD,au⟩
 have aw:=fP bj
 have br:=fQ bj
 try simp only [aY,bf,aw]
 have bu:=m_ H
 clear H
 obtain ⟨Qr,Qs,Qy,Qz,QA,QB,QC,QD,QE,QF,Qu,Qv,Qw,Qx⟩:=iq a5.out
 obtain ⟨Rn,Ro,Rx,Ry,Rz,RD,RF,RG,RH,RI,Rq,Rt,Ru,Rw⟩:=jA a5.out
 go_upto_if 20 with (fail)
 (try clear a8 aa a9 ab)
 (try clear Qr Qs Qu Qv Qw Qx Qy Qz QA QB QC QD QE QF)
 (try clear Rn Ro Rq Rt Ru Rw Rx Ry Rz RD RF RG RH RI)
 obtain ⟨H⟩:=bu
 revert H;refine fH (fun bl H=>?_) fun bl H=>?_
 ·have ax:=fZ bl
  have bv:=f_ bl
  clear bl
  try simp only [aY,bf,ax]
  obtain ⟨bw,db,H⟩:=bd_ H
  simp only [Option.some.injEq,Prod.mk.injEq] at H
  obtain ⟨rfl,rfl,rfl,rfl,rfl,rfl⟩:=H
  obtain ⟨anU,anV,an0,an1,an2,an3,an4,an5,an6,an7,anW,anX,anY,anZ⟩:=iq a5.out
  obtain ⟨at7,aua,auf,aug,auh,aui,auj,auk,aul,aum,aub,auc,aud,aue⟩:=jA a5.out
  go_wp2_with (first|((with_reducible refine bT 64 ?_);refine bU (some 44) rfl rfl func64 aB rfl #[.agg #[.slice eu bW.length d_],.string aN] rfl aX ?_;(with_reducible refine (u_.calls _ _ bW aN bw _ vN an.out db.out).mono ?_);rintro e dt ⟨azt,rfl,ho0,hb⟩;refine ⟨_,rfl,?_⟩;obtain ⟨fA,a5,a6,a7,HB⟩:=p_ (Kd.dI ho0 (cZ au)) <| lD (ak a5) (ak a6) (ak a7) au hb;(try clear hb);(try clear ho0);obtain ⟨cn,co,cp⟩:=Kd.dK fA.out;subst cp;obtain ⟨aQ,al⟩:=gB aK ai;have aaV:=dh a6.out;have dd:=kK a7.out))
  refine bodyPost_ret (iR rfl _ _ ao ap 28 49 #[.slice cn bw.length co] #[ah 9,.string (⟨#[]⟩:ByteArray),ah 0,.bool false,.slice none 0 0] (0,0) (0,0) _ _ rfl aT underlying28 rfl aB rfl aT underlying49 rfl aB) rfl ?_
  exact ⟨_,_,bM,(by (with_reducible repeat (first|apply Kd.dB|apply Kd.dD|apply Kd.aZ));exact Kd.bn (aH (aH (aH (aH (aH (aH (Kd.bQ (Kd.bQ fA.out a6.out (by decide)) a7.out (by decide)) (fun _ hk=>hk.1.2))))))) (fun _ hk=>trivial)),kD,au⟩
 have ax:=fP bl
 have bv:=fQ bl
 try simp only [aY,bf,ax]
 have bx:=m_ H
 clear H
 obtain ⟨afc,afd,afi,afj,afk,afl,afm,afn,afo,afp,afe,aff,afg,afh⟩:=iq a5.out
 obtain ⟨ahS,ahT,ahY,ahZ,ah0,ah1,ah2,ah3,ah4,ah5,ahU,ahV,ahW,ahX⟩:=jA a5.out
 go_upto_if 25 with (fail)
 (try clear a8 aa a9 ab)
 (try clear afc afd afe aff afg afh afi afj afk afl afm afn afo afp)
 (try clear ahS ahT ahU ahV ahW ahX ahY ahZ ah0 ah1 ah2 ah3 ah4 ah5)
 obtain ⟨H⟩:=bx
 by_cases cf:am=true
 rotate_left
 ·replace cf:=Bool.eq_false_iff.mpr cf
  subst cf
  rw [if_neg iI] at H
  obtain ⟨bz,de,H⟩:=bd_ H
  simp only [Option.some.injEq,Prod.mk.injEq] at H
  obtain ⟨rfl,rfl,rfl,rfl,rfl,rfl⟩:=H
  obtain ⟨apN,apO,apT,apU,apV,apW,apX,apY,apZ,ap0,apP,apQ,apR,apS⟩:=iq a5.out
  obtain ⟨av2,av3,av8,av9,av_,av',awc,awd,awe,awf,av4,av5,av6,av7⟩:=jA a5.out
  go_wp2_with (first|((with_reducible refine bT 64 ?_);refine bU (some 44) rfl rfl func64 aB rfl #[.agg #[.slice eu bW.length d_],.string aN] rfl aX ?_;(with_reducible refine (u_.calls _ _ bW aN bz _ vN an.out de.out).mono ?_);rintro e du ⟨azx,rfl,ho0,hb⟩;refine ⟨_,rfl,?_⟩;obtain ⟨dM,a5,a6,a7,HB⟩:=p_ (Kd.dI ho0 (cZ au)) <| lD (ak a5) (ak a6) (ak a7) au hb;(try clear hb);(try clear ho0);obtain ⟨cq,cr,ct⟩:=Kd.dK dM.out;subst ct;obtain ⟨aQ,al⟩:=gB aK ai;have aBv:=dh a6.out;have df:=kK a7.out))
  refine bodyPost_ret (iR rfl _ _ ao ap 28 49 #[.slice cq bz.length cr] #[ah 4,.string (⟨#[]⟩:ByteArray),ah 0,.bool false,.slice none 0 0] (0,0) (0,0) _ _ rfl aT underlying28 rfl aB rfl aT underlying49 rfl aB) rfl ?_
  exact ⟨_,_,bM,(by (with_reducible repeat (first|apply Kd.dB|apply Kd.dD|apply Kd.aZ));exact Kd.bn (aH (aH (aH (aH (aH (aH (Kd.bQ (Kd.bQ dM.out a6.out (by decide)) a7.out (by decide)) (fun _ hk=>hk.1.2))))))) (fun _ hk=>trivial)),kD,au⟩
 subst cf
 rw [if_pos rfl] at H
 obtain ⟨ba,dg,H⟩:=bd_ H
 have ca:=m_ H
 clear H
 obtain ⟨afq,afr,afw,afx,afy,afz,afA,afB,afC,afD,afs,aft,afu,afv⟩:=iq a5.out
 obtain ⟨ah6,ah7,aia,aib,aic,aie,aif,aii,aij,aik,ah8,ah9,ah_,ah'⟩:=jA a5.out
 go_upto_if 30 with (first|((with_reducible refine bT 18 ?_);refine bU (some 36) rfl rfl func18 aB rfl #[.agg #[.slice eu bW.length d_],.string aN] rfl aX ?_;(with_reducible refine (sZ.calls zN _ _ bW aN ba _ (iK.below HD.out au) vN an.out dg.out).mono ?_);rintro e dv ⟨azu,rfl,ho0,hb⟩;refine ⟨_,rfl,?_⟩;obtain ⟨aq,a5,a6,a7,HB⟩:=p_ (Kd.dI ho0 (cZ au)) <| lD (ak a5) (ak a6) (ak a7) au hb;(try clear hb);(try clear ho0);obtain ⟨lN,di,iO⟩:=Kd.dK aq.out;subst iO))
 (try simp only [Act.put,List.setIfInBounds_toArray,List.set_cons_zero,List.set_cons_succ])
 (try clear a8 aa a9 ab)
 (try clear afq afr afs aft afu afv afw afx afy afz afA afB afC afD)
 (try clear ah6 ah7 ah8 ah9 ah_ ah' aia aib aic aie aif aii aij aik)
 obtain ⟨H⟩:=ca
 revert H;refine fH (fun bm H=>?_) fun bm H=>?_
 ·have bH:=mM bm
  have b8:decide (0 < ba.length)=true:=mM (by omega)
  clear bm
  (first|rw [bH]|rw [b8]|(simp only [aY,bf];rw [bH])|skip)
  obtain ⟨cc,dj,H⟩:=bd_ H
  simp only [Option.some.injEq,Prod.mk.injEq] at H
  obtain ⟨rfl,rfl,rfl,rfl,rfl,rfl⟩:=H
  obtain ⟨aoE,aoF,aoK,aoL,aoM,aoN,aoO,aoP,aoQ,aoR,aoG,aoH,aoI,aoJ⟩:=iq a5.out
  obtain ⟨auU,auV,au0,au1,au2,au3,au4,au5,au6,au7,auW,auX,auY,auZ⟩:=jA a5.out
  go_wp2_with (first|((with_reducible refine bT 64 ?_);refine bU (some 44) rfl rfl func64 aB rfl #[.agg #[.slice eu bW.length d_],.string aN] rfl aX ?_;(with_reducible refine (u_.calls _ _ bW aN cc _ vN an.out dj.out).mono ?_);rintro e jU ⟨azv,rfl,ho0,hb⟩;refine ⟨_,rfl,?_⟩;obtain ⟨aq,bh,a5,a6,a7,HB⟩:=p_ (Kd.dw (aJ aq) hb) <| p_ (Kd.dI ho0 (cZ au)) <| lD (ak a5) (ak a6) (ak a7) au hb;(try clear hb);(try clear ho0);obtain ⟨cv,cw,cx⟩:=Kd.dK bh.out;subst cx;obtain ⟨aQ,al⟩:=gB aK ai;have alg:=dh a6.out;have dk:=kK a7.out))
  refine bodyPost_ret (iR rfl _ _ ao ap 28 49 #[.slice cv cc.length cw] #[ah 10,.string (⟨#[]⟩:ByteArray),ah 0,.bool false,.slice none 0 0] (0,0) (0,0) _ _ rfl aT underlying28 rfl aB rfl aT underlying49 rfl aB) rfl ?_
  exact ⟨_,_,bM,(by (with_reducible repeat (first|apply Kd.dB|apply Kd.dD|apply Kd.aZ));exact Kd.bn (aH (aH (aH (aH (aH (aH (Kd.bQ (Kd.bQ bh.out a6.out (by decide)) a7.out (by decide)) (fun _ hk=>hk.1.2))))))) (fun _ hk=>trivial)),kD,au⟩
 have bH:=vX bm
 have b8:decide (0 < ba.length)=false:=vX (by omega)
 clear bm
 (first|rw [bH]|rw [b8]|(simp only [aY,bf];rw [bH])|skip)
 obtain ⟨cd,dl,H⟩:=bd_ H
 simp only [Option.some.injEq,Prod.mk.injEq] at H
 obtain ⟨rfl,rfl,rfl,rfl,rfl,rfl⟩:=H
 obtain ⟨apk,apl,apr,aps,apt,apu,apv,apw,apx,apy,apm,apn,apo,apq⟩:=iq a5.out
 obtain ⟨avy,avz,avF,avG,avH,avI,avJ,avK,avL,avM,avA,avC,avD,avE⟩:=jA a5.out
 go_wp2_with (first|((with_reducible refine bT 64 ?_);refine bU (some 44) rfl rfl func64 aB rfl #[.agg #[.slice eu bW.length d_],.string aN] rfl aX ?_;(with_reducible refine (u_.calls _ _ bW aN cd _ vN an.out dl.out).mono ?_);rintro e dx ⟨azw,rfl,ho0,hb⟩;refine ⟨_,rfl,?_⟩;obtain ⟨aq,bi,a5,a6,a7,HB⟩:=p_ (Kd.dw (aJ aq) hb) <| p_ (Kd.dI ho0 (cZ au)) <| lD (ak a5) (ak a6) (ak a7) au hb;(try clear hb);(try clear ho0);obtain ⟨cy,cz,d0⟩:=Kd.dK bi.out;subst d0;obtain ⟨aQ,al⟩:=gB aK ai;have aBs:=dh a6.out;have dm:=kK a7.out))
 refine bodyPost_ret (iR rfl _ _ ao ap 28 49 #[.slice cy cd.length cz] #[ah 0,.string (⟨#[]⟩:ByteArray),ah 0,.bool false,.slice none 0 0] (0,0) (0,0) _ _ rfl aT underlying28 rfl aB rfl aT underlying49 rfl aB) rfl ?_
 exact ⟨_,_,bM,(by (with_reducible repeat (first|apply Kd.dB|apply Kd.dD|apply Kd.aZ));exact Kd.bn (aH (aH (aH (aH (aH (aH (Kd.bQ (Kd.bQ bi.out a6.out (by decide)) a7.out (by decide)) (fun _ hk=>hk.1.2))))))) (fun _ hk=>trivial)),kD,au⟩

def slices_Equal_string.l0:Nat→List ByteArray→List ByteArray→Int→Int→Option (Bool)
 | 0,_,_,_,_=>none
 | k+1,x0,x1,a6,a5=>if a5 < a6 then (if 0≤a5 then (if a5 < (x0.length:Int) then (if a5 < (x1.length:Int) then (if (rZ ByteArray.empty x0 a5).toList=(rZ ByteArray.empty x1 a5).toList then (slices_Equal_string.l0 k x0 x1 a6 (wrap64 (a5+1))) else (some false)) else (none)) else (none)) else (none)) else (some true)
def slices_Equal_string.f (k:Nat) (l0:List ByteArray) (l1:List ByteArray):Option (Bool):=if (l0.length:Int)=(l1.length:Int) then (slices_Equal_string.l0 k l0 l1 (l0.length:Int) 0) else (some false)
theorem slices_Equal_string.calls (k:Nat) (A0:Option Addr) (c0:Nat) (l0:List ByteArray) (A1:Option Addr) (c1:Nat) (l1:List ByteArray) (r:Bool) (w:World) (hr0:Kd.C Kd.string w A0 l0.length l0) (hc0:l0.length≤c0) (hr1:Kd.C Kd.string w A1 l1.length l1) (hc1:l1.length≤c1) (h:slices_Equal_string.f k l0 l1=some r) :
  Calls Tryz.prog 95 #[.slice A0 l0.length c0,.slice A1 l1.length c1] w fun e w'=>e=.returned (.bool r)∧nU w w':=by
 have HR0:=m_ hr0
 have aW:=m_ hc0
 clear hr0 hc0
 have ao:=m_ hr1
 have av:=m_ hc1
 clear hr1 hc1
 unfold slices_Equal_string.f at h
 have H:=h
 clear h
 revert H;refine fH (fun c3 H=>?_) fun c3 H=>?_
 rotate_left
 ·have ae:=fP c3
  have af:=fQ c3
  have ag:(l0.length == l1.length)=false:=by first|simpa using c3|(simp at c3 ⊢;omega)
  obtain rfl:=dF H
  go_enter func95,ntmps95
  go_wp2
  repeat (go_quiet (fail);try go_wp2)
  go_ret
  exact ⟨bg,kN⟩
 have ae:=fZ c3
 have af:=f_ c3
 have ag:(l0.length == l1.length)=true:=by first|simpa using c3|(simp at c3 ⊢;omega)
 clear c3
 have H':=m_ H
 clear H
 go_enter func95,ntmps95
 go_wp2
 repeat (go_quiet (fail);try go_wp2)
 go_loopg [13] k (fun kq v13 w'=>∃ (a5:Int),v13=ah a5∧aA (slices_Equal_string.l0 kq l0 l1 (l0.length:Int) a5=some r)∧aA (kq≤k)∧nU w w')
 case atStart=>exact ⟨(0),bg,H',⟨Nat.le_refl _⟩,kN⟩
 case round =>
 clear H'
 try clear c1;try clear c3;try clear ae;try clear af;try clear ag
 obtain ⟨a5,rfl,HA,gZ,⟨m1,rfl⟩⟩:=hrel
 cases gk with
 | zero=>exact absurd HA.out (by simp [slices_Equal_string.l0])
 | succ k1 =>
 obtain ⟨H⟩:=HA
 simp only [slices_Equal_string.l0] at H
 revert H;refine gJ (fun aK H=>?_) fun aK H=>?_
 rotate_left
 ·obtain rfl:=dF H
  go_wp2
  repeat (go_quiet (fail);try go_wp2)
  go_ret
  exact ⟨bg,kN⟩
 obtain ⟨ap,H⟩:=gK H
 obtain ⟨aq,H⟩:=gK H
 obtain ⟨ar,H⟩:=gK H
 have al:=m_ H
 clear H
 have a9:0≤(a5:Int):=bF bG
 have aa:a5 < (l0.length:Int):=bF bG
 obtain ⟨am,ai,a7⟩:=Kd.z_ HR0.out a5 a9 aa
 cases ai
 replace a9:=eq_true a9
 replace aa:=eq_true aa
 have ab:0≤(a5:Int):=bF bG
 have ac:a5 < (l1.length:Int):=bF bG
 obtain ⟨an,aN,a8⟩:=Kd.z_ ao.out a5 ab ac
 cases aN
 replace ab:=eq_true ab
 replace ac:=eq_true ac
 go_upto_if 24 with (fail)
 repeat (go_quiet (fail);go_upto_if 24 with (fail))
 (try clear a7)
 (try clear a8)
 obtain ⟨H⟩:=al
 revert H;refine fH (fun c9 H=>?_) fun c9 H=>?_
 rotate_left
 ·have a6:=fP c9
  have aQ:=fQ c9
  try simp only [aY,bf,a6]
  obtain rfl:=dF H
  go_wp2
  repeat (go_quiet (fail);try go_wp2)
  go_ret
  exact ⟨bg,kN⟩
 have a6:=fZ c9
 have aQ:=f_ c9
 clear c9
 try simp only [aY,bf,a6]
 have H':=m_ H
 clear H
 go_wp2
 repeat (go_quiet (fail);try go_wp2)
 go_roundg k1
 case measure=>have:=gZ.out;omega
 case rel=>exact ⟨(wrap64 (a5+1)),bg,H',⟨ou⟩,kN⟩

def DV.f (k:Nat) (a0:ByteArray) (a1:ByteArray):Option (Bool):=(lS.f k a0).bind fun a6=>((lS.f k a1).bind fun a5=>(if a6.2=0 then (if a5.2=0 then (if (a6.1.length:Int) > (a5.1.length:Int) then (if 0≤(a5.1.length:Int) then (if (a5.1.length:Int)≤(a6.1.length:Int) then ((slices_Equal_string.f k (a6.1.take ((a5.1.length:Int):Int).toNat) a5.1).bind fun a7=>(some a7)) else (none)) else (none)) else (some false)) else (some false)) else (some false)))
theorem DV.calls (k:Nat) (a0:ByteArray) (a1:ByteArray) (r:Bool) (w:World) (jV:iK w) (h:DV.f k a0 a1=some r) :
  Calls Tryz.prog 46 #[.string a0,.string a1] w fun e w'=>e=.returned (.bool r)∧Below w.heap.size w w':=by
 have HD:=m_ jV
 clear jV
 have HB:=m_ (Below.refl w.heap.size w)
 unfold DV.f at h
 have H:=h
 clear h
 obtain ⟨⟨a7,a9⟩,A3,H⟩:=bd_ H
 obtain ⟨⟨a6,aa⟩,A4,H⟩:=bd_ H
 revert H;refine fH (fun c5 H=>?_) fun c5 H=>?_
 rotate_left
 ·have al:=fP c5
  have am:=fQ c5
  obtain rfl:=dF H
  go_enter func46,ntmps46
  go_wp2_with (first|((with_reducible refine bT 57 ?_);refine bU (some 11) rfl rfl func57 aB rfl #[.string a0] rfl aX ?_;(with_reducible refine (lS.calls k a0 a7 a9 _ (iK.below HD.out au) A3.out).mono ?_);rintro e b9 ⟨UA,rfl,ho0,hb⟩;refine ⟨_,rfl,?_⟩;obtain ⟨a5,HB⟩:=p_ (Kd.dI ho0 (cZ au)) <| a_ (dP au hb);(try clear hb);(try clear ho0))|((with_reducible refine bT 57 ?_);refine bU (some 16) rfl rfl func57 aB rfl #[.string a1] rfl aX ?_;(with_reducible refine (lS.calls k a1 a6 aa _ (iK.below HD.out au) A4.out).mono ?_);rintro e ba ⟨UC,rfl,ho0,hb⟩;refine ⟨_,rfl,?_⟩;obtain ⟨a5,a8,HB⟩:=p_ (Kd.jX (aJ a5) (Kd.jo ho0) hb) <| p_ (Kd.dI (Kd.jY ho0 (Kd.jJ (aJ a5))) (cZ au)) <| a_ (dP au hb);(try clear hb);(try clear ho0)))
  go_ret
  exact ⟨bM,au⟩
 have al:=fZ c5
 have am:=f_ c5
 clear c5
 revert H;refine fH (fun c6 H=>?_) fun c6 H=>?_
 rotate_left
 ·have an:=fP c6
  have ao:=fQ c6
  obtain rfl:=dF H
  go_enter func46,ntmps46
  go_wp2_with (first|((with_reducible refine bT 57 ?_);refine bU (some 11) rfl rfl func57 aB rfl #[.string a0] rfl aX ?_;(with_reducible refine (lS.calls k a0 a7 a9 _ (iK.below HD.out au) A3.out).mono ?_);rintro e bb ⟨UA,rfl,ho0,hb⟩;refine ⟨_,rfl,?_⟩;obtain ⟨a5,HB⟩:=p_ (Kd.dI ho0 (cZ au)) <| a_ (dP au hb);(try clear hb);(try clear ho0))|((with_reducible refine bT 57 ?_);refine bU (some 16) rfl rfl func57 aB rfl #[.string a1] rfl aX ?_;(with_reducible refine (lS.calls k a1 a6 aa _ (iK.below HD.out au) A4.out).mono ?_);rintro e bc ⟨UC,rfl,ho0,hb⟩;refine ⟨_,rfl,?_⟩;obtain ⟨a5,a8,HB⟩:=p_ (Kd.jX (aJ a5) (Kd.jo ho0) hb) <| p_ (Kd.dI (Kd.jY ho0 (Kd.jJ (aJ a5))) (cZ au)) <| a_ (dP au hb);(try clear hb);(try clear ho0)))
  go_ret
  exact ⟨bM,au⟩
 have an:=fZ c6
 have ao:=f_ c6
 clear c6
 revert H;refine fH (fun c7 H=>?_) fun c7 H=>?_
 rotate_left
 ·have ap:=vX c7
  have aq:decide (a6.length < a7.length)=false:=vX (fun h=>c7 (Int.ofNat_lt.mpr h))
  clear c7
  obtain rfl:=dF H
  go_enter func46,ntmps46
  go_wp2_with (first|((with_reducible refine bT 57 ?_);refine bU (some 11) rfl rfl func57 aB rfl #[.string a0] rfl aX ?_;(with_reducible refine (lS.calls k a0 a7 a9 _ (iK.below HD.out au) A3.out).mono ?_);rintro e bd ⟨UA,rfl,ho0,hb⟩;refine ⟨_,rfl,?_⟩;obtain ⟨a5,HB⟩:=p_ (Kd.dI ho0 (cZ au)) <| a_ (dP au hb);(try clear hb);(try clear ho0))|((with_reducible refine bT 57 ?_);refine bU (some 16) rfl rfl func57 aB rfl #[.string a1] rfl aX ?_;(with_reducible refine (lS.calls k a1 a6 aa _ (iK.below HD.out au) A4.out).mono ?_);rintro e be ⟨UC,rfl,ho0,hb⟩;refine ⟨_,rfl,?_⟩;obtain ⟨a5,a8,HB⟩:=p_ (Kd.jX (aJ a5) (Kd.jo ho0) hb) <| p_ (Kd.dI (Kd.jY ho0 (Kd.jJ (aJ a5))) (cZ au)) <| a_ (dP au hb);(try clear hb);(try clear ho0);obtain ⟨bH,az,ar⟩:=Kd.dK a5.out;subst ar;obtain ⟨b0,b1,aW⟩:=Kd.dK a8.out;subst aW))
  go_ret
  exact ⟨bM,au⟩
 have ap:=mM c7
 have aq:decide (a6.length < a7.length)=true:=mM (Int.ofNat_lt.mp c7)
 clear c7
 obtain ⟨b2,b3,H⟩:=jE H
 obtain ⟨b4,b5,H⟩:=jE H
 obtain ⟨ac,ab⟩:∃ y_:List ByteArray,y_=(a7.take ((a6.length:Int):Int).toNat):=⟨_,rfl⟩
 rw [← ab] at H
 have ae:=m_ ab
 clear ab
 obtain ⟨ag,b6,H⟩:=bd_ H
 obtain rfl:=dF H
 go_enter func46,ntmps46
 go_wp2_with (first|((with_reducible refine bT 57 ?_);refine bU (some 11) rfl rfl func57 aB rfl #[.string a0] rfl aX ?_;(with_reducible refine (lS.calls k a0 a7 a9 _ (iK.below HD.out au) A3.out).mono ?_);rintro e fA ⟨UA,rfl,ho0,hb⟩;refine ⟨_,rfl,?_⟩;obtain ⟨a5,HB⟩:=p_ (Kd.dI ho0 (cZ au)) <| a_ (dP au hb);(try clear hb);(try clear ho0))|((with_reducible refine bT 57 ?_);refine bU (some 16) rfl rfl func57 aB rfl #[.string a1] rfl aX ?_;(with_reducible refine (lS.calls k a1 a6 aa _ (iK.below HD.out au) A4.out).mono ?_);rintro e dM ⟨UC,rfl,ho0,hb⟩;refine ⟨_,rfl,?_⟩;obtain ⟨a5,a8,HB⟩:=p_ (Kd.jX (aJ a5) (Kd.jo ho0) hb) <| p_ (Kd.dI (Kd.jY ho0 (Kd.jJ (aJ a5))) (cZ au)) <| a_ (dP au hb);(try clear hb);(try clear ho0);obtain ⟨aN,aK,av⟩:=Kd.dK a5.out;subst av;obtain ⟨b7,b8,aw⟩:=Kd.dK a8.out;subst aw;have ax:((a6.length:Int):Int)≤((a7.length:Int):Int):=bF bG;obtain ⟨ayF,YK,_,aiN,_⟩:=info_parts info9;have YS:a7.length≤aK:=(Kd.dN a5.out).2.1;have Xw:Kd.C Kd.string _ aN a7.length a7:=(Kd.dN a5.out).2.2;have adf:=Dl (P:=Tryz.prog) 38 9 .i64 underlying38 YK aN a7.length aK (a6.length:Int) (bF bG) ax YS;have SV:=Kd.xu (m:=((a6.length:Int):Int).toNat) Xw (by omega);have ai:ac.length=((a6.length:Int):Int).toNat:=(by rw [ae.out,List.length_take];omega);rw [← ae.out] at SV;rw [← ai] at adf;have af:=m_ SV;have aQ:=m_ (show ac.length≤aK from by omega);clear SV Xw YS YK aiN;have alH:=m_ ai;clear ai;have alE:=m_ (show ((a6.length:Int):Int).toNat≤a7.length from by omega);replace ax:=eq_true ax)|(go_at_call 95;(with_reducible refine (slices_Equal_string.calls k _ _ ac _ _ a6 ag _ ?kX aQ.out ?oI ((Kd.dN a8.out).2.1) b6.out).mono ?_);(case kX=>repeat (first|exact (by repeat (first|(with_reducible exact af.out)|(with_reducible refine Kd.jO ?_ _)|(with_reducible refine Kd.jT ?_ _)|(with_reducible refine Kd.jS ?_)|exact af.out))|(with_reducible refine Kd.jO ?_ _)|(with_reducible refine Kd.jT ?_ _)|(with_reducible refine Kd.jS ?_)));(case oI=>repeat (first|exact (Kd.dN a8.out).2.2|(with_reducible refine Kd.jO ?_ _)|(with_reducible refine Kd.jT ?_ _)|(with_reducible refine Kd.jS ?_)));rintro e w' ⟨rfl,⟨nd,rfl⟩⟩))
 go_ret
 exact ⟨bM,au⟩

def cmp_isNaN_string.f (a0:ByteArray):Option (Bool):=some (a0.toList != a0.toList)
theorem cmp_isNaN_string.calls (a0:ByteArray) (r:Bool) (w:World) (h:cmp_isNaN_string.f a0=some r) :
  Calls Tryz.prog 97 #[.string a0] w fun e w'=>e=.returned (.bool r)∧nU w w':=by
 unfold cmp_isNaN_string.f at h
 have H:=h
 clear h
 obtain rfl:=dF H
 go_enter func97,ntmps97
 go_wp2
 go_ret
 exact ⟨bg,kN⟩

end Go.Proofs.YthejdhjpbpamoaaGreatDoor.jD
