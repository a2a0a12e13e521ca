/- Calls return what the Lean functions beside them compute. Conditions: each theorem's own. -/
import Derived.Test.YthejdhjpbpamoaaGreatDoorPkFnExactAsked
import Derived.Test.YthejdhjpbpamoaaGreatDoorPFnExactAskedx2
import Derived.Test.YthejdhjpbpamoaaGreatDoorPFnExactAskedx5
import Derived.Test.YthejdhjpbpamoaaGreatDoorPFnExactAskedx10
import Derived.Test.YthejdhjpbpamoaaGreatDoorPFnExactAskedx12
namespace Go.Proofs.YthejdhjpbpamoaaGreatDoor.pU
open Go.RowKit Go.Proofs.YthejdhjpbpamoaaGreatDoorW.jk Go.Proofs.YthejdhjpbpamoaaGreatDoorW.qI Go.Proofs.YthejdhjpbpamoaaGreatDoorW.vV Go.Proofs.Tryz
attribute [local go_sem] yN yR yQ yU yP yT yO yS
set_option linter.unusedVariables false
set_option maxHeartbeats 8000000
set_option maxRecDepth 100000
set_option linter.unusedSimpArgs false

mutual
def jS.j0:Nat→Bool→Int→Int→Int→Int→List (aF)→Int→ByteArray→ByteArray→Int→Int→ByteArray→ByteArray→Bool→ByteArray→Option ((List (aF)) × Int × ByteArray × Int × Bool × List ByteArray)
 | 0,_,_,_,_,_,_,_,_,_,_,_,_,_,_,_=>none
 | k+1,an,a8,a9,aa,ab,a5,ac,a6,ae,af,ag,aK,ai,aH,aO=>if an=true then ((Fv.f k a8 a9 aa ab a5 ac a6 ae af ag aK ai aH aO).bind fun a7=>(some (a7.1,a7.2.1,a7.2.2.1,a7.2.2.2.1,a7.2.2.2.2.1,a7.2.2.2.2.2))) else ((qR.f k a5 a6).bind fun am=>(if am=0 then ((uy.f a5 a6).bind fun al=>(if al ≥ 0 then (jS.j1 k al (a6.toList != ([47]:List UInt8)) a8 a9 aa ab a5 ac a6 ae af ag aK (⟨#[47]⟩:ByteArray) true (⟨#[]⟩:ByteArray)) else (jS.j1 k al false a8 a9 aa ab a5 ac a6 ae af ag aK (⟨#[47]⟩:ByteArray) true (⟨#[]⟩:ByteArray)))) else (some (a5,am,(⟨#[]⟩:ByteArray),0,false,([]:List ByteArray)))))
def jS.j1:Nat→Int→Bool→Int→Int→Int→Int→List (aF)→Int→ByteArray→ByteArray→Int→Int→ByteArray→ByteArray→Bool→ByteArray→Option ((List (aF)) × Int × ByteArray × Int × Bool × List ByteArray)
 | 0,_,_,_,_,_,_,_,_,_,_,_,_,_,_,_,_=>none
 | k+1,x5,aO,a6,a7,a8,a9,a5,aa,ab,ac,ae,af,ag,aK,ai,aH=>if aO=true then (if 0≤x5 then (if x5 < (a5.length:Int) then (jS.j2 k a6 a7 a8 a9 a5 aa ab ac ae af ag ((aB a5 x5).f0) ((aB a5 x5).f1) ((aB a5 x5).f2)) else (none)) else (none)) else (jS.j2 k a6 a7 a8 a9 a5 aa ab ac ae af ag aK ai aH)
def jS.j2:Nat→Int→Int→Int→Int→List (aF)→Int→ByteArray→ByteArray→Int→Int→ByteArray→ByteArray→Bool→ByteArray→Option ((List (aF)) × Int × ByteArray × Int × Bool × List ByteArray)
 | 0,_,_,_,_,_,_,_,_,_,_,_,_,_,_=>none
 | k+1,a6,a7,a8,a9,aa,a5,ab,ac,ae,af,ag,aK,ai,aH=>if a5=3 then (jS.j3 k a5 (a5 == 3) a6 a7 a8 a9 aa a5 ab ac ae af ag aK ai aH) else (jS.j3 k a5 (a5 == 4) a6 a7 a8 a9 aa a5 ab ac ae af ag aK ai aH)
def jS.j3:Nat→Int→Bool→Int→Int→Int→Int→List (aF)→Int→ByteArray→ByteArray→Int→Int→ByteArray→ByteArray→Bool→ByteArray→Option ((List (aF)) × Int × ByteArray × Int × Bool × List ByteArray)
 | 0,_,_,_,_,_,_,_,_,_,_,_,_,_,_,_,_=>none
 | k+1,an,ao,a5,a6,a7,a8,a9,aa,ab,ac,ae,af,ag,aK,ai,aH=>if ao=true then ((wX.f k a5 a6 a7 a8 a9 aa ab ac ae af ag aK ai aH).bind fun aO=>(some (aO.1,aO.2.1,aO.2.2.1,aO.2.2.2.1,aO.2.2.2.2.1,aO.2.2.2.2.2))) else (if an=5 then ((oP.f k a5 a6 a7 a8 a9 aa ab ac ae af ag aK ai aH).bind fun al=>(some (al.1,al.2.1,al.2.2.1,al.2.2.2.1,al.2.2.2.2.1,al.2.2.2.2.2))) else (if an=6 then ((zC.f a5 a6 a7 a8 a9 aa ab ac ae af ag aK ai aH).bind fun am=>(some (am.1,am.2.1,am.2.2.1,am.2.2.2.1,am.2.2.2.2.1,am.2.2.2.2.2))) else (if an=7 then (jS.j4 k an (an == 7) a5 a6 a7 a8 a9 aa ab ac ae af ag aK ai aH) else (jS.j4 k an (an == 8) a5 a6 a7 a8 a9 aa ab ac ae af ag aK ai aH))))
def jS.j4:Nat→Int→Bool→Int→Int→Int→Int→List (aF)→Int→ByteArray→ByteArray→Int→Int→ByteArray→ByteArray→Bool→ByteArray→Option ((List (aF)) × Int × ByteArray × Int × Bool × List ByteArray)
 | 0,_,_,_,_,_,_,_,_,_,_,_,_,_,_,_,_=>none
 | k+1,am,an,aa,ab,ac,ae,a5,af,ag,aK,ai,aH,aO,al,a8,a9=>if an=true then ((lV.f k aa ab ac ae a5 af ag aK ai aH aO al a8 a9).bind fun a6=>(some (a6.1,a6.2.1,a6.2.2.1,a6.2.2.2.1,a6.2.2.2.2.1,a6.2.2.2.2.2))) else (if am=9 then (if a8=true then (some (a5,0,(⟨#[]⟩:ByteArray),0,true,([]:List ByteArray))) else (some (a5,0,(⟨#[]⟩:ByteArray),(a9.size:Int),false,([]:List ByteArray)))) else (if am=10 then ((Bj.f k aa ab ac ae a5 af ag aK ai aH aO al a8 a9).bind fun a7=>(some (a7.1,a7.2.1,a7.2.2.1,a7.2.2.2.1,a7.2.2.2.2.1,a7.2.2.2.2.2))) else (some (a5,0,(⟨#[]⟩:ByteArray),0,false,([]:List ByteArray)))))
end
def jS.f (k:Nat) (aa:Int) (ab:Int) (ac:Int) (ae:Int) (af:List (aF)) (a5:Int) (ag:ByteArray) (aK:ByteArray) (ai:Int) (aH:Int) (a6:ByteArray) (a7:ByteArray) (a8:Bool) (a9:ByteArray):Option ((List (aF)) × Int × ByteArray × Int × Bool × List ByteArray):=if a5=1 then (jS.j0 k true aa ab ac ae af a5 ag aK ai aH a6 a7 a8 a9) else (jS.j0 k (a5 == 2) aa ab ac ae af a5 ag aK ai aH a6 a7 a8 a9)
def jS.afj:Bool × List (List Nat × List Nat):=(true,[([],[]),([0],[0]),([],[]),([2],[2]),([3],[3]),([4],[4]),([5],[5]),([1,0,1],[1]),([6,7,0,1,2,3,4,5,6,7],[6])])
def jS.aem:List Nat:=[0,1,0,4,12,28,60,3,255]
theorem jS.calls (k:Nat) (an:Int) (ao:Int) (ap:Int) (aq:Int) (mW:Nat→Prop) (dX:Option Addr) (dW:Nat) (bP:List (aF)) (aK:Int) (aO:ByteArray) (ar:ByteArray) (aT:Int) (av:Int) (ag:ByteArray) (b5:ByteArray) (b6:Bool) (b7:ByteArray) (r1:List (aF)) (r2:Int) (r3:ByteArray) (r4:Int) (r5:Bool) (r6:List ByteArray) (w:World) (kN:jg w) (Fa:Kd.V aS 43 w w.heap.size (fun ak=>mW ak) (.slice dX bP.length dW) bP) (h:jS.f k an ao ap aq bP aK aO ar aT av ag b5 b6 b7=some (r1,r2,r3,r4,r5,r6)) :
  Calls Tryz.prog 68 #[.agg #[ah an,ah ao,ah ap,ah aq,.slice dX bP.length dW,ah aK,.string aO,.string ar,ah aT,ah av,.string ag,.string b5,.bool b6,.string b7]] w fun e w'=>∃ fC nG:Value,e=.returned (.tuple #[.agg #[fC],.agg #[ah r2,.string r3,ah r4,.bool r5,nG]])∧Kd.V aS 43 w' w.heap.size (fun ak=>(mW ak∨w.heap.size≤ak)∧some ak≠(nG:Value).ownBlock) fC r1∧Kd.R Kd.string 9 w' w.heap.size (fun ak=>(w.heap.size≤ak)) nG r6∧Below w.heap.size w w':=by
 have Fe:=underlying90;have nT:=underlying28;have wE:=underlying49;have tX:=underlying43;have ku:=m_ (show Kd.V aS 43 w w.heap.size (fun ak=>(mW ak∨w.heap.size≤ak)) (.slice dX bP.length dW) bP from Kd.iZ Fa (fun ak hk=>.inl hk));have HD:=m_ kN;clear kN;have HB:=m_ (Below.refl w.heap.size w);unfold jS.f at h
 have H:=h;clear h;have fa:=m_ H;clear H;go_enter func68,ntmps68
 go_upto_region 1 with (first|((with_reducible refine dJ 1 ?_);refine dO 1 (cs:=#[ah an,ah ao,ah ap,ah aq,.slice dX bP.length dW,ah aK,.string aO,.string ar,ah aT,ah av,.string ag,.string b5,.bool b6,.string b7]) 90 ?_;intro pV hg w3 hbox hb;obtain ⟨ku,HB,a6,gp,BU⟩:=p_ (Kd.uq (Kd.wO xG pV (Nat.le_of_eq hg.symm)) hb) <| jR ay hb hbox hg;clear hb hbox hg)|((with_reducible refine dJ 2 ?_);refine dO 2 (cs:=#[.slice none 0 0]) 28 ?_;intro af hg w4 hbox hb;obtain ⟨ku,a6,HB,a8,gr,gs,ae,al⟩:=p_ (Kd.uq (Kd.wO xG af (Nat.le_of_eq hg.symm)) hb) <| oO (au a6) ay hb hbox hg;clear hb hbox hg)|((with_reducible refine dJ 3 ?_);refine dO 3 (cs:=#[ah 0,.string (⟨#[]⟩:ByteArray),ah 0,.bool false,.slice none 0 0]) 49 ?_;intro a7 hg w5 hbox hb;obtain ⟨ku,a6,a8,HB,a9,gt,vN,a5,am,ai,aH⟩:=p_ (Kd.uq (Kd.wO xG a7 (Nat.le_of_eq hg.symm)) hb) <| rP (au a6) (au a8) ay hb hbox hg;clear hb hbox hg))
 (try simp only [fM])
 go_cut [15] (fun v15 wc=>∃ (kq:Nat) (bm:Bool),v15=.bool bm∧aA (jS.j0 kq bm an ao ap aq bP aK aO ar aT av ag b5 b6 b7=some (r1,r2,r3,r4,r5,r6))∧aA (kq≤k)∧aA (Kd.V aS 43 wc w.heap.size (fun ak=>(mW ak∨w.heap.size≤ak)∧ak≠pV∧ak≠af∧ak≠a7) (.slice dX bP.length dW) bP)∧aA (wc.heap[pV]?=some (.cells #[ah an,ah ao,ah ap,ah aq,(.slice dX bP.length dW),ah aK,.string aO,.string ar,ah aT,ah av,.string ag,.string b5,.bool b6,.string b7] 90))∧aA (wc.heap[af]?=some (.cells #[(.slice none 0 0)] 28))∧aA (wc.heap[a7]?=some (.cells #[ah 0,.string (⟨#[]⟩:ByteArray),ah 0,.bool false,(.slice none 0 0)] 49))∧aA (Below w.heap.size w wc))
 case first =>
  obtain ⟨H⟩:=fa;revert H;refine eU (fun c6 H=>?_) fun c6 H=>?_
  ·have b9:=fU c6;have fG:=fV c6;clear c6;try simp only [aV,aZ,b9]
   have H':=m_ H;clear H;obtain ⟨aw,ax,bD,az⟩:=iD ae al a5 am;obtain ⟨Ur,Us,Uy,Uz,UA,UC,UD,UE,UF,UG,Ut,Uu,Uw,Ux⟩:=iG a6.out;obtain ⟨Vf,Vg,Vm,Vo,Vp,Vq,Vr,Vs,Vt,Vu,Vh,Vj,Vk,Vl⟩:=jI a6.out;go_wp2
   go_meet
   case rel=>exact ⟨_,(true),bC,H',⟨lM⟩,⟨Qr⟩,⟨(au a6)⟩,⟨(au a8)⟩,⟨(au a9)⟩,⟨ay⟩⟩
  have b9:=fZ c6;have fG:=f_ c6;try simp only [aV,aZ,b9]
  have H':=m_ H;clear H;obtain ⟨aw,ax,bD,az⟩:=iD ae al a5 am;obtain ⟨Hy,Hz,H9,H_,Ia,Ib,Ic,Ie,Ig,Ih,HY,H6,H7,H8⟩:=iG a6.out;obtain ⟨IG,II,IU,IV,IW,IX,IY,IZ,I4,I5,IJ,IK,IL,IQ⟩:=jI a6.out;go_wp2
  go_meet
  case rel=>exact ⟨_,((aK == 2)),bC,H',⟨lM⟩,⟨Qr⟩,⟨(au a6)⟩,⟨(au a8)⟩,⟨(au a9)⟩,⟨ay⟩⟩
 case rest =>
 clear fa;obtain ⟨kq,bm,rfl,HA,uj,o9,a6,a8,a9,HB⟩:=hcut;cases kq with
 | zero=>exact absurd HA.out (by simp [jS.j0])
 | succ Bv =>
 obtain ⟨H⟩:=HA;simp only [jS.j0] at H
 by_cases ce:bm=true
 ·subst ce;rw [if_pos rfl] at H;obtain ⟨⟨dv,lC,dx,dy,dz,e0⟩,hy,H⟩:=bd_ H;simp only [gV] at H
  obtain ⟨rfl,rfl,rfl,rfl,rfl,rfl⟩:=H;obtain ⟨aw,ax,bD,az⟩:=iD ae al a5 am;obtain ⟨Zu,Zv,ZA,ZB,ZC,ZE,ZF,ZG,ZH,ZI,Zw,Zx,Zy,Zz⟩:=iG a6.out;obtain ⟨Z9,Z_,aaf,aag,aah,aai,aaj,aak,aal,aam,Z',aac,aad,aae⟩:=jI a6.out;go_wp2_with (first|((with_reducible refine cu 115 ?_);refine cO (some 17) rfl rfl func115 aC rfl #[.agg #[ah an,ah ao,ah ap,ah aq,.slice dX bP.length dW,ah aK,.string aO,.string ar,ah aT,ah av,.string ag,.string b5,.bool b6,.string b7]] rfl bJ ?_;(with_reducible refine (Fv.calls Bv an ao ap aq _ _ bP aK aO ar aT av ag b5 b6 b7 dv lC dx dy dz e0 _ (jg.below HD.out ay) Qu ((Kd.wP o9.out).2.1) hy.out).mono ?_);rintro e ib ⟨aC0,aC1,rfl,ho0,ho1,hb⟩;refine ⟨_,rfl,?_⟩;obtain ⟨o9,cf,br,a6,a8,a9,HB⟩:=p_ (Kd.iZ (Kd.GL (Kd.GL (Kd.Rz yt hb) (Kd.iY ho0)) (Kd.iY ho1)) (fun _ bI=>bI.1)) <| p_ (Kd.dR (Kd.z_ (M:=fun ak=>(w.heap.size≤ak)) ho0 (bU ay) (fun ak bI=>bI)) (bU ay)) <| p_ (Kd.dR (Kd.z_ (M:=fun ak=>(w.heap.size≤ak)) ho1 (bU ay) (fun ak bI=>bI)) (bU ay)) <| mP (au a6) (au a8) (au a9) ay hb;(try clear hb);(try clear ho0);(try clear ho1);obtain ⟨fb,fc,fd⟩:=Kd.dN cf.out;subst fd;obtain ⟨b0,b1⟩:=gy ai aH;have QJ:=bZ a8.out;have bh:=jc a9.out;obtain ⟨fe,ff,fg⟩:=Kd.dN br.out;subst fg))
  refine bodyPost_ret (jq rfl _ _ af a7 28 49 #[.slice fb dv.length fc] #[ah lC,.string dx,ah dy,.bool dz,.slice fe e0.length ff] (0,0) (0,0) _ _ rfl bf underlying28 rfl aC rfl bf underlying49 rfl aC) rfl ?_;exact ⟨_,_,bK,Kd.NK (base:=w.heap.size) (by (with_reducible repeat (first|apply Kd.bW|apply Kd.bY|apply Kd.bH));exact Kd.bF (aJ (aJ (aJ (aJ (aJ (aJ (Kd.bV (Kd.bV (Kd.AY cf.out (Kd.A_ br.out) (by decide)) a8.out (by decide)) a9.out (by decide)) (fun _ hk=>hk.1.2))))))) (fun _ hk=>⟨.inr hk.1.1.1.1,hk.1.1.2⟩)),(by (with_reducible repeat (first|apply Kd.bW|apply Kd.bY|apply Kd.bH));exact Kd.bF (aJ (aJ (aJ (aJ (aJ (aJ (Kd.bV (Kd.bV br.out a8.out (by decide)) a9.out (by decide)) (fun _ hk=>hk.1.2))))))) (fun _ hk=>hk.1.1.1)),ay⟩
 replace ce:=Bool.eq_false_iff.mpr ce;subst ce;rw [if_neg iF] at H;obtain ⟨ca,i1,H⟩:=bd_ H;have e3:=m_ H;clear H;obtain ⟨aw,ax,bD,az⟩:=iD ae al a5 am;obtain ⟨ZJ,ZK,ZP,ZQ,ZR,ZT,ZU,ZV,ZW,ZX,ZL,ZM,ZN,ZO⟩:=iG a6.out;obtain ⟨aan,aao,aat,aau,aav,aaw,aax,aay,aaz,aaA,aap,aaq,aar,aas⟩:=jI a6.out;go_upto_if 27 with (first|((with_reducible refine cu 25 ?_);refine cO (some 25) rfl rfl func25 aC rfl #[.agg #[.slice dX bP.length dW],.string aO] rfl bJ ?_;(with_reducible refine (qR.calls Bv _ _ bP aO ca _ (jg.below HD.out ay) Qu ((Kd.wP o9.out).2.1) i1.out).mono ?_);rintro e ic ⟨rfl,hb⟩;refine ⟨_,rfl,?_⟩;obtain ⟨o9,a6,a8,a9,HB⟩:=p_ (Kd.uq yt hb) <| mP (au a6) (au a8) (au a9) ay hb;(try clear hb)))
 (try simp only [fM])
 (try clear aw bD ax az)
 (try clear ZJ ZK ZL ZM ZN ZO ZP ZQ ZR ZT ZU ZV ZW ZX)
 (try clear aan aao aap aaq aar aas aat aau aav aaw aax aay aaz aaA)
 obtain ⟨H⟩:=e3;revert H;refine eU (fun bs H=>?_) fun bs H=>?_;rotate_left
 ·have b2:=fZ bs;have bi:=f_ bs;try simp only [aV,aZ,b2]
  simp only [gV] at H
  obtain ⟨rfl,rfl,rfl,rfl,rfl,rfl⟩:=H;obtain ⟨aq_,aq',arh,ari,arj,ark,arl,arn,aro,arp,ara,arb,ard,arf⟩:=iG a6.out;obtain ⟨axa,axb,axg,axh,axi,axj,axk,axl,axn,axo,axc,axd,axe,axf⟩:=jI a6.out;obtain ⟨b0,b1⟩:=gy ai aH;have aEj:=bZ a8.out;have gv:=jc a9.out;go_wp2
  refine bodyPost_ret (jq rfl _ _ af a7 28 49 #[.slice dX bP.length dW] #[ah ca,.string (⟨#[]⟩:ByteArray),ah 0,.bool false,.slice none 0 0] (0,0) (0,0) _ _ rfl bf underlying28 rfl aC rfl bf underlying49 rfl aC) rfl ?_;exact ⟨_,_,bK,(by (with_reducible repeat (first|apply Kd.rJ|apply Kd.rM|apply Kd.oN));exact Kd.iZ (Kd.fJ (p:=⟨a7,4,none⟩) (Kd.fJ (p:=⟨a7,3,none⟩) (Kd.fJ (p:=⟨a7,2,none⟩) (Kd.fJ (p:=⟨a7,1,none⟩) (Kd.fJ (p:=⟨a7,0,none⟩) (Kd.fJ (p:=⟨af,0,none⟩) (Kd.iZ (Kd.iZ o9.out (fun ak hk=>(⟨hk,hk.2.2.1⟩:_∧ak≠af))) (fun ak hk=>(⟨hk,hk.1.2.2.2⟩:_∧ak≠a7))) (fun _ hk=>hk.1.2) (.slice dX bP.length dW)) (fun _ hk=>hk.2) (ah ca)) (fun _ hk=>hk.2) (.string (⟨#[]⟩:ByteArray))) (fun _ hk=>hk.2) (ah 0)) (fun _ hk=>hk.2) (.bool false)) (fun _ hk=>hk.2) (.slice none 0 0)) (fun _ hk=>⟨hk.1.1.1,zQ⟩)),lH,ay⟩
 have b2:=fU bs;have bi:=fV bs;clear bs;try simp only [aV,aZ,b2]
 obtain ⟨b4,i2,H⟩:=bd_ H;have d2:=m_ H;clear H;obtain ⟨ahC,ahD,ahI,ahJ,ahK,ahL,ahM,ahN,ahO,ahP,ahE,ahF,ahG,ahH⟩:=iG a6.out;obtain ⟨aj',akb,akg,akh,aki,akj,akk,akl,akm,akn,akc,akd,ake,akf⟩:=jI a6.out;go_upto_region 8 with (first|((with_reducible refine cu 17 ?_);refine cO (some 39) rfl rfl func17 aC rfl #[.agg #[.slice dX bP.length dW],.string aO] rfl bJ ?_;(with_reducible refine (uy.calls _ _ bP aO b4 _ ?jW ((Kd.wP o9.out).2.1) i2.out).mono ?_);(case jW=>refine (Kd.wP (e:=43) (base:=w.heap.size) (ok:=fun ak=>((mW ak∨w.heap.size≤ak)∧(ak≠pV∧(ak≠af∧ak≠a7)))) (n:=bP.length) (c:=dW) ?_).2.2;exact adT);rintro e id ⟨rfl,hb⟩;refine ⟨_,rfl,?_⟩;obtain ⟨o9,a6,a8,a9,HB⟩:=p_ (Kd.uq adT hb) <| p_ (aU (g:=pV) (o:=.cells #[ah an,ah ao,ah ap,ah aq,.slice dX bP.length dW,ah aK,.string aO,.string ar,ah aT,ah av,.string ag,.string (⟨#[47]⟩:ByteArray),.bool true,.string (⟨#[]⟩:ByteArray)] 90) (DV a6.out) hb) <| p_ (aU (g:=af) (o:=.cells #[.slice none 0 0] 28) (qK a8.out al.out) hb) <| p_ (aU (g:=a7) (o:=.cells #[ah 0,.string (⟨#[]⟩:ByteArray),ah 0,.bool false,.slice none 0 0] 49) (qK a9.out am.out) hb) <| a_ (dV ay hb);(try clear hb);(try clear hk)))
 (try simp only [fM])
 go_cut [47] (fun v47 wc=>∃ (kq:Nat) (bb:Bool),v47=.bool bb∧aA (jS.j1 kq b4 bb an ao ap aq bP aK aO ar aT av ag (⟨#[47]⟩:ByteArray) true (⟨#[]⟩:ByteArray)=some (r1,r2,r3,r4,r5,r6))∧aA (kq≤Bv)∧aA (Kd.V aS 43 wc w.heap.size (fun ak=>(mW ak∨w.heap.size≤ak)∧ak≠pV∧ak≠af∧ak≠a7) (.slice dX bP.length dW) bP)∧aA (wc.heap[pV]?=some (.cells #[ah an,ah ao,ah ap,ah aq,(.slice dX bP.length dW),ah aK,.string aO,.string ar,ah aT,ah av,.string ag,.string (⟨#[47]⟩:ByteArray),.bool true,.string (⟨#[]⟩:ByteArray)] 90))∧aA (wc.heap[af]?=some (.cells #[(.slice none 0 0)] 28))∧aA (wc.heap[a7]?=some (.cells #[ah 0,.string (⟨#[]⟩:ByteArray),ah 0,.bool false,(.slice none 0 0)] 49))∧aA (Below w.heap.size w wc))
 case first =>
  obtain ⟨H⟩:=d2;revert H;refine fB (fun b3 H=>?_) fun b3 H=>?_;rotate_left
  ·try simp only [aV,aZ,b3]
   have H':=m_ H;clear H;go_wp2
   go_meet
   case rel=>exact ⟨_,(false),bC,H',⟨(by have:=uj.out;first|omega|exact Nat.le_refl _)⟩,⟨yt⟩,⟨(au a6)⟩,⟨(au a8)⟩,⟨(au a9)⟩,⟨ay⟩⟩
  try simp only [aV,aZ,b3]
  have H':=m_ H;clear H;obtain ⟨TL,TM,TS,TT,TU,TV,TW,TY,T_,Ua,TN,TP,TQ,TR⟩:=iG a6.out;obtain ⟨UH,UJ,UO,UQ,UR,UU,UW,UY,UZ,U0,UK,UL,UM,UN⟩:=jI a6.out;go_wp2
  go_meet
  case rel=>exact ⟨_,((aO.toList != ([47]:List UInt8))),bC,H',⟨(by have:=uj.out;first|omega|exact Nat.le_refl _)⟩,⟨yt⟩,⟨(au a6)⟩,⟨(au a8)⟩,⟨(au a9)⟩,⟨ay⟩⟩
 case rest =>
 clear d2;try clear ce;try clear bs;try clear b2;try clear bi;try clear ahC;try clear ahD;try clear ahE;try clear ahF;try clear ahG;try clear ahH;try clear ahI;try clear ahJ;try clear ahK;try clear ahL;try clear ahM;try clear ahN;try clear ahO;try clear ahP;try clear aj';try clear akb;try clear akc;try clear akd;try clear ake;try clear akf;try clear akg;try clear akh;try clear aki;try clear akj;try clear akk;try clear akl;try clear akm;try clear akn
 obtain ⟨kq,bb,rfl,HA,AQ,o9,a6,a8,a9,HB⟩:=hcut;cases kq with
 | zero=>exact absurd HA.out (by simp [jS.j1])
 | succ Aq =>
 obtain ⟨H⟩:=HA;simp only [jS.j1] at H
 have d3:=m_ H;clear H;go_upto_if 47 with (fail)
 go_cut [] (fun wc=>∃ (kq:Nat) (ab:ByteArray) (ac:Bool) (aa:ByteArray),aA (jS.j2 kq an ao ap aq bP aK aO ar aT av ag ab ac aa=some (r1,r2,r3,r4,r5,r6))∧aA (kq≤Aq)∧aA (Kd.V aS 43 wc w.heap.size (fun ak=>(mW ak∨w.heap.size≤ak)∧ak≠pV∧ak≠af∧ak≠a7) (.slice dX bP.length dW) bP)∧aA (wc.heap[pV]?=some (.cells #[ah an,ah ao,ah ap,ah aq,(.slice dX bP.length dW),ah aK,.string aO,.string ar,ah aT,ah av,.string ag,.string ab,.bool ac,.string aa] 90))∧aA (wc.heap[af]?=some (.cells #[(.slice none 0 0)] 28))∧aA (wc.heap[a7]?=some (.cells #[ah 0,.string (⟨#[]⟩:ByteArray),ah 0,.bool false,(.slice none 0 0)] 49))∧aA (Below w.heap.size w wc))
 case first =>
  obtain ⟨H⟩:=d3;by_cases d4:bb=true
  rotate_left
  ·replace d4:=Bool.eq_false_iff.mpr d4;subst d4;rw [if_neg iF] at H;have H':=m_ H;clear H;go_wp2
   go_meet
   case rel=>exact ⟨_,((⟨#[47]⟩:ByteArray)),(true),((⟨#[]⟩:ByteArray)),H',⟨(by have:=uj.out;have:=AQ.out;first|omega|exact Nat.le_refl _)⟩,⟨yt⟩,⟨(au a6)⟩,⟨(au a8)⟩,⟨(au a9)⟩,⟨ay⟩⟩
  subst d4;rw [if_pos rfl] at H;obtain ⟨bj,H⟩:=gI H;try simp only [aV,aZ,bj]
  obtain ⟨bu,H⟩:=gI H;have H':=m_ H;clear H;obtain ⟨asG,asH,asM,asN,asO,asP,asQ,asR,asT,asU,asI,asJ,asK,asL⟩:=iG a6.out;obtain ⟨ayw,ayx,ayC,ayD,ayE,ayF,ayG,ayH,ayI,ayJ,ayy,ayz,ayA,ayB⟩:=jI a6.out;have bo:0≤(b4:Int):=aX aY;have bp:b4 < (bP.length:Int):=aX aY;obtain ⟨gw,ft,bc,bd,be⟩:=jV (Kd.wP o9.out).2.2 b4 bo bp;cases ft;replace bo:=eq_true bo;replace bp:=eq_true bp;go_wp2
  go_meet
  case rel=>exact ⟨_,((aB bP b4).f0),((aB bP b4).f1),((aB bP b4).f2),H',⟨(by have:=uj.out;have:=AQ.out;first|omega|exact Nat.le_refl _)⟩,⟨(by (with_reducible repeat (first|apply Kd.rJ|apply Kd.rM|apply Kd.oN));exact Kd.iZ (Kd.fJ (p:=⟨pV,13,none⟩) (Kd.fJ (p:=⟨pV,12,none⟩) (Kd.fJ (p:=⟨pV,11,none⟩) (Kd.iZ o9.out (fun ak hk=>(⟨hk,hk.2.1⟩:_∧ak≠pV))) (fun _ hk=>hk.2) (.string ((aB bP b4).f0))) (fun _ hk=>hk.2) (.bool ((aB bP b4).f1))) (fun _ hk=>hk.2) (.string ((aB bP b4).f2))) (fun _ hk=>⟨hk.1.1,⟨hk.1.2.1,⟨hk.1.2.2.1,hk.1.2.2.2⟩⟩⟩))⟩,⟨bf⟩,⟨bf⟩,⟨bf⟩,⟨ay⟩⟩
 case rest =>
 clear d3;obtain ⟨kq,ab,ac,aa,HA,Ns,o9,a6,a8,a9,HB⟩:=hcut;cases kq with
 | zero=>exact absurd HA.out (by simp [jS.j2])
 | succ amq =>
 obtain ⟨H⟩:=HA;simp only [jS.j2] at H
 have d5:=m_ H;clear H;obtain ⟨ah4,ah5,ah_,ah',aia,aib,aic,aie,aif,aii,ah6,ah7,ah8,ah9⟩:=iG a6.out;obtain ⟨akC,akD,akI,akJ,akK,akL,akM,akN,akO,akP,akE,akF,akG,akH⟩:=jI a6.out;go_upto_if 58 with (fail)
 go_cut [58] (fun v58 wc=>∃ (kq:Nat) (fA:Bool),v58=.bool fA∧aA (jS.j3 kq aK fA an ao ap aq bP aK aO ar aT av ag ab ac aa=some (r1,r2,r3,r4,r5,r6))∧aA (kq≤amq)∧aA (Kd.V aS 43 wc w.heap.size (fun ak=>(mW ak∨w.heap.size≤ak)∧ak≠pV∧ak≠af∧ak≠a7) (.slice dX bP.length dW) bP)∧aA (wc.heap[pV]?=some (.cells #[ah an,ah ao,ah ap,ah aq,(.slice dX bP.length dW),ah aK,.string aO,.string ar,ah aT,ah av,.string ag,.string ab,.bool ac,.string aa] 90))∧aA (wc.heap[af]?=some (.cells #[(.slice none 0 0)] 28))∧aA (wc.heap[a7]?=some (.cells #[ah 0,.string (⟨#[]⟩:ByteArray),ah 0,.bool false,(.slice none 0 0)] 49))∧aA (Below w.heap.size w wc))
 case first =>
  obtain ⟨H⟩:=d5;revert H;refine eU (fun cc H=>?_) fun cc H=>?_;rotate_left
  ·have b8:=fZ cc;have bv:=f_ cc;try simp only [aV,aZ,b8]
   have H':=m_ H;clear H;go_wp2
   go_meet
   case rel=>exact ⟨_,((aK == 4)),bC,H',⟨(by have:=uj.out;have:=AQ.out;have:=Ns.out;first|omega|exact Nat.le_refl _)⟩,⟨yt⟩,⟨(au a6)⟩,⟨(au a8)⟩,⟨(au a9)⟩,⟨ay⟩⟩
  have b8:=fU cc;have bv:=fV cc;clear cc;try simp only [aV,aZ,b8]
  have H':=m_ H;clear H;go_wp2
  go_meet
  case rel=>exact ⟨_,((aK == 3)),bC,H',⟨(by have:=uj.out;have:=AQ.out;have:=Ns.out;first|omega|exact Nat.le_refl _)⟩,⟨yt⟩,⟨(au a6)⟩,⟨(au a8)⟩,⟨(au a9)⟩,⟨ay⟩⟩
 case rest =>
 clear d5;try clear ah4;try clear ah5;try clear ah6;try clear ah7;try clear ah8;try clear ah9;try clear ah_;try clear ah';try clear aia;try clear aib;try clear aic;try clear aie;try clear aif;try clear aii;try clear akC;try clear akD;try clear akE;try clear akF;try clear akG;try clear akH;try clear akI;try clear akJ;try clear akK;try clear akL;try clear akM;try clear akN;try clear akO;try clear akP
 obtain ⟨kq,fA,rfl,HA,XD,o9,a6,a8,a9,HB⟩:=hcut;cases kq with
 | zero=>exact absurd HA.out (by simp [jS.j3])
 | succ VW =>
 obtain ⟨H⟩:=HA;simp only [jS.j3] at H
 by_cases e6:fA=true
 ·subst e6;rw [if_pos rfl] at H;obtain ⟨⟨e7,e8,e9,ea,eb,ec⟩,i5,H⟩:=bd_ H;simp only [gV] at H
  obtain ⟨rfl,rfl,rfl,rfl,rfl,rfl⟩:=H;obtain ⟨asV,asW,as2,as3,as4,as5,as6,as7,as8,as9,asX,asY,asZ,as1⟩:=iG a6.out;obtain ⟨ayK,ayL,ayQ,ayR,ayS,ayT,ayU,ayV,ayW,ayX,ayM,ayN,ayO,ayP⟩:=jI a6.out;go_wp2_with (first|((with_reducible refine cu 116 ?_);refine cO (some 62) rfl rfl func116 aC rfl #[.agg #[ah an,ah ao,ah ap,ah aq,.slice dX bP.length dW,ah aK,.string aO,.string ar,ah aT,ah av,.string ag,.string ab,.bool ac,.string aa]] rfl bJ ?_;(with_reducible refine (wX.calls VW an ao ap aq _ _ bP aK aO ar aT av ag ab ac aa e7 e8 e9 ea eb ec _ (jg.below HD.out ay) Qu ((Kd.wP o9.out).2.1) i5.out).mono ?_);rintro e ie ⟨aC2,aC3,rfl,ho0,ho1,hb⟩;refine ⟨_,rfl,?_⟩;obtain ⟨o9,cg,bw,a6,a8,a9,HB⟩:=p_ (Kd.iZ (Kd.GL (Kd.GL (Kd.Rz yt hb) (Kd.iY ho0)) (Kd.iY ho1)) (fun _ bI=>bI.1)) <| p_ (Kd.dR (Kd.z_ (M:=fun ak=>(w.heap.size≤ak)) ho0 (bU ay) (fun ak bI=>bI)) (bU ay)) <| p_ (Kd.dR (Kd.z_ (M:=fun ak=>(w.heap.size≤ak)) ho1 (bU ay) (fun ak bI=>bI)) (bU ay)) <| mP (au a6) (au a8) (au a9) ay hb;(try clear hb);(try clear ho0);(try clear ho1);obtain ⟨fu,fw,fx⟩:=Kd.dN cg.out;subst fx;obtain ⟨b0,b1⟩:=gy ai aH;have Xr:=bZ a8.out;have ed:=jc a9.out;obtain ⟨fy,fz,ga⟩:=Kd.dN bw.out;subst ga))
  refine bodyPost_ret (jq rfl _ _ af a7 28 49 #[.slice fu e7.length fw] #[ah e8,.string e9,ah ea,.bool eb,.slice fy ec.length fz] (0,0) (0,0) _ _ rfl bf underlying28 rfl aC rfl bf underlying49 rfl aC) rfl ?_;exact ⟨_,_,bK,Kd.NK (base:=w.heap.size) (by (with_reducible repeat (first|apply Kd.bW|apply Kd.bY|apply Kd.bH));exact Kd.bF (aJ (aJ (aJ (aJ (aJ (aJ (Kd.bV (Kd.bV (Kd.AY cg.out (Kd.A_ bw.out) (by decide)) a8.out (by decide)) a9.out (by decide)) (fun _ hk=>hk.1.2))))))) (fun _ hk=>⟨.inr hk.1.1.1.1,hk.1.1.2⟩)),(by (with_reducible repeat (first|apply Kd.bW|apply Kd.bY|apply Kd.bH));exact Kd.bF (aJ (aJ (aJ (aJ (aJ (aJ (Kd.bV (Kd.bV bw.out a8.out (by decide)) a9.out (by decide)) (fun _ hk=>hk.1.2))))))) (fun _ hk=>hk.1.1.1)),ay⟩
 replace e6:=Bool.eq_false_iff.mpr e6;subst e6;rw [if_neg iF] at H;revert H;refine eU (fun ch H=>?_) fun ch H=>?_
 ·have ci:=fU ch;have cj:=fV ch;clear ch;obtain ⟨⟨ee,ef,eh,ei,ej,ek⟩,i6,H⟩:=bd_ H;simp only [gV] at H
  obtain ⟨rfl,rfl,rfl,rfl,rfl,rfl⟩:=H;obtain ⟨atp,atq,atw,atx,aty,atz,atA,atB,atC,atD,atr,att,atu,atv⟩:=iG a6.out;obtain ⟨aza,azb,azg,azh,azi,azj,azk,azl,azm,azn,azc,azd,aze,azf⟩:=jI a6.out;go_wp2_with (first|((with_reducible refine cu 117 ?_);refine cO (some 68) rfl rfl func117 aC rfl #[.agg #[ah an,ah ao,ah ap,ah aq,.slice dX bP.length dW,ah aK,.string aO,.string ar,ah aT,ah av,.string ag,.string ab,.bool ac,.string aa]] rfl bJ ?_;(with_reducible refine (oP.calls VW an ao ap aq _ _ bP aK aO ar aT av ag ab ac aa ee ef eh ei ej ek _ (jg.below HD.out ay) Qu ((Kd.wP o9.out).2.1) i6.out).mono ?_);rintro e Ah ⟨aC4,aC5,rfl,ho0,ho1,hb⟩;refine ⟨_,rfl,?_⟩;obtain ⟨o9,ck,bx,a6,a8,a9,HB⟩:=p_ (Kd.iZ (Kd.GL (Kd.GL (Kd.Rz yt hb) (Kd.iY ho0)) (Kd.iY ho1)) (fun _ bI=>bI.1)) <| p_ (Kd.dR (Kd.z_ (M:=fun ak=>(w.heap.size≤ak)) ho0 (bU ay) (fun ak bI=>bI)) (bU ay)) <| p_ (Kd.dR (Kd.z_ (M:=fun ak=>(w.heap.size≤ak)) ho1 (bU ay) (fun ak bI=>bI)) (bU ay)) <| mP (au a6) (au a8) (au a9) ay hb;(try clear hb);(try clear ho0);(try clear ho1);obtain ⟨gc,gd,ge⟩:=Kd.dN ck.out;subst ge;obtain ⟨b0,b1⟩:=gy ai aH;have aES:=bZ a8.out;have el:=jc a9.out;obtain ⟨gf,gh,gi⟩:=Kd.dN bx.out;subst gi))
  refine bodyPost_ret (jq rfl _ _ af a7 28 49 #[.slice gc ee.length gd] #[ah ef,.string eh,ah ei,.bool ej,.slice gf ek.length gh] (0,0) (0,0) _ _ rfl bf underlying28 rfl aC rfl bf underlying49 rfl aC) rfl ?_;exact ⟨_,_,bK,Kd.NK (base:=w.heap.size) (by (with_reducible repeat (first|apply Kd.bW|apply Kd.bY|apply Kd.bH));exact Kd.bF (aJ (aJ (aJ (aJ (aJ (aJ (Kd.bV (Kd.bV (Kd.AY ck.out (Kd.A_ bx.out) (by decide)) a8.out (by decide)) a9.out (by decide)) (fun _ hk=>hk.1.2))))))) (fun _ hk=>⟨.inr hk.1.1.1.1,hk.1.1.2⟩)),(by (with_reducible repeat (first|apply Kd.bW|apply Kd.bY|apply Kd.bH));exact Kd.bF (aJ (aJ (aJ (aJ (aJ (aJ (Kd.bV (Kd.bV bx.out a8.out (by decide)) a9.out (by decide)) (fun _ hk=>hk.1.2))))))) (fun _ hk=>hk.1.1.1)),ay⟩
 have ci:=fZ ch;have cj:=f_ ch;revert H;refine eU (fun cl H=>?_) fun cl H=>?_
 ·have cm:=fU cl;have cn:=fV cl;clear cl;obtain ⟨⟨d6,d7,d8,d9,da,db⟩,i7,H⟩:=bd_ H;simp only [gV] at H
  obtain ⟨rfl,rfl,rfl,rfl,rfl,rfl⟩:=H;obtain ⟨aue,auf,auk,aul,aum,aun,auo,aup,auq,aur,aug,auh,aui,auj⟩:=iG a6.out;obtain ⟨azQ,azR,azW,azX,azY,azZ,az0,az1,az2,az3,azS,azT,azU,azV⟩:=jI a6.out;go_wp2_with (first|((with_reducible refine cu 118 ?_);refine cO (some 74) rfl rfl func118 aC rfl #[.agg #[ah an,ah ao,ah ap,ah aq,.slice dX bP.length dW,ah aK,.string aO,.string ar,ah aT,ah av,.string ag,.string ab,.bool ac,.string aa]] rfl bJ ?_;(with_reducible refine (zC.calls an ao ap aq (fun ak=>((mW ak∨w.heap.size≤ak)∧(ak≠pV∧(ak≠af∧ak≠a7)))) _ _ bP aK aO ar aT av ag ab ac aa d6 d7 d8 d9 da db _ o9.out i7.out).mono ?_);rintro e ii ⟨aC6,aoK,rfl,ho0,ho1,hb⟩;refine ⟨_,rfl,?_⟩;obtain ⟨o9,co,cp,a6,a8,a9,HB⟩:=p_ (Kd.ED yt (Kd.iY ho1) hb) <| p_ (Kd.NS (Kd.iZ (ok':=fun ak=>(mW ak∨w.heap.size≤ak)∧some ak≠(aoK:Value).ownBlock∧ak≠pV∧ak≠af∧ak≠a7) ho0 (fun ak gQ=>⟨Or.elim gQ.1 (fun hs_=>hs_.1) (fun nS=>(.inr (Nat.le_trans (bU ay) nS))),gQ.2,Or.elim gQ.1 (fun hs_=>hs_.2.1) (fun nS=>(Kd.uO (g:=pV) (o:=.cells #[ah an,ah ao,ah ap,ah aq,.slice dX bP.length dW,ah aK,.string aO,.string ar,ah aT,ah av,.string ag,.string ab,.bool ac,.string aa] 90) (au a6) ak nS)),Or.elim gQ.1 (fun hs_=>hs_.2.2.1) (fun nS=>(Kd.uO (g:=af) (o:=.cells #[.slice none 0 0] 28) (au a8) ak nS)),Or.elim gQ.1 (fun hs_=>hs_.2.2.2) (fun nS=>(Kd.uO (g:=a7) (o:=.cells #[ah 0,.string (⟨#[]⟩:ByteArray),ah 0,.bool false,.slice none 0 0] 49) (au a9) ak nS))⟩)) (bU ay)) <| p_ (Kd.dR (Kd.z_ (M:=fun ak=>(w.heap.size≤ak)) (Kd.bF (ok':=fun ak=>True) ho1 (fun _ gQ=>trivial)) (bU ay) (fun ak bI=>bI)) (bU ay)) <| mP (au a6) (au a8) (au a9) ay hb;(try clear hb);(try clear ho0);(try clear ho1);obtain ⟨em,en,gj⟩:=Kd.NT co.out;subst gj;obtain ⟨b0,b1⟩:=gy ai aH;have aEW:=bZ a8.out;have eo:=jc a9.out;obtain ⟨ep,eq,gl⟩:=Kd.dN cp.out;subst gl))
  refine bodyPost_ret (jq rfl _ _ af a7 28 49 #[.slice em d6.length en] #[ah d7,.string d8,ah d9,.bool da,.slice ep db.length eq] (0,0) (0,0) _ _ rfl bf underlying28 rfl aC rfl bf underlying49 rfl aC) rfl ?_;exact ⟨_,_,bK,(by (with_reducible repeat (first|apply Kd.rJ|apply Kd.rM|apply Kd.oN));exact Kd.iZ (Kd.fJ (p:=⟨a7,4,none⟩) (Kd.fJ (p:=⟨a7,3,none⟩) (Kd.fJ (p:=⟨a7,2,none⟩) (Kd.fJ (p:=⟨a7,1,none⟩) (Kd.fJ (p:=⟨a7,0,none⟩) (Kd.fJ (p:=⟨af,0,none⟩) (Kd.iZ (Kd.iZ co.out (fun ak hk=>(⟨hk,hk.2.2.2.1⟩:_∧ak≠af))) (fun ak hk=>(⟨hk,hk.1.2.2.2.2⟩:_∧ak≠a7))) (fun _ hk=>hk.1.2) (.slice em d6.length en)) (fun _ hk=>hk.2) (ah d7)) (fun _ hk=>hk.2) (.string d8)) (fun _ hk=>hk.2) (ah d9)) (fun _ hk=>hk.2) (.bool da)) (fun _ hk=>hk.2) (.slice ep db.length eq)) (fun _ hk=>⟨hk.1.1.1,hk.1.1.2.1⟩)),(by (with_reducible repeat (first|apply Kd.bW|apply Kd.bY|apply Kd.bH));exact Kd.bF (aJ (aJ (aJ (aJ (aJ (aJ (Kd.bV (Kd.bV cp.out a8.out (by decide)) a9.out (by decide)) (fun _ hk=>hk.1.2))))))) (fun _ hk=>hk.1.1.1)),ay⟩
 have cm:=fZ cl;have cn:=f_ cl;have dd:=m_ H;clear H;go_upto_if 77 with (fail)
 go_cut [77] (fun v77 wc=>∃ (kq:Nat) (dL:Bool),v77=.bool dL∧aA (jS.j4 kq aK dL an ao ap aq bP aK aO ar aT av ag ab ac aa=some (r1,r2,r3,r4,r5,r6))∧aA (kq≤VW)∧aA (Kd.V aS 43 wc w.heap.size (fun ak=>(mW ak∨w.heap.size≤ak)∧ak≠pV∧ak≠af∧ak≠a7) (.slice dX bP.length dW) bP)∧aA (wc.heap[pV]?=some (.cells #[ah an,ah ao,ah ap,ah aq,(.slice dX bP.length dW),ah aK,.string aO,.string ar,ah aT,ah av,.string ag,.string ab,.bool ac,.string aa] 90))∧aA (wc.heap[af]?=some (.cells #[(.slice none 0 0)] 28))∧aA (wc.heap[a7]?=some (.cells #[ah 0,.string (⟨#[]⟩:ByteArray),ah 0,.bool false,(.slice none 0 0)] 49))∧aA (Below w.heap.size w wc))
 case first =>
  obtain ⟨H⟩:=dd;revert H;refine eU (fun cq H=>?_) fun cq H=>?_;rotate_left
  ·have ba:=fZ cq;have cr:=f_ cq;try simp only [aV,aZ,ba]
   have H':=m_ H;clear H;go_wp2
   go_meet
   case rel=>exact ⟨_,((aK == 8)),bC,H',⟨(by have:=uj.out;have:=AQ.out;have:=Ns.out;have:=XD.out;first|omega|exact Nat.le_refl _)⟩,⟨yt⟩,⟨(au a6)⟩,⟨(au a8)⟩,⟨(au a9)⟩,⟨ay⟩⟩
  have ba:=fU cq;have cr:=fV cq;clear cq;try simp only [aV,aZ,ba]
  have H':=m_ H;clear H;go_wp2
  go_meet
  case rel=>exact ⟨_,((aK == 7)),bC,H',⟨(by have:=uj.out;have:=AQ.out;have:=Ns.out;have:=XD.out;first|omega|exact Nat.le_refl _)⟩,⟨yt⟩,⟨(au a6)⟩,⟨(au a8)⟩,⟨(au a9)⟩,⟨ay⟩⟩
 case rest =>
 clear dd;try clear e6;try clear ch;try clear ci;try clear cj;try clear cl;try clear cm;try clear cn
 obtain ⟨kq,dL,rfl,HA,ap8,o9,a6,a8,a9,HB⟩:=hcut;cases kq with
 | zero=>exact absurd HA.out (by simp [jS.j4])
 | succ abv =>
 obtain ⟨H⟩:=HA;simp only [jS.j4] at H
 by_cases f8:dL=true
 ·subst f8;rw [if_pos rfl] at H;obtain ⟨⟨de,df,dg,pF,di,dj⟩,i8,H⟩:=bd_ H;simp only [gV] at H
  obtain ⟨rfl,rfl,rfl,rfl,rfl,rfl⟩:=H;obtain ⟨auH,auI,auN,auO,auP,auQ,auR,auS,auT,auU,auJ,auK,auL,auM⟩:=iG a6.out;obtain ⟨aAg,aAh,aAm,aAn,aAo,aAp,aAq,aAr,aAs,aAt,aAi,aAj,aAk,aAl⟩:=jI a6.out;go_wp2_with (first|((with_reducible refine cu 119 ?_);refine cO (some 81) rfl rfl func119 aC rfl #[.agg #[ah an,ah ao,ah ap,ah aq,.slice dX bP.length dW,ah aK,.string aO,.string ar,ah aT,ah av,.string ag,.string ab,.bool ac,.string aa]] rfl bJ ?_;(with_reducible refine (lV.calls abv an ao ap aq (fun ak=>((mW ak∨w.heap.size≤ak)∧(ak≠pV∧(ak≠af∧ak≠a7)))) _ _ bP aK aO ar aT av ag ab ac aa de df dg pF di dj _ o9.out i8.out).mono ?_);rintro e iv ⟨aC7,aoL,rfl,ho0,ho1,hb⟩;refine ⟨_,rfl,?_⟩;obtain ⟨o9,ct,fE,a6,a8,a9,HB⟩:=p_ (Kd.ED yt (Kd.iY ho1) hb) <| p_ (Kd.NS (Kd.iZ (ok':=fun ak=>(mW ak∨w.heap.size≤ak)∧some ak≠(aoL:Value).ownBlock∧ak≠pV∧ak≠af∧ak≠a7) ho0 (fun ak gQ=>⟨Or.elim gQ.1 (fun hs_=>hs_.1) (fun nS=>(.inr (Nat.le_trans (bU ay) nS))),gQ.2,Or.elim gQ.1 (fun hs_=>hs_.2.1) (fun nS=>(Kd.uO (g:=pV) (o:=.cells #[ah an,ah ao,ah ap,ah aq,.slice dX bP.length dW,ah aK,.string aO,.string ar,ah aT,ah av,.string ag,.string ab,.bool ac,.string aa] 90) (au a6) ak nS)),Or.elim gQ.1 (fun hs_=>hs_.2.2.1) (fun nS=>(Kd.uO (g:=af) (o:=.cells #[.slice none 0 0] 28) (au a8) ak nS)),Or.elim gQ.1 (fun hs_=>hs_.2.2.2) (fun nS=>(Kd.uO (g:=a7) (o:=.cells #[ah 0,.string (⟨#[]⟩:ByteArray),ah 0,.bool false,.slice none 0 0] 49) (au a9) ak nS))⟩)) (bU ay)) <| p_ (Kd.dR (Kd.z_ (M:=fun ak=>(w.heap.size≤ak)) (Kd.bF (ok':=fun ak=>True) ho1 (fun _ gQ=>trivial)) (bU ay) (fun ak bI=>bI)) (bU ay)) <| mP (au a6) (au a8) (au a9) ay hb;(try clear hb);(try clear ho0);(try clear ho1);obtain ⟨er,es,gm⟩:=Kd.NT ct.out;subst gm;obtain ⟨b0,b1⟩:=gy ai aH;have aE1:=bZ a8.out;have i9:=jc a9.out;obtain ⟨et,tN,gn⟩:=Kd.dN fE.out;subst gn))
  refine bodyPost_ret (jq rfl _ _ af a7 28 49 #[.slice er de.length es] #[ah df,.string dg,ah pF,.bool di,.slice et dj.length tN] (0,0) (0,0) _ _ rfl bf underlying28 rfl aC rfl bf underlying49 rfl aC) rfl ?_;exact ⟨_,_,bK,(by (with_reducible repeat (first|apply Kd.rJ|apply Kd.rM|apply Kd.oN));exact Kd.iZ (Kd.fJ (p:=⟨a7,4,none⟩) (Kd.fJ (p:=⟨a7,3,none⟩) (Kd.fJ (p:=⟨a7,2,none⟩) (Kd.fJ (p:=⟨a7,1,none⟩) (Kd.fJ (p:=⟨a7,0,none⟩) (Kd.fJ (p:=⟨af,0,none⟩) (Kd.iZ (Kd.iZ ct.out (fun ak hk=>(⟨hk,hk.2.2.2.1⟩:_∧ak≠af))) (fun ak hk=>(⟨hk,hk.1.2.2.2.2⟩:_∧ak≠a7))) (fun _ hk=>hk.1.2) (.slice er de.length es)) (fun _ hk=>hk.2) (ah df)) (fun _ hk=>hk.2) (.string dg)) (fun _ hk=>hk.2) (ah pF)) (fun _ hk=>hk.2) (.bool di)) (fun _ hk=>hk.2) (.slice et dj.length tN)) (fun _ hk=>⟨hk.1.1.1,hk.1.1.2.1⟩)),(by (with_reducible repeat (first|apply Kd.bW|apply Kd.bY|apply Kd.bH));exact Kd.bF (aJ (aJ (aJ (aJ (aJ (aJ (Kd.bV (Kd.bV fE.out a8.out (by decide)) a9.out (by decide)) (fun _ hk=>hk.1.2))))))) (fun _ hk=>hk.1.1.1)),ay⟩
 replace f8:=Bool.eq_false_iff.mpr f8;subst f8;rw [if_neg iF] at H;revert H;refine eU (fun dk H=>?_) fun dk H=>?_;rotate_left
 ·have ev:=fZ dk;have ew:=f_ dk;revert H;refine eU (fun bl H=>?_) fun bl H=>?_;rotate_left
  ·have dl:=fZ bl;have dm:=f_ bl;simp only [gV] at H
   obtain ⟨rfl,rfl,rfl,rfl,rfl,rfl⟩:=H;obtain ⟨aqW,aqX,aq2,aq3,aq4,aq5,aq6,aq7,aq8,aq9,aqY,aqZ,aq0,aq1⟩:=iG a6.out;obtain ⟨awY,awZ,aw4,aw5,aw6,aw7,aw8,aw9,aw_,aw',aw0,aw1,aw2,aw3⟩:=jI a6.out;obtain ⟨b0,b1⟩:=gy ai aH;have aEh:=bZ a8.out;have gz:=jc a9.out;go_wp2
   refine bodyPost_ret (jq rfl _ _ af a7 28 49 #[.slice dX bP.length dW] #[ah 0,.string (⟨#[]⟩:ByteArray),ah 0,.bool false,.slice none 0 0] (0,0) (0,0) _ _ rfl bf underlying28 rfl aC rfl bf underlying49 rfl aC) rfl ?_;exact ⟨_,_,bK,(by (with_reducible repeat (first|apply Kd.rJ|apply Kd.rM|apply Kd.oN));exact Kd.iZ (Kd.fJ (p:=⟨a7,4,none⟩) (Kd.fJ (p:=⟨a7,3,none⟩) (Kd.fJ (p:=⟨a7,2,none⟩) (Kd.fJ (p:=⟨a7,1,none⟩) (Kd.fJ (p:=⟨a7,0,none⟩) (Kd.fJ (p:=⟨af,0,none⟩) (Kd.iZ (Kd.iZ o9.out (fun ak hk=>(⟨hk,hk.2.2.1⟩:_∧ak≠af))) (fun ak hk=>(⟨hk,hk.1.2.2.2⟩:_∧ak≠a7))) (fun _ hk=>hk.1.2) (.slice dX bP.length dW)) (fun _ hk=>hk.2) (ah 0)) (fun _ hk=>hk.2) (.string (⟨#[]⟩:ByteArray))) (fun _ hk=>hk.2) (ah 0)) (fun _ hk=>hk.2) (.bool false)) (fun _ hk=>hk.2) (.slice none 0 0)) (fun _ hk=>⟨hk.1.1.1,zQ⟩)),lH,ay⟩
  have dl:=fU bl;have dm:=fV bl;clear bl;obtain ⟨⟨lJ,dp,dq,dr,dt,du⟩,go,H⟩:=bd_ H;simp only [gV] at H
  obtain ⟨rfl,rfl,rfl,rfl,rfl,rfl⟩:=H;obtain ⟨aqI,aqJ,aqO,aqP,aqQ,aqR,aqS,aqT,aqU,aqV,aqK,aqL,aqM,aqN⟩:=iG a6.out;obtain ⟨awK,awL,awQ,awR,awS,awT,awU,awV,awW,awX,awM,awN,awO,awP⟩:=jI a6.out;go_wp2_with (first|((with_reducible refine cu 120 ?_);refine cO (some 102) rfl rfl func120 aC rfl #[.agg #[ah an,ah ao,ah ap,ah aq,.slice dX bP.length dW,ah aK,.string aO,.string ar,ah aT,ah av,.string ag,.string ab,.bool ac,.string aa]] rfl bJ ?_;(with_reducible refine (Bj.calls abv an ao ap aq (fun ak=>((mW ak∨w.heap.size≤ak)∧(ak≠pV∧(ak≠af∧ak≠a7)))) _ _ bP aK aO ar aT av ag ab ac aa lJ dp dq dr dt du _ (jg.below HD.out ay) o9.out go.out).mono ?_);rintro e ia ⟨aC8,aoM,rfl,ho0,ho1,hb⟩;refine ⟨_,rfl,?_⟩;obtain ⟨o9,cv,cw,a6,a8,a9,HB⟩:=p_ (Kd.ED yt (Kd.iY ho1) hb) <| p_ (Kd.NS (Kd.iZ (ok':=fun ak=>(mW ak∨w.heap.size≤ak)∧some ak≠(aoM:Value).ownBlock∧ak≠pV∧ak≠af∧ak≠a7) ho0 (fun ak gQ=>⟨Or.elim gQ.1 (fun hs_=>hs_.1) (fun nS=>(.inr (Nat.le_trans (bU ay) nS))),gQ.2,Or.elim gQ.1 (fun hs_=>hs_.2.1) (fun nS=>(Kd.uO (g:=pV) (o:=.cells #[ah an,ah ao,ah ap,ah aq,.slice dX bP.length dW,ah aK,.string aO,.string ar,ah aT,ah av,.string ag,.string ab,.bool ac,.string aa] 90) (au a6) ak nS)),Or.elim gQ.1 (fun hs_=>hs_.2.2.1) (fun nS=>(Kd.uO (g:=af) (o:=.cells #[.slice none 0 0] 28) (au a8) ak nS)),Or.elim gQ.1 (fun hs_=>hs_.2.2.2) (fun nS=>(Kd.uO (g:=a7) (o:=.cells #[ah 0,.string (⟨#[]⟩:ByteArray),ah 0,.bool false,.slice none 0 0] 49) (au a9) ak nS))⟩)) (bU ay)) <| p_ (Kd.dR (Kd.z_ (M:=fun ak=>(w.heap.size≤ak)) (Kd.bF (ok':=fun ak=>True) ho1 (fun _ gQ=>trivial)) (bU ay) (fun ak bI=>bI)) (bU ay)) <| mP (au a6) (au a8) (au a9) ay hb;(try clear hb);(try clear ho0);(try clear ho1);obtain ⟨cx,cy,ex⟩:=Kd.NT cv.out;subst ex;obtain ⟨b0,b1⟩:=gy ai aH;have aEg:=bZ a8.out;have hs:=jc a9.out;obtain ⟨cz,d0,ey⟩:=Kd.dN cw.out;subst ey))
  refine bodyPost_ret (jq rfl _ _ af a7 28 49 #[.slice cx lJ.length cy] #[ah dp,.string dq,ah dr,.bool dt,.slice cz du.length d0] (0,0) (0,0) _ _ rfl bf underlying28 rfl aC rfl bf underlying49 rfl aC) rfl ?_;exact ⟨_,_,bK,(by (with_reducible repeat (first|apply Kd.rJ|apply Kd.rM|apply Kd.oN));exact Kd.iZ (Kd.fJ (p:=⟨a7,4,none⟩) (Kd.fJ (p:=⟨a7,3,none⟩) (Kd.fJ (p:=⟨a7,2,none⟩) (Kd.fJ (p:=⟨a7,1,none⟩) (Kd.fJ (p:=⟨a7,0,none⟩) (Kd.fJ (p:=⟨af,0,none⟩) (Kd.iZ (Kd.iZ cv.out (fun ak hk=>(⟨hk,hk.2.2.2.1⟩:_∧ak≠af))) (fun ak hk=>(⟨hk,hk.1.2.2.2.2⟩:_∧ak≠a7))) (fun _ hk=>hk.1.2) (.slice cx lJ.length cy)) (fun _ hk=>hk.2) (ah dp)) (fun _ hk=>hk.2) (.string dq)) (fun _ hk=>hk.2) (ah dr)) (fun _ hk=>hk.2) (.bool dt)) (fun _ hk=>hk.2) (.slice cz du.length d0)) (fun _ hk=>⟨hk.1.1.1,hk.1.1.2.1⟩)),(by (with_reducible repeat (first|apply Kd.bW|apply Kd.bY|apply Kd.bH));exact Kd.bF (aJ (aJ (aJ (aJ (aJ (aJ (Kd.bV (Kd.bV cw.out a8.out (by decide)) a9.out (by decide)) (fun _ hk=>hk.1.2))))))) (fun _ hk=>hk.1.1.1)),ay⟩
 have ev:=fU dk;have ew:=fV dk;clear dk;have d1:=m_ H;clear H;obtain ⟨agK,agL,agQ,agR,agS,agT,agU,agV,agW,agX,agM,agN,agO,agP⟩:=iG a6.out;obtain ⟨ajf,ajg,ajl,ajm,ajn,ajo,ajp,ajq,ajr,ajs,ajh,aji,ajj,ajk⟩:=jI a6.out;go_upto_if 88 with (fail)
 (try clear aw bD ax az)
 (try clear agK agL agM agN agO agP agQ agR agS agT agU agV agW agX)
 (try clear ajf ajg ajh aji ajj ajk ajl ajm ajn ajo ajp ajq ajr ajs)
 obtain ⟨H⟩:=d1;by_cases cd:ac=true
 ·subst cd;rw [if_pos rfl] at H;simp only [gV] at H
  obtain ⟨rfl,rfl,rfl,rfl,rfl,rfl⟩:=H;obtain ⟨aw,ax,bD,az⟩:=iD ae al a5 am;obtain ⟨aqu,aqv,aqA,aqB,aqC,aqD,aqE,aqF,aqG,aqH,aqw,aqx,aqy,aqz⟩:=iG a6.out;obtain ⟨awu,awv,awC,awD,awE,awF,awG,awH,awI,awJ,aww,awx,awy,awz⟩:=jI a6.out;obtain ⟨b0,b1⟩:=gy ai aH;have aEa:=bZ a8.out;have hu:=jc a9.out;go_wp2
  refine bodyPost_ret (jq rfl _ _ af a7 28 49 #[.slice dX bP.length dW] #[ah 0,.string (⟨#[]⟩:ByteArray),ah 0,.bool true,.slice none 0 0] (0,0) (0,0) _ _ rfl bf underlying28 rfl aC rfl bf underlying49 rfl aC) rfl ?_;exact ⟨_,_,bK,(by (with_reducible repeat (first|apply Kd.rJ|apply Kd.rM|apply Kd.oN));exact Kd.iZ (Kd.fJ (p:=⟨a7,4,none⟩) (Kd.fJ (p:=⟨a7,3,none⟩) (Kd.fJ (p:=⟨a7,2,none⟩) (Kd.fJ (p:=⟨a7,1,none⟩) (Kd.fJ (p:=⟨a7,0,none⟩) (Kd.fJ (p:=⟨af,0,none⟩) (Kd.iZ (Kd.iZ o9.out (fun ak hk=>(⟨hk,hk.2.2.1⟩:_∧ak≠af))) (fun ak hk=>(⟨hk,hk.1.2.2.2⟩:_∧ak≠a7))) (fun _ hk=>hk.1.2) (.slice dX bP.length dW)) (fun _ hk=>hk.2) (ah 0)) (fun _ hk=>hk.2) (.string (⟨#[]⟩:ByteArray))) (fun _ hk=>hk.2) (ah 0)) (fun _ hk=>hk.2) (.bool true)) (fun _ hk=>hk.2) (.slice none 0 0)) (fun _ hk=>⟨hk.1.1.1,zQ⟩)),lH,ay⟩
 replace cd:=Bool.eq_false_iff.mpr cd;subst cd;rw [if_neg iF] at H;simp only [gV] at H
 obtain ⟨rfl,rfl,rfl,rfl,rfl,rfl⟩:=H;try go_wp2
 obtain ⟨o9,a6,a8,a9,HB⟩:=p_ (Kd.oN o9.out) <| Bf a6 a8 a9 HB;refine iU (n:=9) (S:=fun w'=>Dh w' pV (ah an) (ah ao) (ah ap) (ah aq) (.slice dX bP.length dW) (ah aK) (.string aO) (.string ar) (ah aT) (ah av) (.string ag) (.string ab) (.bool false) (.string aa)) (ds:=[]) KR aC rfl rfl (iG a6.out) (fun hH=>?_);refine kF (T:=jS.afj) (B:=jS.aem) aC aC (fun aP fK=>?_);generalize wc.drew=bq at o9 a6 a8 a9 HB hH ⊢;refine bM 0 ?_;refine bM 2 ?_;refine dF 3 95 #[aj,F_,aj,aj,F_,F_,F_,F_,F_] aP ?_;refine j_ 1 93 #[aj,aj,aj,aj,F_,F_,F_,F_,F_] aP fK hH ?_;refine j_ 4 96 #[aj,aj,aj,aj,aj,F_,F_,F_,F_] aP fK hH ?_;refine dF 5 97 #[aj,aj,aj,aj,aj,aj,F_,F_,F_] aP ?_;refine bM 6 ?_;refine oH 7 (fun K hK=>?_);have aAQ:bq.cell? ⟨af,0,none⟩=some (.slice none 0 0):=(aQ a8.out 0).trans rfl;have auV:=cZ a8.out 0;obtain ⟨aw,b1,ax,b0⟩:=iD ae aH al ai;refine jD (w1:=?_) (by rfl) rfl ?_ ?_;rotate_left
 ·go_simp
  rfl
 refine hK.out _ _ ⟨(aG ae hH.1),(aG ae hH.2.1),(aG ae hH.2.2.1),(aG ae hH.2.2.2.1),(aG ae hH.2.2.2.2.1),(aG ae hH.2.2.2.2.2.1),(aG ae hH.2.2.2.2.2.2.1),(aG ae hH.2.2.2.2.2.2.2.1),(aG ae hH.2.2.2.2.2.2.2.2.1),(aG ae hH.2.2.2.2.2.2.2.2.2.1),(aG ae hH.2.2.2.2.2.2.2.2.2.2.1),(aG ae hH.2.2.2.2.2.2.2.2.2.2.2.1),(aG ae hH.2.2.2.2.2.2.2.2.2.2.2.2.1),(aG ae hH.2.2.2.2.2.2.2.2.2.2.2.2.2)⟩ (fun hH=>?_);clear hK K;refine oH 8 (fun K hK=>?_);have aAR:bq.cell? ⟨a7,0,none⟩=some (ah 0):=(aQ a9.out 0).trans rfl;have auW:=cZ a9.out 0;obtain ⟨bD,az⟩:=gy a5 am;have aAS:bq.cell? ⟨a7,1,none⟩=some (.string (⟨#[]⟩:ByteArray)):=(aQ a9.out 1).trans rfl;have auX:=cZ a9.out 1;have aAT:bq.cell? ⟨a7,2,none⟩=some (ah 0):=(aQ a9.out 2).trans rfl;have auY:=cZ a9.out 2;have aAU:bq.cell? ⟨a7,3,none⟩=some (.bool false):=(aQ a9.out 3).trans rfl;have auZ:=cZ a9.out 3;have aAV:bq.cell? ⟨a7,4,none⟩=some (.slice none 0 0):=(aQ a9.out 4).trans rfl;have au0:=cZ a9.out 4;refine jD (w1:=?_) (by rfl) rfl ?_ ?_;rotate_left
 ·go_simp
  rfl
 refine hK.out _ _ ⟨(aG a5 (aG a5 (aG a5 (aG a5 (aG a5 hH.1))))),(aG a5 (aG a5 (aG a5 (aG a5 (aG a5 hH.2.1))))),(aG a5 (aG a5 (aG a5 (aG a5 (aG a5 hH.2.2.1))))),(aG a5 (aG a5 (aG a5 (aG a5 (aG a5 hH.2.2.2.1))))),(aG a5 (aG a5 (aG a5 (aG a5 (aG a5 hH.2.2.2.2.1))))),(aG a5 (aG a5 (aG a5 (aG a5 (aG a5 hH.2.2.2.2.2.1))))),(aG a5 (aG a5 (aG a5 (aG a5 (aG a5 hH.2.2.2.2.2.2.1))))),(aG a5 (aG a5 (aG a5 (aG a5 (aG a5 hH.2.2.2.2.2.2.2.1))))),(aG a5 (aG a5 (aG a5 (aG a5 (aG a5 hH.2.2.2.2.2.2.2.2.1))))),(aG a5 (aG a5 (aG a5 (aG a5 (aG a5 hH.2.2.2.2.2.2.2.2.2.1))))),(aG a5 (aG a5 (aG a5 (aG a5 (aG a5 hH.2.2.2.2.2.2.2.2.2.2.1))))),(aG a5 (aG a5 (aG a5 (aG a5 (aG a5 hH.2.2.2.2.2.2.2.2.2.2.2.1))))),(aG a5 (aG a5 (aG a5 (aG a5 (aG a5 hH.2.2.2.2.2.2.2.2.2.2.2.2.1))))),(aG a5 (aG a5 (aG a5 (aG a5 (aG a5 hH.2.2.2.2.2.2.2.2.2.2.2.2.2)))))⟩ (fun hH=>?_);clear hK K;refine jd (kC aP.out aC) ?_;try go_wp2
 refine bodyPost_ret (jq rfl _ _ af a7 28 49 #[.slice dX bP.length dW] #[ah 0,.string (⟨#[]⟩:ByteArray),ah (aa.size:Int),.bool false,.slice none 0 0] (0,0) (0,0) _ _ rfl bf underlying28 rfl aC rfl bf underlying49 rfl aC) rfl ?_;exact ⟨_,_,bK,(by (with_reducible repeat (first|apply Kd.rJ|apply Kd.rM|apply Kd.oN));exact Kd.iZ (Kd.fJ (p:=⟨a7,4,none⟩) (Kd.fJ (p:=⟨a7,3,none⟩) (Kd.fJ (p:=⟨a7,2,none⟩) (Kd.fJ (p:=⟨a7,1,none⟩) (Kd.fJ (p:=⟨a7,0,none⟩) (Kd.fJ (p:=⟨af,0,none⟩) (Kd.iZ (Kd.iZ o9.out (fun ak hk=>(⟨hk,hk.2.2.1⟩:_∧ak≠af))) (fun ak hk=>(⟨hk,hk.1.2.2.2⟩:_∧ak≠a7))) (fun _ hk=>hk.1.2) (.slice dX bP.length dW)) (fun _ hk=>hk.2) (ah 0)) (fun _ hk=>hk.2) (.string (⟨#[]⟩:ByteArray))) (fun _ hk=>hk.2) (ah (aa.size:Int))) (fun _ hk=>hk.2) (.bool false)) (fun _ hk=>hk.2) (.slice none 0 0)) (fun _ hk=>⟨hk.1.1.1,zQ⟩)),lH,ay⟩

def Cc.f (k:Nat) (ae:Int) (af:Int) (ag:Int) (aK:Int) (a6:List (aF)) (a7:Int) (a8:ByteArray) (a9:ByteArray) (aa:Int) (ab:Int) (ac:ByteArray):Option ((List (aF)) × Int × ByteArray × Int × Bool × List ByteArray):=(Fh.f a7 a8 a9 aa ab ac).bind fun ai=>(if ai=true then ((jS.f k ae af ag aK a6 a7 a8 a9 aa ab ac (⟨#[]⟩:ByteArray) false (⟨#[]⟩:ByteArray)).bind fun a5=>(if a5.2.1=0 then ((wF.f a5.1).bind fun aH=>(some (aH,a5.2.1,a5.2.2.1,a5.2.2.2.1,a5.2.2.2.2.1,a5.2.2.2.2.2))) else ((wF.f a6).bind fun aO=>(some (aO,a5.2.1,(⟨#[]⟩:ByteArray),0,false,([]:List ByteArray)))))) else ((wF.f a6).bind fun al=>(some (al,16,(⟨#[]⟩:ByteArray),0,false,([]:List ByteArray)))))
theorem Cc.calls (k:Nat) (cl:Int) (cm:Int) (cn:Int) (co:Int) (bv:Option Addr) (bw:Nat) (bg:List (aF)) (bx:Int) (bz:ByteArray) (ca:ByteArray) (cc:Int) (cd:Int) (ce:ByteArray) (r1:List (aF)) (r2:Int) (r3:ByteArray) (r4:Int) (r5:Bool) (r6:List ByteArray) (w:World) (kN:jg w) (dq:Kd.C aS w bv bg.length bg) (dr:bg.length≤bw) (h:Cc.f k cl cm cn co bg bx bz ca cc cd ce=some (r1,r2,r3,r4,r5,r6)) :
  Calls Tryz.prog 22 #[.agg #[ah cl,ah cm,ah cn,ah co],.agg #[.slice bv bg.length bw],.agg #[ah bx,.string bz,.string ca,ah cc,ah cd,.string ce]] w fun e w'=>∃ fC nG:Value,e=.returned (.tuple #[.agg #[fC],.agg #[ah r2,.string r3,ah r4,.bool r5,nG]])∧Kd.R aS 43 w' w.heap.size (fun _=>True) fC r1∧Kd.R Kd.string 9 w' w.heap.size (fun _=>True) nG r6∧Below w.heap.size w w':=by
 have LV:=underlying25;have nT:=underlying28;have Fb:=underlying45;have wE:=underlying49;have Fe:=underlying90;have xK:=m_ dq;have d9:=m_ dr;clear dq dr;have HD:=m_ kN;clear kN;have HB:=m_ (Below.refl w.heap.size w);unfold Cc.f at h
 have H:=h;clear h;obtain ⟨dz,A4,H⟩:=bd_ H;have et:=m_ H;clear H;go_enter func22,ntmps22
 go_upto_if 12 with (first|((with_reducible refine dJ 3 ?_);refine dO 3 (cs:=#[ah cl,ah cm,ah cn,ah co]) 25 ?_;intro cf hg w6 hbox hb;obtain ⟨HB,a8,e0,tN⟩:=jR ay hb hbox hg;clear hb hbox hg)|((with_reducible refine dJ 4 ?_);refine dO 4 (cs:=#[.slice bv bg.length bw]) 28 ?_;intro bh hg w7 hbox hb;obtain ⟨a8,HB,a7,e3,ev,cg,ch⟩:=oO (au a8) ay hb hbox hg;clear hb hbox hg)|((with_reducible refine dJ 5 ?_);refine dO 5 (cs:=#[ah bx,.string bz,.string ca,ah cc,ah cd,.string ce]) 45 ?_;intro ci hg w8 hbox hb;obtain ⟨a8,a7,HB,aa,e4,ew,cj,ck,b9,ba⟩:=rP (au a8) (au a7) ay hb hbox hg;clear hb hbox hg)|((with_reducible refine dJ 6 ?_);refine dO 6 (cs:=#[.slice none 0 0]) 28 ?_;intro ap hg w9 hbox hb;obtain ⟨a8,a7,aa,HB,a9,e5,ex,aq,ar,ag,aT,aK,ai⟩:=zl (au a8) (au a7) (au aa) ay hb hbox hg;clear hb hbox hg)|((with_reducible refine dJ 7 ?_);refine dO 7 (cs:=#[ah 0,.string (⟨#[]⟩:ByteArray),ah 0,.bool false,.slice none 0 0]) 49 ?_;intro af hg fg hbox hb;obtain ⟨a8,a7,aa,a9,HB,a6,e6,ey,av,aw,ac,ax,aH,aO,bb,bc⟩:=Ho (au a8) (au a7) (au aa) (au a9) ay hb hbox hg;clear hb hbox hg;obtain ⟨bi,bj,az,b0,al,am,an,ao⟩:=iq ck cj ba b9 aK ai aH aO;have ej:=mg aa.out)|((with_reducible refine cu 67 ?_);refine cO (some 11) rfl rfl func67 aC rfl #[.agg #[ah bx,.string bz,.string ca,ah cc,ah cd,.string ce]] rfl bJ ?_;(with_reducible refine (Fh.calls bx bz ca cc cd ce dz _ A4.out).mono ?_);rintro e fh ⟨rfl,hb⟩;refine ⟨_,rfl,?_⟩;obtain ⟨a8,a7,aa,a9,a6,HB⟩:=qJ (au a8) (au a7) (au aa) (au a9) (au a6) ay hb;(try clear hb)))
 (try simp only [fM])
 (try clear bj b0 bi az al an am ao)
 (try clear ej)
 obtain ⟨H⟩:=et;by_cases ei:dz=true
 rotate_left
 ·replace ei:=Bool.eq_false_iff.mpr ei;subst ei;rw [if_neg iF] at H;obtain ⟨e7,f8,H⟩:=bd_ H;simp only [gV] at H
  obtain ⟨rfl,rfl,rfl,rfl,rfl,rfl⟩:=H;obtain ⟨cp,cq,b0,az,b1,b2,b3,b4⟩:=iq ch cg b9 ba ag aT ac ax;have apO:=bZ a7.out;go_wp2_with (first|((with_reducible refine cu 45 ?_);refine cO (some 14) rfl rfl func45 aC rfl #[.agg #[.slice bv bg.length bw]] rfl bJ ?_;(with_reducible refine (wF.calls _ _ bg e7 _ pK d9.out f8.out).mono ?_);rintro e fi ⟨aC9,rfl,ho0,hb⟩;refine ⟨_,rfl,?_⟩;obtain ⟨dt,a8,a7,aa,a9,a6,HB⟩:=p_ (Kd.dR ho0 (bU ay)) <| qJ (au a8) (au a7) (au aa) (au a9) (au a6) ay hb;(try clear hb);(try clear hk);(try clear ho0);obtain ⟨ek,el,em⟩:=Kd.dN dt.out;subst em;obtain ⟨b5,b6,am,al,cr,ct⟩:=lU ar aq ai aK bb bc;have aEX:=bZ a9.out;obtain ⟨b7,b8,ao,an⟩:=iD aw av aO aH;have fa:=jc a6.out))
  refine bodyPost_ret (jq rfl _ _ ap af 28 49 #[.slice ek e7.length el] #[ah 16,.string (⟨#[]⟩:ByteArray),ah 0,.bool false,.slice none 0 0] (0,0) (0,0) _ _ rfl bf underlying28 rfl aC rfl bf underlying49 rfl aC) rfl ?_;exact ⟨_,_,bK,(by (with_reducible repeat (first|apply Kd.bW|apply Kd.bY|apply Kd.bH));exact Kd.bF (aJ (aJ (aJ (aJ (aJ (aJ (Kd.bV (Kd.bV dt.out a9.out (by decide)) a6.out (by decide)) (fun _ hk=>hk.1.2))))))) (fun _ hk=>trivial)),lH,ay⟩
 subst ei;rw [if_pos rfl] at H;obtain ⟨⟨oV,qo,qE,qF,qG,oK⟩,fb,H⟩:=bd_ H;dsimp only at H
 have e8:=m_ H;clear H;obtain ⟨cq,cp,bj,bi,b6,b5,b8,b7⟩:=iq cg ch cj ck aq ar av aw;have e9:=EI a8.out;obtain ⟨b0,az,b1,b2,b3,b4⟩:=lU b9 ba ag aT ac ax;have QL:=bZ a7.out;obtain ⟨al,am,an,ao⟩:=iD aK ai aH aO;have ea:=mg aa.out;go_upto_if 26 with (first|((with_reducible refine cu 68 ?_);refine cO (some 21) rfl rfl func68 aC rfl #[.agg #[ah cl,ah cm,ah cn,ah co,.slice bv bg.length bw,ah bx,.string bz,.string ca,ah cc,ah cd,.string ce,.string (⟨#[]⟩:ByteArray),.bool false,.string (⟨#[]⟩:ByteArray)]] rfl bJ ?_;(with_reducible refine (jS.calls k cl cm cn co (fun ak=>ak < w.heap.size) _ _ bg bx bz ca cc cd ce (⟨#[]⟩:ByteArray) false (⟨#[]⟩:ByteArray) oV qo qE qF qG oK _ (jg.below HD.out ay) (Kd.afm d9.out (Kd.Kr (Kd.aer amj xK.out) ay)) fb.out).mono ?_);rintro e fj ⟨aC_,aoN,rfl,ho0,ho1,hb⟩;refine ⟨_,rfl,?_⟩;have ji:=p_ (Kd.NS (Kd.iZ (ok':=fun ak=>some ak≠(aoN:Value).ownBlock∧ak≠cf∧ak≠bh∧ak≠ci∧ak≠ap∧ak≠af) ho0 (fun ak gQ=>⟨gQ.2,Or.elim gQ.1 (fun hs_=>fun e_=>Nat.not_le.2 hs_ (by rw [e_];exact e0.out)) (fun nS=>(Kd.uO (g:=cf) (o:=.cells #[ah cl,ah cm,ah cn,ah co] 25) (au a8) ak nS)),Or.elim gQ.1 (fun hs_=>fun e_=>Nat.not_le.2 hs_ (by rw [e_];exact e3.out)) (fun nS=>(Kd.uO (g:=bh) (o:=.cells #[.slice bv bg.length bw] 28) (au a7) ak nS)),Or.elim gQ.1 (fun hs_=>fun e_=>Nat.not_le.2 hs_ (by rw [e_];exact e4.out)) (fun nS=>(Kd.uO (g:=ci) (o:=.cells #[ah bx,.string bz,.string ca,ah cc,ah cd,.string ce] 45) (au aa) ak nS)),Or.elim gQ.1 (fun hs_=>fun e_=>Nat.not_le.2 hs_ (by rw [e_];exact e5.out)) (fun nS=>(Kd.uO (g:=ap) (o:=.cells #[.slice none 0 0] 28) (au a9) ak nS)),Or.elim gQ.1 (fun hs_=>fun e_=>Nat.not_le.2 hs_ (by rw [e_];exact e6.out)) (fun nS=>(Kd.uO (g:=af) (o:=.cells #[ah 0,.string (⟨#[]⟩:ByteArray),ah 0,.bool false,.slice none 0 0] 49) (au a6) ak nS))⟩)) (bU ay)) <| p_ (Kd.dR (Kd.bF (ok':=fun ak=>True) ho1 (fun _ gQ=>trivial)) (bU ay)) <| qJ (au a8) (au a7) (au aa) (au a9) (au a6) ay hb;clear a8 a7 aa a9 a6 HB;obtain ⟨uU,um,a8,a7,aa,a9,a6,HB⟩:=ji;(try clear hb);(try clear ho1))|((with_reducible refine dJ 8 ?_);refine dO 8 (cs:=#[.slice none 0 0]) 28 ?_;intro qm hg fk hbox hb;obtain ⟨uU,um,a8,a7,aa,a9,a6,HB,uH,ez,f3,cv,cw,cx,cy,cz,d0,bd,bD,be,ae⟩:=p_ (Kd.uq (Kd.wO QA qm (Nat.le_of_eq hg.symm)) hb) <| p_ (Kd.bG (aN um) hb) <| BQ (au a8) (au a7) (au aa) (au a9) (au a6) ay hb hbox hg;clear hb hbox hg)|((with_reducible refine dJ 9 ?_);refine dO 9 (cs:=#[ah 0,.string (⟨#[]⟩:ByteArray),ah 0,.bool false,.slice none 0 0]) 49 ?_;intro dY hg bu hbox hb;obtain ⟨uU,um,a8,a7,aa,a9,a6,uH,HB,uI,f4,f7,d1,d2,d3,d4,d5,d6,fA,ab,dL,a5,d7,d8⟩:=p_ (Kd.uq (Kd.wO QA dY (Nat.le_of_eq hg.symm)) hb) <| p_ (Kd.bG (aN um) hb) <| afN (au a8) (au a7) (au aa) (au a9) (au a6) (au uH) ay hb hbox hg;clear hb hbox hg;obtain ⟨kG,kH,en⟩:=Kd.NT uU.out;subst en;obtain ⟨da,db,dd,de,df,dg,bl,bm⟩:=iq cw cv cy cx d0 cz bD bd;obtain ⟨fG,bo,pF,di⟩:=iD ae be d7 d8;have Xq:=bZ uH.out;obtain ⟨dj,dk,dl,dm,lJ,dp,bp,bq⟩:=iq d2 d1 d4 d3 d6 d5 ab fA;obtain ⟨br,bs⟩:=gy a5 dL;have eb:=jc uI.out;obtain ⟨nN,iO,eo⟩:=Kd.dN um.out;subst eo))
 (try simp only [fM])
 (try clear cq bj b6 b8 db dk cp b0 b1 b3 de dm bi az al an dg dp b5 b2 am bm bq b7 b4 ao bo bs da dd df bl fG pF dj dl lJ bp br di)
 (try clear e9)
 (try clear ea)
 (try clear Xq)
 (try clear eb)
 (try clear Xq)
 obtain ⟨H⟩:=e8;revert H;refine eU (fun lC H=>?_) fun lC H=>?_
 ·have fE:=fU lC;have ec:=fV lC;clear lC;try simp only [aV,aZ,fE]
  obtain ⟨ed,fc,H⟩:=bd_ H;simp only [gV] at H
  obtain ⟨rfl,rfl,rfl,rfl,rfl,rfl⟩:=H;try go_wp2
  have dH:aA (Kd.V aS 43 ((((((bu.setCell ⟨qm,0,none⟩ (.slice kG oV.length kH)).setCell ⟨dY,0,none⟩ (ah qo)).setCell ⟨dY,1,none⟩ (.string qE)).setCell ⟨dY,2,none⟩ (ah qF)).setCell ⟨dY,3,none⟩ (.bool qG)).setCell ⟨dY,4,none⟩ (.slice nN oK.length iO)) w.heap.size (fun ak=>some ak≠(.slice nN oK.length iO:Value).ownBlock∧ak≠cf∧ak≠bh∧ak≠ci∧ak≠ap∧ak≠af∧ak≠qm∧ak≠dY) (.slice kG oV.length kH) oV):=⟨adR⟩;have ng:aA (Kd.R Kd.string 9 ((((((bu.setCell ⟨qm,0,none⟩ (.slice kG oV.length kH)).setCell ⟨dY,0,none⟩ (ah qo)).setCell ⟨dY,1,none⟩ (.string qE)).setCell ⟨dY,2,none⟩ (ah qF)).setCell ⟨dY,3,none⟩ (.bool qG)).setCell ⟨dY,4,none⟩ (.slice nN oK.length iO)) w.heap.size (fun _=>True) (.slice nN oK.length iO) oK):=⟨ac9⟩;have ni:aA (((((((bu.setCell ⟨qm,0,none⟩ (.slice kG oV.length kH)).setCell ⟨dY,0,none⟩ (ah qo)).setCell ⟨dY,1,none⟩ (.string qE)).setCell ⟨dY,2,none⟩ (ah qF)).setCell ⟨dY,3,none⟩ (.bool qG)).setCell ⟨dY,4,none⟩ (.slice nN oK.length iO)).heap[cf]?=some (.cells #[ah cl,ah cm,ah cn,ah co] 25)):=⟨bf⟩;have ny:aA (((((((bu.setCell ⟨qm,0,none⟩ (.slice kG oV.length kH)).setCell ⟨dY,0,none⟩ (ah qo)).setCell ⟨dY,1,none⟩ (.string qE)).setCell ⟨dY,2,none⟩ (ah qF)).setCell ⟨dY,3,none⟩ (.bool qG)).setCell ⟨dY,4,none⟩ (.slice nN oK.length iO)).heap[bh]?=some (.cells #[.slice bv bg.length bw] 28)):=⟨bf⟩;have nC:aA (((((((bu.setCell ⟨qm,0,none⟩ (.slice kG oV.length kH)).setCell ⟨dY,0,none⟩ (ah qo)).setCell ⟨dY,1,none⟩ (.string qE)).setCell ⟨dY,2,none⟩ (ah qF)).setCell ⟨dY,3,none⟩ (.bool qG)).setCell ⟨dY,4,none⟩ (.slice nN oK.length iO)).heap[ci]?=some (.cells #[ah bx,.string bz,.string ca,ah cc,ah cd,.string ce] 45)):=⟨bf⟩;have nD:aA (((((((bu.setCell ⟨qm,0,none⟩ (.slice kG oV.length kH)).setCell ⟨dY,0,none⟩ (ah qo)).setCell ⟨dY,1,none⟩ (.string qE)).setCell ⟨dY,2,none⟩ (ah qF)).setCell ⟨dY,3,none⟩ (.bool qG)).setCell ⟨dY,4,none⟩ (.slice nN oK.length iO)).heap[ap]?=some (.cells #[.slice none 0 0] 28)):=⟨bf⟩;have pX:aA (((((((bu.setCell ⟨qm,0,none⟩ (.slice kG oV.length kH)).setCell ⟨dY,0,none⟩ (ah qo)).setCell ⟨dY,1,none⟩ (.string qE)).setCell ⟨dY,2,none⟩ (ah qF)).setCell ⟨dY,3,none⟩ (.bool qG)).setCell ⟨dY,4,none⟩ (.slice nN oK.length iO)).heap[af]?=some (.cells #[ah 0,.string (⟨#[]⟩:ByteArray),ah 0,.bool false,.slice none 0 0] 49)):=⟨bf⟩;have tC:aA (((((((bu.setCell ⟨qm,0,none⟩ (.slice kG oV.length kH)).setCell ⟨dY,0,none⟩ (ah qo)).setCell ⟨dY,1,none⟩ (.string qE)).setCell ⟨dY,2,none⟩ (ah qF)).setCell ⟨dY,3,none⟩ (.bool qG)).setCell ⟨dY,4,none⟩ (.slice nN oK.length iO)).heap[qm]?=some (.cells #[.slice kG oV.length kH] 28)):=⟨bf⟩
  have Az:aA (((((((bu.setCell ⟨qm,0,none⟩ (.slice kG oV.length kH)).setCell ⟨dY,0,none⟩ (ah qo)).setCell ⟨dY,1,none⟩ (.string qE)).setCell ⟨dY,2,none⟩ (ah qF)).setCell ⟨dY,3,none⟩ (.bool qG)).setCell ⟨dY,4,none⟩ (.slice nN oK.length iO)).heap[dY]?=some (.cells #[ah qo,.string qE,ah qF,.bool qG,.slice nN oK.length iO] 49)):=⟨bf⟩;have AA:aA (Below w.heap.size w ((((((bu.setCell ⟨qm,0,none⟩ (.slice kG oV.length kH)).setCell ⟨dY,0,none⟩ (ah qo)).setCell ⟨dY,1,none⟩ (.string qE)).setCell ⟨dY,2,none⟩ (ah qF)).setCell ⟨dY,3,none⟩ (.bool qG)).setCell ⟨dY,4,none⟩ (.slice nN oK.length iO))):=⟨ay⟩;(try clear uU)
  (try clear um)
  (try clear a8)
  (try clear a7)
  (try clear aa)
  (try clear a9)
  (try clear a6)
  (try clear uH)
  (try clear uI)
  (try clear HB)
  generalize ((((((bu.setCell ⟨qm,0,none⟩ (.slice kG oV.length kH)).setCell ⟨dY,0,none⟩ (ah qo)).setCell ⟨dY,1,none⟩ (.string qE)).setCell ⟨dY,2,none⟩ (ah qF)).setCell ⟨dY,3,none⟩ (.bool qG)).setCell ⟨dY,4,none⟩ (.slice nN oK.length iO))=fd at dH ng ni ny nC nD pX tC Az AA ⊢;have uU:=dH;have um:=ng;have a8:=ni;have a7:=ny;have aa:=nC;have a9:=nD;have a6:=pX;have uH:=tC;have uI:=Az;have HB:=AA;clear dH ng ni ny nC nD pX tC Az AA;obtain ⟨uU,um,a8,a7,aa,a9,a6,uH,uI,HB⟩:=p_ (Kd.oN uU.out) <| p_ (Kd.bH um.out) <| Y8 a8 a7 aa a9 a6 uH uI HB;refine iU (n:=5) (S:=fun w'=>jE w' qm (.slice kG oV.length kH) <| Xv w' dY (ah qo) (.string qE) (ah qF) (.bool qG) (.slice nN oK.length iO)) (ds:=[]) EL aC rfl rfl ⟨(aQ uH.out 0).trans rfl,N7 uI.out⟩ (fun hH=>?_);generalize fd.drew=fl at uU um a8 a7 aa a9 a6 uH uI HB hH ⊢;refine qX (i:=0) (N:=some 32) (v:=?_) (a':=?_) #[aj,F_,F_,F_,F_] rfl rfl aC (fun _ _ _ h=>h) (Or.inl ⟨(by rfl),?_⟩) hH ?_ ?_;rotate_left
  ·rintro w' ⟨s0,s1,s2,s3,s4,s5⟩;go_simp
   with_reducible rfl
  rotate_left
  ·simp only [fM,aV,aZ]
   rfl
  refine qX (i:=2) (N:=some 34) (v:=?_) (a':=?_) #[aj,F_,aj,F_,F_] rfl rfl aC (fun _ _ _ h=>h) (Or.inl ⟨(by rfl),?_⟩) hH ?_ ?_;rotate_left
  ·rintro w' ⟨s0,s1,s2,s3,s4,s5⟩;go_simp
   with_reducible rfl
  rotate_left
  ·simp only [fM,aV,aZ]
   rfl
  refine iy (i:=1) (N:=some 33) He rfl rfl aC (by decide) (fun K hK=>?_);refine jw func45 aC rfl #[.agg #[.slice kG oV.length kH]] (by rfl) rfl rfl bJ ?_
  with_reducible refine (wF.calls _ _ oV ed _ ?jW ((Kd.wP uU.out).2.1) fc.out).mono ?_
  (case jW=>repeat (first|exact (Kd.wP uU.out).2.2|(with_reducible refine Kd.kM ?_ _)|(with_reducible refine Kd.kR ?_ _)|(with_reducible refine Kd.kQ ?_)))
  rintro e dx ⟨aC',rfl,ho0,hb⟩;refine ⟨_,rfl,?_⟩;obtain ⟨uU,um,du,a8,a7,aa,a9,a6,uH,uI,HB⟩:=p_ (Kd.ED QA (Kd.iY ho0) hb) <| p_ (Kd.bG (aN um) hb) <| p_ (Kd.dR ho0 (bU ay)) <| Y0 (au a8) (au a7) (au aa) (au a9) (au a6) (au uH) (au uI) ay hb;(try clear hb)
  (try clear ho0)
  obtain ⟨ep,eq,ee⟩:=Kd.dN du.out;(first|subst ee|(injection ee with eu iE eF;have iJ:=eu.symm;have iK:=eF.symm;clear eu iE eF;subst iJ;subst iK))
  refine hK.out _ _ ⟨(aQ uH.out 0).trans rfl,N7 uI.out⟩ (fun hH=>?_);clear hK K;refine gY (some 33) ?_;refine iy (i:=3) (N:=none) EM rfl rfl aC (by decide) (fun K hK=>?_);have aBX:dx.cell? ⟨ap,0,none⟩=some (.slice none 0 0):=(aQ a9.out 0).trans rfl;have av3:=cZ a9.out 0;obtain ⟨b6,b1,al,ct,bl,bp,b5,b2⟩:=iq aq ag aK bc bD ab ar aT;obtain ⟨am,cr,bm,bq⟩:=iD ai bb bd fA;refine jD (w1:=?_) (by rfl) rfl ?_ ?_;rotate_left
  ·go_simp
   rfl
  refine hK.out _ _ ⟨(aG bD hH.1),(aG ab hH.2.1),(aG ab hH.2.2.1),(aG ab hH.2.2.2.1),(aG ab hH.2.2.2.2.1),(aG ab hH.2.2.2.2.2)⟩ (fun hH=>?_);clear hK K;refine iy (i:=4) (N:=none) EN rfl rfl aC (by decide) (fun K hK=>?_);have aBY:dx.cell? ⟨af,0,none⟩=some (ah 0):=(aQ a6.out 0).trans rfl;have av4:=cZ a6.out 0;obtain ⟨b8,b3,an,fG,br,b7,b4,ao⟩:=iq av ac aH ae a5 aw ax aO;obtain ⟨bo,bs⟩:=gy be dL;have aBZ:dx.cell? ⟨af,1,none⟩=some (.string (⟨#[]⟩:ByteArray)):=(aQ a6.out 1).trans rfl;have av5:=cZ a6.out 1;have aB0:dx.cell? ⟨af,2,none⟩=some (ah 0):=(aQ a6.out 2).trans rfl;have av6:=cZ a6.out 2;have aB1:dx.cell? ⟨af,3,none⟩=some (.bool false):=(aQ a6.out 3).trans rfl;have av7:=cZ a6.out 3;have aB2:dx.cell? ⟨af,4,none⟩=some (.slice none 0 0):=(aQ a6.out 4).trans rfl;have av8:=cZ a6.out 4;refine jD (w1:=?_) (by rfl) rfl ?_ ?_;rotate_left
  ·go_simp
   rfl
  refine hK.out _ _ ⟨(aG ae (aG ae (aG ae (aG ae (aG ae hH.1))))),(aG a5 (aG a5 (aG a5 (aG a5 (aG a5 hH.2.1))))),(aG a5 (aG a5 (aG a5 (aG a5 (aG a5 hH.2.2.1))))),(aG a5 (aG a5 (aG a5 (aG a5 (aG a5 hH.2.2.2.1))))),(aG a5 (aG a5 (aG a5 (aG a5 (aG a5 hH.2.2.2.2.1))))),(aG a5 (aG a5 (aG a5 (aG a5 (aG a5 hH.2.2.2.2.2)))))⟩ (fun hH=>?_);clear hK K;refine jd aC ?_;try go_wp2
  refine bodyPost_ret (jq rfl _ _ ap af 28 49 #[.slice ep ed.length eq] #[ah qo,.string qE,ah qF,.bool qG,.slice nN oK.length iO] (0,0) (0,0) _ _ rfl bf underlying28 rfl aC rfl bf underlying49 rfl aC) rfl ?_;exact ⟨_,_,bK,(by (with_reducible repeat (first|apply Kd.bW|apply Kd.bY|apply Kd.bH));exact Kd.bF (aJ (aJ (aJ (aJ (aJ (aJ (Kd.bV (Kd.bV du.out a9.out (by decide)) a6.out (by decide)) (fun _ hk=>hk.1.2))))))) (fun _ hk=>trivial)),(by (with_reducible repeat (first|apply Kd.bW|apply Kd.bY|apply Kd.bH));exact Kd.bF (aJ (aJ (aJ (aJ (aJ (aJ (Kd.bV (Kd.bV um.out a9.out (by decide)) a6.out (by decide)) (fun _ hk=>hk.1.2))))))) (fun _ hk=>trivial)),ay⟩
 have fE:=fZ lC;have ec:=f_ lC;try simp only [aV,aZ,fE]
 obtain ⟨ef,fe,H⟩:=bd_ H;simp only [gV] at H
 obtain ⟨rfl,rfl,rfl,rfl,rfl,rfl⟩:=H;try go_wp2
 have dH:aA (Kd.V aS 43 ((((((bu.setCell ⟨qm,0,none⟩ (.slice kG oV.length kH)).setCell ⟨dY,0,none⟩ (ah qo)).setCell ⟨dY,1,none⟩ (.string qE)).setCell ⟨dY,2,none⟩ (ah qF)).setCell ⟨dY,3,none⟩ (.bool qG)).setCell ⟨dY,4,none⟩ (.slice nN oK.length iO)) w.heap.size (fun ak=>some ak≠(.slice nN oK.length iO:Value).ownBlock∧ak≠cf∧ak≠bh∧ak≠ci∧ak≠ap∧ak≠af∧ak≠qm∧ak≠dY) (.slice kG oV.length kH) oV):=⟨adR⟩;have ng:aA (Kd.R Kd.string 9 ((((((bu.setCell ⟨qm,0,none⟩ (.slice kG oV.length kH)).setCell ⟨dY,0,none⟩ (ah qo)).setCell ⟨dY,1,none⟩ (.string qE)).setCell ⟨dY,2,none⟩ (ah qF)).setCell ⟨dY,3,none⟩ (.bool qG)).setCell ⟨dY,4,none⟩ (.slice nN oK.length iO)) w.heap.size (fun _=>True) (.slice nN oK.length iO) oK):=⟨ac9⟩;have ni:aA (((((((bu.setCell ⟨qm,0,none⟩ (.slice kG oV.length kH)).setCell ⟨dY,0,none⟩ (ah qo)).setCell ⟨dY,1,none⟩ (.string qE)).setCell ⟨dY,2,none⟩ (ah qF)).setCell ⟨dY,3,none⟩ (.bool qG)).setCell ⟨dY,4,none⟩ (.slice nN oK.length iO)).heap[cf]?=some (.cells #[ah cl,ah cm,ah cn,ah co] 25)):=⟨bf⟩;have ny:aA (((((((bu.setCell ⟨qm,0,none⟩ (.slice kG oV.length kH)).setCell ⟨dY,0,none⟩ (ah qo)).setCell ⟨dY,1,none⟩ (.string qE)).setCell ⟨dY,2,none⟩ (ah qF)).setCell ⟨dY,3,none⟩ (.bool qG)).setCell ⟨dY,4,none⟩ (.slice nN oK.length iO)).heap[bh]?=some (.cells #[.slice bv bg.length bw] 28)):=⟨bf⟩;have nC:aA (((((((bu.setCell ⟨qm,0,none⟩ (.slice kG oV.length kH)).setCell ⟨dY,0,none⟩ (ah qo)).setCell ⟨dY,1,none⟩ (.string qE)).setCell ⟨dY,2,none⟩ (ah qF)).setCell ⟨dY,3,none⟩ (.bool qG)).setCell ⟨dY,4,none⟩ (.slice nN oK.length iO)).heap[ci]?=some (.cells #[ah bx,.string bz,.string ca,ah cc,ah cd,.string ce] 45)):=⟨bf⟩;have nD:aA (((((((bu.setCell ⟨qm,0,none⟩ (.slice kG oV.length kH)).setCell ⟨dY,0,none⟩ (ah qo)).setCell ⟨dY,1,none⟩ (.string qE)).setCell ⟨dY,2,none⟩ (ah qF)).setCell ⟨dY,3,none⟩ (.bool qG)).setCell ⟨dY,4,none⟩ (.slice nN oK.length iO)).heap[ap]?=some (.cells #[.slice none 0 0] 28)):=⟨bf⟩;have pX:aA (((((((bu.setCell ⟨qm,0,none⟩ (.slice kG oV.length kH)).setCell ⟨dY,0,none⟩ (ah qo)).setCell ⟨dY,1,none⟩ (.string qE)).setCell ⟨dY,2,none⟩ (ah qF)).setCell ⟨dY,3,none⟩ (.bool qG)).setCell ⟨dY,4,none⟩ (.slice nN oK.length iO)).heap[af]?=some (.cells #[ah 0,.string (⟨#[]⟩:ByteArray),ah 0,.bool false,.slice none 0 0] 49)):=⟨bf⟩;have tC:aA (((((((bu.setCell ⟨qm,0,none⟩ (.slice kG oV.length kH)).setCell ⟨dY,0,none⟩ (ah qo)).setCell ⟨dY,1,none⟩ (.string qE)).setCell ⟨dY,2,none⟩ (ah qF)).setCell ⟨dY,3,none⟩ (.bool qG)).setCell ⟨dY,4,none⟩ (.slice nN oK.length iO)).heap[qm]?=some (.cells #[.slice kG oV.length kH] 28)):=⟨bf⟩
 have Az:aA (((((((bu.setCell ⟨qm,0,none⟩ (.slice kG oV.length kH)).setCell ⟨dY,0,none⟩ (ah qo)).setCell ⟨dY,1,none⟩ (.string qE)).setCell ⟨dY,2,none⟩ (ah qF)).setCell ⟨dY,3,none⟩ (.bool qG)).setCell ⟨dY,4,none⟩ (.slice nN oK.length iO)).heap[dY]?=some (.cells #[ah qo,.string qE,ah qF,.bool qG,.slice nN oK.length iO] 49)):=⟨bf⟩;have AA:aA (Below w.heap.size w ((((((bu.setCell ⟨qm,0,none⟩ (.slice kG oV.length kH)).setCell ⟨dY,0,none⟩ (ah qo)).setCell ⟨dY,1,none⟩ (.string qE)).setCell ⟨dY,2,none⟩ (ah qF)).setCell ⟨dY,3,none⟩ (.bool qG)).setCell ⟨dY,4,none⟩ (.slice nN oK.length iO))):=⟨ay⟩;(try clear uU)
 (try clear um)
 (try clear a8)
 (try clear a7)
 (try clear aa)
 (try clear a9)
 (try clear a6)
 (try clear uH)
 (try clear uI)
 (try clear HB)
 generalize ((((((bu.setCell ⟨qm,0,none⟩ (.slice kG oV.length kH)).setCell ⟨dY,0,none⟩ (ah qo)).setCell ⟨dY,1,none⟩ (.string qE)).setCell ⟨dY,2,none⟩ (ah qF)).setCell ⟨dY,3,none⟩ (.bool qG)).setCell ⟨dY,4,none⟩ (.slice nN oK.length iO))=ff at dH ng ni ny nC nD pX tC Az AA ⊢;have uU:=dH;have um:=ng;have a8:=ni;have a7:=ny;have aa:=nC;have a9:=nD;have a6:=pX;have uH:=tC;have uI:=Az;have HB:=AA;clear dH ng ni ny nC nD pX tC Az AA;obtain ⟨uU,um,a8,a7,aa,a9,a6,uH,uI,HB⟩:=p_ (Kd.oN uU.out) <| p_ (Kd.bH um.out) <| Y8 a8 a7 aa a9 a6 uH uI HB;refine iU (n:=7) (S:=fun w'=>jE w' bh (.slice bv bg.length bw) <| Xv w' dY (ah qo) (.string qE) (ah qF) (.bool qG) (.slice nN oK.length iO)) (ds:=[]) N9 aC rfl rfl ⟨(aQ a7.out 0).trans rfl,N7 uI.out⟩ (fun hH=>?_);generalize ff.drew=fm at uU um a8 a7 aa a9 a6 uH uI HB hH ⊢;refine uF (i:=2) (N:=some 29) #[F_,F_,aj,F_,F_,F_,F_] aC ?_;refine qX (i:=0) (N:=some 27) (v:=?_) (a':=?_) #[aj,F_,aj,F_,F_,F_,F_] rfl rfl aC (fun _ _ _ h=>h) (Or.inl ⟨(by rfl),?_⟩) hH ?_ ?_;rotate_left
 ·rintro w' ⟨s0,s1,s2,s3,s4,s5⟩;go_simp
  with_reducible rfl
 rotate_left
 ·simp only [fM,aV,aZ]
  rfl
 refine qX (i:=3) (N:=some 30) (v:=?_) (a':=?_) #[aj,F_,aj,aj,F_,F_,F_] rfl rfl aC (fun _ _ _ h=>h) (Or.inl ⟨(by rfl),?_⟩) hH ?_ ?_;rotate_left
 ·rintro w' ⟨s0,s1,s2,s3,s4,s5⟩;go_simp
  with_reducible rfl
 rotate_left
 ·simp only [fM,aV,aZ]
  rfl
 refine uF (i:=4) (N:=some 31) #[aj,F_,aj,aj,aj,F_,F_] aC ?_;refine iy (i:=1) (N:=some 28) N_ rfl rfl aC (by decide) (fun K hK=>?_);refine jw func45 aC rfl #[.agg #[.slice bv bg.length bw]] (by rfl) rfl rfl bJ ?_
 with_reducible refine (wF.calls _ _ bg ef _ pK d9.out fe.out).mono ?_
 rintro e dy ⟨aDa,rfl,ho0,hb⟩;refine ⟨_,rfl,?_⟩;obtain ⟨uU,um,dv,a8,a7,aa,a9,a6,uH,uI,HB⟩:=p_ (Kd.ED QA (Kd.iY ho0) hb) <| p_ (Kd.bG (aN um) hb) <| p_ (Kd.dR ho0 (bU ay)) <| Y0 (au a8) (au a7) (au aa) (au a9) (au a6) (au uH) (au uI) ay hb;(try clear hb)
 (try clear ho0)
 obtain ⟨er,es,eh⟩:=Kd.dN dv.out;(first|subst eh|(injection eh with eu iE eF;have iJ:=eu.symm;have iK:=eF.symm;clear eu iE eF;subst iJ;subst iK))
 refine hK.out _ _ ⟨(aQ a7.out 0).trans rfl,N7 uI.out⟩ (fun hH=>?_);clear hK K;refine gY (some 28) ?_;refine iy (i:=5) (N:=none) Oa rfl rfl aC (by decide) (fun K hK=>?_);have aB3:dy.cell? ⟨ap,0,none⟩=some (.slice none 0 0):=(aQ a9.out 0).trans rfl;have av9:=cZ a9.out 0;obtain ⟨b6,b1,al,ct,bl,bp,b5,b2⟩:=iq aq ag aK bc bD ab ar aT;obtain ⟨am,cr,bm,bq⟩:=iD ai bb bd fA;refine jD (w1:=?_) (by rfl) rfl ?_ ?_;rotate_left
 ·go_simp
  rfl
 refine hK.out _ _ ⟨(aG ag hH.1),(aG ab hH.2.1),(aG ab hH.2.2.1),(aG ab hH.2.2.2.1),(aG ab hH.2.2.2.2.1),(aG ab hH.2.2.2.2.2)⟩ (fun hH=>?_);clear hK K;refine iy (i:=6) (N:=none) Ob rfl rfl aC (by decide) (fun K hK=>?_);have aB4:dy.cell? ⟨af,0,none⟩=some (ah 0):=(aQ a6.out 0).trans rfl;have av_:=cZ a6.out 0;obtain ⟨b8,b3,an,fG,br,b7,b4,ao⟩:=iq av ac aH ae a5 aw ax aO;obtain ⟨bo,bs⟩:=gy be dL;have aB5:dy.cell? ⟨af,1,none⟩=some (.string (⟨#[]⟩:ByteArray)):=(aQ a6.out 1).trans rfl;have av':=cZ a6.out 1;have alI:dy.cell? ⟨af,2,none⟩=some (ah 0):=(aQ a6.out 2).trans rfl;have aja:=cZ a6.out 2;have alJ:dy.cell? ⟨af,3,none⟩=some (.bool false):=(aQ a6.out 3).trans rfl;have ajb:=cZ a6.out 3;have alK:dy.cell? ⟨af,4,none⟩=some (.slice none 0 0):=(aQ a6.out 4).trans rfl;have ajc:=cZ a6.out 4;refine jD (w1:=?_) (by rfl) rfl ?_ ?_;rotate_left
 ·go_simp
  rfl
 refine hK.out _ _ ⟨(aG ac (aG ac (aG ac (aG ac (aG ac hH.1))))),(aG a5 (aG a5 (aG a5 (aG a5 (aG a5 hH.2.1))))),(aG a5 (aG a5 (aG a5 (aG a5 (aG a5 hH.2.2.1))))),(aG a5 (aG a5 (aG a5 (aG a5 (aG a5 hH.2.2.2.1))))),(aG a5 (aG a5 (aG a5 (aG a5 (aG a5 hH.2.2.2.2.1))))),(aG a5 (aG a5 (aG a5 (aG a5 (aG a5 hH.2.2.2.2.2)))))⟩ (fun hH=>?_);clear hK K;refine jd aC ?_;try go_wp2
 refine bodyPost_ret (jq rfl _ _ ap af 28 49 #[.slice er ef.length es] #[ah qo,.string (⟨#[]⟩:ByteArray),ah 0,.bool false,.slice none 0 0] (0,0) (0,0) _ _ rfl bf underlying28 rfl aC rfl bf underlying49 rfl aC) rfl ?_;exact ⟨_,_,bK,(by (with_reducible repeat (first|apply Kd.bW|apply Kd.bY|apply Kd.bH));exact Kd.bF (aJ (aJ (aJ (aJ (aJ (aJ (Kd.bV (Kd.bV dv.out a9.out (by decide)) a6.out (by decide)) (fun _ hk=>hk.1.2))))))) (fun _ hk=>trivial)),lH,ay⟩

def FT.f (a5:ByteArray) (a7:Bool) (a6:ByteArray) (a1:Int):Option (Int):=if (wrap64 (a1 - (a5.size:Int))) < 0 then (some (-1)) else (if (wrap64 ((wrap64 (a1 - (a5.size:Int))) - (a6.size:Int))) < 0 then (some (-1)) else (some (wrap64 ((wrap64 (a1 - (a5.size:Int))) - (a6.size:Int)))))
theorem FT.calls (a5:ByteArray) (aa:Bool) (a8:ByteArray) (a1:Int) (r:Int) (w:World) (h:FT.f a5 aa a8 a1=some r) :
  Calls Tryz.prog 122 #[.agg #[.string a5,.bool aa,.string a8],ah a1] w fun e w'=>e=.returned (ah r)∧Below w.heap.size w w':=by
 have VH:=underlying120;have HB:=m_ (Below.refl w.heap.size w);unfold FT.f at h
 have H:=h;clear h;have ab:=m_ H;clear H;go_enter func122,ntmps122
 go_upto_if 11 with (first|((with_reducible refine dJ 2 ?_);refine dO 2 (cs:=#[.string a5,.bool aa,.string a8]) 120 ?_;intro ac hg w4 hbox hb;obtain ⟨HB,a9,ae,af⟩:=jR ay hb hbox hg;clear hb hbox hg;have aK:=qj a9.out))
 (try simp only [fM])
 (try clear aK)
 obtain ⟨H⟩:=ab;revert H;refine fB (fun a6 H=>?_) fun a6 H=>?_
 ·try simp only [aV,aZ,a6]
  obtain rfl:=bQ H;go_wp2
  go_ret
  exact ⟨bK,ay⟩
 try simp only [aV,aZ,a6]
 have ag:=m_ H;clear H;have ai:=qj a9.out;go_upto_if 18 with (fail)
 (try clear ai)
 obtain ⟨H⟩:=ag;revert H;refine fB (fun a7 H=>?_) fun a7 H=>?_
 ·try simp only [aV,aZ,a7]
  obtain rfl:=bQ H;go_wp2
  go_ret
  exact ⟨bK,ay⟩
 try simp only [aV,aZ,a7]
 obtain rfl:=bQ H;go_wp2
 go_ret
 exact ⟨bK,ay⟩

def xk.l0:Nat→List (nY)→Int→Int→Option (Int)
 | 0,_,_,_=>none
 | k+1,x0,x1,x5=>if x5 < (x0.length:Int) then (if 0≤x5 then ((FT.f ((tZ x0 x5).f0) ((tZ x0 x5).f1) ((tZ x0 x5).f2) x1).bind fun a5=>(if a5 < 0 then (some (-1)) else (xk.l0 k x0 a5 (wrap64 (x5+1))))) else (none)) else (some x1)
def xk.f (k:Nat) (l0:List (nY)) (a1:Int):Option (Int):=if (wrap64 (a1 - (l0.length:Int))) < 0 then (some (-1)) else (xk.l0 k l0 (wrap64 (a1 - (l0.length:Int))) 0)
theorem xk.calls (k:Nat) (A0:Option Addr) (c0:Nat) (l0:List (nY)) (a1:Int) (r:Int) (w:World) (hr0:Kd.C DL w A0 l0.length l0) (hc0:l0.length≤c0) (h:xk.f k l0 a1=some r) :
  Calls Tryz.prog 72 #[.slice A0 l0.length c0,ah a1] w fun e w'=>e=.returned (ah r)∧Below w.heap.size w w':=by
 have VH:=underlying120;have HR0:=m_ hr0;have al:=m_ hc0;clear hr0 hc0;have HB:=m_ (Below.refl w.heap.size w);unfold xk.f at h
 have H:=h;clear h;revert H;refine fB (fun af H=>?_) fun af H=>?_
 ·obtain rfl:=bQ H;go_enter func72,ntmps72
  go_wp2
  go_ret
  exact ⟨bK,ay⟩
 have H':=m_ H;clear H;go_enter func72,ntmps72
 go_wp2
 go_loopg [1,5] k (fun kq v1 v5 w'=>∃ (a9:Int) (a5:Int),v1=ah a9∧v5=ah a5∧aA (xk.l0 kq l0 a9 a5=some r)∧aA (kq≤k)∧aA (Below w.heap.size w w'))
 case atStart=>exact ⟨(wrap64 (a1 - (l0.length:Int))),(0),bC,bC,H',⟨Nat.le_refl _⟩,⟨ay⟩⟩
 case round =>
 clear H';try clear c3;try clear af
 obtain ⟨a9,a5,rfl,rfl,HA,gG,HB⟩:=hrel;cases gk with
 | zero=>exact absurd HA.out (by simp [xk.l0])
 | succ k1 =>
 obtain ⟨H⟩:=HA;simp only [xk.l0] at H
 revert H;refine fB (fun ag H=>?_) fun ag H=>?_;rotate_left
 ·obtain rfl:=bQ H;go_wp2
  go_ret
  exact ⟨bK,ay⟩
 obtain ⟨aO,H⟩:=gI H;obtain ⟨ab,A6,H⟩:=bd_ H;have ai:=m_ H;clear H;have ac:0≤(a5:Int):=aX aY;have ae:a5 < (l0.length:Int):=aX aY;obtain ⟨aH,aK,a6,a7,a8⟩:=X5 HR0.out a5 ac ae;cases aK;replace a6:=fF HB.out a6;replace a7:=fF HB.out a7;replace a8:=fF HB.out a8;replace ac:=eq_true ac;replace ae:=eq_true ae;go_upto_if 25 with (first|((with_reducible refine cu 122 ?_);refine cO (some 23) rfl rfl func122 aC rfl #[.agg #[.string ((tZ l0 a5).f0),.bool ((tZ l0 a5).f1),.string ((tZ l0 a5).f2)],ah a9] rfl bJ ?_;(with_reducible refine (FT.calls ((tZ l0 a5).f0) ((tZ l0 a5).f1) ((tZ l0 a5).f2) a9 ab _ A6.out).mono ?_);rintro e w8 ⟨rfl,hb⟩;refine ⟨_,rfl,?_⟩;have dH:=m_ (dV ay hb);clear HB;have HB:=dH;clear dH;(try clear hb)))
 (try simp only [fM])
 (try clear a6 a7 a8)
 obtain ⟨H⟩:=ai;revert H;refine fB (fun aa H=>?_) fun aa H=>?_
 ·try simp only [aV,aZ,aa]
  obtain rfl:=bQ H;go_wp2
  go_ret
  exact ⟨bK,ay⟩
 try simp only [aV,aZ,aa]
 have H':=m_ H;clear H;go_wp2
 go_roundg k1
 case measure=>have:=gG.out;omega
 case rel=>exact ⟨(ab),(wrap64 (a5+1)),bC,bC,H',⟨oz⟩,⟨ay⟩⟩

def FU.f (k:Nat) (a6:List (nY)) (a1:Int):Option (Int):=(xk.f k a6 a1).bind fun a5=>(if a5 < 0 then (some (-1)) else (some a5))
theorem FU.calls (k:Nat) (a7:Option Addr) (a8:Nat) (aI:List (nY)) (a1:Int) (r:Int) (w:World) (a9:Kd.C DL w a7 aI.length aI) (aa:aI.length≤a8) (h:FU.f k aI a1=some r) :
  Calls Tryz.prog 27 #[.agg #[.slice a7 aI.length a8],ah a1] w fun e w'=>e=.returned (ah r)∧Below w.heap.size w w':=by
 have aaU:=underlying57;have lg:=m_ a9;have ab:=m_ aa;clear a9 aa;have HB:=m_ (Below.refl w.heap.size w);unfold FU.f at h
 have H:=h;clear h;obtain ⟨ac,A3,H⟩:=bd_ H;have ae:=m_ H;clear H;go_enter func27,ntmps27
 go_upto_if 10 with (first|((with_reducible refine dJ 2 ?_);refine dO 2 (cs:=#[.slice a7 aI.length a8]) 57 ?_;intro af hg w5 hbox hb;obtain ⟨HB,a5,ag,aK⟩:=jR ay hb hbox hg;clear hb hbox hg;have J_:=bZ a5.out)|((with_reducible refine cu 72 ?_);refine cO (some 8) rfl rfl func72 aC rfl #[.slice a7 aI.length a8,ah a1] rfl bJ ?_;(with_reducible refine (xk.calls k _ _ aI a1 ac _ qp ab.out A3.out).mono ?_);rintro e w7 ⟨rfl,hb⟩;refine ⟨_,rfl,?_⟩;obtain ⟨a5,HB⟩:=qA (au a5) ay hb;(try clear hb)))
 (try simp only [fM])
 (try clear J_)
 obtain ⟨H⟩:=ae;revert H;refine fB (fun a6 H=>?_) fun a6 H=>?_
 ·try simp only [aV,aZ,a6]
  obtain rfl:=bQ H;go_wp2
  go_ret
  exact ⟨bK,ay⟩
 try simp only [aV,aZ,a6]
 obtain rfl:=bQ H;go_wp2
 go_ret
 exact ⟨bK,ay⟩

end Go.Proofs.YthejdhjpbpamoaaGreatDoor.pU
