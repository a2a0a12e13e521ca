/- Contracts of Go functions: each call returns what the Lean function beside it computes. Conditions: as each theorem states them. -/
import Derived.Test.YthejdhjpbpamoaaGreatDoorPkFnMoves
import Derived.Test.YthejdhjpbpamoaaGreatDoorPFnMovesx1
import Derived.Test.YthejdhjpbpamoaaGreatDoorPFnMovesx3
import Derived.Test.YthejdhjpbpamoaaGreatDoorPFnMovesx4
import Derived.Test.YthejdhjpbpamoaaGreatDoorPFnMovesx6
import Derived.Test.YthejdhjpbpamoaaGreatDoorPFnMovesx7
namespace Go.Proofs.YthejdhjpbpamoaaGreatDoor.jM
open Go.RowKit Go.Proofs.YthejdhjpbpamoaaGreatDoorW.iK Go.Proofs.YthejdhjpbpamoaaGreatDoorW.lX Go.Proofs.YthejdhjpbpamoaaGreatDoorW.oV Go.Proofs.Tryz
attribute [local go_sem] qI qM qL qP qK qO qJ qN   -- for this text's walks alone
set_option linter.unusedVariables false
set_option maxHeartbeats 8000000
set_option maxRecDepth 100000
set_option linter.unusedSimpArgs false

def oI.j0:Nat→Int→Bool→List (aC)→Int→ByteArray→ByteArray→Int→Int→ByteArray→List (aC)→Option ((List (aC)) × Int × ByteArray × Int × Bool × List ByteArray)
 | 0,_,_,_,_,_,_,_,_,_,_=>none
 | k+1,x7,ag,a6,aa,a7,a8,ab,ac,ae,a9=>if ag=true then ((lU.f x7).bind fun a5=>(some (a9,a5.1,a5.2.1,a5.2.2.1,a5.2.2.2.1,a5.2.2.2.2))) else ((iV.f k a6 a7 a8).bind fun af=>(some (af,0,(⟨#[]⟩:ByteArray),0,false,([]:List ByteArray))))
def oI.f (k:Nat) (a9:List (aC)) (ac:Int) (a7:ByteArray) (a8:ByteArray) (ae:Int) (af:Int) (ag:ByteArray):Option ((List (aC)) × Int × ByteArray × Int × Bool × List ByteArray):=(pY.f a9).bind fun aa=>(if a7.toList=([47]:List UInt8) then ((lU.f 9).bind fun a5=>(some (aa,a5.1,a5.2.1,a5.2.2.1,a5.2.2.2.1,a5.2.2.2.2))) else ((oH.f k a8 a7).bind fun aP=>(if aP=true then ((lU.f 11).bind fun a6=>(some (aa,a6.1,a6.2.1,a6.2.2.1,a6.2.2.2.1,a6.2.2.2.2))) else ((xU.f k a9 a8).bind fun ab=>(if ab=0 then (oI.j0 k ab false a9 ac a7 a8 ae af ag aa) else (if ab=7 then ((uK.f k a8).bind fun ai=>((uK.f k a7).bind fun aN=>(oI.j0 k ab (ai.toList != aN.toList) a9 ac a7 a8 ae af ag aa))) else (oI.j0 k ab true a9 ac a7 a8 ae af ag aa)))))))
def oI.T7:Bool × List (List Nat × List Nat):=(true,[([],[]),([0],[0]),([1],[1]),([2],[2]),([3,2],[2,3]),([4,2,2],[2,4]),([5],[5]),([6,5],[5,6]),([7,5,5],[5,7]),([5],[5]),([9,5],[5,9]),([10,8,5],[5,10]),([8,11,5],[5,8,11]),([5,12,2],[2,5,12]),([2,13],[2,13])])
def oI.B7:List Nat:=[0,1,3,7,15,31,63,127,255,63,575,2047,4095,8191,16383]
theorem oI.Az:kZ .any (opsOf Tryz.f78 7)=oI.T7:=by kernel_rfl
theorem oI.zN:sF oI.T7.2 oI.B7=true:=by kernel_rfl
theorem oI.calls (k:Nat) (fK:Option Addr) (bo:Nat) (aH:List (aC)) (fH:Int) (fG:ByteArray) (fE:ByteArray) (bq:Int) (br:Int) (bs:ByteArray) (r1:List (aC)) (r2:Int) (r3:ByteArray) (r4:Int) (r5:Bool) (r6:List ByteArray) (w:World) (cc:Kd.C bF w fK aH.length aH) (cd:aH.length≤bo) (h:oI.f k aH fH fG fE bq br bs=some (r1,r2,r3,r4,r5,r6)) :
  Calls Tryz.prog 78 #[.agg #[.slice fK aH.length bo],.agg #[ah fH,.string fG,.string fE,ah bq,ah br,.string bs]] w fun e w'=>∃ gQ y5:Value,e=.returned (.tuple #[.agg #[gQ],.agg #[ah r2,.string r3,ah r4,.bool r5,y5]])∧Kd.R bF 43 w' w.heap.size (fun _=>True) gQ r1∧Kd.R Kd.string 9 w' w.heap.size (fun _=>True) y5 r6∧Below w.heap.size w w':=by
 have oq:=underlying28
 have Hy:=underlying45
 have JL:=underlying49
 have lF:=m_ cc
 have bz:=m_ cd
 clear cc cd
 have HB:=m_ (Below.refl w.heap.size w)
 unfold oI.f at h
 have H:=h
 clear h
 obtain ⟨af,A3,H⟩:=bd_ H
 have e3:=m_ H
 clear H
 go_enter func78,ntmps78
 go_upto_if 12 with (first|((with_reducible refine dG 2 ?_);refine dU 2 (cs:=#[.slice fK aH.length bo]) 28 ?_;intro ca hg w5 hbox hb;obtain ⟨HB,a5,e4,e5⟩:=kE ay hb hbox hg;clear hb hbox hg)|((with_reducible refine dG 3 ?_);refine dU 3 (cs:=#[ah fH,.string fG,.string fE,ah bq,ah br,.string bs]) 45 ?_;intro b5 hg w6 hbox hb;obtain ⟨a5,HB,a6,e6,e7,be,fF⟩:=qj (aj a5) ay hb hbox hg;clear hb hbox hg)|((with_reducible refine dG 4 ?_);refine dU 4 (cs:=#[.slice none 0 0]) 28 ?_;intro b4 hg w7 hbox hb;obtain ⟨a5,a6,HB,jo,e8,e9,ax,dw,aP,ai⟩:=wu (aj a5) (aj a6) ay hb hbox hg;clear hb hbox hg)|((with_reducible refine dG 5 ?_);refine dU 5 (cs:=#[ah 0,.string (⟨#[]⟩:ByteArray),ah 0,.bool false,.slice none 0 0]) 49 ?_;intro aa hg w8 hbox hb;obtain ⟨a5,a6,jo,HB,ig,ea,eb,az,b0,aN,aT,b1,b2⟩:=yF (aj a5) (aj a6) (aj jo) ay hb hbox hg;clear hb hbox hg;obtain ⟨b6,b7,b8,b9,ba,bb⟩:=kL be fF ax dw az b0;have zF:=cu a5.out)|((with_reducible refine bU 73 ?_);refine bV (some 9) rfl rfl func73 aB rfl #[.agg #[.slice fK aH.length bo]] rfl aW ?_;(with_reducible refine (pY.calls _ _ aH af _ sD bz.out A3.out).mono ?_);rintro e er ⟨aiR,rfl,ho0,hb⟩;refine ⟨_,rfl,?_⟩;obtain ⟨lW,a5,a6,jo,ig,HB⟩:=p_ (Kd.dK ho0 (dO ay)) <| nC (aj a5) (aj a6) (aj jo) (aj ig) ay hb;(try clear hb);(try clear ho0))|((with_reducible refine dG 6 ?_);refine dU 6 (cs:=#[.slice none 0 0]) 28 ?_;intro ag hg ce hbox hb;obtain ⟨lW,a5,a6,jo,ig,HB,a7,ec,ed,dM,bl,b3,bh,ac,ab,ae,a8⟩:=p_ (Kd.bn (aG lW) hb) <| zQ (aj a5) (aj a6) (aj jo) (aj ig) ay hb hbox hg;clear hb hbox hg;obtain ⟨ap,aq,kM⟩:=Kd.dJ lW.out;subst kM;obtain ⟨bu,bv,bc,bd,ar,bP,av,aw⟩:=i_ bl dM bh b3 ab ac a8 ae;have FX:=cu a7.out;obtain ⟨al,am,an,ao⟩:=jE aP ai aN aT;have jg:=jV a6.out))
 (try simp only [Act.put,List.setIfInBounds_toArray,List.set_cons_zero,List.set_cons_succ])
 (try clear b6 b8 ba bv b7 al an bd b9 am bP bb ao aw bu bc ar av)
 (try clear zF)
 (try clear FX)
 (try clear jg)
 (try clear zF)
 (try clear FX)
 obtain ⟨H⟩:=e3
 revert H;refine fJ (fun co H=>?_) fun co H=>?_
 ·have bw:=gZ co
  have cv:=g_ co
  clear co
  try simp only [bI,bY,bw]
  obtain ⟨⟨cw,cx,cy,cz,d0⟩,ef,H⟩:=bd_ H
  try dsimp -simprocs only at H
  simp only [Option.some.injEq,Prod.mk.injEq] at H
  obtain ⟨rfl,rfl,rfl,rfl,rfl,rfl⟩:=H
  try go_wp2
  have gX:aA (Kd.R bF 43 (ce.setCell ⟨ag,0,none⟩ (.slice ap af.length aq)) w.heap.size (fun _=>True) (.slice ap af.length aq) af):=⟨(by (with_reducible repeat (first|apply Kd.dR|apply Kd.dS|apply Kd.bK));exact Kd.bW (aU (Kd.dL lW.out a7.out (by decide))) (fun _ hk=>trivial))⟩
  have lN:aA ((ce.setCell ⟨ag,0,none⟩ (.slice ap af.length aq)).heap[ca]?=some (.cells #[.slice fK aH.length bo] 28)):=⟨bH⟩
  have lQ:aA ((ce.setCell ⟨ag,0,none⟩ (.slice ap af.length aq)).heap[b5]?=some (.cells #[ah fH,.string fG,.string fE,ah bq,ah br,.string bs] 45)):=⟨bH⟩
  have lS:aA ((ce.setCell ⟨ag,0,none⟩ (.slice ap af.length aq)).heap[b4]?=some (.cells #[.slice none 0 0] 28)):=⟨bH⟩
  have lT:aA ((ce.setCell ⟨ag,0,none⟩ (.slice ap af.length aq)).heap[aa]?=some (.cells #[ah 0,.string (⟨#[]⟩:ByteArray),ah 0,.bool false,.slice none 0 0] 49)):=⟨bH⟩
  have mV:aA ((ce.setCell ⟨ag,0,none⟩ (.slice ap af.length aq)).heap[ag]?=some (.cells #[.slice ap af.length aq] 28)):=⟨bH⟩
  have oP:aA (Below w.heap.size w (ce.setCell ⟨ag,0,none⟩ (.slice ap af.length aq))):=⟨ay⟩
  (try clear lW)
  (try clear a5)
  (try clear a6)
  (try clear jo)
  (try clear ig)
  (try clear a7)
  (try clear HB)
  generalize (ce.setCell ⟨ag,0,none⟩ (.slice ap af.length aq))=eh at gX lN lQ lS lT mV oP ⊢
  have lW:=gX
  have a5:=lN
  have a6:=lQ
  have jo:=lS
  have ig:=lT
  have a7:=mV
  have HB:=oP
  clear gX lN lQ lS lT mV oP
  obtain ⟨lW,a5,a6,jo,ig,a7,HB⟩:=p_ (Kd.bK lW.out) <| yG a5 a6 jo ig a7 HB
  refine iH (n:=4) (S:=fun w'=>w'.cell? ⟨ag,0,none⟩=some (.slice ap af.length aq)) (ds:=[]) yA aB rfl rfl ((aO a7.out 0).trans rfl) (fun hH=>?_)
  generalize eh.drew=es at lW a5 a6 jo ig a7 HB hH ⊢
  refine ng (i:=0) (N:=some 13) (v:=?_) (a':=?_) yB rfl rfl aB (fun _ _ _ h=>h) (Or.inl ⟨(by rfl),?_⟩) hH ?_ ?_
  rotate_left
  ·intro w' s0
   go_simp
   with_reducible rfl
  rotate_left
  ·simp only [Act.put,List.setIfInBounds_toArray,List.set_cons_zero,List.set_cons_succ,bI,bY]
   rfl
  refine gB (i:=1) (N:=some 14) yC rfl rfl aB (by decide) (fun K hK=>?_)
  refine iR func75 aB rfl #[ah 9] (by rfl) rfl rfl aW ?_
  with_reducible refine (lU.calls 9 cw cx cy cz d0 _ ef.out).mono ?_
  rintro e cq ⟨aiS,rfl,ho0,hb⟩
  refine ⟨_,rfl,?_⟩
  obtain ⟨lW,cf,a5,a6,jo,ig,a7,HB⟩:=p_ (Kd.bn (aG lW) hb) <| p_ (Kd.dK ho0 (dO ay)) <| nM (aj a5) (aj a6) (aj jo) (aj ig) (aj a7) ay hb
  (try clear hb)
  (try clear ho0)
  obtain ⟨dp,dq,d1⟩:=Kd.dJ cf.out
  (first|subst d1|(injection d1 with dP fZ dQ;have f_:=dP.symm;have gq:=dQ.symm;clear dP fZ dQ;subst f_;subst gq))
  refine hK.out _ _ ((aO a7.out 0).trans rfl) (fun hH=>?_)
  clear hK K
  refine fD (some 14) ?_
  refine gB (i:=2) (N:=none) yD rfl rfl aB (by decide) (fun K hK=>?_)
  have agY:cq.cell? ⟨b4,0,none⟩=some (.slice none 0 0):=(aO jo.out 0).trans rfl
  have aeZ:=dF jo.out 0
  obtain ⟨b8,al,bi,ar,b9,am,bj,bP⟩:=i_ ax aP b2 ab dw ai b1 ac
  refine jr (w1:=?_) (by rfl) rfl ?_ ?_
  rotate_left
  ·go_simp
   rfl
  refine hK.out _ _ ((aY ab hH)) (fun hH=>?_)
  clear hK K
  refine gB (i:=3) (N:=none) yE rfl rfl aB (by decide) (fun K hK=>?_)
  have ag2:cq.cell? ⟨aa,0,none⟩=some (ah 0):=(aO ig.out 0).trans rfl
  have ae3:=dF ig.out 0
  obtain ⟨ba,an,av,bb,ao,aw⟩:=kL az aN a8 b0 aT ae
  have ag7:cq.cell? ⟨aa,1,none⟩=some (.string (⟨#[]⟩:ByteArray)):=(aO ig.out 1).trans rfl
  have ae8:=dF ig.out 1
  have ahd:cq.cell? ⟨aa,2,none⟩=some (ah 0):=(aO ig.out 2).trans rfl
  have afe:=dF ig.out 2
  have ahi:cq.cell? ⟨aa,3,none⟩=some (.bool false):=(aO ig.out 3).trans rfl
  have afj:=dF ig.out 3
  have aap:cq.cell? ⟨aa,4,none⟩=some (.slice none 0 0):=(aO ig.out 4).trans rfl
  have Z7:=dF ig.out 4
  refine jr (w1:=?_) (by rfl) rfl ?_ ?_
  rotate_left
  ·go_simp
   rfl
  refine hK.out _ _ ((aY a8 (aY a8 (aY a8 (aY a8 (aY a8 hH)))))) (fun hH=>?_)
  clear hK K
  refine iF aB ?_
  try go_wp2
  refine bodyPost_ret (nD rfl _ _ b4 aa 28 49 #[.slice ap af.length aq] #[ah cw,.string cx,ah cy,.bool cz,.slice dp d0.length dq] (0,0) (0,0) _ _ rfl bH underlying28 rfl aB rfl bH underlying49 rfl aB) rfl ?_
  exact ⟨_,_,b_,WT,(by (with_reducible repeat (first|apply Kd.dR|apply Kd.dS|apply Kd.bK));exact Kd.bW (aU (aU (aU (aU (aU (aU (Kd.dL (Kd.dL cf.out jo.out (by decide)) ig.out (by decide)) (fun _ hk=>hk.1.2))))))) (fun _ hk=>trivial)),ay⟩
 have bw:=gU co
 have cv:=gV co
 try simp only [bI,bY,bw]
 obtain ⟨d2,ei,H⟩:=bd_ H
 have d3:=m_ H
 clear H
 obtain ⟨b7,b6,al,am,an,ao,bd,bc⟩:=i_ fF be aP ai aN aT b3 bh
 have dr:=jV a6.out
 go_upto_if 19 with (first|((with_reducible refine bU 15 ?_);refine bV (some 19) rfl rfl func15 aB rfl #[.string fE,.string fG] rfl aW ?_;(with_reducible refine (oH.calls k fE fG d2 _ ei.out).mono ?_);rintro e ej ⟨rfl,hb⟩;refine ⟨_,rfl,?_⟩;have eP:=p_ (Kd.bn (by (with_reducible repeat (first|apply Kd.dR|apply Kd.dS|apply Kd.bK));exact (Kd.bW (aU (Kd.dL lW.out a7.out (by decide))) (fun _ dV=>dV.1))) hb) <| p_ (bG (g:=ca) (o:=.cells #[.slice fK aH.length bo] 28) (lM a5.out dM.out) hb) <| p_ (bG (g:=b5) (o:=.cells #[ah fH,.string fG,.string fE,ah bq,ah br,.string bs] 45) (lM a6.out b3.out) hb) <| p_ (bG (g:=b4) (o:=.cells #[.slice none 0 0] 28) (lM jo.out ac.out) hb) <| p_ (bG (g:=aa) (o:=.cells #[ah 0,.string (⟨#[]⟩:ByteArray),ah 0,.bool false,.slice none 0 0] 49) (lM ig.out ae.out) hb) <| p_ (bG (g:=ag) (o:=.cells #[.slice ap af.length aq] 28) (wB a7.out) hb) <| a_ (dI ay hb);clear lW a5 a6 jo ig a7 HB;obtain ⟨lW,a5,a6,jo,ig,a7,HB⟩:=eP;(try clear hb);(try clear hk)))
 (try simp only [Act.put,List.setIfInBounds_toArray,List.set_cons_zero,List.set_cons_succ])
 (try clear b6 b7 al an bd am ao bc)
 (try clear dr)
 obtain ⟨H⟩:=d3
 by_cases d4:d2=true
 ·subst d4
  rw [if_pos rfl] at H
  obtain ⟨⟨d5,d6,d7,d8,d9⟩,ek,H⟩:=bd_ H
  try dsimp -simprocs only at H
  simp only [Option.some.injEq,Prod.mk.injEq] at H
  obtain ⟨rfl,rfl,rfl,rfl,rfl,rfl⟩:=H
  try go_wp2
  obtain ⟨lW,a5,a6,jo,ig,a7,HB⟩:=p_ (Kd.bK lW.out) <| yG a5 a6 jo ig a7 HB
  refine iH (n:=4) (S:=fun w'=>w'.cell? ⟨ag,0,none⟩=some (.slice ap af.length aq)) (ds:=[]) yA aB rfl rfl ((aO a7.out 0).trans rfl) (fun hH=>?_)
  generalize ej.drew=et at lW a5 a6 jo ig a7 HB hH ⊢
  refine ng (i:=0) (N:=some 20) (v:=?_) (a':=?_) yB rfl rfl aB (fun _ _ _ h=>h) (Or.inl ⟨(by rfl),?_⟩) hH ?_ ?_
  rotate_left
  ·intro w' s0
   go_simp
   with_reducible rfl
  rotate_left
  ·simp only [Act.put,List.setIfInBounds_toArray,List.set_cons_zero,List.set_cons_succ,bI,bY]
   rfl
  refine gB (i:=1) (N:=some 21) yC rfl rfl aB (by decide) (fun K hK=>?_)
  refine iR func75 aB rfl #[ah 11] (by rfl) rfl rfl aW ?_
  with_reducible refine (lU.calls 11 d5 d6 d7 d8 d9 _ ek.out).mono ?_
  rintro e cr ⟨aiT,rfl,ho0,hb⟩
  refine ⟨_,rfl,?_⟩
  obtain ⟨lW,cg,a5,a6,jo,ig,a7,HB⟩:=p_ (Kd.bn (aG lW) hb) <| p_ (Kd.dK ho0 (dO ay)) <| nM (aj a5) (aj a6) (aj jo) (aj ig) (aj a7) ay hb
  (try clear hb)
  (try clear ho0)
  obtain ⟨dt,du,da⟩:=Kd.dJ cg.out
  (first|subst da|(injection da with dP fZ dQ;have f_:=dP.symm;have gq:=dQ.symm;clear dP fZ dQ;subst f_;subst gq))
  refine hK.out _ _ ((aO a7.out 0).trans rfl) (fun hH=>?_)
  clear hK K
  refine fD (some 21) ?_
  refine gB (i:=2) (N:=none) yD rfl rfl aB (by decide) (fun K hK=>?_)
  have ahD:cr.cell? ⟨b4,0,none⟩=some (.slice none 0 0):=(aO jo.out 0).trans rfl
  have afE:=dF jo.out 0
  obtain ⟨b8,al,bi,ar,b9,am,bj,bP⟩:=i_ ax aP b2 ab dw ai b1 ac
  refine jr (w1:=?_) (by rfl) rfl ?_ ?_
  rotate_left
  ·go_simp
   rfl
  refine hK.out _ _ ((aY ab hH)) (fun hH=>?_)
  clear hK K
  refine gB (i:=3) (N:=none) yE rfl rfl aB (by decide) (fun K hK=>?_)
  have ahE:cr.cell? ⟨aa,0,none⟩=some (ah 0):=(aO ig.out 0).trans rfl
  have afF:=dF ig.out 0
  obtain ⟨ba,an,av,bb,ao,aw⟩:=kL az aN a8 b0 aT ae
  have ahF:cr.cell? ⟨aa,1,none⟩=some (.string (⟨#[]⟩:ByteArray)):=(aO ig.out 1).trans rfl
  have afG:=dF ig.out 1
  have ahG:cr.cell? ⟨aa,2,none⟩=some (ah 0):=(aO ig.out 2).trans rfl
  have afH:=dF ig.out 2
  have ahH:cr.cell? ⟨aa,3,none⟩=some (.bool false):=(aO ig.out 3).trans rfl
  have afI:=dF ig.out 3
  have aar:cr.cell? ⟨aa,4,none⟩=some (.slice none 0 0):=(aO ig.out 4).trans rfl
  have Z9:=dF ig.out 4
  refine jr (w1:=?_) (by rfl) rfl ?_ ?_
  rotate_left
  ·go_simp
   rfl
  refine hK.out _ _ ((aY a8 (aY a8 (aY a8 (aY a8 (aY a8 hH)))))) (fun hH=>?_)
  clear hK K
  refine iF aB ?_
  try go_wp2
  refine bodyPost_ret (nD rfl _ _ b4 aa 28 49 #[.slice ap af.length aq] #[ah d5,.string d6,ah d7,.bool d8,.slice dt d9.length du] (0,0) (0,0) _ _ rfl bH underlying28 rfl aB rfl bH underlying49 rfl aB) rfl ?_
  exact ⟨_,_,b_,WT,(by (with_reducible repeat (first|apply Kd.dR|apply Kd.dS|apply Kd.bK));exact Kd.bW (aU (aU (aU (aU (aU (aU (Kd.dL (Kd.dL cg.out jo.out (by decide)) ig.out (by decide)) (fun _ hk=>hk.1.2))))))) (fun _ hk=>trivial)),ay⟩
 replace d4:=Bool.eq_false_iff.mpr d4
 subst d4
 rw [if_neg iO] at H
 obtain ⟨bx,el,H⟩:=bd_ H
 have cp:=m_ H
 clear H
 obtain ⟨b6,b7,b8,b9,ba,bb,bv,bu⟩:=i_ be fF ax dw az b0 dM bl
 have XD:=cu a5.out
 have db:=jV a6.out
 go_upto_region 7 with (first|((with_reducible refine bU 14 ?_);refine bV (some 25) rfl rfl func14 aB rfl #[.agg #[.slice fK aH.length bo],.string fE] rfl aW ?_;(with_reducible refine (xU.calls k _ _ aH fE bx _ sD bz.out el.out).mono ?_);rintro e dv ⟨rfl,hb⟩;refine ⟨_,rfl,?_⟩;obtain ⟨lW,a5,a6,jo,ig,a7,HB⟩:=p_ (Kd.bn (aG lW) hb) <| nM (aj a5) (aj a6) (aj jo) (aj ig) (aj a7) ay hb;(try clear hb);(try clear hk)))
 (try simp only [Act.put,List.setIfInBounds_toArray,List.set_cons_zero,List.set_cons_succ])
 go_cut [40] (fun v40 wc=>∃ (kq:Nat) (bp:Bool),v40=.bool bp∧aA (oI.j0 kq bx bp aH fH fG fE bq br bs af=some (r1,r2,r3,r4,r5,r6))∧aA (kq≤k)∧aA (Kd.R bF 43 wc w.heap.size (fun _=>True) (.slice ap af.length aq) af)∧aA (wc.heap[ca]?=some (.cells #[(.slice fK aH.length bo)] 28))∧aA (wc.heap[b5]?=some (.cells #[ah fH,.string fG,.string fE,ah bq,ah br,.string bs] 45))∧aA (wc.heap[b4]?=some (.cells #[(.slice none 0 0)] 28))∧aA (wc.heap[aa]?=some (.cells #[ah 0,.string (⟨#[]⟩:ByteArray),ah 0,.bool false,(.slice none 0 0)] 49))∧aA (wc.heap[ag]?=some (.cells #[(.slice ap af.length aq)] 28))∧aA (Below w.heap.size w wc))
 case first =>
  obtain ⟨H⟩:=cp
  revert H;refine fJ (fun ch H=>?_) fun ch H=>?_
  ·have bm:=gZ ch
   have ci:=g_ ch
   clear ch
   try simp only [bI,bY,bm]
   have H':=m_ H
   clear H
   try go_wp2
   obtain ⟨lW,a5,a6,jo,ig,a7,HB⟩:=p_ (Kd.bK lW.out) <| yG a5 a6 jo ig a7 HB
   refine iH (n:=15) (S:=fun w'=>True) (ds:=[]) MW aB rfl rfl trivial (fun hH=>?_);refine jC oI.Az oI.zN (fun aS gJ=>?_)
   generalize dv.drew=rV at lW a5 a6 jo ig a7 HB hH ⊢
   refine aI 0 ?_
   refine aI 1 ?_
   refine aI 2 ?_
   refine bf 3 ?_
   refine bf 4 ?_
   refine bf 5 ?_
   refine bf 6 ?_
   refine bf 7 ?_
   refine bf 8 ?_
   refine bf 9 ?_
   refine bf 10 ?_
   refine bf 11 ?_
   refine bf 12 ?_
   refine bf 13 ?_
   refine aI 14 ?_
   refine iF (jB aS.out aB) ?_
   try go_wp2
   go_meet
   case rel=>exact ⟨_,(false),bg,H',⟨kH⟩,⟨(aG lW)⟩,⟨(aj a5)⟩,⟨(aj a6)⟩,⟨(aj jo)⟩,⟨(aj ig)⟩,⟨(aj a7)⟩,⟨ay⟩⟩
  have bm:=gU ch
  have ci:=gV ch
  try simp only [bI,bY,bm]
  revert H;refine fJ (fun cj H=>?_) fun cj H=>?_
  rotate_left
  ·have ck:=gU cj
   have cl:=gV cj
   have H':=m_ H
   clear H
   try go_wp2
   obtain ⟨lW,a5,a6,jo,ig,a7,HB⟩:=p_ (Kd.bK lW.out) <| yG a5 a6 jo ig a7 HB
   refine iH (n:=15) (S:=fun w'=>True) (ds:=[]) MW aB rfl rfl trivial (fun hH=>?_);refine jC oI.Az oI.zN (fun aS gJ=>?_)
   generalize dv.drew=ev at lW a5 a6 jo ig a7 HB hH ⊢
   refine aI 0 ?_
   refine aI 1 ?_
   refine aI 2 ?_
   refine aI 3 ?_
   refine aI 4 ?_
   refine aI 5 ?_
   refine bf 6 ?_
   refine bf 7 ?_
   refine bf 8 ?_
   refine bf 9 ?_
   refine bf 10 ?_
   refine bf 11 ?_
   refine bf 12 ?_
   refine aI 13 ?_
   refine aI 14 ?_
   refine iF (jB aS.out aB) ?_
   try go_wp2
   go_meet
   case rel=>exact ⟨_,(true),bg,H',⟨kH⟩,⟨(aG lW)⟩,⟨(aj a5)⟩,⟨(aj a6)⟩,⟨(aj jo)⟩,⟨(aj ig)⟩,⟨(aj a7)⟩,⟨ay⟩⟩
  have ck:=gZ cj
  have cl:=g_ cj
  clear cj
  obtain ⟨dd,em,H⟩:=bd_ H
  obtain ⟨de,en,H⟩:=bd_ H
  have H':=m_ H
  clear H
  try go_wp2
  obtain ⟨lW,a5,a6,jo,ig,a7,HB⟩:=p_ (Kd.bK lW.out) <| yG a5 a6 jo ig a7 HB
  refine iH (n:=15) (S:=fun w'=>zI w' b5 (ah fH) (.string fG) (.string fE) (ah bq) (ah br) (.string bs)) (ds:=[]) MW aB rfl rfl (qh a6.out) (fun hH=>?_);refine jC oI.Az oI.zN (fun aS gJ=>?_)
  generalize dv.drew=ew at lW a5 a6 jo ig a7 HB hH ⊢
  refine aI 0 ?_
  refine aI 1 ?_
  refine aI 2 ?_
  refine aI 3 ?_
  refine aI 4 ?_
  refine aI 5 ?_
  refine aI 6 ?_
  refine eY 9 35 #[ak,ak,ak,ak,ak,ak,ak,F_,F_,ak,F_,F_,F_,F_,F_] aS ?_
  refine pJ 7 33 #[ak,ak,ak,ak,ak,ak,ak,ak,F_,ak,F_,F_,F_,F_,F_] aS gJ hH ?_
  refine pJ 10 36 #[ak,ak,ak,ak,ak,ak,ak,ak,F_,ak,ak,F_,F_,F_,F_] aS gJ hH ?_
  refine kY 8 (fun K hK=>?_)
  refine iR func51 aB rfl #[.string fE] (by rfl) rfl rfl aW ?_
  with_reducible refine (uK.calls k fE dd _ em.out).mono ?_
  rintro e ex ⟨rfl,hb⟩
  refine ⟨_,rfl,?_⟩
  obtain ⟨lW,a5,a6,jo,ig,a7,HB⟩:=p_ (Kd.bn (aG lW) hb) <| nM (aj a5) (aj a6) (aj jo) (aj ig) (aj a7) ay hb
  (try clear hb)
  refine hK.out _ _ (qh a6.out) (fun hH=>?_)
  clear hK K
  refine fD (some 34) ?_
  refine kY 11 (fun K hK=>?_)
  refine iR func51 aB rfl #[.string fG] (by rfl) rfl rfl aW ?_
  with_reducible refine (uK.calls k fG de _ en.out).mono ?_
  rintro e ey ⟨rfl,hb⟩
  refine ⟨_,rfl,?_⟩
  obtain ⟨lW,a5,a6,jo,ig,a7,HB⟩:=p_ (Kd.bn (aG lW) hb) <| nM (aj a5) (aj a6) (aj jo) (aj ig) (aj a7) ay hb
  (try clear hb)
  refine hK.out _ _ (qh a6.out) (fun hH=>?_)
  clear hK K
  refine fD (some 37) ?_
  refine aI 12 ?_
  refine aI 13 ?_
  refine aI 14 ?_
  refine iF (jB aS.out aB) ?_
  try go_wp2
  go_meet
  case rel=>exact ⟨_,((dd.toList != de.toList)),bg,H',⟨kH⟩,⟨(aG lW)⟩,⟨(aj a5)⟩,⟨(aj a6)⟩,⟨(aj jo)⟩,⟨(aj ig)⟩,⟨(aj a7)⟩,⟨ay⟩⟩
 case rest =>
 clear cp
 try clear d4;try clear XD;try clear db;try clear XD
 obtain ⟨kq,bp,rfl,HA,xF,a9,a5,a6,jo,ig,a7,HB⟩:=hcut
 cases kq with
 | zero=>exact absurd HA.out (by simp [oI.j0])
 | succ J3 =>
 obtain ⟨H⟩:=HA
 simp only [oI.j0] at H
 by_cases dm:bp=true
 rotate_left
 ·replace dm:=Bool.eq_false_iff.mpr dm
  subst dm
  rw [if_neg iO] at H
  obtain ⟨df,eo,H⟩:=bd_ H
  simp only [Option.some.injEq,Prod.mk.injEq] at H
  obtain ⟨rfl,rfl,rfl,rfl,rfl,rfl⟩:=H
  have akY:=cu a5.out
  have ep:=jV a6.out
  go_wp2_with (first|((with_reducible refine bU 11 ?_);refine bV (some 49) rfl rfl func11 aB rfl #[.agg #[.slice fK aH.length bo],.string fG,.string fE] rfl aW ?_;(with_reducible refine (iV.calls J3 _ _ aH fG fE df _ sD bz.out eo.out).mono ?_);rintro e ff ⟨aiV,rfl,ho0,hb⟩;refine ⟨_,rfl,?_⟩;obtain ⟨a9,cm,a5,a6,jo,ig,a7,HB⟩:=p_ (Kd.iY (aG a9) (Kd.iW ho0) hb) <| p_ (Kd.dK (Kd.iZ ho0 (Kd.iD (aG a9))) (dO ay)) <| nM (aj a5) (aj a6) (aj jo) (aj ig) (aj a7) ay hb;(try clear hb);(try clear ho0);obtain ⟨lZ,dx,dy⟩:=Kd.dJ cm.out;subst dy;obtain ⟨bj,bi,bP,ar⟩:=jE b1 b2 ac ab;have Qe:=cu jo.out;obtain ⟨aw,av⟩:=iJ ae a8;have ee:=vZ ig.out))
  refine bodyPost_ret (nD rfl _ _ b4 aa 28 49 #[.slice lZ df.length dx] #[ah 0,.string (⟨#[]⟩:ByteArray),ah 0,.bool false,.slice none 0 0] (0,0) (0,0) _ _ rfl bH underlying28 rfl aB rfl bH underlying49 rfl aB) rfl ?_
  exact ⟨_,_,b_,(by (with_reducible repeat (first|apply Kd.dR|apply Kd.dS|apply Kd.bK));exact Kd.bW (aU (aU (aU (aU (aU (aU (Kd.dL (Kd.dL cm.out jo.out (by decide)) ig.out (by decide)) (fun _ hk=>hk.1.2))))))) (fun _ hk=>trivial)),tN,ay⟩
 subst dm
 rw [if_pos rfl] at H
 obtain ⟨⟨dg,lg,di,dj,dk⟩,eq,H⟩:=bd_ H
 try dsimp -simprocs only at H
 simp only [Option.some.injEq,Prod.mk.injEq] at H
 obtain ⟨rfl,rfl,rfl,rfl,rfl,rfl⟩:=H
 try go_wp2
 obtain ⟨a9,a5,a6,jo,ig,a7,HB⟩:=p_ (Kd.bK a9.out) <| yG a5 a6 jo ig a7 HB
 refine iH (n:=5) (S:=fun w'=>w'.cell? ⟨ag,0,none⟩=some (.slice ap af.length aq)) (ds:=[]) Gt aB rfl rfl ((aO a7.out 0).trans rfl) (fun hH=>?_)
 generalize wc.drew=fg at a9 a5 a6 jo ig a7 HB hH ⊢
 refine xZ (i:=1) (N:=some 42) Js aB ?_
 refine ng (i:=0) (N:=some 41) (v:=?_) (a':=?_) Jt rfl rfl aB (fun _ _ _ h=>h) (Or.inl ⟨(by rfl),?_⟩) hH ?_ ?_
 rotate_left
 ·intro w' s0
  go_simp
  with_reducible rfl
 rotate_left
 ·simp only [Act.put,List.setIfInBounds_toArray,List.set_cons_zero,List.set_cons_succ,bI,bY]
  rfl
 refine gB (i:=2) (N:=some 43) Ju rfl rfl aB (by decide) (fun K hK=>?_)
 refine iR func75 aB rfl #[ah bx] (by rfl) rfl rfl aW ?_
 with_reducible refine (lU.calls bx dg lg di dj dk _ eq.out).mono ?_
 rintro e ct ⟨aiU,rfl,ho0,hb⟩
 refine ⟨_,rfl,?_⟩
 obtain ⟨a9,cn,a5,a6,jo,ig,a7,HB⟩:=p_ (Kd.bn (aG a9) hb) <| p_ (Kd.dK ho0 (dO ay)) <| nM (aj a5) (aj a6) (aj jo) (aj ig) (aj a7) ay hb
 (try clear hb)
 (try clear ho0)
 obtain ⟨dz,e0,dl⟩:=Kd.dJ cn.out
 (first|subst dl|(injection dl with dP fZ dQ;have f_:=dP.symm;have gq:=dQ.symm;clear dP fZ dQ;subst f_;subst gq))
 refine hK.out _ _ ((aO a7.out 0).trans rfl) (fun hH=>?_)
 clear hK K
 refine fD (some 43) ?_
 refine gB (i:=3) (N:=none) Gu rfl rfl aB (by decide) (fun K hK=>?_)
 have ahP:ct.cell? ⟨b4,0,none⟩=some (.slice none 0 0):=(aO jo.out 0).trans rfl
 have afQ:=dF jo.out 0
 obtain ⟨bi,ar,bj,bP⟩:=jE b2 ab b1 ac
 refine jr (w1:=?_) (by rfl) rfl ?_ ?_
 rotate_left
 ·go_simp
  rfl
 refine hK.out _ _ ((aY ab hH)) (fun hH=>?_)
 clear hK K
 refine gB (i:=4) (N:=none) Gv rfl rfl aB (by decide) (fun K hK=>?_)
 have ahQ:ct.cell? ⟨aa,0,none⟩=some (ah 0):=(aO ig.out 0).trans rfl
 have afR:=dF ig.out 0
 obtain ⟨av,aw⟩:=iJ a8 ae
 have ahR:ct.cell? ⟨aa,1,none⟩=some (.string (⟨#[]⟩:ByteArray)):=(aO ig.out 1).trans rfl
 have afS:=dF ig.out 1
 have ahS:ct.cell? ⟨aa,2,none⟩=some (ah 0):=(aO ig.out 2).trans rfl
 have afT:=dF ig.out 2
 have ahT:ct.cell? ⟨aa,3,none⟩=some (.bool false):=(aO ig.out 3).trans rfl
 have afU:=dF ig.out 3
 have ahU:ct.cell? ⟨aa,4,none⟩=some (.slice none 0 0):=(aO ig.out 4).trans rfl
 have afV:=dF ig.out 4
 refine jr (w1:=?_) (by rfl) rfl ?_ ?_
 rotate_left
 ·go_simp
  rfl
 refine hK.out _ _ ((aY a8 (aY a8 (aY a8 (aY a8 (aY a8 hH)))))) (fun hH=>?_)
 clear hK K
 refine iF aB ?_
 try go_wp2
 refine bodyPost_ret (nD rfl _ _ b4 aa 28 49 #[.slice ap af.length aq] #[ah dg,.string lg,ah di,.bool dj,.slice dz dk.length e0] (0,0) (0,0) _ _ rfl bH underlying28 rfl aB rfl bH underlying49 rfl aB) rfl ?_
 exact ⟨_,_,b_,(by (with_reducible repeat (first|apply Kd.dR|apply Kd.dS|apply Kd.bK));exact Kd.bW (aU (aU (aU (aU (aU (aU (Kd.dL (Kd.dL a9.out jo.out (by decide)) ig.out (by decide)) (fun _ hk=>hk.1.2))))))) (fun _ hk=>trivial)),(by (with_reducible repeat (first|apply Kd.dR|apply Kd.dS|apply Kd.bK));exact Kd.bW (aU (aU (aU (aU (aU (aU (Kd.dL (Kd.dL cn.out jo.out (by decide)) ig.out (by decide)) (fun _ hk=>hk.1.2))))))) (fun _ hk=>trivial)),ay⟩

end Go.Proofs.YthejdhjpbpamoaaGreatDoor.jM
