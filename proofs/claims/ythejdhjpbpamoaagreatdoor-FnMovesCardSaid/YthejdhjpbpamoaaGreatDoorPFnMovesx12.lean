/- Contracts of Go functions: each call returns what the Lean function beside it computes. Conditions: as each theorem states them. -/
import Derived.Test.YthejdhjpbpamoaaGreatDoorPkFnMoves
import Derived.Test.YthejdhjpbpamoaaGreatDoorPFnMovesx1
import Derived.Test.YthejdhjpbpamoaaGreatDoorPFnMovesx2
import Derived.Test.YthejdhjpbpamoaaGreatDoorPFnMovesx4
import Derived.Test.YthejdhjpbpamoaaGreatDoorPFnMovesx6
import Derived.Test.YthejdhjpbpamoaaGreatDoorPFnMovesx8
import Derived.Test.YthejdhjpbpamoaaGreatDoorPFnMovesx11
namespace Go.Proofs.YthejdhjpbpamoaaGreatDoor.jM
open Go.RowKit Go.Proofs.YthejdhjpbpamoaaGreatDoorW.iK Go.Proofs.YthejdhjpbpamoaaGreatDoorW.lX Go.Proofs.YthejdhjpbpamoaaGreatDoorW.oV Go.Proofs.Tryz
attribute [local go_sem] qI qM qL qP qK qO qJ qN   -- for this text's walks alone
set_option linter.unusedVariables false
set_option maxHeartbeats 8000000
set_option maxRecDepth 100000
set_option linter.unusedSimpArgs false

mutual
def nO.j0:Nat→Bool→Int→Int→Int→Int→List (aC)→Int→ByteArray→ByteArray→Int→Int→ByteArray→List (aC)→Option ((List (aC)) × Int × ByteArray × Int × Bool × List ByteArray)
 | 0,_,_,_,_,_,_,_,_,_,_,_,_,_=>none
 | k+1,ax,ae,af,ag,aP,a7,a5,a6,a9,aa,ab,ac,a8=>if ax=true then ((qU.f k ae af ag aP a7 a5 a6 a9 aa ab ac).bind fun ai=>(some (ai.1,ai.2.1,ai.2.2.1,ai.2.2.2.1,ai.2.2.2.2.1,ai.2.2.2.2.2))) else ((pz.f k a7 a6).bind fun ar=>(if ar=0 then ((xW.f k a7 a6).bind fun ap=>((nR.f k a7 a6).bind fun aq=>(if a5=3 then (if ap=true then ((lU.f 5).bind fun aT=>(some (a8,aT.1,aT.2.1,aT.2.2.1,aT.2.2.2.1,aT.2.2.2.2))) else ((qo.f k a7 a6).bind fun bP=>(some (bP,0,(⟨#[]⟩:ByteArray),0,false,([]:List ByteArray))))) else (if a5=4 then (if a6.toList=([47]:List UInt8) then ((lU.f 9).bind fun al=>(some (a8,al.1,al.2.1,al.2.2.1,al.2.2.2.1,al.2.2.2.2))) else (if ap=true then ((nS.f k a7 a6).bind fun av=>(if (av.length:Int) > 0 then ((lU.f 10).bind fun am=>(some (a8,am.1,am.2.1,am.2.2.1,am.2.2.2.1,am.2.2.2.2))) else ((qo.f k a7 a6).bind fun aw=>(some (aw,0,(⟨#[]⟩:ByteArray),0,false,([]:List ByteArray)))))) else ((lU.f 4).bind fun an=>(some (a8,an.1,an.2.1,an.2.2.1,an.2.2.2.1,an.2.2.2.2))))) else (if a5=5 then ((oI.f k a7 a5 a6 a9 aa ab ac).bind fun aN=>(some (aN.1,aN.2.1,aN.2.2.1,aN.2.2.2.1,aN.2.2.2.2.1,aN.2.2.2.2.2))) else (if a5=6 then (nO.j1 k ap aq a5 (a5 == 6) ae af ag aP a7 a5 a6 a9 aa ab ac a8) else (if a5=7 then (nO.j1 k ap aq a5 (a5 == 7) ae af ag aP a7 a5 a6 a9 aa ab ac a8) else (nO.j1 k ap aq a5 (a5 == 8) ae af ag aP a7 a5 a6 a9 aa ab ac a8)))))))) else ((lU.f ar).bind fun ao=>(some (a8,ao.1,ao.2.1,ao.2.2.1,ao.2.2.2.1,ao.2.2.2.2)))))
def nO.j1:Nat→Bool→Int→Int→Bool→Int→Int→Int→Int→List (aC)→Int→ByteArray→ByteArray→Int→Int→ByteArray→List (aC)→Option ((List (aC)) × Int × ByteArray × Int × Bool × List ByteArray)
 | 0,_,_,_,_,_,_,_,_,_,_,_,_,_,_,_,_=>none
 | k+1,am,al,ao,ap,ab,ac,ae,af,a6,ag,aa,aP,ai,aN,aT,a5=>if ap=true then (if am=true then ((lU.f 5).bind fun a8=>(some (a5,a8.1,a8.2.1,a8.2.2.1,a8.2.2.2.1,a8.2.2.2.2))) else ((lq.f k ab ac ae af a6 al ag aa aP ai aN aT).bind fun a7=>(some (a7.1,a7.2.1,a7.2.2.1,a7.2.2.2.1,a7.2.2.2.2.1,a7.2.2.2.2.2)))) else (if ao=9 then (if am=true then (some (a5,0,(⟨#[]⟩:ByteArray),0,true,([]:List ByteArray))) else (if 0≤al then (if al < (a6.length:Int) then (some (a5,0,(⟨#[]⟩:ByteArray),(((au a6 al).f2).size:Int),false,([]:List ByteArray))) else (none)) else (none))) else (if ao=10 then (if am=true then ((nS.f k a6 aa).bind fun an=>(some (a5,0,(⟨#[]⟩:ByteArray),0,false,an))) else ((lU.f 4).bind fun a9=>(some (a5,a9.1,a9.2.1,a9.2.2.1,a9.2.2.2.1,a9.2.2.2.2)))) else (some (a5,0,(⟨#[]⟩:ByteArray),0,false,([]:List ByteArray)))))
end
def nO.f (k:Nat) (af:Int) (ag:Int) (aP:Int) (ai:Int) (a7:List (aC)) (a6:Int) (a8:ByteArray) (a9:ByteArray) (aa:Int) (ab:Int) (ac:ByteArray):Option ((List (aC)) × Int × ByteArray × Int × Bool × List ByteArray):=(pY.f a7).bind fun ae=>((FI.f a6 a8 a9 aa ab ac).bind fun aN=>(if aN=true then (if a6=1 then (nO.j0 k true af ag aP ai a7 a6 a8 a9 aa ab ac ae) else (nO.j0 k (a6 == 2) af ag aP ai a7 a6 a8 a9 aa ab ac ae)) else ((lU.f 16).bind fun a5=>(some (ae,a5.1,a5.2.1,a5.2.2.1,a5.2.2.2.1,a5.2.2.2.2)))))
def nO.MB:Bool × List (List Nat × List Nat):=(true,[([],[]),([],[]),([1],[1]),([],[]),([2,3],[2,3]),([4],[4]),([5],[5]),([6],[6]),([7],[7]),([0,0],[0]),([8,9,0,1,2,3,4,5,6,7,8,9],[8])])
def nO.Le:List Nat:=[0,0,2,0,14,30,62,126,254,1,1023]
def nO.Yx:Bool × List (List Nat × List Nat):=(true,[([],[]),([],[]),([],[]),([2],[2]),([1,3],[1,3]),([4],[4]),([0,4,0],[0]),([5,6,0,1,2,3,4,5,6],[5])])
def nO.XL:List Nat:=[0,0,0,4,14,30,31,127]
theorem nO.calls (k:Nat) (d2:Int) (d3:Int) (d4:Int) (d5:Int) (co:Option Addr) (cl:Nat) (aK:List (aC)) (ce:Int) (cc:ByteArray) (cp:ByteArray) (cq:Int) (cr:Int) (ct:ByteArray) (r1:List (aC)) (r2:Int) (r3:ByteArray) (r4:Int) (r5:Bool) (r6:List ByteArray) (w:World) (er:Kd.C bF w co aK.length aK) (es:aK.length≤cl) (h:nO.f k d2 d3 d4 d5 aK ce cc cp cq cr ct=some (r1,r2,r3,r4,r5,r6)) :
  Calls Tryz.prog 29 #[.agg #[ah d2,ah d3,ah d4,ah d5],.agg #[.slice co aK.length cl],.agg #[ah ce,.string cc,.string cp,ah cq,ah cr,.string ct]] w fun e w'=>∃ gQ y5:Value,e=.returned (.tuple #[.agg #[gQ],.agg #[ah r2,.string r3,ah r4,.bool r5,y5]])∧Kd.R bF 43 w' w.heap.size (fun _=>True) gQ r1∧Kd.R Kd.string 9 w' w.heap.size (fun _=>True) y5 r6∧Below w.heap.size w w':=by
 have w_:=underlying25
 have oq:=underlying28
 have Hy:=underlying45
 have JL:=underlying49
 have rC:=m_ er
 have jg:=m_ es
 clear er es
 have HB:=m_ (Below.refl w.heap.size w)
 unfold nO.f at h
 have H:=h
 clear h
 obtain ⟨cd,A4,H⟩:=bd_ H
 obtain ⟨gn,A5,H⟩:=bd_ H
 have n0:=m_ H
 clear H
 go_enter func29,ntmps29
 go_upto_if 16 with (first|((with_reducible refine dG 3 ?_);refine dU 3 (cs:=#[ah d2,ah d3,ah d4,ah d5]) 25 ?_;intro e6 hg w7 hbox hb;obtain ⟨HB,aa,n1,n2⟩:=kE ay hb hbox hg;clear hb hbox hg)|((with_reducible refine dG 4 ?_);refine dU 4 (cs:=#[.slice co aK.length cl]) 28 ?_;intro dg hg w8 hbox hb;obtain ⟨aa,HB,a6,n3,n4,bz,ca⟩:=qj (aj aa) ay hb hbox hg;clear hb hbox hg)|((with_reducible refine dG 5 ?_);refine dU 5 (cs:=#[ah ce,.string cc,.string cp,ah cq,ah cr,.string ct]) 45 ?_;intro cy hg w9 hbox hb;obtain ⟨aa,a6,HB,a7,n5,n7,fK,bo,bp,bq⟩:=wu (aj aa) (aj a6) ay hb hbox hg;clear hb hbox hg)|((with_reducible refine dG 6 ?_);refine dU 6 (cs:=#[.slice none 0 0]) 28 ?_;intro bb hg qa hbox hb;obtain ⟨aa,a6,a7,HB,eF,cm,n8,ax,dw,am,an,ae,ag⟩:=yF (aj aa) (aj a6) (aj a7) ay hb hbox hg;clear hb hbox hg)|((with_reducible refine dG 7 ?_);refine dU 7 (cs:=#[ah 0,.string (⟨#[]⟩:ByteArray),ah 0,.bool false,.slice none 0 0]) 49 ?_;intro ab hg qb hbox hb;obtain ⟨aa,a6,a7,eF,HB,bT,xE,n9,az,b0,ac,ao,a9,aP,b1,b2⟩:=zQ (aj aa) (aj a6) (aj a7) (aj eF) ay hb hbox hg;clear hb hbox hg;obtain ⟨bw,bx,bc,bd,ap,aq,ar,bP⟩:=i_ ca bz bp bq am an ac ao;have KY:=cu a6.out)|((with_reducible refine bU 73 ?_);refine bV (some 13) rfl rfl func73 aB rfl #[.agg #[.slice co aK.length cl]] rfl aW ?_;(with_reducible refine (pY.calls _ _ aK cd _ l9 jg.out A4.out).mono ?_);rintro e ail ⟨ai8,rfl,ho0,hb⟩;refine ⟨_,rfl,?_⟩;obtain ⟨ch,aa,a6,a7,eF,bT,HB⟩:=p_ (Kd.dK ho0 (dO ay)) <| nM (aj aa) (aj a6) (aj a7) (aj eF) (aj bT) ay hb;(try clear hb);(try clear ho0))|((with_reducible refine dG 8 ?_);refine dU 8 (cs:=#[.slice none 0 0]) 28 ?_;intro cj hg qd hbox hb;obtain ⟨ch,aa,a6,a7,eF,bT,HB,a8,na,nb,ci,ck,br,bv,b9,ba,av,af,aw,a5⟩:=p_ (Kd.bn (aG ch) hb) <| CW (aj aa) (aj a6) (aj a7) (aj eF) (aj bT) ay hb hbox hg;clear hb hbox hg;obtain ⟨cf,cg,m7⟩:=Kd.dJ ch.out;subst m7;obtain ⟨cv,cw,bs,bu,b3,b4,b5,b6⟩:=i_ ck ci bv br ba b9 af av;obtain ⟨b7,b8⟩:=iJ a5 aw;have Qm:=cu a8.out;obtain ⟨be,fF,ai,aN,aT,al⟩:=kL bo fK ae ag a9 aP;have ej:=jV a7.out)|((with_reducible refine bU 74 ?_);refine bV (some 15) rfl rfl func74 aB rfl #[.agg #[ah ce,.string cc,.string cp,ah cq,ah cr,.string ct]] rfl aW ?_;(with_reducible refine (FI.calls ce cc cp cq cr ct gn _ A5.out).mono ?_);rintro e nm ⟨rfl,hb⟩;refine ⟨_,rfl,?_⟩;have eP:=p_ (Kd.bn (by (with_reducible repeat (first|apply Kd.dR|apply Kd.dS|apply Kd.bK));exact (Kd.bW (aU (Kd.dL ch.out a8.out (by decide))) (fun _ dV=>dV.1))) hb) <| p_ (bG (g:=e6) (o:=.cells #[ah d2,ah d3,ah d4,ah d5] 25) (lM aa.out ci.out) hb) <| p_ (bG (g:=dg) (o:=.cells #[.slice co aK.length cl] 28) (lM a6.out br.out) hb) <| p_ (bG (g:=cy) (o:=.cells #[ah ce,.string cc,.string cp,ah cq,ah cr,.string ct] 45) (lM a7.out b9.out) hb) <| p_ (bG (g:=bb) (o:=.cells #[.slice none 0 0] 28) (lM eF.out av.out) hb) <| p_ (bG (g:=ab) (o:=.cells #[ah 0,.string (⟨#[]⟩:ByteArray),ah 0,.bool false,.slice none 0 0] 49) (lM bT.out aw.out) hb) <| p_ (bG (g:=cj) (o:=.cells #[.slice cf cd.length cg] 28) (wB a8.out) hb) <| a_ (dI ay hb);clear ch aa a6 a7 eF bT a8 HB;obtain ⟨ch,aa,a6,a7,eF,bT,a8,HB⟩:=eP;(try clear hb);(try clear hk)))
 (try simp only [Act.put,List.setIfInBounds_toArray,List.set_cons_zero,List.set_cons_succ])
 (try clear bx fF cw bw bc ap ar bu be bd ai aT b4 aq aN b6 bP al b8 cv bs b3 b5 b7)
 (try clear KY)
 (try clear Qm)
 (try clear ej)
 (try clear KY)
 (try clear Qm)
 obtain ⟨H⟩:=n0
 by_cases go:gn=true
 rotate_left
 ·replace go:=Bool.eq_false_iff.mpr go
  subst go
  rw [if_neg iO] at H
  obtain ⟨⟨gp,yM,gr,gs,gt⟩,m8,H⟩:=bd_ H
  try dsimp -simprocs only at H
  simp only [Option.some.injEq,Prod.mk.injEq] at H
  obtain ⟨rfl,rfl,rfl,rfl,rfl,rfl⟩:=H
  try go_wp2
  obtain ⟨ch,aa,a6,a7,eF,bT,a8,HB⟩:=p_ (Kd.bK ch.out) <| wR aa a6 a7 eF bT a8 HB
  refine iH (n:=4) (S:=fun w'=>w'.cell? ⟨cj,0,none⟩=some (.slice cf cd.length cg)) (ds:=[]) yA aB rfl rfl ((aO a8.out 0).trans rfl) (fun hH=>?_)
  generalize nm.drew=nn at ch aa a6 a7 eF bT a8 HB hH ⊢
  refine ng (i:=0) (N:=some 17) (v:=?_) (a':=?_) yB rfl rfl aB (fun _ _ _ h=>h) (Or.inl ⟨(by rfl),?_⟩) hH ?_ ?_
  rotate_left
  ·intro w' s0
   go_simp
   with_reducible rfl
  rotate_left
  ·simp only [Act.put,List.setIfInBounds_toArray,List.set_cons_zero,List.set_cons_succ,bI,bY]
   rfl
  refine gB (i:=1) (N:=some 18) yC rfl rfl aB (by decide) (fun K hK=>?_)
  refine iR func75 aB rfl #[ah 16] (by rfl) rfl rfl aW ?_
  with_reducible refine (lU.calls 16 gp yM gr gs gt _ m8.out).mono ?_
  rintro e du ⟨ai9,rfl,ho0,hb⟩
  refine ⟨_,rfl,?_⟩
  obtain ⟨ch,et,aa,a6,a7,eF,bT,a8,HB⟩:=p_ (Kd.bn (aG ch) hb) <| p_ (Kd.dK ho0 (dO ay)) <| oZ (aj aa) (aj a6) (aj a7) (aj eF) (aj bT) (aj a8) ay hb
  (try clear hb)
  (try clear ho0)
  obtain ⟨zh,gv,rV⟩:=Kd.dJ et.out
  (first|subst rV|(injection rV with dP fZ dQ;have f_:=dP.symm;have gq:=dQ.symm;clear dP fZ dQ;subst f_;subst gq))
  refine hK.out _ _ ((aO a8.out 0).trans rfl) (fun hH=>?_)
  clear hK K
  refine fD (some 18) ?_
  refine gB (i:=2) (N:=none) yD rfl rfl aB (by decide) (fun K hK=>?_)
  have ahp:du.cell? ⟨bb,0,none⟩=some (.slice none 0 0):=(aO eF.out 0).trans rfl
  have afq:=dF eF.out 0
  obtain ⟨dM,ap,ai,bh,b5,bi,aq,aN⟩:=i_ ax am ae b2 af dw an ag
  obtain ⟨bj,b6⟩:=iJ b1 av
  refine jr (w1:=?_) (by rfl) rfl ?_ ?_
  rotate_left
  ·go_simp
   rfl
  refine hK.out _ _ ((aY af hH)) (fun hH=>?_)
  clear hK K
  refine gB (i:=3) (N:=none) yE rfl rfl aB (by decide) (fun K hK=>?_)
  have ahq:du.cell? ⟨ab,0,none⟩=some (ah 0):=(aO bT.out 0).trans rfl
  have afr:=dF bT.out 0
  obtain ⟨bl,ar,aT,b7,bm,bP,al,b8⟩:=i_ az ac a9 a5 b0 ao aP aw
  have ahr:du.cell? ⟨ab,1,none⟩=some (.string (⟨#[]⟩:ByteArray)):=(aO bT.out 1).trans rfl
  have afs:=dF bT.out 1
  have ahs:du.cell? ⟨ab,2,none⟩=some (ah 0):=(aO bT.out 2).trans rfl
  have aft:=dF bT.out 2
  have aht:du.cell? ⟨ab,3,none⟩=some (.bool false):=(aO bT.out 3).trans rfl
  have afu:=dF bT.out 3
  have ahu:du.cell? ⟨ab,4,none⟩=some (.slice none 0 0):=(aO bT.out 4).trans rfl
  have afv:=dF bT.out 4
  refine jr (w1:=?_) (by rfl) rfl ?_ ?_
  rotate_left
  ·go_simp
   rfl
  refine hK.out _ _ ((aY a5 (aY a5 (aY a5 (aY a5 (aY a5 hH)))))) (fun hH=>?_)
  clear hK K
  refine iF aB ?_
  try go_wp2
  refine bodyPost_ret (nD rfl _ _ bb ab 28 49 #[.slice cf cd.length cg] #[ah gp,.string yM,ah gr,.bool gs,.slice zh gt.length gv] (0,0) (0,0) _ _ rfl bH underlying28 rfl aB rfl bH underlying49 rfl aB) rfl ?_
  exact ⟨_,_,b_,(by (with_reducible repeat (first|apply Kd.dR|apply Kd.dS|apply Kd.bK));exact Kd.bW (aU (aU (aU (aU (aU (aU (Kd.dL (Kd.dL ch.out eF.out (by decide)) bT.out (by decide)) (fun _ hk=>hk.1.2))))))) (fun _ hk=>trivial)),(by (with_reducible repeat (first|apply Kd.dR|apply Kd.dS|apply Kd.bK));exact Kd.bW (aU (aU (aU (aU (aU (aU (Kd.dL (Kd.dL et.out eF.out (by decide)) bT.out (by decide)) (fun _ hk=>hk.1.2))))))) (fun _ hk=>trivial)),ay⟩
 subst go
 rw [if_pos rfl] at H
 have g9:=m_ H
 clear H
 go_upto_region 4 with (fail)
 go_cut [26] (fun v26 wc=>∃ (kq:Nat) (de:Bool),v26=.bool de∧aA (nO.j0 kq de d2 d3 d4 d5 aK ce cc cp cq cr ct cd=some (r1,r2,r3,r4,r5,r6))∧aA (kq≤k)∧aA (Kd.R bF 43 wc w.heap.size (fun _=>True) (.slice cf cd.length cg) cd)∧aA (wc.heap[e6]?=some (.cells #[ah d2,ah d3,ah d4,ah d5] 25))∧aA (wc.heap[dg]?=some (.cells #[(.slice co aK.length cl)] 28))∧aA (wc.heap[cy]?=some (.cells #[ah ce,.string cc,.string cp,ah cq,ah cr,.string ct] 45))∧aA (wc.heap[bb]?=some (.cells #[(.slice none 0 0)] 28))∧aA (wc.heap[ab]?=some (.cells #[ah 0,.string (⟨#[]⟩:ByteArray),ah 0,.bool false,(.slice none 0 0)] 49))∧aA (wc.heap[cj]?=some (.cells #[(.slice cf cd.length cg)] 28))∧aA (Below w.heap.size w wc))
 case first =>
  obtain ⟨H⟩:=g9
  revert H;refine fJ (fun ev H=>?_) fun ev H=>?_
  rotate_left
  ·have db:=gU ev
   have ew:=gV ev
   try simp only [bI,bY,db]
   have H':=m_ H
   clear H
   obtain ⟨be,fF,bd,bc,ai,aN,aT,al⟩:=i_ bo fK bq bp ae ag a9 aP
   obtain ⟨b4,b3⟩:=iJ b9 ba
   have gw:=jV a7.out
   go_wp2
   go_meet
   case rel=>exact ⟨_,((ce == 2)),bg,H',⟨kH⟩,⟨(aG ch)⟩,⟨(aj aa)⟩,⟨(aj a6)⟩,⟨(aj a7)⟩,⟨(aj eF)⟩,⟨(aj bT)⟩,⟨(aj a8)⟩,⟨ay⟩⟩
  have db:=gZ ev
  have ew:=g_ ev
  clear ev
  try simp only [bI,bY,db]
  have H':=m_ H
  clear H
  obtain ⟨be,fF,bd,bc,ai,aN,aT,al⟩:=i_ bo fK bq bp ae ag a9 aP
  obtain ⟨b4,b3⟩:=iJ b9 ba
  have gx:=jV a7.out
  go_wp2
  go_meet
  case rel=>exact ⟨_,(true),bg,H',⟨kH⟩,⟨(aG ch)⟩,⟨(aj aa)⟩,⟨(aj a6)⟩,⟨(aj a7)⟩,⟨(aj eF)⟩,⟨(aj bT)⟩,⟨(aj a8)⟩,⟨ay⟩⟩
 case rest =>
 clear g9
 try clear go
 obtain ⟨kq,de,rfl,HA,LC,iM,aa,a6,a7,eF,bT,a8,HB⟩:=hcut
 cases kq with
 | zero=>exact absurd HA.out (by simp [nO.j0])
 | succ Ah =>
 obtain ⟨H⟩:=HA
 simp only [nO.j0] at H
 by_cases m6:de=true
 ·subst m6
  rw [if_pos rfl] at H
  obtain ⟨⟨yN,gz,h8,h9,hs,hu⟩,nw,H⟩:=bd_ H
  try dsimp -simprocs only at H
  simp only [Option.some.injEq,Prod.mk.injEq] at H
  obtain ⟨rfl,rfl,rfl,rfl,rfl,rfl⟩:=H
  obtain ⟨bx,bw,fF,be,dM,bi,bl,bm⟩:=i_ bz ca fK bo ax dw az b0
  obtain ⟨cw,cv⟩:=iJ ci ck
  have nx:=jQ aa.out
  obtain ⟨bc,bd,ap,aq,ar,bP,bu,bs⟩:=i_ bp bq am an ac ao br bv
  have ads:=cu a6.out
  obtain ⟨ai,aN,aT,al,b4,b3⟩:=kL ae ag a9 aP b9 ba
  have aif:=jV a7.out
  go_wp2_with (first|((with_reducible refine bU 76 ?_);refine bV (some 30) rfl rfl func76 aB rfl #[.agg #[ah d2,ah d3,ah d4,ah d5],.agg #[.slice co aK.length cl],.agg #[ah ce,.string cc,.string cp,ah cq,ah cr,.string ct]] rfl aW ?_;(with_reducible refine (qU.calls Ah d2 d3 d4 d5 _ _ aK ce cc cp cq cr ct yN gz h8 h9 hs hu _ l9 jg.out nw.out).mono ?_);rintro e qt ⟨ai_,ai',rfl,ho0,ho1,hb⟩;refine ⟨_,rfl,?_⟩;obtain ⟨iM,ex,ey,aa,a6,a7,eF,bT,a8,HB⟩:=p_ (Kd.iY (aG iM) (Kd.iW ho0) hb) <| p_ (Kd.dK (Kd.iZ ho0 (Kd.iD (aG iM))) (dO ay)) <| p_ (Kd.dK ho1 (dO ay)) <| oZ (aj aa) (aj a6) (aj a7) (aj eF) (aj bT) (aj a8) ay hb;(try clear hb);(try clear ho0);(try clear ho1);obtain ⟨m9,ma,mb⟩:=Kd.dJ ex.out;subst mb;obtain ⟨bj,bh,b6,b5⟩:=jE b1 b2 av af;have akT:=cu eF.out;obtain ⟨b8,b7⟩:=iJ aw a5;have nz:=vZ bT.out;obtain ⟨mc,me,mf⟩:=Kd.dJ ey.out;subst mf))
  refine bodyPost_ret (nD rfl _ _ bb ab 28 49 #[.slice m9 yN.length ma] #[ah gz,.string h8,ah h9,.bool hs,.slice mc hu.length me] (0,0) (0,0) _ _ rfl bH underlying28 rfl aB rfl bH underlying49 rfl aB) rfl ?_
  exact ⟨_,_,b_,(by (with_reducible repeat (first|apply Kd.dR|apply Kd.dS|apply Kd.bK));exact Kd.bW (aU (aU (aU (aU (aU (aU (Kd.dL (Kd.dL ex.out eF.out (by decide)) bT.out (by decide)) (fun _ hk=>hk.1.2))))))) (fun _ hk=>trivial)),(by (with_reducible repeat (first|apply Kd.dR|apply Kd.dS|apply Kd.bK));exact Kd.bW (aU (aU (aU (aU (aU (aU (Kd.dL (Kd.dL ey.out eF.out (by decide)) bT.out (by decide)) (fun _ hk=>hk.1.2))))))) (fun _ hk=>trivial)),ay⟩
 replace m6:=Bool.eq_false_iff.mpr m6
 subst m6
 rw [if_neg iO] at H
 obtain ⟨ek,o6,H⟩:=bd_ H
 have hy:=m_ H
 clear H
 obtain ⟨bw,bx,bc,bd,ap,aq,ar,bP⟩:=i_ ca bz bp bq am an ac ao
 obtain ⟨bu,bs⟩:=iJ br bv
 have adz:=cu a6.out
 obtain ⟨be,fF,ai,aN,aT,al,b4,b3⟩:=i_ bo fK ae ag a9 aP b9 ba
 have U1:=jV a7.out
 go_upto_if 38 with (first|((with_reducible refine bU 26 ?_);refine bV (some 36) rfl rfl func26 aB rfl #[.agg #[.slice co aK.length cl],.string cc] rfl aW ?_;(with_reducible refine (pz.calls Ah _ _ aK cc ek _ l9 jg.out o6.out).mono ?_);rintro e abC ⟨rfl,hb⟩;refine ⟨_,rfl,?_⟩;obtain ⟨iM,aa,a6,a7,eF,bT,a8,HB⟩:=p_ (Kd.bn (aG iM) hb) <| oZ (aj aa) (aj a6) (aj a7) (aj eF) (aj bT) (aj a8) ay hb;(try clear hb)))
 (try simp only [Act.put,List.setIfInBounds_toArray,List.set_cons_zero,List.set_cons_succ])
 (try clear bx fF bw bc ap ar bu be bd ai aT b4 aq aN bP al bs b3)
 (try clear U1)
 obtain ⟨H⟩:=hy
 revert H;refine fJ (fun ga H=>?_) fun ga H=>?_
 rotate_left
 ·have lg:=gU ga
  have i1:=gV ga
  try simp only [bI,bY,lg]
  obtain ⟨⟨i2,i3,i4,i5,i6⟩,mh,H⟩:=bd_ H
  try dsimp -simprocs only at H
  simp only [Option.some.injEq,Prod.mk.injEq] at H
  obtain ⟨rfl,rfl,rfl,rfl,rfl,rfl⟩:=H
  try go_wp2
  obtain ⟨iM,aa,a6,a7,eF,bT,a8,HB⟩:=p_ (Kd.bK iM.out) <| wR aa a6 a7 eF bT a8 HB
  refine iH (n:=5) (S:=fun w'=>w'.cell? ⟨cj,0,none⟩=some (.slice cf cd.length cg)) (ds:=[]) Gt aB rfl rfl ((aO a8.out 0).trans rfl) (fun hH=>?_)
  generalize abC.drew=aii at iM aa a6 a7 eF bT a8 HB hH ⊢
  refine xZ (i:=1) (N:=some 40) Js aB ?_
  refine ng (i:=0) (N:=some 39) (v:=?_) (a':=?_) Jt rfl rfl aB (fun _ _ _ h=>h) (Or.inl ⟨(by rfl),?_⟩) hH ?_ ?_
  rotate_left
  ·intro w' s0
   go_simp
   with_reducible rfl
  rotate_left
  ·simp only [Act.put,List.setIfInBounds_toArray,List.set_cons_zero,List.set_cons_succ,bI,bY]
   rfl
  refine gB (i:=2) (N:=some 41) Ju rfl rfl aB (by decide) (fun K hK=>?_)
  refine iR func75 aB rfl #[ah ek] (by rfl) rfl rfl aW ?_
  with_reducible refine (lU.calls ek i2 i3 i4 i5 i6 _ mh.out).mono ?_
  rintro e dv ⟨aja,rfl,ho0,hb⟩
  refine ⟨_,rfl,?_⟩
  obtain ⟨iM,ez,aa,a6,a7,eF,bT,a8,HB⟩:=p_ (Kd.bn (aG iM) hb) <| p_ (Kd.dK ho0 (dO ay)) <| oZ (aj aa) (aj a6) (aj a7) (aj eF) (aj bT) (aj a8) ay hb
  (try clear hb)
  (try clear ho0)
  obtain ⟨i7,i8,f4⟩:=Kd.dJ ez.out
  (first|subst f4|(injection f4 with dP fZ dQ;have f_:=dP.symm;have gq:=dQ.symm;clear dP fZ dQ;subst f_;subst gq))
  refine hK.out _ _ ((aO a8.out 0).trans rfl) (fun hH=>?_)
  clear hK K
  refine fD (some 41) ?_
  refine gB (i:=3) (N:=none) Gu rfl rfl aB (by decide) (fun K hK=>?_)
  have ahj:dv.cell? ⟨bb,0,none⟩=some (.slice none 0 0):=(aO eF.out 0).trans rfl
  have afk:=dF eF.out 0
  obtain ⟨dM,ap,ai,bh,b5,bi,aq,aN⟩:=i_ ax am ae b2 af dw an ag
  obtain ⟨bj,b6⟩:=iJ b1 av
  refine jr (w1:=?_) (by rfl) rfl ?_ ?_
  rotate_left
  ·go_simp
   rfl
  refine hK.out _ _ ((aY af hH)) (fun hH=>?_)
  clear hK K
  refine gB (i:=4) (N:=none) Gv rfl rfl aB (by decide) (fun K hK=>?_)
  have ahk:dv.cell? ⟨ab,0,none⟩=some (ah 0):=(aO bT.out 0).trans rfl
  have afl:=dF bT.out 0
  obtain ⟨bl,ar,aT,b7,bm,bP,al,b8⟩:=i_ az ac a9 a5 b0 ao aP aw
  have ahl:dv.cell? ⟨ab,1,none⟩=some (.string (⟨#[]⟩:ByteArray)):=(aO bT.out 1).trans rfl
  have afm:=dF bT.out 1
  have ahm:dv.cell? ⟨ab,2,none⟩=some (ah 0):=(aO bT.out 2).trans rfl
  have afn:=dF bT.out 2
  have ahn:dv.cell? ⟨ab,3,none⟩=some (.bool false):=(aO bT.out 3).trans rfl
  have afo:=dF bT.out 3
  have aho:dv.cell? ⟨ab,4,none⟩=some (.slice none 0 0):=(aO bT.out 4).trans rfl
  have afp:=dF bT.out 4
  refine jr (w1:=?_) (by rfl) rfl ?_ ?_
  rotate_left
  ·go_simp
   rfl
  refine hK.out _ _ ((aY a5 (aY a5 (aY a5 (aY a5 (aY a5 hH)))))) (fun hH=>?_)
  clear hK K
  refine iF aB ?_
  try go_wp2
  refine bodyPost_ret (nD rfl _ _ bb ab 28 49 #[.slice cf cd.length cg] #[ah i2,.string i3,ah i4,.bool i5,.slice i7 i6.length i8] (0,0) (0,0) _ _ rfl bH underlying28 rfl aB rfl bH underlying49 rfl aB) rfl ?_
  exact ⟨_,_,b_,yZ,(by (with_reducible repeat (first|apply Kd.dR|apply Kd.dS|apply Kd.bK));exact Kd.bW (aU (aU (aU (aU (aU (aU (Kd.dL (Kd.dL ez.out eF.out (by decide)) bT.out (by decide)) (fun _ hk=>hk.1.2))))))) (fun _ hk=>trivial)),ay⟩
 have lg:=gZ ga
 have i1:=g_ ga
 clear ga
 try simp only [bI,bY,lg]
 obtain ⟨kM,abD,H⟩:=bd_ H
 obtain ⟨cx,oa,H⟩:=bd_ H
 have i9:=m_ H
 clear H
 have ak0:=cu a6.out
 have ia:=jV a7.out
 go_upto_if 52 with (first|((with_reducible refine bU 54 ?_);refine bV (some 45) rfl rfl func54 aB rfl #[.agg #[.slice co aK.length cl],.string cc] rfl aW ?_;(with_reducible refine (xW.calls Ah _ _ aK cc kM _ l9 jg.out abD.out).mono ?_);rintro e oc ⟨rfl,hb⟩;refine ⟨_,rfl,?_⟩;obtain ⟨iM,aa,a6,a7,eF,bT,a8,HB⟩:=p_ (Kd.bn (aG iM) hb) <| oZ (aj aa) (aj a6) (aj a7) (aj eF) (aj bT) (aj a8) ay hb;(try clear hb);have Qe:=cu a6.out;have f5:=jV a7.out)|((with_reducible refine bU 13 ?_);refine bV (some 49) rfl rfl func13 aB rfl #[.agg #[.slice co aK.length cl],.string cc] rfl aW ?_;(with_reducible refine (nR.calls Ah _ _ aK cc cx _ l9 jg.out oa.out).mono ?_);rintro e gc ⟨rfl,hb⟩;refine ⟨_,rfl,?_⟩;obtain ⟨iM,aa,a6,a7,eF,bT,a8,HB⟩:=p_ (Kd.bn (aG iM) hb) <| oZ (aj aa) (aj a6) (aj a7) (aj eF) (aj bT) (aj a8) ay hb;(try clear hb);have f7:=jV a7.out))
 (try simp only [Act.put,List.setIfInBounds_toArray,List.set_cons_zero,List.set_cons_succ])
 (try clear bx fF bw bc ap ar bu be bd ai aT b4 aq aN bP al bs b3)
 (try clear Qe)
 (try clear f5)
 (try clear f7)
 (try clear ia)
 (try clear Qe)
 obtain ⟨H⟩:=i9
 revert H;refine fJ (fun dp H=>?_) fun dp H=>?_
 ·have da:=gZ dp
  have gd:=g_ dp
  clear dp
  try simp only [bI,bY,da]
  by_cases el:kM=true
  rotate_left
  ·replace el:=Bool.eq_false_iff.mpr el
   subst el
   rw [if_neg iO] at H
   obtain ⟨ib,mi,H⟩:=bd_ H
   simp only [Option.some.injEq,Prod.mk.injEq] at H
   obtain ⟨rfl,rfl,rfl,rfl,rfl,rfl⟩:=H
   have adk:=cu a6.out
   have nc:=jV a7.out
   go_wp2_with (first|((with_reducible refine bU 77 ?_);refine bV (some 60) rfl rfl func77 aB rfl #[.agg #[.slice co aK.length cl],.string cc] rfl aW ?_;(with_reducible refine (qo.calls Ah _ _ aK cc ib _ l9 jg.out mi.out).mono ?_);rintro e od ⟨ajc,rfl,ho0,hb⟩;refine ⟨_,rfl,?_⟩;obtain ⟨iM,fa,aa,a6,a7,eF,bT,a8,HB⟩:=p_ (Kd.iY (aG iM) (Kd.iW ho0) hb) <| p_ (Kd.dK (Kd.iZ ho0 (Kd.iD (aG iM))) (dO ay)) <| oZ (aj aa) (aj a6) (aj a7) (aj eF) (aj bT) (aj a8) ay hb;(try clear hb);(try clear ho0);obtain ⟨ic,id,ie⟩:=Kd.dJ fa.out;subst ie;obtain ⟨bi,dM,bj,bh,b6,b5⟩:=kL dw ax b1 b2 av af;have aj_:=cu eF.out;obtain ⟨bm,bl,b8,b7⟩:=jE b0 az aw a5;have ne:=vZ bT.out))
   refine bodyPost_ret (nD rfl _ _ bb ab 28 49 #[.slice ic ib.length id] #[ah 0,.string (⟨#[]⟩:ByteArray),ah 0,.bool false,.slice none 0 0] (0,0) (0,0) _ _ rfl bH underlying28 rfl aB rfl bH underlying49 rfl aB) rfl ?_
   exact ⟨_,_,b_,(by (with_reducible repeat (first|apply Kd.dR|apply Kd.dS|apply Kd.bK));exact Kd.bW (aU (aU (aU (aU (aU (aU (Kd.dL (Kd.dL fa.out eF.out (by decide)) bT.out (by decide)) (fun _ hk=>hk.1.2))))))) (fun _ hk=>trivial)),tN,ay⟩
  subst el
  rw [if_pos rfl] at H
  obtain ⟨⟨EZ,ii,ij,ik,il⟩,mj,H⟩:=bd_ H
  try dsimp -simprocs only at H
  simp only [Option.some.injEq,Prod.mk.injEq] at H
  obtain ⟨rfl,rfl,rfl,rfl,rfl,rfl⟩:=H
  try go_wp2
  obtain ⟨iM,aa,a6,a7,eF,bT,a8,HB⟩:=p_ (Kd.bK iM.out) <| wR aa a6 a7 eF bT a8 HB
  refine iH (n:=4) (S:=fun w'=>w'.cell? ⟨cj,0,none⟩=some (.slice cf cd.length cg)) (ds:=[]) yA aB rfl rfl ((aO a8.out 0).trans rfl) (fun hH=>?_)
  generalize gc.drew=oe at iM aa a6 a7 eF bT a8 HB hH ⊢
  refine ng (i:=0) (N:=some 55) (v:=?_) (a':=?_) yB rfl rfl aB (fun _ _ _ h=>h) (Or.inl ⟨(by rfl),?_⟩) hH ?_ ?_
  rotate_left
  ·intro w' s0
   go_simp
   with_reducible rfl
  rotate_left
  ·simp only [Act.put,List.setIfInBounds_toArray,List.set_cons_zero,List.set_cons_succ,bI,bY]
   rfl
  refine gB (i:=1) (N:=some 56) yC rfl rfl aB (by decide) (fun K hK=>?_)
  refine iR func75 aB rfl #[ah 5] (by rfl) rfl rfl aW ?_
  with_reducible refine (lU.calls 5 EZ ii ij ik il _ mj.out).mono ?_
  rintro e lZ ⟨ajb,rfl,ho0,hb⟩
  refine ⟨_,rfl,?_⟩
  obtain ⟨iM,fb,aa,a6,a7,eF,bT,a8,HB⟩:=p_ (Kd.bn (aG iM) hb) <| p_ (Kd.dK ho0 (dO ay)) <| oZ (aj aa) (aj a6) (aj a7) (aj eF) (aj bT) (aj a8) ay hb
  (try clear hb)
  (try clear ho0)
  obtain ⟨im,io,fc⟩:=Kd.dJ fb.out
  (first|subst fc|(injection fc with dP fZ dQ;have f_:=dP.symm;have gq:=dQ.symm;clear dP fZ dQ;subst f_;subst gq))
  refine hK.out _ _ ((aO a8.out 0).trans rfl) (fun hH=>?_)
  clear hK K
  refine fD (some 56) ?_
  refine gB (i:=2) (N:=none) yD rfl rfl aB (by decide) (fun K hK=>?_)
  have agn:lZ.cell? ⟨bb,0,none⟩=some (.slice none 0 0):=(aO eF.out 0).trans rfl
  have aen:=dF eF.out 0
  obtain ⟨dM,ap,ai,bh,b5,bi,aq,aN⟩:=i_ ax am ae b2 af dw an ag
  obtain ⟨bj,b6⟩:=iJ b1 av
  refine jr (w1:=?_) (by rfl) rfl ?_ ?_
  rotate_left
  ·go_simp
   rfl
  refine hK.out _ _ ((aY af hH)) (fun hH=>?_)
  clear hK K
  refine gB (i:=3) (N:=none) yE rfl rfl aB (by decide) (fun K hK=>?_)
  have agp:lZ.cell? ⟨ab,0,none⟩=some (ah 0):=(aO bT.out 0).trans rfl
  have aeo:=dF bT.out 0
  obtain ⟨bl,ar,aT,b7,bm,bP,al,b8⟩:=i_ az ac a9 a5 b0 ao aP aw
  have agq:lZ.cell? ⟨ab,1,none⟩=some (.string (⟨#[]⟩:ByteArray)):=(aO bT.out 1).trans rfl
  have aep:=dF bT.out 1
  have agr:lZ.cell? ⟨ab,2,none⟩=some (ah 0):=(aO bT.out 2).trans rfl
  have aer:=dF bT.out 2
  have ags:lZ.cell? ⟨ab,3,none⟩=some (.bool false):=(aO bT.out 3).trans rfl
  have aes:=dF bT.out 3
  have agt:lZ.cell? ⟨ab,4,none⟩=some (.slice none 0 0):=(aO bT.out 4).trans rfl
  have aeu:=dF bT.out 4
  refine jr (w1:=?_) (by rfl) rfl ?_ ?_
  rotate_left
  ·go_simp
   rfl
  refine hK.out _ _ ((aY a5 (aY a5 (aY a5 (aY a5 (aY a5 hH)))))) (fun hH=>?_)
  clear hK K
  refine iF aB ?_
  try go_wp2
  refine bodyPost_ret (nD rfl _ _ bb ab 28 49 #[.slice cf cd.length cg] #[ah EZ,.string ii,ah ij,.bool ik,.slice im il.length io] (0,0) (0,0) _ _ rfl bH underlying28 rfl aB rfl bH underlying49 rfl aB) rfl ?_
  exact ⟨_,_,b_,yZ,(by (with_reducible repeat (first|apply Kd.dR|apply Kd.dS|apply Kd.bK));exact Kd.bW (aU (aU (aU (aU (aU (aU (Kd.dL (Kd.dL fb.out eF.out (by decide)) bT.out (by decide)) (fun _ hk=>hk.1.2))))))) (fun _ hk=>trivial)),ay⟩
 have da:=gU dp
 have gd:=gV dp
 try simp only [bI,bY,da]
 revert H;refine fJ (fun di H=>?_) fun di H=>?_
 ·have e7:=gZ di
  have e8:=g_ di
  clear di
  have fd:=m_ H
  clear H
  have ip:=jV a7.out
  go_upto_if 64 with (fail)
  (try clear fF bc be bd ai aT b4 aN al b3)
  (try clear ip)
  obtain ⟨H⟩:=fd
  revert H;refine fJ (fun dj H=>?_) fun dj H=>?_
  ·have cz:=gZ dj
   have e9:=g_ dj
   clear dj
   try simp only [bI,bY,cz]
   obtain ⟨⟨Ae,ir,iu,iv,Af⟩,ml,H⟩:=bd_ H
   try dsimp -simprocs only at H
   simp only [Option.some.injEq,Prod.mk.injEq] at H
   obtain ⟨rfl,rfl,rfl,rfl,rfl,rfl⟩:=H
   try go_wp2
   obtain ⟨iM,aa,a6,a7,eF,bT,a8,HB⟩:=p_ (Kd.bK iM.out) <| wR aa a6 a7 eF bT a8 HB
   refine iH (n:=4) (S:=fun w'=>w'.cell? ⟨cj,0,none⟩=some (.slice cf cd.length cg)) (ds:=[]) yA aB rfl rfl ((aO a8.out 0).trans rfl) (fun hH=>?_)
   generalize gc.drew=abE at iM aa a6 a7 eF bT a8 HB hH ⊢
   refine ng (i:=0) (N:=some 68) (v:=?_) (a':=?_) yB rfl rfl aB (fun _ _ _ h=>h) (Or.inl ⟨(by rfl),?_⟩) hH ?_ ?_
   rotate_left
   ·intro w' s0
    go_simp
    with_reducible rfl
   rotate_left
   ·simp only [Act.put,List.setIfInBounds_toArray,List.set_cons_zero,List.set_cons_succ,bI,bY]
    rfl
   refine gB (i:=1) (N:=some 69) yC rfl rfl aB (by decide) (fun K hK=>?_)
   refine iR func75 aB rfl #[ah 9] (by rfl) rfl rfl aW ?_
   with_reducible refine (lU.calls 9 Ae ir iu iv Af _ ml.out).mono ?_
   rintro e dx ⟨ajd,rfl,ho0,hb⟩
   refine ⟨_,rfl,?_⟩
   obtain ⟨iM,fe,aa,a6,a7,eF,bT,a8,HB⟩:=p_ (Kd.bn (aG iM) hb) <| p_ (Kd.dK ho0 (dO ay)) <| oZ (aj aa) (aj a6) (aj a7) (aj eF) (aj bT) (aj a8) ay hb
   (try clear hb)
   (try clear ho0)
   obtain ⟨ix,Bg,ff⟩:=Kd.dJ fe.out
   (first|subst ff|(injection ff with dP fZ dQ;have f_:=dP.symm;have gq:=dQ.symm;clear dP fZ dQ;subst f_;subst gq))
   refine hK.out _ _ ((aO a8.out 0).trans rfl) (fun hH=>?_)
   clear hK K
   refine fD (some 69) ?_
   refine gB (i:=2) (N:=none) yD rfl rfl aB (by decide) (fun K hK=>?_)
   have aag:dx.cell? ⟨bb,0,none⟩=some (.slice none 0 0):=(aO eF.out 0).trans rfl
   have ZR:=dF eF.out 0
   obtain ⟨dM,ap,ai,bh,b5,bi,aq,aN⟩:=i_ ax am ae b2 af dw an ag
   obtain ⟨bj,b6⟩:=iJ b1 av
   refine jr (w1:=?_) (by rfl) rfl ?_ ?_
   rotate_left
   ·go_simp
    rfl
   refine hK.out _ _ ((aY af hH)) (fun hH=>?_)
   clear hK K
   refine gB (i:=3) (N:=none) yE rfl rfl aB (by decide) (fun K hK=>?_)
   have aah:dx.cell? ⟨ab,0,none⟩=some (ah 0):=(aO bT.out 0).trans rfl
   have ZT:=dF bT.out 0
   obtain ⟨bl,ar,aT,b7,bm,bP,al,b8⟩:=i_ az ac a9 a5 b0 ao aP aw
   have aai:dx.cell? ⟨ab,1,none⟩=some (.string (⟨#[]⟩:ByteArray)):=(aO bT.out 1).trans rfl
   have ZU:=dF bT.out 1
   have agD:dx.cell? ⟨ab,2,none⟩=some (ah 0):=(aO bT.out 2).trans rfl
   have aeE:=dF bT.out 2
   have aaj:dx.cell? ⟨ab,3,none⟩=some (.bool false):=(aO bT.out 3).trans rfl
   have ZV:=dF bT.out 3
   have agE:dx.cell? ⟨ab,4,none⟩=some (.slice none 0 0):=(aO bT.out 4).trans rfl
   have aeF:=dF bT.out 4
   refine jr (w1:=?_) (by rfl) rfl ?_ ?_
   rotate_left
   ·go_simp
    rfl
   refine hK.out _ _ ((aY a5 (aY a5 (aY a5 (aY a5 (aY a5 hH)))))) (fun hH=>?_)
   clear hK K
   refine iF aB ?_
   try go_wp2
   refine bodyPost_ret (nD rfl _ _ bb ab 28 49 #[.slice cf cd.length cg] #[ah Ae,.string ir,ah iu,.bool iv,.slice ix Af.length Bg] (0,0) (0,0) _ _ rfl bH underlying28 rfl aB rfl bH underlying49 rfl aB) rfl ?_
   exact ⟨_,_,b_,yZ,(by (with_reducible repeat (first|apply Kd.dR|apply Kd.dS|apply Kd.bK));exact Kd.bW (aU (aU (aU (aU (aU (aU (Kd.dL (Kd.dL fe.out eF.out (by decide)) bT.out (by decide)) (fun _ hk=>hk.1.2))))))) (fun _ hk=>trivial)),ay⟩
  have cz:=gU dj
  have e9:=gV dj
  try simp only [bI,bY,cz]
  by_cases ea:kM=true
  rotate_left
  ·replace ea:=Bool.eq_false_iff.mpr ea
   subst ea
   rw [if_neg iO] at H
   obtain ⟨⟨iz,j5,j9,ja,jb⟩,mm,H⟩:=bd_ H
   try dsimp -simprocs only at H
   simp only [Option.some.injEq,Prod.mk.injEq] at H
   obtain ⟨rfl,rfl,rfl,rfl,rfl,rfl⟩:=H
   try go_wp2
   obtain ⟨iM,aa,a6,a7,eF,bT,a8,HB⟩:=p_ (Kd.bK iM.out) <| wR aa a6 a7 eF bT a8 HB
   refine iH (n:=4) (S:=fun w'=>w'.cell? ⟨cj,0,none⟩=some (.slice cf cd.length cg)) (ds:=[]) yA aB rfl rfl ((aO a8.out 0).trans rfl) (fun hH=>?_)
   generalize gc.drew=aij at iM aa a6 a7 eF bT a8 HB hH ⊢
   refine ng (i:=0) (N:=some 73) (v:=?_) (a':=?_) yB rfl rfl aB (fun _ _ _ h=>h) (Or.inl ⟨(by rfl),?_⟩) hH ?_ ?_
   rotate_left
   ·intro w' s0
    go_simp
    with_reducible rfl
   rotate_left
   ·simp only [Act.put,List.setIfInBounds_toArray,List.set_cons_zero,List.set_cons_succ,bI,bY]
    rfl
   refine gB (i:=1) (N:=some 74) yC rfl rfl aB (by decide) (fun K hK=>?_)
   refine iR func75 aB rfl #[ah 4] (by rfl) rfl rfl aW ?_
   with_reducible refine (lU.calls 4 iz j5 j9 ja jb _ mm.out).mono ?_
   rintro e dy ⟨ajh,rfl,ho0,hb⟩
   refine ⟨_,rfl,?_⟩
   obtain ⟨iM,fg,aa,a6,a7,eF,bT,a8,HB⟩:=p_ (Kd.bn (aG iM) hb) <| p_ (Kd.dK ho0 (dO ay)) <| oZ (aj aa) (aj a6) (aj a7) (aj eF) (aj bT) (aj a8) ay hb
   (try clear hb)
   (try clear ho0)
   obtain ⟨E8,Bh,fh⟩:=Kd.dJ fg.out
   (first|subst fh|(injection fh with dP fZ dQ;have f_:=dP.symm;have gq:=dQ.symm;clear dP fZ dQ;subst f_;subst gq))
   refine hK.out _ _ ((aO a8.out 0).trans rfl) (fun hH=>?_)
   clear hK K
   refine fD (some 74) ?_
   refine gB (i:=2) (N:=none) yD rfl rfl aB (by decide) (fun K hK=>?_)
   have agK:dy.cell? ⟨bb,0,none⟩=some (.slice none 0 0):=(aO eF.out 0).trans rfl
   have aeL:=dF eF.out 0
   obtain ⟨dM,ap,ai,bh,b5,bi,aq,aN⟩:=i_ ax am ae b2 af dw an ag
   obtain ⟨bj,b6⟩:=iJ b1 av
   refine jr (w1:=?_) (by rfl) rfl ?_ ?_
   rotate_left
   ·go_simp
    rfl
   refine hK.out _ _ ((aY af hH)) (fun hH=>?_)
   clear hK K
   refine gB (i:=3) (N:=none) yE rfl rfl aB (by decide) (fun K hK=>?_)
   have agL:dy.cell? ⟨ab,0,none⟩=some (ah 0):=(aO bT.out 0).trans rfl
   have aeM:=dF bT.out 0
   obtain ⟨bl,ar,aT,b7,bm,bP,al,b8⟩:=i_ az ac a9 a5 b0 ao aP aw
   have agM:dy.cell? ⟨ab,1,none⟩=some (.string (⟨#[]⟩:ByteArray)):=(aO bT.out 1).trans rfl
   have aeN:=dF bT.out 1
   have agN:dy.cell? ⟨ab,2,none⟩=some (ah 0):=(aO bT.out 2).trans rfl
   have aeO:=dF bT.out 2
   have agO:dy.cell? ⟨ab,3,none⟩=some (.bool false):=(aO bT.out 3).trans rfl
   have aeP:=dF bT.out 3
   have agP:dy.cell? ⟨ab,4,none⟩=some (.slice none 0 0):=(aO bT.out 4).trans rfl
   have aeQ:=dF bT.out 4
   refine jr (w1:=?_) (by rfl) rfl ?_ ?_
   rotate_left
   ·go_simp
    rfl
   refine hK.out _ _ ((aY a5 (aY a5 (aY a5 (aY a5 (aY a5 hH)))))) (fun hH=>?_)
   clear hK K
   refine iF aB ?_
   try go_wp2
   refine bodyPost_ret (nD rfl _ _ bb ab 28 49 #[.slice cf cd.length cg] #[ah iz,.string j5,ah j9,.bool ja,.slice E8 jb.length Bh] (0,0) (0,0) _ _ rfl bH underlying28 rfl aB rfl bH underlying49 rfl aB) rfl ?_
   exact ⟨_,_,b_,yZ,(by (with_reducible repeat (first|apply Kd.dR|apply Kd.dS|apply Kd.bK));exact Kd.bW (aU (aU (aU (aU (aU (aU (Kd.dL (Kd.dL fg.out eF.out (by decide)) bT.out (by decide)) (fun _ hk=>hk.1.2))))))) (fun _ hk=>trivial)),ay⟩
  subst ea
  rw [if_pos rfl] at H
  obtain ⟨em,mn,H⟩:=bd_ H
  have fi:=m_ H
  clear H
  have adl:=cu a6.out
  have eb:=jV a7.out
  go_upto_if 75 with (first|((with_reducible refine bU 20 ?_);refine bV (some 79) rfl rfl func20 aB rfl #[.agg #[.slice co aK.length cl],.string cc] rfl aW ?_;(with_reducible refine (nS.calls Ah _ _ aK cc em _ l9 jg.out mn.out).mono ?_);rintro e mo ⟨aje,rfl,ho0,hb⟩;refine ⟨_,rfl,?_⟩;obtain ⟨iM,cn,aa,a6,a7,eF,bT,a8,HB⟩:=p_ (Kd.bn (aG iM) hb) <| p_ (Kd.dK ho0 (dO ay)) <| oZ (aj aa) (aj a6) (aj a7) (aj eF) (aj bT) (aj a8) ay hb;(try clear hb);(try clear ho0);obtain ⟨nf,aic,Bj⟩:=Kd.dJ cn.out;subst Bj))
  (try simp only [Act.put,List.setIfInBounds_toArray,List.set_cons_zero,List.set_cons_succ])
  (try clear bx fF bw bc ap ar bu be bd ai aT b4 aq aN bP al bs b3)
  (try clear eb)
  obtain ⟨H⟩:=fi
  revert H;refine fJ (fun dq H=>?_) fun dq H=>?_
  rotate_left
  ·have d0:=qE dq
   have df:decide (0 < em.length)=false:=qE (by omega)
   clear dq
   (first|rw [d0]|rw [df]|(simp only [bI,bY];rw [d0])|skip)
   obtain ⟨Ag,mq,H⟩:=bd_ H
   simp only [Option.some.injEq,Prod.mk.injEq] at H
   obtain ⟨rfl,rfl,rfl,rfl,rfl,rfl⟩:=H
   have akl:=cu a6.out
   have fj:=jV a7.out
   go_wp2_with (first|((with_reducible refine bU 77 ?_);refine bV (some 87) rfl rfl func77 aB rfl #[.agg #[.slice co aK.length cl],.string cc] rfl aW ?_;(with_reducible refine (qo.calls Ah _ _ aK cc Ag _ l9 jg.out mq.out).mono ?_);rintro e oj ⟨ajg,rfl,ho0,hb⟩;refine ⟨_,rfl,?_⟩;obtain ⟨iM,cn,fk,aa,a6,a7,eF,bT,a8,HB⟩:=p_ (Kd.iY (aG iM) (Kd.iW ho0) hb) <| p_ (Kd.bn (aG cn) hb) <| p_ (Kd.dK (Kd.iZ ho0 (Kd.iD (aG iM))) (dO ay)) <| oZ (aj aa) (aj a6) (aj a7) (aj eF) (aj bT) (aj a8) ay hb;(try clear hb);(try clear ho0);obtain ⟨Dw,Dx,Dy⟩:=Kd.dJ fk.out;subst Dy;obtain ⟨bi,dM,bj,bh,b6,b5⟩:=kL dw ax b1 b2 av af;have ako:=cu eF.out;obtain ⟨bm,bl,b8,b7⟩:=jE b0 az aw a5;have fl:=vZ bT.out))
   refine bodyPost_ret (nD rfl _ _ bb ab 28 49 #[.slice Dw Ag.length Dx] #[ah 0,.string (⟨#[]⟩:ByteArray),ah 0,.bool false,.slice none 0 0] (0,0) (0,0) _ _ rfl bH underlying28 rfl aB rfl bH underlying49 rfl aB) rfl ?_
   exact ⟨_,_,b_,(by (with_reducible repeat (first|apply Kd.dR|apply Kd.dS|apply Kd.bK));exact Kd.bW (aU (aU (aU (aU (aU (aU (Kd.dL (Kd.dL fk.out eF.out (by decide)) bT.out (by decide)) (fun _ hk=>hk.1.2))))))) (fun _ hk=>trivial)),tN,ay⟩
  have d0:=lC dq
  have df:decide (0 < em.length)=true:=lC (by omega)
  clear dq
  (first|rw [d0]|rw [df]|(simp only [bI,bY];rw [d0])|skip)
  obtain ⟨⟨jj,Dz,DC,DF,jn⟩,mr,H⟩:=bd_ H
  try dsimp -simprocs only at H
  simp only [Option.some.injEq,Prod.mk.injEq] at H
  obtain ⟨rfl,rfl,rfl,rfl,rfl,rfl⟩:=H
  try go_wp2
  obtain ⟨iM,cn,aa,a6,a7,eF,bT,a8,HB⟩:=p_ (Kd.bK iM.out) <| p_ (Kd.bK cn.out) <| wR aa a6 a7 eF bT a8 HB
  refine iH (n:=4) (S:=fun w'=>w'.cell? ⟨cj,0,none⟩=some (.slice cf cd.length cg)) (ds:=[]) yA aB rfl rfl ((aO a8.out 0).trans rfl) (fun hH=>?_)
  generalize mo.drew=ol at iM cn aa a6 a7 eF bT a8 HB hH ⊢
  refine ng (i:=0) (N:=some 82) (v:=?_) (a':=?_) yB rfl rfl aB (fun _ _ _ h=>h) (Or.inl ⟨(by rfl),?_⟩) hH ?_ ?_
  rotate_left
  ·intro w' s0
   go_simp
   with_reducible rfl
  rotate_left
  ·simp only [Act.put,List.setIfInBounds_toArray,List.set_cons_zero,List.set_cons_succ,bI,bY]
   rfl
  refine gB (i:=1) (N:=some 83) yC rfl rfl aB (by decide) (fun K hK=>?_)
  refine iR func75 aB rfl #[ah 10] (by rfl) rfl rfl aW ?_
  with_reducible refine (lU.calls 10 jj Dz DC DF jn _ mr.out).mono ?_
  rintro e dz ⟨ajf,rfl,ho0,hb⟩
  refine ⟨_,rfl,?_⟩
  obtain ⟨iM,cn,fm,aa,a6,a7,eF,bT,a8,HB⟩:=p_ (Kd.bn (aG iM) hb) <| p_ (Kd.iY (aG cn) (Kd.iW ho0) hb) <| p_ (Kd.dK (Kd.iZ ho0 (Kd.iD (aG cn))) (dO ay)) <| oZ (aj aa) (aj a6) (aj a7) (aj eF) (aj bT) (aj a8) ay hb
  (try clear hb)
  (try clear ho0)
  obtain ⟨aa2,jp,fo⟩:=Kd.dJ fm.out
  (first|subst fo|(injection fo with dP fZ dQ;have f_:=dP.symm;have gq:=dQ.symm;clear dP fZ dQ;subst f_;subst gq))
  refine hK.out _ _ ((aO a8.out 0).trans rfl) (fun hH=>?_)
  clear hK K
  refine fD (some 83) ?_
  refine gB (i:=2) (N:=none) yD rfl rfl aB (by decide) (fun K hK=>?_)
  have aak:dz.cell? ⟨bb,0,none⟩=some (.slice none 0 0):=(aO eF.out 0).trans rfl
  have ZW:=dF eF.out 0
  obtain ⟨dM,ap,ai,bh,b5,bi,aq,aN⟩:=i_ ax am ae b2 af dw an ag
  obtain ⟨bj,b6⟩:=iJ b1 av
  refine jr (w1:=?_) (by rfl) rfl ?_ ?_
  rotate_left
  ·go_simp
   rfl
  refine hK.out _ _ ((aY af hH)) (fun hH=>?_)
  clear hK K
  refine gB (i:=3) (N:=none) yE rfl rfl aB (by decide) (fun K hK=>?_)
  have aal:dz.cell? ⟨ab,0,none⟩=some (ah 0):=(aO bT.out 0).trans rfl
  have ZX:=dF bT.out 0
  obtain ⟨bl,ar,aT,b7,bm,bP,al,b8⟩:=i_ az ac a9 a5 b0 ao aP aw
  have aam:dz.cell? ⟨ab,1,none⟩=some (.string (⟨#[]⟩:ByteArray)):=(aO bT.out 1).trans rfl
  have ZY:=dF bT.out 1
  have aan:dz.cell? ⟨ab,2,none⟩=some (ah 0):=(aO bT.out 2).trans rfl
  have Z4:=dF bT.out 2
  have agH:dz.cell? ⟨ab,3,none⟩=some (.bool false):=(aO bT.out 3).trans rfl
  have aeI:=dF bT.out 3
  have agJ:dz.cell? ⟨ab,4,none⟩=some (.slice none 0 0):=(aO bT.out 4).trans rfl
  have aeK:=dF bT.out 4
  refine jr (w1:=?_) (by rfl) rfl ?_ ?_
  rotate_left
  ·go_simp
   rfl
  refine hK.out _ _ ((aY a5 (aY a5 (aY a5 (aY a5 (aY a5 hH)))))) (fun hH=>?_)
  clear hK K
  refine iF aB ?_
  try go_wp2
  refine bodyPost_ret (nD rfl _ _ bb ab 28 49 #[.slice cf cd.length cg] #[ah jj,.string Dz,ah DC,.bool DF,.slice aa2 jn.length jp] (0,0) (0,0) _ _ rfl bH underlying28 rfl aB rfl bH underlying49 rfl aB) rfl ?_
  exact ⟨_,_,b_,yZ,(by (with_reducible repeat (first|apply Kd.dR|apply Kd.dS|apply Kd.bK));exact Kd.bW (aU (aU (aU (aU (aU (aU (Kd.dL (Kd.dL fm.out eF.out (by decide)) bT.out (by decide)) (fun _ hk=>hk.1.2))))))) (fun _ hk=>trivial)),ay⟩
 have e7:=gU di
 have e8:=gV di
 revert H;refine fJ (fun dk H=>?_) fun dk H=>?_
 ·have ec:=gZ dk
  have ed:=g_ dk
  clear dk
  obtain ⟨⟨UK,JR,js,jt,ju,DI⟩,ms,H⟩:=bd_ H
  try dsimp -simprocs only at H
  simp only [Option.some.injEq,Prod.mk.injEq] at H
  obtain ⟨rfl,rfl,rfl,rfl,rfl,rfl⟩:=H
  have akq:=cu a6.out
  have fp:=jV a7.out
  go_wp2_with (first|((with_reducible refine bU 78 ?_);refine bV (some 93) rfl rfl func78 aB rfl #[.agg #[.slice co aK.length cl],.agg #[ah ce,.string cc,.string cp,ah cq,ah cr,.string ct]] rfl aW ?_;(with_reducible refine (oI.calls Ah _ _ aK ce cc cp cq cr ct UK JR js jt ju DI _ l9 jg.out ms.out).mono ?_);rintro e om ⟨aji,ajj,rfl,ho0,ho1,hb⟩;refine ⟨_,rfl,?_⟩;obtain ⟨iM,fq,fs,aa,a6,a7,eF,bT,a8,HB⟩:=p_ (Kd.iY (aG iM) (Kd.iW ho0) hb) <| p_ (Kd.dK (Kd.iZ ho0 (Kd.iD (aG iM))) (dO ay)) <| p_ (Kd.dK ho1 (dO ay)) <| oZ (aj aa) (aj a6) (aj a7) (aj eF) (aj bT) (aj a8) ay hb;(try clear hb);(try clear ho0);(try clear ho1);obtain ⟨Ib,jx,Ic⟩:=Kd.dJ fq.out;subst Ic;obtain ⟨bi,dM,bj,bh,b6,b5⟩:=kL dw ax b1 b2 av af;have aks:=cu eF.out;obtain ⟨bm,bl,b8,b7⟩:=jE b0 az aw a5;have ft:=vZ bT.out;obtain ⟨jz,l5,l6⟩:=Kd.dJ fs.out;subst l6))
  refine bodyPost_ret (nD rfl _ _ bb ab 28 49 #[.slice Ib UK.length jx] #[ah JR,.string js,ah jt,.bool ju,.slice jz DI.length l5] (0,0) (0,0) _ _ rfl bH underlying28 rfl aB rfl bH underlying49 rfl aB) rfl ?_
  exact ⟨_,_,b_,(by (with_reducible repeat (first|apply Kd.dR|apply Kd.dS|apply Kd.bK));exact Kd.bW (aU (aU (aU (aU (aU (aU (Kd.dL (Kd.dL fq.out eF.out (by decide)) bT.out (by decide)) (fun _ hk=>hk.1.2))))))) (fun _ hk=>trivial)),(by (with_reducible repeat (first|apply Kd.dR|apply Kd.dS|apply Kd.bK));exact Kd.bW (aU (aU (aU (aU (aU (aU (Kd.dL (Kd.dL fs.out eF.out (by decide)) bT.out (by decide)) (fun _ hk=>hk.1.2))))))) (fun _ hk=>trivial)),ay⟩
 have ec:=gU dk
 have ed:=gV dk
 have ee:=m_ H
 clear H
 go_upto_if 96 with (fail)
 go_cut [96] (fun ac8 wc=>∃ (kq:Nat) (d6:Bool),ac8=.bool d6∧aA (nO.j1 kq kM cx ce d6 d2 d3 d4 d5 aK ce cc cp cq cr ct cd=some (r1,r2,r3,r4,r5,r6))∧aA (kq≤Ah)∧aA (Kd.R bF 43 wc w.heap.size (fun _=>True) (.slice cf cd.length cg) cd)∧aA (wc.heap[e6]?=some (.cells #[ah d2,ah d3,ah d4,ah d5] 25))∧aA (wc.heap[dg]?=some (.cells #[(.slice co aK.length cl)] 28))∧aA (wc.heap[cy]?=some (.cells #[ah ce,.string cc,.string cp,ah cq,ah cr,.string ct] 45))∧aA (wc.heap[bb]?=some (.cells #[(.slice none 0 0)] 28))∧aA (wc.heap[ab]?=some (.cells #[ah 0,.string (⟨#[]⟩:ByteArray),ah 0,.bool false,(.slice none 0 0)] 49))∧aA (wc.heap[cj]?=some (.cells #[(.slice cf cd.length cg)] 28))∧aA (Below w.heap.size w wc))
 case first =>
  obtain ⟨H⟩:=ee
  revert H;refine fJ (fun dl H=>?_) fun dl H=>?_
  ·have d1:=gZ dl
   have ef:=g_ dl
   clear dl
   try simp only [bI,bY,d1]
   have H':=m_ H
   clear H
   go_wp2
   go_meet
   case rel=>exact ⟨_,((ce == 6)),bg,H',⟨(by have:=LC.out;first|omega|exact Nat.le_refl _)⟩,⟨(aG iM)⟩,⟨(aj aa)⟩,⟨(aj a6)⟩,⟨(aj a7)⟩,⟨(aj eF)⟩,⟨(aj bT)⟩,⟨(aj a8)⟩,⟨ay⟩⟩
  have d1:=gU dl
  have ef:=gV dl
  try simp only [bI,bY,d1]
  revert H;refine fJ (fun dm H=>?_) fun dm H=>?_
  rotate_left
  ·have eh:=gU dm
   have ei:=gV dm
   have H':=m_ H
   clear H
   go_wp2
   go_meet
   case rel=>exact ⟨_,((ce == 8)),bg,H',⟨(by have:=LC.out;first|omega|exact Nat.le_refl _)⟩,⟨(aG iM)⟩,⟨(aj aa)⟩,⟨(aj a6)⟩,⟨(aj a7)⟩,⟨(aj eF)⟩,⟨(aj bT)⟩,⟨(aj a8)⟩,⟨ay⟩⟩
  have eh:=gZ dm
  have ei:=g_ dm
  clear dm
  have H':=m_ H
  clear H
  go_wp2
  go_meet
  case rel=>exact ⟨_,((ce == 7)),bg,H',⟨(by have:=LC.out;first|omega|exact Nat.le_refl _)⟩,⟨(aG iM)⟩,⟨(aj aa)⟩,⟨(aj a6)⟩,⟨(aj a7)⟩,⟨(aj eF)⟩,⟨(aj bT)⟩,⟨(aj a8)⟩,⟨ay⟩⟩
 case rest =>
 clear ee
 try clear di;try clear e7;try clear e8;try clear dk;try clear ec;try clear ed
 obtain ⟨kq,d6,rfl,HA,adP,iM,aa,a6,a7,eF,bT,a8,HB⟩:=hcut
 cases kq with
 | zero=>exact absurd HA.out (by simp [nO.j1])
 | succ UM =>
 obtain ⟨H⟩:=HA
 simp only [nO.j1] at H
 by_cases en:d6=true
 ·subst en
  rw [if_pos rfl] at H
  by_cases eo:kM=true
  rotate_left
  ·replace eo:=Bool.eq_false_iff.mpr eo
   subst eo
   rw [if_neg iO] at H
   obtain ⟨⟨Ih,l8,J5,la,lc,ld⟩,mt,H⟩:=bd_ H
   try dsimp -simprocs only at H
   simp only [Option.some.injEq,Prod.mk.injEq] at H
   obtain ⟨rfl,rfl,rfl,rfl,rfl,rfl⟩:=H
   obtain ⟨bx,bw,fF,be,dM,bi,bl,bm⟩:=i_ bz ca fK bo ax dw az b0
   obtain ⟨cw,cv⟩:=iJ ci ck
   have nh:=jQ aa.out
   obtain ⟨bc,bd,ap,aq,ar,bP,bu,bs⟩:=i_ bp bq am an ac ao br bv
   have akt:=cu a6.out
   obtain ⟨ai,aN,aT,al,b4,b3⟩:=kL ae ag a9 aP b9 ba
   have aie:=jV a7.out
   go_wp2_with (first|((with_reducible refine bU 79 ?_);refine bV (some 107) rfl rfl func79 aB rfl #[.agg #[ah d2,ah d3,ah d4,ah d5],.agg #[.slice co aK.length cl],ah cx,.agg #[ah ce,.string cc,.string cp,ah cq,ah cr,.string ct]] rfl aW ?_;(with_reducible refine (lq.calls UM d2 d3 d4 d5 _ _ aK cx ce cc cp cq cr ct Ih l8 J5 la lc ld _ l9 jg.out mt.out).mono ?_);rintro e q0 ⟨ajl,ajm,rfl,ho0,ho1,hb⟩;refine ⟨_,rfl,?_⟩;obtain ⟨iM,fu,fw,aa,a6,a7,eF,bT,a8,HB⟩:=p_ (Kd.iY (aG iM) (Kd.iW ho0) hb) <| p_ (Kd.dK (Kd.iZ ho0 (Kd.iD (aG iM))) (dO ay)) <| p_ (Kd.dK ho1 (dO ay)) <| oZ (aj aa) (aj a6) (aj a7) (aj eF) (aj bT) (aj a8) ay hb;(try clear hb);(try clear ho0);(try clear ho1);obtain ⟨lf,xP,lh⟩:=Kd.dJ fu.out;subst lh;obtain ⟨bj,bh,b6,b5⟩:=jE b1 b2 av af;have aku:=cu eF.out;obtain ⟨b8,b7⟩:=iJ aw a5;have nj:=vZ bT.out;obtain ⟨li,lj,lk⟩:=Kd.dJ fw.out;subst lk))
   refine bodyPost_ret (nD rfl _ _ bb ab 28 49 #[.slice lf Ih.length xP] #[ah l8,.string J5,ah la,.bool lc,.slice li ld.length lj] (0,0) (0,0) _ _ rfl bH underlying28 rfl aB rfl bH underlying49 rfl aB) rfl ?_
   exact ⟨_,_,b_,(by (with_reducible repeat (first|apply Kd.dR|apply Kd.dS|apply Kd.bK));exact Kd.bW (aU (aU (aU (aU (aU (aU (Kd.dL (Kd.dL fu.out eF.out (by decide)) bT.out (by decide)) (fun _ hk=>hk.1.2))))))) (fun _ hk=>trivial)),(by (with_reducible repeat (first|apply Kd.dR|apply Kd.dS|apply Kd.bK));exact Kd.bW (aU (aU (aU (aU (aU (aU (Kd.dL (Kd.dL fw.out eF.out (by decide)) bT.out (by decide)) (fun _ hk=>hk.1.2))))))) (fun _ hk=>trivial)),ay⟩
  subst eo
  rw [if_pos rfl] at H
  obtain ⟨⟨ll,lm,ln,lo,lp⟩,mu,H⟩:=bd_ H
  try dsimp -simprocs only at H
  simp only [Option.some.injEq,Prod.mk.injEq] at H
  obtain ⟨rfl,rfl,rfl,rfl,rfl,rfl⟩:=H
  try go_wp2
  obtain ⟨iM,aa,a6,a7,eF,bT,a8,HB⟩:=p_ (Kd.bK iM.out) <| wR aa a6 a7 eF bT a8 HB
  refine iH (n:=4) (S:=fun w'=>w'.cell? ⟨cj,0,none⟩=some (.slice cf cd.length cg)) (ds:=[]) yA aB rfl rfl ((aO a8.out 0).trans rfl) (fun hH=>?_)
  generalize wc.drew=q3 at iM aa a6 a7 eF bT a8 HB hH ⊢
  refine ng (i:=0) (N:=some 101) (v:=?_) (a':=?_) yB rfl rfl aB (fun _ _ _ h=>h) (Or.inl ⟨(by rfl),?_⟩) hH ?_ ?_
  rotate_left
  ·intro w' s0
   go_simp
   with_reducible rfl
  rotate_left
  ·simp only [Act.put,List.setIfInBounds_toArray,List.set_cons_zero,List.set_cons_succ,bI,bY]
   rfl
  refine gB (i:=1) (N:=some 102) yC rfl rfl aB (by decide) (fun K hK=>?_)
  refine iR func75 aB rfl #[ah 5] (by rfl) rfl rfl aW ?_
  with_reducible refine (lU.calls 5 ll lm ln lo lp _ mu.out).mono ?_
  rintro e e0 ⟨ajk,rfl,ho0,hb⟩
  refine ⟨_,rfl,?_⟩
  obtain ⟨iM,fx,aa,a6,a7,eF,bT,a8,HB⟩:=p_ (Kd.bn (aG iM) hb) <| p_ (Kd.dK ho0 (dO ay)) <| oZ (aj aa) (aj a6) (aj a7) (aj eF) (aj bT) (aj a8) ay hb
  (try clear hb)
  (try clear ho0)
  obtain ⟨Fb,lr,fy⟩:=Kd.dJ fx.out
  (first|subst fy|(injection fy with dP fZ dQ;have f_:=dP.symm;have gq:=dQ.symm;clear dP fZ dQ;subst f_;subst gq))
  refine hK.out _ _ ((aO a8.out 0).trans rfl) (fun hH=>?_)
  clear hK K
  refine fD (some 102) ?_
  refine gB (i:=2) (N:=none) yD rfl rfl aB (by decide) (fun K hK=>?_)
  have agR:e0.cell? ⟨bb,0,none⟩=some (.slice none 0 0):=(aO eF.out 0).trans rfl
  have aeS:=dF eF.out 0
  obtain ⟨dM,ap,ai,bh,b5,bi,aq,aN⟩:=i_ ax am ae b2 af dw an ag
  obtain ⟨bj,b6⟩:=iJ b1 av
  refine jr (w1:=?_) (by rfl) rfl ?_ ?_
  rotate_left
  ·go_simp
   rfl
  refine hK.out _ _ ((aY af hH)) (fun hH=>?_)
  clear hK K
  refine gB (i:=3) (N:=none) yE rfl rfl aB (by decide) (fun K hK=>?_)
  have agS:e0.cell? ⟨ab,0,none⟩=some (ah 0):=(aO bT.out 0).trans rfl
  have aeT:=dF bT.out 0
  obtain ⟨bl,ar,aT,b7,bm,bP,al,b8⟩:=i_ az ac a9 a5 b0 ao aP aw
  have agT:e0.cell? ⟨ab,1,none⟩=some (.string (⟨#[]⟩:ByteArray)):=(aO bT.out 1).trans rfl
  have aeU:=dF bT.out 1
  have agU:e0.cell? ⟨ab,2,none⟩=some (ah 0):=(aO bT.out 2).trans rfl
  have aeV:=dF bT.out 2
  have agV:e0.cell? ⟨ab,3,none⟩=some (.bool false):=(aO bT.out 3).trans rfl
  have aeW:=dF bT.out 3
  have agW:e0.cell? ⟨ab,4,none⟩=some (.slice none 0 0):=(aO bT.out 4).trans rfl
  have aeX:=dF bT.out 4
  refine jr (w1:=?_) (by rfl) rfl ?_ ?_
  rotate_left
  ·go_simp
   rfl
  refine hK.out _ _ ((aY a5 (aY a5 (aY a5 (aY a5 (aY a5 hH)))))) (fun hH=>?_)
  clear hK K
  refine iF aB ?_
  try go_wp2
  refine bodyPost_ret (nD rfl _ _ bb ab 28 49 #[.slice cf cd.length cg] #[ah ll,.string lm,ah ln,.bool lo,.slice Fb lp.length lr] (0,0) (0,0) _ _ rfl bH underlying28 rfl aB rfl bH underlying49 rfl aB) rfl ?_
  exact ⟨_,_,b_,yZ,(by (with_reducible repeat (first|apply Kd.dR|apply Kd.dS|apply Kd.bK));exact Kd.bW (aU (aU (aU (aU (aU (aU (Kd.dL (Kd.dL fx.out eF.out (by decide)) bT.out (by decide)) (fun _ hk=>hk.1.2))))))) (fun _ hk=>trivial)),ay⟩
 replace en:=Bool.eq_false_iff.mpr en
 subst en
 rw [if_neg iO] at H
 revert H;refine fJ (fun dr H=>?_) fun dr H=>?_
 rotate_left
 ·have gf:=gU dr
  have gh:=gV dr
  revert H;refine fJ (fun dt H=>?_) fun dt H=>?_
  rotate_left
  ·have gi:=gU dt
   have gj:=gV dt
   simp only [Option.some.injEq,Prod.mk.injEq] at H
   obtain ⟨rfl,rfl,rfl,rfl,rfl,rfl⟩:=H
   obtain ⟨cv,cw,bs,bu,b3,b4,b5,b6⟩:=i_ ck ci bv br ba b9 af av
   obtain ⟨b7,b8⟩:=iJ a5 aw
   have aky:=cu a8.out
   obtain ⟨bi,dM,aq,ap,aN,ai,bj,bh⟩:=i_ dw ax an am ag ae b1 b2
   have akz:=cu eF.out
   obtain ⟨bm,bl,bP,ar,al,aT⟩:=kL b0 az ao ac aP a9
   have nk:=vZ bT.out
   go_wp2
   refine bodyPost_ret (nD rfl _ _ bb ab 28 49 #[.slice cf cd.length cg] #[ah 0,.string (⟨#[]⟩:ByteArray),ah 0,.bool false,.slice none 0 0] (0,0) (0,0) _ _ rfl bH underlying28 rfl aB rfl bH underlying49 rfl aB) rfl ?_
   exact ⟨_,_,b_,yZ,tN,ay⟩
  have gi:=gZ dt
  have gj:=g_ dt
  clear dt
  by_cases ep:kM=true
  rotate_left
  ·replace ep:=Bool.eq_false_iff.mpr ep
   subst ep
   rw [if_neg iO] at H
   obtain ⟨⟨ls,Ij,lv,lw,lx⟩,mv,H⟩:=bd_ H
   try dsimp -simprocs only at H
   simp only [Option.some.injEq,Prod.mk.injEq] at H
   obtain ⟨rfl,rfl,rfl,rfl,rfl,rfl⟩:=H
   try go_wp2
   obtain ⟨iM,aa,a6,a7,eF,bT,a8,HB⟩:=p_ (Kd.bK iM.out) <| wR aa a6 a7 eF bT a8 HB
   refine iH (n:=4) (S:=fun w'=>w'.cell? ⟨cj,0,none⟩=some (.slice cf cd.length cg)) (ds:=[]) yA aB rfl rfl ((aO a8.out 0).trans rfl) (fun hH=>?_)
   generalize wc.drew=q6 at iM aa a6 a7 eF bT a8 HB hH ⊢
   refine ng (i:=0) (N:=some 128) (v:=?_) (a':=?_) yB rfl rfl aB (fun _ _ _ h=>h) (Or.inl ⟨(by rfl),?_⟩) hH ?_ ?_
   rotate_left
   ·intro w' s0
    go_simp
    with_reducible rfl
   rotate_left
   ·simp only [Act.put,List.setIfInBounds_toArray,List.set_cons_zero,List.set_cons_succ,bI,bY]
    rfl
   refine gB (i:=1) (N:=some 129) yC rfl rfl aB (by decide) (fun K hK=>?_)
   refine iR func75 aB rfl #[ah 4] (by rfl) rfl rfl aW ?_
   with_reducible refine (lU.calls 4 ls Ij lv lw lx _ mv.out).mono ?_
   rintro e e3 ⟨ajo,rfl,ho0,hb⟩
   refine ⟨_,rfl,?_⟩
   obtain ⟨iM,fz,aa,a6,a7,eF,bT,a8,HB⟩:=p_ (Kd.bn (aG iM) hb) <| p_ (Kd.dK ho0 (dO ay)) <| oZ (aj aa) (aj a6) (aj a7) (aj eF) (aj bT) (aj a8) ay hb
   (try clear hb)
   (try clear ho0)
   obtain ⟨ly,lz,g6⟩:=Kd.dJ fz.out
   (first|subst g6|(injection g6 with dP fZ dQ;have f_:=dP.symm;have gq:=dQ.symm;clear dP fZ dQ;subst f_;subst gq))
   refine hK.out _ _ ((aO a8.out 0).trans rfl) (fun hH=>?_)
   clear hK K
   refine fD (some 129) ?_
   refine gB (i:=2) (N:=none) yD rfl rfl aB (by decide) (fun K hK=>?_)
   have ahb:e3.cell? ⟨bb,0,none⟩=some (.slice none 0 0):=(aO eF.out 0).trans rfl
   have afc:=dF eF.out 0
   obtain ⟨dM,ap,ai,bh,b5,bi,aq,aN⟩:=i_ ax am ae b2 af dw an ag
   obtain ⟨bj,b6⟩:=iJ b1 av
   refine jr (w1:=?_) (by rfl) rfl ?_ ?_
   rotate_left
   ·go_simp
    rfl
   refine hK.out _ _ ((aY af hH)) (fun hH=>?_)
   clear hK K
   refine gB (i:=3) (N:=none) yE rfl rfl aB (by decide) (fun K hK=>?_)
   have ahc:e3.cell? ⟨ab,0,none⟩=some (ah 0):=(aO bT.out 0).trans rfl
   have afd:=dF bT.out 0
   obtain ⟨bl,ar,aT,b7,bm,bP,al,b8⟩:=i_ az ac a9 a5 b0 ao aP aw
   have ahe:e3.cell? ⟨ab,1,none⟩=some (.string (⟨#[]⟩:ByteArray)):=(aO bT.out 1).trans rfl
   have aff:=dF bT.out 1
   have ahf:e3.cell? ⟨ab,2,none⟩=some (ah 0):=(aO bT.out 2).trans rfl
   have afg:=dF bT.out 2
   have ahg:e3.cell? ⟨ab,3,none⟩=some (.bool false):=(aO bT.out 3).trans rfl
   have afh:=dF bT.out 3
   have ahh:e3.cell? ⟨ab,4,none⟩=some (.slice none 0 0):=(aO bT.out 4).trans rfl
   have afi:=dF bT.out 4
   refine jr (w1:=?_) (by rfl) rfl ?_ ?_
   rotate_left
   ·go_simp
    rfl
   refine hK.out _ _ ((aY a5 (aY a5 (aY a5 (aY a5 (aY a5 hH)))))) (fun hH=>?_)
   clear hK K
   refine iF aB ?_
   try go_wp2
   refine bodyPost_ret (nD rfl _ _ bb ab 28 49 #[.slice cf cd.length cg] #[ah ls,.string Ij,ah lv,.bool lw,.slice ly lx.length lz] (0,0) (0,0) _ _ rfl bH underlying28 rfl aB rfl bH underlying49 rfl aB) rfl ?_
   exact ⟨_,_,b_,yZ,(by (with_reducible repeat (first|apply Kd.dR|apply Kd.dS|apply Kd.bK));exact Kd.bW (aU (aU (aU (aU (aU (aU (Kd.dL (Kd.dL fz.out eF.out (by decide)) bT.out (by decide)) (fun _ hk=>hk.1.2))))))) (fun _ hk=>trivial)),ay⟩
  subst ep
  rw [if_pos rfl] at H
  obtain ⟨m0,mw,H⟩:=bd_ H
  simp only [Option.some.injEq,Prod.mk.injEq] at H
  obtain ⟨rfl,rfl,rfl,rfl,rfl,rfl⟩:=H
  try go_wp2
  obtain ⟨iM,aa,a6,a7,eF,bT,a8,HB⟩:=p_ (Kd.bK iM.out) <| wR aa a6 a7 eF bT a8 HB
  refine iH (n:=8) (S:=fun w'=>lD w' cj (.slice cf cd.length cg) <| lD w' dg (.slice co aK.length cl) <| zI w' cy (ah ce) (.string cc) (.string cp) (ah cq) (ah cr) (.string ct)) (ds:=[]) SC aB rfl rfl ⟨(aO a8.out 0).trans rfl,(aO a6.out 0).trans rfl,qh a7.out⟩ (fun hH=>?_);refine jC (T:=nO.Yx) (B:=nO.XL) aB aB (fun aS gJ=>?_)
  generalize wc.drew=q7 at iM aa a6 a7 eF bT a8 HB hH ⊢
  refine eY 2 132 #[F_,F_,ak,F_,F_,F_,F_,F_] aS ?_
  refine pJ 0 130 #[ak,F_,ak,F_,F_,F_,F_,F_] aS gJ hH ?_
  refine pJ 1 131 #[ak,ak,ak,F_,F_,F_,F_,F_] aS gJ hH ?_
  refine fV 3 hH ?_
  refine gB (i:=4) (N:=some 134) #[ak,ak,ak,ak,ak,F_,F_,F_] rfl rfl (jW aS.out aB) (by decide) (fun K hK=>?_)
  refine iR func20 aB rfl #[.agg #[.slice co aK.length cl],.string cc] (by rfl) rfl rfl aW ?_
  with_reducible refine (nS.calls UM _ _ aK cc m0 _ l9 jg.out mw.out).mono ?_
  rintro e e4 ⟨ajn,rfl,ho0,hb⟩
  refine ⟨_,rfl,?_⟩
  obtain ⟨iM,g7,aa,a6,a7,eF,bT,a8,HB⟩:=p_ (Kd.bn (aG iM) hb) <| p_ (Kd.dK ho0 (dO ay)) <| oZ (aj aa) (aj a6) (aj a7) (aj eF) (aj bT) (aj a8) ay hb
  (try clear hb)
  (try clear ho0)
  obtain ⟨m2,m3,g8⟩:=Kd.dJ g7.out
  (first|subst g8|(injection g8 with dP fZ dQ;have f_:=dP.symm;have gq:=dQ.symm;clear dP fZ dQ;subst f_;subst gq))
  refine hK.out _ _ ⟨(aO a8.out 0).trans rfl,(aO a6.out 0).trans rfl,qh a7.out⟩ (fun hH=>?_)
  clear hK K
  refine fD (some 134) ?_
  refine eY 5 135 #[ak,ak,ak,ak,ak,ak,F_,F_] aS ?_
  refine gB (i:=6) (N:=none) #[ak,ak,ak,ak,ak,ak,ak,F_] rfl rfl (jW aS.out aB) (by decide) (fun K hK=>?_)
  have ag6:e4.cell? ⟨bb,0,none⟩=some (.slice none 0 0):=(aO eF.out 0).trans rfl
  have ae7:=dF eF.out 0
  obtain ⟨dM,ap,ai,bh,b5,bi,aq,aN⟩:=i_ ax am ae b2 af dw an ag
  obtain ⟨bj,b6⟩:=iJ b1 av
  refine jr (w1:=?_) (by rfl) rfl ?_ ?_
  rotate_left
  ·go_simp
   rfl
  refine hK.out _ _ ⟨(aY af hH.1),(aY am hH.2.1),(aY ae hH.2.2.1),(aY ae hH.2.2.2.1),(aY ae hH.2.2.2.2.1),(aY ae hH.2.2.2.2.2.1),(aY ae hH.2.2.2.2.2.2.1),(aY ae hH.2.2.2.2.2.2.2)⟩ (fun hH=>?_)
  clear hK K
  refine gB (i:=7) (N:=none) #[ak,ak,ak,ak,ak,ak,ak,ak] rfl rfl (jW aS.out aB) (by decide) (fun K hK=>?_)
  have ag8:e4.cell? ⟨ab,0,none⟩=some (ah 0):=(aO bT.out 0).trans rfl
  have ae9:=dF bT.out 0
  obtain ⟨bl,ar,aT,b7,bm,bP,al,b8⟩:=i_ az ac a9 a5 b0 ao aP aw
  have ag9:e4.cell? ⟨ab,1,none⟩=some (.string (⟨#[]⟩:ByteArray)):=(aO bT.out 1).trans rfl
  have ae_:=dF bT.out 1
  have ag_:e4.cell? ⟨ab,2,none⟩=some (ah 0):=(aO bT.out 2).trans rfl
  have ae':=dF bT.out 2
  have ag':e4.cell? ⟨ab,3,none⟩=some (.bool false):=(aO bT.out 3).trans rfl
  have afa:=dF bT.out 3
  have aha:e4.cell? ⟨ab,4,none⟩=some (.slice none 0 0):=(aO bT.out 4).trans rfl
  have afb:=dF bT.out 4
  refine jr (w1:=?_) (by rfl) rfl ?_ ?_
  rotate_left
  ·go_simp
   rfl
  refine hK.out _ _ ⟨(aY a5 (aY a5 (aY a5 (aY a5 (aY a5 hH.1))))),(aY ac (aY ac (aY ac (aY ac (aY ac hH.2.1))))),(aY a9 (aY a9 (aY a9 (aY a9 (aY a9 hH.2.2.1))))),(aY a9 (aY a9 (aY a9 (aY a9 (aY a9 hH.2.2.2.1))))),(aY a9 (aY a9 (aY a9 (aY a9 (aY a9 hH.2.2.2.2.1))))),(aY a9 (aY a9 (aY a9 (aY a9 (aY a9 hH.2.2.2.2.2.1))))),(aY a9 (aY a9 (aY a9 (aY a9 (aY a9 hH.2.2.2.2.2.2.1))))),(aY a9 (aY a9 (aY a9 (aY a9 (aY a9 hH.2.2.2.2.2.2.2)))))⟩ (fun hH=>?_)
  clear hK K
  refine iF (jB aS.out aB) ?_
  try go_wp2
  refine bodyPost_ret (nD rfl _ _ bb ab 28 49 #[.slice cf cd.length cg] #[ah 0,.string (⟨#[]⟩:ByteArray),ah 0,.bool false,.slice m2 m0.length m3] (0,0) (0,0) _ _ rfl bH underlying28 rfl aB rfl bH underlying49 rfl aB) rfl ?_
  exact ⟨_,_,b_,yZ,(by (with_reducible repeat (first|apply Kd.dR|apply Kd.dS|apply Kd.bK));exact Kd.bW (aU (aU (aU (aU (aU (aU (Kd.dL (Kd.dL g7.out eF.out (by decide)) bT.out (by decide)) (fun _ hk=>hk.1.2))))))) (fun _ hk=>trivial)),ay⟩
 have gf:=gZ dr
 have gh:=g_ dr
 clear dr
 by_cases eq:kM=true
 ·subst eq
  rw [if_pos rfl] at H
  simp only [Option.some.injEq,Prod.mk.injEq] at H
  obtain ⟨rfl,rfl,rfl,rfl,rfl,rfl⟩:=H
  obtain ⟨cv,cw,bs,bu,b3,b4,b5,b6⟩:=i_ ck ci bv br ba b9 af av
  obtain ⟨b7,b8⟩:=iJ a5 aw
  have akv:=cu a8.out
  obtain ⟨bi,dM,aq,ap,aN,ai,bj,bh⟩:=i_ dw ax an am ag ae b1 b2
  have akw:=cu eF.out
  obtain ⟨bm,bl,bP,ar,al,aT⟩:=kL b0 az ao ac aP a9
  have nl:=vZ bT.out
  go_wp2
  refine bodyPost_ret (nD rfl _ _ bb ab 28 49 #[.slice cf cd.length cg] #[ah 0,.string (⟨#[]⟩:ByteArray),ah 0,.bool true,.slice none 0 0] (0,0) (0,0) _ _ rfl bH underlying28 rfl aB rfl bH underlying49 rfl aB) rfl ?_
  exact ⟨_,_,b_,yZ,tN,ay⟩
 replace eq:=Bool.eq_false_iff.mpr eq
 subst eq
 rw [if_neg iO] at H
 obtain ⟨mx,H⟩:=fU H
 obtain ⟨my,H⟩:=fU H
 simp only [Option.some.injEq,Prod.mk.injEq] at H
 obtain ⟨rfl,rfl,rfl,rfl,rfl,rfl⟩:=H
 try go_wp2
 obtain ⟨iM,aa,a6,a7,eF,bT,a8,HB⟩:=p_ (Kd.bK iM.out) <| wR aa a6 a7 eF bT a8 HB
 have gl:0≤(cx:Int):=bC bD
 have gm:cx < (aK.length:Int):=bC bD
 obtain ⟨dd,mz,d7,d8,d9⟩:=jP rC.out cx gl gm
 have Ov:=d9
 have Ou:=d8
 have Ot:=d7
 cases mz
 replace d7:=gu HB.out d7
 replace d8:=gu HB.out d8
 replace d9:=gu HB.out d9
 replace gl:=eq_true gl
 replace gm:=eq_true gm
 refine iH (n:=11) (S:=fun w'=>lD w' cj (.slice cf cd.length cg) <| lD w' dg (.slice (some dd) aK.length cl) <| uw w' (dd.add ((cx).toNat * 3)) (.string ((au aK cx).f0)) (.bool ((au aK cx).f1)) (.string ((au aK cx).f2))) (ds:=[]) EF aB rfl rfl ⟨(aO a8.out 0).trans rfl,(aO a6.out 0).trans rfl,((HB.out.cell (World.block_lt_of_cell? w _ Ot)).trans Ot),((HB.out.cell (World.block_lt_of_cell? w _ Ou)).trans Ou),((HB.out.cell (World.block_lt_of_cell? w _ Ov)).trans Ov)⟩ (fun hH=>?_);refine jC (T:=nO.MB) (B:=nO.Le) aB aB (fun aS gJ=>?_)
 generalize wc.drew=e5 at iM aa a6 a7 eF bT a8 HB d7 d8 d9 hH ⊢
 refine eY 1 116 #[F_,ak,F_,F_,F_,F_,F_,F_,F_,F_,F_] aS ?_
 refine eY 3 118 #[F_,ak,F_,ak,F_,F_,F_,F_,F_,F_,F_] aS ?_
 refine pJ 0 115 #[ak,ak,F_,ak,F_,F_,F_,F_,F_,F_,F_] aS gJ hH ?_
 refine fV 2 hH ?_
 refine aI 4 ?_
 refine aI 5 ?_
 refine fV 6 hH ?_
 refine aI 7 ?_
 refine aI 8 ?_
 refine kY 9 (fun K hK=>?_)
 have agZ:e5.cell? ⟨bb,0,none⟩=some (.slice none 0 0):=(aO eF.out 0).trans rfl
 have ae0:=dF eF.out 0
 obtain ⟨dM,ap,ai,bh,b5,bi,aq,aN⟩:=i_ ax am ae b2 af dw an ag
 obtain ⟨bj,b6⟩:=iJ b1 av
 refine jr (w1:=?_) (by rfl) rfl ?_ ?_
 rotate_left
 ·go_simp
  rfl
 refine hK.out _ _ ⟨(aY af hH.1),(aY am hH.2.1),((cell_far (p:=⟨bb,_,none⟩) (by first|exact Nat.ne_of_lt (Nat.lt_of_lt_of_le BM cm.out)|(rw [add_block];exact Nat.ne_of_lt (Nat.lt_of_lt_of_le BM cm.out))|(show (Addr.add _ _).block≠_;rw [add_block];exact Nat.ne_of_lt (Nat.lt_of_lt_of_le BM cm.out))|(dsimp only;exact Nat.ne_of_lt (Nat.lt_of_lt_of_le BM cm.out))) _).trans (hH.2.2.1)),((cell_far (p:=⟨bb,_,none⟩) (by first|exact Nat.ne_of_lt (Nat.lt_of_lt_of_le BL cm.out)|(rw [add_block];exact Nat.ne_of_lt (Nat.lt_of_lt_of_le BL cm.out))|(show (Addr.add _ _).block≠_;rw [add_block];exact Nat.ne_of_lt (Nat.lt_of_lt_of_le BL cm.out))|(dsimp only;exact Nat.ne_of_lt (Nat.lt_of_lt_of_le BL cm.out))) _).trans (hH.2.2.2.1)),((cell_far (p:=⟨bb,_,none⟩) (by first|exact Nat.ne_of_lt (Nat.lt_of_lt_of_le BK cm.out)|(rw [add_block];exact Nat.ne_of_lt (Nat.lt_of_lt_of_le BK cm.out))|(show (Addr.add _ _).block≠_;rw [add_block];exact Nat.ne_of_lt (Nat.lt_of_lt_of_le BK cm.out))|(dsimp only;exact Nat.ne_of_lt (Nat.lt_of_lt_of_le BK cm.out))) _).trans (hH.2.2.2.2))⟩ (fun hH=>?_)
 clear hK K
 refine kY 10 (fun K hK=>?_)
 have ag0:e5.cell? ⟨ab,0,none⟩=some (ah 0):=(aO bT.out 0).trans rfl
 have ae1:=dF bT.out 0
 obtain ⟨bl,ar,aT,b7,bm,bP,al,b8⟩:=i_ az ac a9 a5 b0 ao aP aw
 have ag1:e5.cell? ⟨ab,1,none⟩=some (.string (⟨#[]⟩:ByteArray)):=(aO bT.out 1).trans rfl
 have ae2:=dF bT.out 1
 have ag3:e5.cell? ⟨ab,2,none⟩=some (ah 0):=(aO bT.out 2).trans rfl
 have ae4:=dF bT.out 2
 have ag4:e5.cell? ⟨ab,3,none⟩=some (.bool false):=(aO bT.out 3).trans rfl
 have ae5:=dF bT.out 3
 have ag5:e5.cell? ⟨ab,4,none⟩=some (.slice none 0 0):=(aO bT.out 4).trans rfl
 have ae6:=dF bT.out 4
 refine jr (w1:=?_) (by rfl) rfl ?_ ?_
 rotate_left
 ·go_simp
  rfl
 refine hK.out _ _ ⟨(aY a5 (aY a5 (aY a5 (aY a5 (aY a5 hH.1))))),(aY ac (aY ac (aY ac (aY ac (aY ac hH.2.1))))),((cell_far (p:=⟨ab,_,none⟩) IQ _).trans (((cell_far (p:=⟨ab,_,none⟩) IQ _).trans (((cell_far (p:=⟨ab,_,none⟩) IQ _).trans (((cell_far (p:=⟨ab,_,none⟩) IQ _).trans (((cell_far (p:=⟨ab,_,none⟩) IQ _).trans (hH.2.2.1)))))))))),((cell_far (p:=⟨ab,_,none⟩) IL _).trans (((cell_far (p:=⟨ab,_,none⟩) IL _).trans (((cell_far (p:=⟨ab,_,none⟩) IL _).trans (((cell_far (p:=⟨ab,_,none⟩) IL _).trans (((cell_far (p:=⟨ab,_,none⟩) IL _).trans (hH.2.2.2.1)))))))))),((cell_far (p:=⟨ab,_,none⟩) IK _).trans (((cell_far (p:=⟨ab,_,none⟩) IK _).trans (((cell_far (p:=⟨ab,_,none⟩) IK _).trans (((cell_far (p:=⟨ab,_,none⟩) IK _).trans (((cell_far (p:=⟨ab,_,none⟩) IK _).trans (hH.2.2.2.2))))))))))⟩ (fun hH=>?_)
 clear hK K
 refine iF (jB aS.out aB) ?_
 try go_wp2
 refine bodyPost_ret (nD rfl _ _ bb ab 28 49 #[.slice cf cd.length cg] #[ah 0,.string (⟨#[]⟩:ByteArray),ah (((au aK cx).f2).size:Int),.bool false,.slice none 0 0] (0,0) (0,0) _ _ rfl bH underlying28 rfl aB rfl bH underlying49 rfl aB) rfl ?_
 exact ⟨_,_,b_,yZ,tN,ay⟩

end Go.Proofs.YthejdhjpbpamoaaGreatDoor.jM
