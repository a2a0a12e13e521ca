/- Contracts of Go functions: each call returns what the Lean function beside it computes. Conditions: as each theorem states them. -/
import Derived.Test.YthejdhjpbpamoaaGreatDoorPkFnCodes
import Derived.Test.YthejdhjpbpamoaaGreatDoorPFnCodesx1
import Derived.Test.YthejdhjpbpamoaaGreatDoorPFnCodesx2
import Derived.Test.YthejdhjpbpamoaaGreatDoorPFnCodesx17
import Derived.Test.YthejdhjpbpamoaaGreatDoorPFnCodesx19
import Derived.Test.YthejdhjpbpamoaaGreatDoorPFnCodesx21
import Derived.Test.YthejdhjpbpamoaaGreatDoorPFnCodesx24
namespace Go.Proofs.YthejdhjpbpamoaaGreatDoor.jD
open Go.RowKit Go.Proofs.YthejdhjpbpamoaaGreatDoorW.iw Go.Proofs.YthejdhjpbpamoaaGreatDoorW.lH Go.Proofs.YthejdhjpbpamoaaGreatDoorW.oO Go.Proofs.Tryz
attribute [local go_sem] qw qB qA qF qy qE qx qC   -- for this text's walks alone
set_option linter.unusedVariables false
set_option maxHeartbeats 8000000
set_option maxRecDepth 100000
set_option linter.unusedSimpArgs false

mutual
def nK.j0:Nat→Bool→Int→Int→Int→Int→List (aF)→Int→ByteArray→ByteArray→Int→Int→ByteArray→List (aF)→Option ((List (aF)) × Int × ByteArray × Int × Bool × List ByteArray)
 | 0,_,_,_,_,_,_,_,_,_,_,_,_,_=>none
 | k+1,ax,ae,af,ag,aK,a7,a5,a6,a9,aa,ab,ac,a8=>if ax=true then ((su.f k ae af ag aK a7 a5 a6 a9 aa ab ac).bind fun ai=>(some (ai.1,ai.2.1,ai.2.2.1,ai.2.2.2.1,ai.2.2.2.2.1,ai.2.2.2.2.2))) else ((o7.f k a7 a6).bind fun ar=>(if ar=0 then ((yI.f k a7 a6).bind fun ap=>((qG.f k a7 a6).bind fun aq=>(if a5=3 then (if ap=true then ((lX.f 5).bind fun aQ=>(some (a8,aQ.1,aQ.2.1,aQ.2.2.1,aQ.2.2.2.1,aQ.2.2.2.2))) else ((qP.f k a7 a6).bind fun aW=>(some (aW,0,(⟨#[]⟩:ByteArray),0,false,([]:List ByteArray))))) else (if a5=4 then (if a6.toList=([47]:List UInt8) then ((lX.f 9).bind fun al=>(some (a8,al.1,al.2.1,al.2.2.1,al.2.2.2.1,al.2.2.2.2))) else (if ap=true then ((sJ.f k a7 a6).bind fun av=>(if (av.length:Int) > 0 then ((lX.f 10).bind fun am=>(some (a8,am.1,am.2.1,am.2.2.1,am.2.2.2.1,am.2.2.2.2))) else ((qP.f k a7 a6).bind fun aw=>(some (aw,0,(⟨#[]⟩:ByteArray),0,false,([]:List ByteArray)))))) else ((lX.f 4).bind fun an=>(some (a8,an.1,an.2.1,an.2.2.1,an.2.2.2.1,an.2.2.2.2))))) else (if a5=5 then ((oJ.f k a7 a5 a6 a9 aa ab ac).bind fun aN=>(some (aN.1,aN.2.1,aN.2.2.1,aN.2.2.2.1,aN.2.2.2.2.1,aN.2.2.2.2.2))) else (if a5=6 then (nK.j1 k ap aq a5 (a5 == 6) ae af ag aK a7 a5 a6 a9 aa ab ac a8) else (if a5=7 then (nK.j1 k ap aq a5 (a5 == 7) ae af ag aK a7 a5 a6 a9 aa ab ac a8) else (nK.j1 k ap aq a5 (a5 == 8) ae af ag aK a7 a5 a6 a9 aa ab ac a8)))))))) else ((lX.f ar).bind fun ao=>(some (a8,ao.1,ao.2.1,ao.2.2.1,ao.2.2.2.1,ao.2.2.2.2)))))
def nK.j1:Nat→Bool→Int→Int→Bool→Int→Int→Int→Int→List (aF)→Int→ByteArray→ByteArray→Int→Int→ByteArray→List (aF)→Option ((List (aF)) × Int × ByteArray × Int × Bool × List ByteArray)
 | 0,_,_,_,_,_,_,_,_,_,_,_,_,_,_,_,_=>none
 | k+1,am,al,ao,ap,ab,ac,ae,af,a6,ag,aa,aK,ai,aN,aQ,a5=>if ap=true then (if am=true then ((lX.f 5).bind fun a8=>(some (a5,a8.1,a8.2.1,a8.2.2.1,a8.2.2.2.1,a8.2.2.2.2))) else ((k_.f k ab ac ae af a6 al ag aa aK ai aN aQ).bind fun a7=>(some (a7.1,a7.2.1,a7.2.2.1,a7.2.2.2.1,a7.2.2.2.2.1,a7.2.2.2.2.2)))) else (if ao=9 then (if am=true then (some (a5,0,(⟨#[]⟩:ByteArray),0,true,([]:List ByteArray))) else (if 0≤al then (if al < (a6.length:Int) then (some (a5,0,(⟨#[]⟩:ByteArray),(((aC a6 al).f2).size:Int),false,([]:List ByteArray))) else (none)) else (none))) else (if ao=10 then (if am=true then ((sJ.f k a6 aa).bind fun an=>(some (a5,0,(⟨#[]⟩:ByteArray),0,false,an))) else ((lX.f 4).bind fun a9=>(some (a5,a9.1,a9.2.1,a9.2.2.1,a9.2.2.2.1,a9.2.2.2.2)))) else (some (a5,0,(⟨#[]⟩:ByteArray),0,false,([]:List ByteArray)))))
end
def nK.f (k:Nat) (af:Int) (ag:Int) (aK:Int) (ai:Int) (a7:List (aF)) (a6:Int) (a8:ByteArray) (a9:ByteArray) (aa:Int) (ab:Int) (ac:ByteArray):Option ((List (aF)) × Int × ByteArray × Int × Bool × List ByteArray):=(qH.f a7).bind fun ae=>((H_.f a6 a8 a9 aa ab ac).bind fun aN=>(if aN=true then (if a6=1 then (nK.j0 k true af ag aK ai a7 a6 a8 a9 aa ab ac ae) else (nK.j0 k (a6 == 2) af ag aK ai a7 a6 a8 a9 aa ab ac ae)) else ((lX.f 16).bind fun a5=>(some (ae,a5.1,a5.2.1,a5.2.2.1,a5.2.2.2.1,a5.2.2.2.2)))))
def nK.O9:Bool × List (List Nat × List Nat):=(true,[([],[]),([],[]),([1],[1]),([],[]),([2,3],[2,3]),([4],[4]),([5],[5]),([6],[6]),([7],[7]),([0,0],[0]),([8,9,0,1,2,3,4,5,6,7,8,9],[8])])
def nK.Ou:List Nat:=[0,0,2,0,14,30,62,126,254,1,1023]
def nK.ab4:Bool × List (List Nat × List Nat):=(true,[([],[]),([],[]),([],[]),([2],[2]),([1,3],[1,3]),([4],[4]),([0,4,0],[0]),([5,6,0,1,2,3,4,5,6],[5])])
def nK.aa7:List Nat:=[0,0,0,4,14,30,31,127]
theorem nK.calls (k:Nat) (d2:Int) (d3:Int) (d4:Int) (d5:Int) (co:Option Addr) (cl:Nat) (cO:List (aF)) (ce:Int) (cc:ByteArray) (cp:ByteArray) (cq:Int) (cr:Int) (ct:ByteArray) (r1:List (aF)) (r2:Int) (r3:ByteArray) (r4:Int) (r5:Bool) (r6:List ByteArray) (w:World) (er:Kd.C aU w co cO.length cO) (es:cO.length≤cl) (h:nK.f k d2 d3 d4 d5 cO ce cc cp cq cr ct=some (r1,r2,r3,r4,r5,r6)) :
  Calls Tryz.prog 29 #[.agg #[ah d2,ah d3,ah d4,ah d5],.agg #[.slice co cO.length cl],.agg #[ah ce,.string cc,.string cp,ah cq,ah cr,.string ct]] w fun e w'=>∃ eP lY:Value,e=.returned (.tuple #[.agg #[eP],.agg #[ah r2,.string r3,ah r4,.bool r5,lY]])∧Kd.R aU 43 w' w.heap.size (fun _=>True) eP r1∧Kd.R Kd.string 9 w' w.heap.size (fun _=>True) lY r6∧Below w.heap.size w w':=by
 have Bq:=underlying25
 have mF:=underlying28
 have Bv:=underlying45
 have xM:=underlying49
 have yP:=m_ er
 have iO:=m_ es
 clear er es
 have HB:=m_ (Below.refl w.heap.size w)
 unfold nK.f at h
 have H:=h
 clear h
 obtain ⟨cd,A4,H⟩:=bd_ H
 obtain ⟨gp,A5,H⟩:=bd_ H
 have n4:=m_ H
 clear H
 go_enter func29,ntmps29
 go_upto_if 16 with (first|((with_reducible refine dJ 3 ?_);refine dO 3 (cs:=#[ah d2,ah d3,ah d4,ah d5]) 25 ?_;intro e6 hg w7 hbox hb;obtain ⟨HB,aa,n5,n7⟩:=kL au hb hbox hg;clear hb hbox hg)|((with_reducible refine dJ 4 ?_);refine dO 4 (cs:=#[.slice co cO.length cl]) 28 ?_;intro dg hg w8 hbox hb;obtain ⟨aa,HB,a6,n8,n9,bz,ca⟩:=pq (ak aa) au hb hbox hg;clear hb hbox hg)|((with_reducible refine dJ 5 ?_);refine dO 5 (cs:=#[ah ce,.string cc,.string cp,ah cq,ah cr,.string ct]) 45 ?_;intro cy hg w9 hbox hb;obtain ⟨aa,a6,HB,a7,na,nb,fB,bo,bp,bq⟩:=pU (ak aa) (ak a6) au hb hbox hg;clear hb hbox hg)|((with_reducible refine dJ 6 ?_);refine dO 6 (cs:=#[.slice none 0 0]) 28 ?_;intro bb hg qi hbox hb;obtain ⟨aa,a6,a7,HB,dS,cm,nc,ax,bH,am,an,ae,ag⟩:=vI (ak aa) (ak a6) (ak a7) au hb hbox hg;clear hb hbox hg)|((with_reducible refine dJ 7 ?_);refine dO 7 (cs:=#[ah 0,.string (⟨#[]⟩:ByteArray),ah 0,.bool false,.slice none 0 0]) 49 ?_;intro ab hg ayV hbox hb;obtain ⟨aa,a6,a7,dS,HB,bK,xY,ne,az,b0,ac,ao,a9,aK,b1,b2⟩:=EU (ak aa) (ak a6) (ak a7) (ak dS) au hb hbox hg;clear hb hbox hg;obtain ⟨bw,bx,bc,bd,ap,aq,ar,aW⟩:=iH ca bz bp bq am an ac ao;have Ol:=dh a6.out)|((with_reducible refine bT 73 ?_);refine bU (some 13) rfl rfl func73 aB rfl #[.agg #[.slice co cO.length cl]] rfl aX ?_;(with_reducible refine (qH.calls _ _ cO cd _ pG iO.out A4.out).mono ?_);rintro e qk ⟨aAi,rfl,ho0,hb⟩;refine ⟨_,rfl,?_⟩;obtain ⟨ch,aa,a6,a7,dS,bK,HB⟩:=p_ (Kd.dI ho0 (cZ au)) <| oD (ak aa) (ak a6) (ak a7) (ak dS) (ak bK) au hb;(try clear hb);(try clear ho0))|((with_reducible refine dJ 8 ?_);refine dO 8 (cs:=#[.slice none 0 0]) 28 ?_;intro cj hg ayW hbox hb;obtain ⟨ch,aa,a6,a7,dS,bK,HB,a8,nf,ajC,ci,ck,br,bv,b9,ba,av,af,aw,a5⟩:=p_ (Kd.dw (aJ ch) hb) <| Bo (ak aa) (ak a6) (ak a7) (ak dS) (ak bK) au hb hbox hg;clear hb hbox hg;obtain ⟨cf,cg,m9⟩:=Kd.dK ch.out;subst m9;obtain ⟨cv,cw,bs,bu,b3,b4,b5,b6⟩:=iH ck ci bv br ba b9 af av;obtain ⟨b7,b8⟩:=gB a5 aw;have UJ:=dh a8.out;obtain ⟨be,fA,ai,aN,aQ,al⟩:=kJ bo fB ae ag a9 aK;have ej:=jK a7.out)|((with_reducible refine bT 74 ?_);refine bU (some 15) rfl rfl func74 aB rfl #[.agg #[ah ce,.string cc,.string cp,ah cq,ah cr,.string ct]] rfl aX ?_;(with_reducible refine (H_.calls ce cc cp cq cr ct gp _ A5.out).mono ?_);rintro e nq ⟨rfl,hb⟩;refine ⟨_,rfl,?_⟩;have gy:=p_ (Kd.dw (by (with_reducible repeat (first|apply Kd.dB|apply Kd.dD|apply Kd.aZ));exact (Kd.bn (aH (Kd.bQ ch.out a8.out (by decide))) (fun _ dG=>dG.1))) hb) <| p_ (bZ (g:=e6) (o:=.cells #[ah d2,ah d3,ah d4,ah d5] 25) (nO aa.out ci.out) hb) <| p_ (bZ (g:=dg) (o:=.cells #[.slice co cO.length cl] 28) (nO a6.out br.out) hb) <| p_ (bZ (g:=cy) (o:=.cells #[ah ce,.string cc,.string cp,ah cq,ah cr,.string ct] 45) (nO a7.out b9.out) hb) <| p_ (bZ (g:=bb) (o:=.cells #[.slice none 0 0] 28) (nO dS.out av.out) hb) <| p_ (bZ (g:=ab) (o:=.cells #[ah 0,.string (⟨#[]⟩:ByteArray),ah 0,.bool false,.slice none 0 0] 49) (nO bK.out aw.out) hb) <| p_ (bZ (g:=cj) (o:=.cells #[.slice cf cd.length cg] 28) (yB a8.out) hb) <| a_ (dP au hb);clear ch aa a6 a7 dS bK a8 HB;obtain ⟨ch,aa,a6,a7,dS,bK,a8,HB⟩:=gy;(try clear hb);(try clear hk)))
 (try simp only [Act.put,List.setIfInBounds_toArray,List.set_cons_zero,List.set_cons_succ])
 (try clear bx fA cw bw bc ap ar bu be bd ai aQ b4 aq aN b6 aW al b8 cv bs b3 b5 b7)
 (try clear Ol)
 (try clear UJ)
 (try clear ej)
 (try clear Ol)
 (try clear UJ)
 obtain ⟨H⟩:=n4
 by_cases yu:gp=true
 rotate_left
 ·replace yu:=Bool.eq_false_iff.mpr yu
  subst yu
  rw [if_neg iI] at H
  obtain ⟨⟨gr,gs,gt,Am,gv⟩,ma,H⟩:=bd_ H
  simp only [Option.some.injEq,Prod.mk.injEq] at H
  obtain ⟨rfl,rfl,rfl,rfl,rfl,rfl⟩:=H
  try go_wp2
  obtain ⟨ch,aa,a6,a7,dS,bK,a8,HB⟩:=p_ (Kd.aZ ch.out) <| xF aa a6 a7 dS bK a8 HB
  refine iT (n:=4) (S:=fun w'=>w'.cell? ⟨cj,0,none⟩=some (.slice cf cd.length cg)) (ds:=[]) Ad aB rfl rfl ((aP a8.out 0).trans rfl) (fun hH=>?_)
  generalize nq.drew=nr at ch aa a6 a7 dS bK a8 HB hH ⊢
  refine lI (i:=0) (N:=some 17) (v:=?_) (a':=?_) Ae rfl rfl aB (fun _ _ _ h=>h) (Or.inl ⟨(by rfl),?_⟩) hH ?_ ?_
  rotate_left
  ·intro w' s0
   go_simp
   with_reducible rfl
  rotate_left
  ·simp only [Act.put,List.setIfInBounds_toArray,List.set_cons_zero,List.set_cons_succ,aY,bf]
   rfl
  refine fD (i:=1) (N:=some 18) Af rfl rfl aB (by decide) (fun K hK=>?_)
  refine i_ func75 aB rfl #[ah 16] (by rfl) rfl rfl aX ?_
  with_reducible refine (lX.calls 16 gr gs gt Am gv _ ma.out).mono ?_
  rintro e du ⟨aAj,rfl,ho0,hb⟩
  refine ⟨_,rfl,?_⟩
  obtain ⟨ch,et,aa,a6,a7,dS,bK,a8,HB⟩:=p_ (Kd.dw (aJ ch) hb) <| p_ (Kd.dI ho0 (cZ au)) <| pR (ak aa) (ak a6) (ak a7) (ak dS) (ak bK) (ak a8) au hb
  (try clear hb)
  (try clear ho0)
  obtain ⟨gw,gx,tY⟩:=Kd.dK et.out
  (first|subst tY|(injection tY with dV gU dW;have gV:=dV.symm;have gW:=dW.symm;clear dV gU dW;subst gV;subst gW))
  refine hK.out _ _ ((aP a8.out 0).trans rfl) (fun hH=>?_)
  clear hK K
  refine eX (some 18) ?_
  refine fD (i:=2) (N:=none) Ag rfl rfl aB (by decide) (fun K hK=>?_)
  have axY:du.cell? ⟨bb,0,none⟩=some (.slice none 0 0):=(aP dS.out 0).trans rfl
  have ark:=bP dS.out 0
  obtain ⟨dM,ap,ai,bh,b5,bi,aq,aN⟩:=iH ax am ae b2 af bH an ag
  obtain ⟨bj,b6⟩:=gB b1 av
  refine iM (w1:=?_) (by rfl) rfl ?_ ?_
  rotate_left
  ·go_simp
   rfl
  refine hK.out _ _ ((aG af hH)) (fun hH=>?_)
  clear hK K
  refine fD (i:=3) (N:=none) Ah rfl rfl aB (by decide) (fun K hK=>?_)
  have axZ:du.cell? ⟨ab,0,none⟩=some (ah 0):=(aP bK.out 0).trans rfl
  have arl:=bP bK.out 0
  obtain ⟨bl,ar,aQ,b7,bm,aW,al,b8⟩:=iH az ac a9 a5 b0 ao aK aw
  have ax0:du.cell? ⟨ab,1,none⟩=some (.string (⟨#[]⟩:ByteArray)):=(aP bK.out 1).trans rfl
  have arn:=bP bK.out 1
  have ax1:du.cell? ⟨ab,2,none⟩=some (ah 0):=(aP bK.out 2).trans rfl
  have aro:=bP bK.out 2
  have ax2:du.cell? ⟨ab,3,none⟩=some (.bool false):=(aP bK.out 3).trans rfl
  have arp:=bP bK.out 3
  have ax3:du.cell? ⟨ab,4,none⟩=some (.slice none 0 0):=(aP bK.out 4).trans rfl
  have arq:=bP bK.out 4
  refine iM (w1:=?_) (by rfl) rfl ?_ ?_
  rotate_left
  ·go_simp
   rfl
  refine hK.out _ _ ((aG a5 (aG a5 (aG a5 (aG a5 (aG a5 hH)))))) (fun hH=>?_)
  clear hK K
  refine iP aB ?_
  try go_wp2
  refine bodyPost_ret (iR rfl _ _ bb ab 28 49 #[.slice cf cd.length cg] #[ah gr,.string gs,ah gt,.bool Am,.slice gw gv.length gx] (0,0) (0,0) _ _ rfl aT underlying28 rfl aB rfl aT underlying49 rfl aB) rfl ?_
  exact ⟨_,_,bM,(by (with_reducible repeat (first|apply Kd.dB|apply Kd.dD|apply Kd.aZ));exact Kd.bn (aH (aH (aH (aH (aH (aH (Kd.bQ (Kd.bQ ch.out dS.out (by decide)) bK.out (by decide)) (fun _ hk=>hk.1.2))))))) (fun _ hk=>trivial)),(by (with_reducible repeat (first|apply Kd.dB|apply Kd.dD|apply Kd.aZ));exact Kd.bn (aH (aH (aH (aH (aH (aH (Kd.bQ (Kd.bQ et.out dS.out (by decide)) bK.out (by decide)) (fun _ hk=>hk.1.2))))))) (fun _ hk=>trivial)),au⟩
 subst yu
 rw [if_pos rfl] at H
 have gc:=m_ H
 clear H
 go_upto_region 4 with (fail)
 go_cut [26] (fun v26 wc=>∃ (kq:Nat) (de:Bool),v26=.bool de∧aA (nK.j0 kq de d2 d3 d4 d5 cO ce cc cp cq cr ct cd=some (r1,r2,r3,r4,r5,r6))∧aA (kq≤k)∧aA (Kd.R aU 43 wc w.heap.size (fun _=>True) (.slice cf cd.length cg) cd)∧aA (wc.heap[e6]?=some (.cells #[ah d2,ah d3,ah d4,ah d5] 25))∧aA (wc.heap[dg]?=some (.cells #[(.slice co cO.length cl)] 28))∧aA (wc.heap[cy]?=some (.cells #[ah ce,.string cc,.string cp,ah cq,ah cr,.string ct] 45))∧aA (wc.heap[bb]?=some (.cells #[(.slice none 0 0)] 28))∧aA (wc.heap[ab]?=some (.cells #[ah 0,.string (⟨#[]⟩:ByteArray),ah 0,.bool false,(.slice none 0 0)] 49))∧aA (wc.heap[cj]?=some (.cells #[(.slice cf cd.length cg)] 28))∧aA (Below w.heap.size w wc))
 case first =>
  obtain ⟨H⟩:=gc
  revert H;refine fH (fun ev H=>?_) fun ev H=>?_
  rotate_left
  ·have db:=fP ev
   have ew:=fQ ev
   try simp only [aY,bf,db]
   have H':=m_ H
   clear H
   obtain ⟨be,fA,bd,bc,ai,aN,aQ,al⟩:=iH bo fB bq bp ae ag a9 aK
   obtain ⟨b4,b3⟩:=gB b9 ba
   have Ap:=jK a7.out
   go_wp2
   go_meet
   case rel=>exact ⟨_,((ce == 2)),bg,H',⟨kC⟩,⟨(aJ ch)⟩,⟨(ak aa)⟩,⟨(ak a6)⟩,⟨(ak a7)⟩,⟨(ak dS)⟩,⟨(ak bK)⟩,⟨(ak a8)⟩,⟨au⟩⟩
  have db:=fZ ev
  have ew:=f_ ev
  clear ev
  try simp only [aY,bf,db]
  have H':=m_ H
  clear H
  obtain ⟨be,fA,bd,bc,ai,aN,aQ,al⟩:=iH bo fB bq bp ae ag a9 aK
  obtain ⟨b4,b3⟩:=gB b9 ba
  have gz:=jK a7.out
  go_wp2
  go_meet
  case rel=>exact ⟨_,(true),bg,H',⟨kC⟩,⟨(aJ ch)⟩,⟨(ak aa)⟩,⟨(ak a6)⟩,⟨(ak a7)⟩,⟨(ak dS)⟩,⟨(ak bK)⟩,⟨(ak a8)⟩,⟨au⟩⟩
 case rest =>
 clear gc
 try clear yu
 obtain ⟨kq,de,rfl,HA,zB,iE,aa,a6,a7,dS,bK,a8,HB⟩:=hcut
 cases kq with
 | zero=>exact absurd HA.out (by simp [nK.j0])
 | succ zl =>
 obtain ⟨H⟩:=HA
 simp only [nK.j0] at H
 by_cases m8:de=true
 ·subst m8
  rw [if_pos rfl] at H
  obtain ⟨⟨h8,h9,hs,hu,hy,i1⟩,ajE,H⟩:=bd_ H
  simp only [Option.some.injEq,Prod.mk.injEq] at H
  obtain ⟨rfl,rfl,rfl,rfl,rfl,rfl⟩:=H
  obtain ⟨bx,bw,fA,be,dM,bi,bl,bm⟩:=iH bz ca fB bo ax bH az b0
  obtain ⟨cw,cv⟩:=gB ci ck
  have ayP:=yh aa.out
  obtain ⟨bc,bd,ap,aq,ar,aW,bu,bs⟩:=iH bp bq am an ac ao br bv
  have aBk:=dh a6.out
  obtain ⟨ai,aN,aQ,al,b4,b3⟩:=kJ ae ag a9 aK b9 ba
  have ayQ:=jK a7.out
  go_wp2_with (first|((with_reducible refine bT 76 ?_);refine bU (some 30) rfl rfl func76 aB rfl #[.agg #[ah d2,ah d3,ah d4,ah d5],.agg #[.slice co cO.length cl],.agg #[ah ce,.string cc,.string cp,ah cq,ah cr,.string ct]] rfl aX ?_;(with_reducible refine (su.calls zl d2 d3 d4 d5 _ _ cO ce cc cp cq cr ct h8 h9 hs hu hy i1 _ pG iO.out ajE.out).mono ?_);rintro e s9 ⟨aAk,aAl,rfl,ho0,ho1,hb⟩;refine ⟨_,rfl,?_⟩;obtain ⟨iE,ex,ey,aa,a6,a7,dS,bK,a8,HB⟩:=p_ (Kd.jX (aJ iE) (Kd.jo ho0) hb) <| p_ (Kd.dI (Kd.jY ho0 (Kd.jJ (aJ iE))) (cZ au)) <| p_ (Kd.dI ho1 (cZ au)) <| pR (ak aa) (ak a6) (ak a7) (ak dS) (ak bK) (ak a8) au hb;(try clear hb);(try clear ho0);(try clear ho1);obtain ⟨mb,mc,me⟩:=Kd.dK ex.out;subst me;obtain ⟨bj,bh,b6,b5⟩:=g_ b1 b2 av af;have aBp:=dh dS.out;obtain ⟨b8,b7⟩:=gB aw a5;have oa:=kK bK.out;obtain ⟨mf,Zn,mh⟩:=Kd.dK ey.out;subst mh))
  refine bodyPost_ret (iR rfl _ _ bb ab 28 49 #[.slice mb h8.length mc] #[ah h9,.string hs,ah hu,.bool hy,.slice mf i1.length Zn] (0,0) (0,0) _ _ rfl aT underlying28 rfl aB rfl aT underlying49 rfl aB) rfl ?_
  exact ⟨_,_,bM,(by (with_reducible repeat (first|apply Kd.dB|apply Kd.dD|apply Kd.aZ));exact Kd.bn (aH (aH (aH (aH (aH (aH (Kd.bQ (Kd.bQ ex.out dS.out (by decide)) bK.out (by decide)) (fun _ hk=>hk.1.2))))))) (fun _ hk=>trivial)),(by (with_reducible repeat (first|apply Kd.dB|apply Kd.dD|apply Kd.aZ));exact Kd.bn (aH (aH (aH (aH (aH (aH (Kd.bQ (Kd.bQ ey.out dS.out (by decide)) bK.out (by decide)) (fun _ hk=>hk.1.2))))))) (fun _ hk=>trivial)),au⟩
 replace m8:=Bool.eq_false_iff.mpr m8
 subst m8
 rw [if_neg iI] at H
 obtain ⟨ek,oc,H⟩:=bd_ H
 have i2:=m_ H
 clear H
 obtain ⟨bw,bx,bc,bd,ap,aq,ar,aW⟩:=iH ca bz bp bq am an ac ao
 obtain ⟨bu,bs⟩:=gB br bv
 have aaY:=dh a6.out
 obtain ⟨be,fA,ai,aN,aQ,al,b4,b3⟩:=iH bo fB ae ag a9 aK b9 ba
 have mi:=jK a7.out
 go_upto_if 38 with (first|((with_reducible refine bT 26 ?_);refine bU (some 36) rfl rfl func26 aB rfl #[.agg #[.slice co cO.length cl],.string cc] rfl aX ?_;(with_reducible refine (o7.calls zl _ _ cO cc ek _ pG iO.out oc.out).mono ?_);rintro e od ⟨rfl,hb⟩;refine ⟨_,rfl,?_⟩;obtain ⟨iE,aa,a6,a7,dS,bK,a8,HB⟩:=p_ (Kd.dw (aJ iE) hb) <| pR (ak aa) (ak a6) (ak a7) (ak dS) (ak bK) (ak a8) au hb;(try clear hb)))
 (try simp only [Act.put,List.setIfInBounds_toArray,List.set_cons_zero,List.set_cons_succ])
 (try clear bx fA bw bc ap ar bu be bd ai aQ b4 aq aN aW al bs b3)
 (try clear mi)
 obtain ⟨H⟩:=i2
 revert H;refine fH (fun gd H=>?_) fun gd H=>?_
 rotate_left
 ·have lN:=fP gd
  have i3:=fQ gd
  try simp only [aY,bf,lN]
  obtain ⟨⟨i4,i5,i6,i7,i8⟩,mj,H⟩:=bd_ H
  simp only [Option.some.injEq,Prod.mk.injEq] at H
  obtain ⟨rfl,rfl,rfl,rfl,rfl,rfl⟩:=H
  try go_wp2
  obtain ⟨iE,aa,a6,a7,dS,bK,a8,HB⟩:=p_ (Kd.aZ iE.out) <| xF aa a6 a7 dS bK a8 HB
  refine iT (n:=5) (S:=fun w'=>w'.cell? ⟨cj,0,none⟩=some (.slice cf cd.length cg)) (ds:=[]) Di aB rfl rfl ((aP a8.out 0).trans rfl) (fun hH=>?_)
  generalize od.drew=oe at iE aa a6 a7 dS bK a8 HB hH ⊢
  refine sN (i:=1) (N:=some 40) IX aB ?_
  refine lI (i:=0) (N:=some 39) (v:=?_) (a':=?_) IY rfl rfl aB (fun _ _ _ h=>h) (Or.inl ⟨(by rfl),?_⟩) hH ?_ ?_
  rotate_left
  ·intro w' s0
   go_simp
   with_reducible rfl
  rotate_left
  ·simp only [Act.put,List.setIfInBounds_toArray,List.set_cons_zero,List.set_cons_succ,aY,bf]
   rfl
  refine fD (i:=2) (N:=some 41) ER rfl rfl aB (by decide) (fun K hK=>?_)
  refine i_ func75 aB rfl #[ah ek] (by rfl) rfl rfl aX ?_
  with_reducible refine (lX.calls ek i4 i5 i6 i7 i8 _ mj.out).mono ?_
  rintro e dv ⟨aAm,rfl,ho0,hb⟩
  refine ⟨_,rfl,?_⟩
  obtain ⟨iE,ez,aa,a6,a7,dS,bK,a8,HB⟩:=p_ (Kd.dw (aJ iE) hb) <| p_ (Kd.dI ho0 (cZ au)) <| pR (ak aa) (ak a6) (ak a7) (ak dS) (ak bK) (ak a8) au hb
  (try clear hb)
  (try clear ho0)
  obtain ⟨i9,ia,f7⟩:=Kd.dK ez.out
  (first|subst f7|(injection f7 with dV gU dW;have gV:=dV.symm;have gW:=dW.symm;clear dV gU dW;subst gV;subst gW))
  refine hK.out _ _ ((aP a8.out 0).trans rfl) (fun hH=>?_)
  clear hK K
  refine eX (some 41) ?_
  refine fD (i:=3) (N:=none) Dj rfl rfl aB (by decide) (fun K hK=>?_)
  have axR:dv.cell? ⟨bb,0,none⟩=some (.slice none 0 0):=(aP dS.out 0).trans rfl
  have ara:=bP dS.out 0
  obtain ⟨dM,ap,ai,bh,b5,bi,aq,aN⟩:=iH ax am ae b2 af bH an ag
  obtain ⟨bj,b6⟩:=gB b1 av
  refine iM (w1:=?_) (by rfl) rfl ?_ ?_
  rotate_left
  ·go_simp
   rfl
  refine hK.out _ _ ((aG af hH)) (fun hH=>?_)
  clear hK K
  refine fD (i:=4) (N:=none) Dk rfl rfl aB (by decide) (fun K hK=>?_)
  have axS:dv.cell? ⟨ab,0,none⟩=some (ah 0):=(aP bK.out 0).trans rfl
  have arb:=bP bK.out 0
  obtain ⟨bl,ar,aQ,b7,bm,aW,al,b8⟩:=iH az ac a9 a5 b0 ao aK aw
  have axT:dv.cell? ⟨ab,1,none⟩=some (.string (⟨#[]⟩:ByteArray)):=(aP bK.out 1).trans rfl
  have ard:=bP bK.out 1
  have axU:dv.cell? ⟨ab,2,none⟩=some (ah 0):=(aP bK.out 2).trans rfl
  have arf:=bP bK.out 2
  have axV:dv.cell? ⟨ab,3,none⟩=some (.bool false):=(aP bK.out 3).trans rfl
  have arh:=bP bK.out 3
  have axW:dv.cell? ⟨ab,4,none⟩=some (.slice none 0 0):=(aP bK.out 4).trans rfl
  have ari:=bP bK.out 4
  refine iM (w1:=?_) (by rfl) rfl ?_ ?_
  rotate_left
  ·go_simp
   rfl
  refine hK.out _ _ ((aG a5 (aG a5 (aG a5 (aG a5 (aG a5 hH)))))) (fun hH=>?_)
  clear hK K
  refine iP aB ?_
  try go_wp2
  refine bodyPost_ret (iR rfl _ _ bb ab 28 49 #[.slice cf cd.length cg] #[ah i4,.string i5,ah i6,.bool i7,.slice i9 i8.length ia] (0,0) (0,0) _ _ rfl aT underlying28 rfl aB rfl aT underlying49 rfl aB) rfl ?_
  exact ⟨_,_,bM,zA,(by (with_reducible repeat (first|apply Kd.dB|apply Kd.dD|apply Kd.aZ));exact Kd.bn (aH (aH (aH (aH (aH (aH (Kd.bQ (Kd.bQ ez.out dS.out (by decide)) bK.out (by decide)) (fun _ hk=>hk.1.2))))))) (fun _ hk=>trivial)),au⟩
 have lN:=fZ gd
 have i3:=f_ gd
 clear gd
 try simp only [aY,bf,lN]
 obtain ⟨lF,Zv,H⟩:=bd_ H
 obtain ⟨cx,ajF,H⟩:=bd_ H
 have ib:=m_ H
 clear H
 have aBx:=dh a6.out
 have ic:=jK a7.out
 go_upto_if 52 with (first|((with_reducible refine bT 54 ?_);refine bU (some 45) rfl rfl func54 aB rfl #[.agg #[.slice co cO.length cl],.string cc] rfl aX ?_;(with_reducible refine (yI.calls zl _ _ cO cc lF _ pG iO.out Zv.out).mono ?_);rintro e oj ⟨rfl,hb⟩;refine ⟨_,rfl,?_⟩;obtain ⟨iE,aa,a6,a7,dS,bK,a8,HB⟩:=p_ (Kd.dw (aJ iE) hb) <| pR (ak aa) (ak a6) (ak a7) (ak dS) (ak bK) (ak a8) au hb;(try clear hb);have UE:=dh a6.out;have f8:=jK a7.out)|((with_reducible refine bT 13 ?_);refine bU (some 49) rfl rfl func13 aB rfl #[.agg #[.slice co cO.length cl],.string cc] rfl aX ?_;(with_reducible refine (qG.calls zl _ _ cO cc cx _ pG iO.out ajF.out).mono ?_);rintro e gf ⟨rfl,hb⟩;refine ⟨_,rfl,?_⟩;obtain ⟨iE,aa,a6,a7,dS,bK,a8,HB⟩:=p_ (Kd.dw (aJ iE) hb) <| pR (ak aa) (ak a6) (ak a7) (ak dS) (ak bK) (ak a8) au hb;(try clear hb);have fa:=jK a7.out))
 (try simp only [Act.put,List.setIfInBounds_toArray,List.set_cons_zero,List.set_cons_succ])
 (try clear bx fA bw bc ap ar bu be bd ai aQ b4 aq aN aW al bs b3)
 (try clear UE)
 (try clear f8)
 (try clear fa)
 (try clear ic)
 (try clear UE)
 obtain ⟨H⟩:=ib
 revert H;refine fH (fun dp H=>?_) fun dp H=>?_
 ·have da:=fZ dp
  have gh:=f_ dp
  clear dp
  try simp only [aY,bf,da]
  by_cases el:lF=true
  rotate_left
  ·replace el:=Bool.eq_false_iff.mpr el
   subst el
   rw [if_neg iI] at H
   obtain ⟨id,ml,H⟩:=bd_ H
   simp only [Option.some.injEq,Prod.mk.injEq] at H
   obtain ⟨rfl,rfl,rfl,rfl,rfl,rfl⟩:=H
   have aAP:=dh a6.out
   have nh:=jK a7.out
   go_wp2_with (first|((with_reducible refine bT 77 ?_);refine bU (some 60) rfl rfl func77 aB rfl #[.agg #[.slice co cO.length cl],.string cc] rfl aX ?_;(with_reducible refine (qP.calls zl _ _ cO cc id _ pG iO.out ml.out).mono ?_);rintro e ol ⟨aAo,rfl,ho0,hb⟩;refine ⟨_,rfl,?_⟩;obtain ⟨iE,fb,aa,a6,a7,dS,bK,a8,HB⟩:=p_ (Kd.jX (aJ iE) (Kd.jo ho0) hb) <| p_ (Kd.dI (Kd.jY ho0 (Kd.jJ (aJ iE))) (cZ au)) <| pR (ak aa) (ak a6) (ak a7) (ak dS) (ak bK) (ak a8) au hb;(try clear hb);(try clear ho0);obtain ⟨ie,DU,ii⟩:=Kd.dK fb.out;subst ii;obtain ⟨bi,dM,bj,bh,b6,b5⟩:=kJ bH ax b1 b2 av af;have aAS:=dh dS.out;obtain ⟨bm,bl,b8,b7⟩:=g_ b0 az aw a5;have ajD:=kK bK.out))
   refine bodyPost_ret (iR rfl _ _ bb ab 28 49 #[.slice ie id.length DU] #[ah 0,.string (⟨#[]⟩:ByteArray),ah 0,.bool false,.slice none 0 0] (0,0) (0,0) _ _ rfl aT underlying28 rfl aB rfl aT underlying49 rfl aB) rfl ?_
   exact ⟨_,_,bM,(by (with_reducible repeat (first|apply Kd.dB|apply Kd.dD|apply Kd.aZ));exact Kd.bn (aH (aH (aH (aH (aH (aH (Kd.bQ (Kd.bQ fb.out dS.out (by decide)) bK.out (by decide)) (fun _ hk=>hk.1.2))))))) (fun _ hk=>trivial)),kD,au⟩
  subst el
  rw [if_pos rfl] at H
  obtain ⟨⟨ij,ik,il,im,io⟩,mm,H⟩:=bd_ H
  simp only [Option.some.injEq,Prod.mk.injEq] at H
  obtain ⟨rfl,rfl,rfl,rfl,rfl,rfl⟩:=H
  try go_wp2
  obtain ⟨iE,aa,a6,a7,dS,bK,a8,HB⟩:=p_ (Kd.aZ iE.out) <| xF aa a6 a7 dS bK a8 HB
  refine iT (n:=4) (S:=fun w'=>w'.cell? ⟨cj,0,none⟩=some (.slice cf cd.length cg)) (ds:=[]) Ad aB rfl rfl ((aP a8.out 0).trans rfl) (fun hH=>?_)
  generalize gf.drew=om at iE aa a6 a7 dS bK a8 HB hH ⊢
  refine lI (i:=0) (N:=some 55) (v:=?_) (a':=?_) Ae rfl rfl aB (fun _ _ _ h=>h) (Or.inl ⟨(by rfl),?_⟩) hH ?_ ?_
  rotate_left
  ·intro w' s0
   go_simp
   with_reducible rfl
  rotate_left
  ·simp only [Act.put,List.setIfInBounds_toArray,List.set_cons_zero,List.set_cons_succ,aY,bf]
   rfl
  refine fD (i:=1) (N:=some 56) Af rfl rfl aB (by decide) (fun K hK=>?_)
  refine i_ func75 aB rfl #[ah 5] (by rfl) rfl rfl aX ?_
  with_reducible refine (lX.calls 5 ij ik il im io _ mm.out).mono ?_
  rintro e jU ⟨aAn,rfl,ho0,hb⟩
  refine ⟨_,rfl,?_⟩
  obtain ⟨iE,fc,aa,a6,a7,dS,bK,a8,HB⟩:=p_ (Kd.dw (aJ iE) hb) <| p_ (Kd.dI ho0 (cZ au)) <| pR (ak aa) (ak a6) (ak a7) (ak dS) (ak bK) (ak a8) au hb
  (try clear hb)
  (try clear ho0)
  obtain ⟨ip,G6,fd⟩:=Kd.dK fc.out
  (first|subst fd|(injection fd with dV gU dW;have gV:=dV.symm;have gW:=dW.symm;clear dV gU dW;subst gV;subst gW))
  refine hK.out _ _ ((aP a8.out 0).trans rfl) (fun hH=>?_)
  clear hK K
  refine eX (some 56) ?_
  refine fD (i:=2) (N:=none) Ag rfl rfl aB (by decide) (fun K hK=>?_)
  have awT:jU.cell? ⟨bb,0,none⟩=some (.slice none 0 0):=(aP dS.out 0).trans rfl
  have aqd:=bP dS.out 0
  obtain ⟨dM,ap,ai,bh,b5,bi,aq,aN⟩:=iH ax am ae b2 af bH an ag
  obtain ⟨bj,b6⟩:=gB b1 av
  refine iM (w1:=?_) (by rfl) rfl ?_ ?_
  rotate_left
  ·go_simp
   rfl
  refine hK.out _ _ ((aG af hH)) (fun hH=>?_)
  clear hK K
  refine fD (i:=3) (N:=none) Ah rfl rfl aB (by decide) (fun K hK=>?_)
  have awU:jU.cell? ⟨ab,0,none⟩=some (ah 0):=(aP bK.out 0).trans rfl
  have aqe:=bP bK.out 0
  obtain ⟨bl,ar,aQ,b7,bm,aW,al,b8⟩:=iH az ac a9 a5 b0 ao aK aw
  have air:jU.cell? ⟨ab,1,none⟩=some (.string (⟨#[]⟩:ByteArray)):=(aP bK.out 1).trans rfl
  have afH:=bP bK.out 1
  have ais:jU.cell? ⟨ab,2,none⟩=some (ah 0):=(aP bK.out 2).trans rfl
  have afI:=bP bK.out 2
  have ait:jU.cell? ⟨ab,3,none⟩=some (.bool false):=(aP bK.out 3).trans rfl
  have afJ:=bP bK.out 3
  have aiu:jU.cell? ⟨ab,4,none⟩=some (.slice none 0 0):=(aP bK.out 4).trans rfl
  have afK:=bP bK.out 4
  refine iM (w1:=?_) (by rfl) rfl ?_ ?_
  rotate_left
  ·go_simp
   rfl
  refine hK.out _ _ ((aG a5 (aG a5 (aG a5 (aG a5 (aG a5 hH)))))) (fun hH=>?_)
  clear hK K
  refine iP aB ?_
  try go_wp2
  refine bodyPost_ret (iR rfl _ _ bb ab 28 49 #[.slice cf cd.length cg] #[ah ij,.string ik,ah il,.bool im,.slice ip io.length G6] (0,0) (0,0) _ _ rfl aT underlying28 rfl aB rfl aT underlying49 rfl aB) rfl ?_
  exact ⟨_,_,bM,zA,(by (with_reducible repeat (first|apply Kd.dB|apply Kd.dD|apply Kd.aZ));exact Kd.bn (aH (aH (aH (aH (aH (aH (Kd.bQ (Kd.bQ fc.out dS.out (by decide)) bK.out (by decide)) (fun _ hk=>hk.1.2))))))) (fun _ hk=>trivial)),au⟩
 have da:=fP dp
 have gh:=fQ dp
 try simp only [aY,bf,da]
 revert H;refine fH (fun di H=>?_) fun di H=>?_
 ·have e7:=fZ di
  have e8:=f_ di
  clear di
  have fe:=m_ H
  clear H
  have ir:=jK a7.out
  go_upto_if 64 with (fail)
  (try clear fA bc be bd ai aQ b4 aN al b3)
  (try clear ir)
  obtain ⟨H⟩:=fe
  revert H;refine fH (fun dj H=>?_) fun dj H=>?_
  ·have cz:=fZ dj
   have e9:=f_ dj
   clear dj
   try simp only [aY,bf,cz]
   obtain ⟨⟨iu,iv,AA,ix,BA⟩,mo,H⟩:=bd_ H
   simp only [Option.some.injEq,Prod.mk.injEq] at H
   obtain ⟨rfl,rfl,rfl,rfl,rfl,rfl⟩:=H
   try go_wp2
   obtain ⟨iE,aa,a6,a7,dS,bK,a8,HB⟩:=p_ (Kd.aZ iE.out) <| xF aa a6 a7 dS bK a8 HB
   refine iT (n:=4) (S:=fun w'=>w'.cell? ⟨cj,0,none⟩=some (.slice cf cd.length cg)) (ds:=[]) Ad aB rfl rfl ((aP a8.out 0).trans rfl) (fun hH=>?_)
   generalize gf.drew=on at iE aa a6 a7 dS bK a8 HB hH ⊢
   refine lI (i:=0) (N:=some 68) (v:=?_) (a':=?_) Ae rfl rfl aB (fun _ _ _ h=>h) (Or.inl ⟨(by rfl),?_⟩) hH ?_ ?_
   rotate_left
   ·intro w' s0
    go_simp
    with_reducible rfl
   rotate_left
   ·simp only [Act.put,List.setIfInBounds_toArray,List.set_cons_zero,List.set_cons_succ,aY,bf]
    rfl
   refine fD (i:=1) (N:=some 69) Af rfl rfl aB (by decide) (fun K hK=>?_)
   refine i_ func75 aB rfl #[ah 9] (by rfl) rfl rfl aX ?_
   with_reducible refine (lX.calls 9 iu iv AA ix BA _ mo.out).mono ?_
   rintro e dx ⟨aAp,rfl,ho0,hb⟩
   refine ⟨_,rfl,?_⟩
   obtain ⟨iE,ff,aa,a6,a7,dS,bK,a8,HB⟩:=p_ (Kd.dw (aJ iE) hb) <| p_ (Kd.dI ho0 (cZ au)) <| pR (ak aa) (ak a6) (ak a7) (ak dS) (ak bK) (ak a8) au hb
   (try clear hb)
   (try clear ho0)
   obtain ⟨iz,j5,fg⟩:=Kd.dK ff.out
   (first|subst fg|(injection fg with dV gU dW;have gV:=dV.symm;have gW:=dW.symm;clear dV gU dW;subst gV;subst gW))
   refine hK.out _ _ ((aP a8.out 0).trans rfl) (fun hH=>?_)
   clear hK K
   refine eX (some 69) ?_
   refine fD (i:=2) (N:=none) Ag rfl rfl aB (by decide) (fun K hK=>?_)
   have aiv:dx.cell? ⟨bb,0,none⟩=some (.slice none 0 0):=(aP dS.out 0).trans rfl
   have afL:=bP dS.out 0
   obtain ⟨dM,ap,ai,bh,b5,bi,aq,aN⟩:=iH ax am ae b2 af bH an ag
   obtain ⟨bj,b6⟩:=gB b1 av
   refine iM (w1:=?_) (by rfl) rfl ?_ ?_
   rotate_left
   ·go_simp
    rfl
   refine hK.out _ _ ((aG af hH)) (fun hH=>?_)
   clear hK K
   refine fD (i:=3) (N:=none) Ah rfl rfl aB (by decide) (fun K hK=>?_)
   have aiw:dx.cell? ⟨ab,0,none⟩=some (ah 0):=(aP bK.out 0).trans rfl
   have afM:=bP bK.out 0
   obtain ⟨bl,ar,aQ,b7,bm,aW,al,b8⟩:=iH az ac a9 a5 b0 ao aK aw
   have aix:dx.cell? ⟨ab,1,none⟩=some (.string (⟨#[]⟩:ByteArray)):=(aP bK.out 1).trans rfl
   have afN:=bP bK.out 1
   have aw8:dx.cell? ⟨ab,2,none⟩=some (ah 0):=(aP bK.out 2).trans rfl
   have aqt:=bP bK.out 2
   have aiy:dx.cell? ⟨ab,3,none⟩=some (.bool false):=(aP bK.out 3).trans rfl
   have afO:=bP bK.out 3
   have aw9:dx.cell? ⟨ab,4,none⟩=some (.slice none 0 0):=(aP bK.out 4).trans rfl
   have aqu:=bP bK.out 4
   refine iM (w1:=?_) (by rfl) rfl ?_ ?_
   rotate_left
   ·go_simp
    rfl
   refine hK.out _ _ ((aG a5 (aG a5 (aG a5 (aG a5 (aG a5 hH)))))) (fun hH=>?_)
   clear hK K
   refine iP aB ?_
   try go_wp2
   refine bodyPost_ret (iR rfl _ _ bb ab 28 49 #[.slice cf cd.length cg] #[ah iu,.string iv,ah AA,.bool ix,.slice iz BA.length j5] (0,0) (0,0) _ _ rfl aT underlying28 rfl aB rfl aT underlying49 rfl aB) rfl ?_
   exact ⟨_,_,bM,zA,(by (with_reducible repeat (first|apply Kd.dB|apply Kd.dD|apply Kd.aZ));exact Kd.bn (aH (aH (aH (aH (aH (aH (Kd.bQ (Kd.bQ ff.out dS.out (by decide)) bK.out (by decide)) (fun _ hk=>hk.1.2))))))) (fun _ hk=>trivial)),au⟩
  have cz:=fP dj
  have e9:=fQ dj
  try simp only [aY,bf,cz]
  by_cases ea:lF=true
  rotate_left
  ·replace ea:=Bool.eq_false_iff.mpr ea
   subst ea
   rw [if_neg iI] at H
   obtain ⟨⟨j9,ja,jb,G7,G8⟩,mq,H⟩:=bd_ H
   simp only [Option.some.injEq,Prod.mk.injEq] at H
   obtain ⟨rfl,rfl,rfl,rfl,rfl,rfl⟩:=H
   try go_wp2
   obtain ⟨iE,aa,a6,a7,dS,bK,a8,HB⟩:=p_ (Kd.aZ iE.out) <| xF aa a6 a7 dS bK a8 HB
   refine iT (n:=4) (S:=fun w'=>w'.cell? ⟨cj,0,none⟩=some (.slice cf cd.length cg)) (ds:=[]) Ad aB rfl rfl ((aP a8.out 0).trans rfl) (fun hH=>?_)
   generalize gf.drew=oo at iE aa a6 a7 dS bK a8 HB hH ⊢
   refine lI (i:=0) (N:=some 73) (v:=?_) (a':=?_) Ae rfl rfl aB (fun _ _ _ h=>h) (Or.inl ⟨(by rfl),?_⟩) hH ?_ ?_
   rotate_left
   ·intro w' s0
    go_simp
    with_reducible rfl
   rotate_left
   ·simp only [Act.put,List.setIfInBounds_toArray,List.set_cons_zero,List.set_cons_succ,aY,bf]
    rfl
   refine fD (i:=1) (N:=some 74) Af rfl rfl aB (by decide) (fun K hK=>?_)
   refine i_ func75 aB rfl #[ah 4] (by rfl) rfl rfl aX ?_
   with_reducible refine (lX.calls 4 j9 ja jb G7 G8 _ mq.out).mono ?_
   rintro e dy ⟨aAt,rfl,ho0,hb⟩
   refine ⟨_,rfl,?_⟩
   obtain ⟨iE,fh,aa,a6,a7,dS,bK,a8,HB⟩:=p_ (Kd.dw (aJ iE) hb) <| p_ (Kd.dI ho0 (cZ au)) <| pR (ak aa) (ak a6) (ak a7) (ak dS) (ak bK) (ak a8) au hb
   (try clear hb)
   (try clear ho0)
   obtain ⟨JF,G9,fi⟩:=Kd.dK fh.out
   (first|subst fi|(injection fi with dV gU dW;have gV:=dV.symm;have gW:=dW.symm;clear dV gU dW;subst gV;subst gW))
   refine hK.out _ _ ((aP a8.out 0).trans rfl) (fun hH=>?_)
   clear hK K
   refine eX (some 74) ?_
   refine fD (i:=2) (N:=none) Ag rfl rfl aB (by decide) (fun K hK=>?_)
   have axh:dy.cell? ⟨bb,0,none⟩=some (.slice none 0 0):=(aP dS.out 0).trans rfl
   have aqE:=bP dS.out 0
   obtain ⟨dM,ap,ai,bh,b5,bi,aq,aN⟩:=iH ax am ae b2 af bH an ag
   obtain ⟨bj,b6⟩:=gB b1 av
   refine iM (w1:=?_) (by rfl) rfl ?_ ?_
   rotate_left
   ·go_simp
    rfl
   refine hK.out _ _ ((aG af hH)) (fun hH=>?_)
   clear hK K
   refine fD (i:=3) (N:=none) Ah rfl rfl aB (by decide) (fun K hK=>?_)
   have axi:dy.cell? ⟨ab,0,none⟩=some (ah 0):=(aP bK.out 0).trans rfl
   have aqF:=bP bK.out 0
   obtain ⟨bl,ar,aQ,b7,bm,aW,al,b8⟩:=iH az ac a9 a5 b0 ao aK aw
   have axj:dy.cell? ⟨ab,1,none⟩=some (.string (⟨#[]⟩:ByteArray)):=(aP bK.out 1).trans rfl
   have aqG:=bP bK.out 1
   have axk:dy.cell? ⟨ab,2,none⟩=some (ah 0):=(aP bK.out 2).trans rfl
   have aqH:=bP bK.out 2
   have axl:dy.cell? ⟨ab,3,none⟩=some (.bool false):=(aP bK.out 3).trans rfl
   have aqI:=bP bK.out 3
   have axn:dy.cell? ⟨ab,4,none⟩=some (.slice none 0 0):=(aP bK.out 4).trans rfl
   have aqJ:=bP bK.out 4
   refine iM (w1:=?_) (by rfl) rfl ?_ ?_
   rotate_left
   ·go_simp
    rfl
   refine hK.out _ _ ((aG a5 (aG a5 (aG a5 (aG a5 (aG a5 hH)))))) (fun hH=>?_)
   clear hK K
   refine iP aB ?_
   try go_wp2
   refine bodyPost_ret (iR rfl _ _ bb ab 28 49 #[.slice cf cd.length cg] #[ah j9,.string ja,ah jb,.bool G7,.slice JF G8.length G9] (0,0) (0,0) _ _ rfl aT underlying28 rfl aB rfl aT underlying49 rfl aB) rfl ?_
   exact ⟨_,_,bM,zA,(by (with_reducible repeat (first|apply Kd.dB|apply Kd.dD|apply Kd.aZ));exact Kd.bn (aH (aH (aH (aH (aH (aH (Kd.bQ (Kd.bQ fh.out dS.out (by decide)) bK.out (by decide)) (fun _ hk=>hk.1.2))))))) (fun _ hk=>trivial)),au⟩
  subst ea
  rw [if_pos rfl] at H
  obtain ⟨em,mr,H⟩:=bd_ H
  have fj:=m_ H
  clear H
  have aAU:=dh a6.out
  have eb:=jK a7.out
  go_upto_if 75 with (first|((with_reducible refine bT 20 ?_);refine bU (some 79) rfl rfl func20 aB rfl #[.agg #[.slice co cO.length cl],.string cc] rfl aX ?_;(with_reducible refine (sJ.calls zl _ _ cO cc em _ pG iO.out mr.out).mono ?_);rintro e ms ⟨aAq,rfl,ho0,hb⟩;refine ⟨_,rfl,?_⟩;obtain ⟨iE,cn,aa,a6,a7,dS,bK,a8,HB⟩:=p_ (Kd.dw (aJ iE) hb) <| p_ (Kd.dI ho0 (cZ au)) <| pR (ak aa) (ak a6) (ak a7) (ak dS) (ak bK) (ak a8) au hb;(try clear hb);(try clear ho0);obtain ⟨nj,nk,DY⟩:=Kd.dK cn.out;subst DY))
  (try simp only [Act.put,List.setIfInBounds_toArray,List.set_cons_zero,List.set_cons_succ])
  (try clear bx fA bw bc ap ar bu be bd ai aQ b4 aq aN aW al bs b3)
  (try clear eb)
  obtain ⟨H⟩:=fj
  revert H;refine fH (fun dq H=>?_) fun dq H=>?_
  rotate_left
  ·have d0:=vX dq
   have df:decide (0 < em.length)=false:=vX (by omega)
   clear dq
   (first|rw [d0]|rw [df]|(simp only [aY,bf];rw [d0])|skip)
   obtain ⟨DZ,mt,H⟩:=bd_ H
   simp only [Option.some.injEq,Prod.mk.injEq] at H
   obtain ⟨rfl,rfl,rfl,rfl,rfl,rfl⟩:=H
   have aAW:=dh a6.out
   have fk:=jK a7.out
   go_wp2_with (first|((with_reducible refine bT 77 ?_);refine bU (some 87) rfl rfl func77 aB rfl #[.agg #[.slice co cO.length cl],.string cc] rfl aX ?_;(with_reducible refine (qP.calls zl _ _ cO cc DZ _ pG iO.out mt.out).mono ?_);rintro e ayR ⟨aAs,rfl,ho0,hb⟩;refine ⟨_,rfl,?_⟩;obtain ⟨iE,cn,fl,aa,a6,a7,dS,bK,a8,HB⟩:=p_ (Kd.jX (aJ iE) (Kd.jo ho0) hb) <| p_ (Kd.dw (aJ cn) hb) <| p_ (Kd.dI (Kd.jY ho0 (Kd.jJ (aJ iE))) (cZ au)) <| pR (ak aa) (ak a6) (ak a7) (ak dS) (ak bK) (ak a8) au hb;(try clear hb);(try clear ho0);obtain ⟨G_,jj,D5⟩:=Kd.dK fl.out;subst D5;obtain ⟨bi,dM,bj,bh,b6,b5⟩:=kJ bH ax b1 b2 av af;have aAY:=dh dS.out;obtain ⟨bm,bl,b8,b7⟩:=g_ b0 az aw a5;have fm:=kK bK.out))
   refine bodyPost_ret (iR rfl _ _ bb ab 28 49 #[.slice G_ DZ.length jj] #[ah 0,.string (⟨#[]⟩:ByteArray),ah 0,.bool false,.slice none 0 0] (0,0) (0,0) _ _ rfl aT underlying28 rfl aB rfl aT underlying49 rfl aB) rfl ?_
   exact ⟨_,_,bM,(by (with_reducible repeat (first|apply Kd.dB|apply Kd.dD|apply Kd.aZ));exact Kd.bn (aH (aH (aH (aH (aH (aH (Kd.bQ (Kd.bQ fl.out dS.out (by decide)) bK.out (by decide)) (fun _ hk=>hk.1.2))))))) (fun _ hk=>trivial)),kD,au⟩
  have d0:=mM dq
  have df:decide (0 < em.length)=true:=mM (by omega)
  clear dq
  (first|rw [d0]|rw [df]|(simp only [aY,bf];rw [d0])|skip)
  obtain ⟨⟨BD,D6,jn,D7,jp⟩,mu,H⟩:=bd_ H
  simp only [Option.some.injEq,Prod.mk.injEq] at H
  obtain ⟨rfl,rfl,rfl,rfl,rfl,rfl⟩:=H
  try go_wp2
  obtain ⟨iE,cn,aa,a6,a7,dS,bK,a8,HB⟩:=p_ (Kd.aZ iE.out) <| p_ (Kd.aZ cn.out) <| xF aa a6 a7 dS bK a8 HB
  refine iT (n:=4) (S:=fun w'=>w'.cell? ⟨cj,0,none⟩=some (.slice cf cd.length cg)) (ds:=[]) Ad aB rfl rfl ((aP a8.out 0).trans rfl) (fun hH=>?_)
  generalize ms.drew=os at iE cn aa a6 a7 dS bK a8 HB hH ⊢
  refine lI (i:=0) (N:=some 82) (v:=?_) (a':=?_) Ae rfl rfl aB (fun _ _ _ h=>h) (Or.inl ⟨(by rfl),?_⟩) hH ?_ ?_
  rotate_left
  ·intro w' s0
   go_simp
   with_reducible rfl
  rotate_left
  ·simp only [Act.put,List.setIfInBounds_toArray,List.set_cons_zero,List.set_cons_succ,aY,bf]
   rfl
  refine fD (i:=1) (N:=some 83) Af rfl rfl aB (by decide) (fun K hK=>?_)
  refine i_ func75 aB rfl #[ah 10] (by rfl) rfl rfl aX ?_
  with_reducible refine (lX.calls 10 BD D6 jn D7 jp _ mu.out).mono ?_
  rintro e dz ⟨aAr,rfl,ho0,hb⟩
  refine ⟨_,rfl,?_⟩
  obtain ⟨iE,cn,fo,aa,a6,a7,dS,bK,a8,HB⟩:=p_ (Kd.dw (aJ iE) hb) <| p_ (Kd.jX (aJ cn) (Kd.jo ho0) hb) <| p_ (Kd.dI (Kd.jY ho0 (Kd.jJ (aJ cn))) (cZ au)) <| pR (ak aa) (ak a6) (ak a7) (ak dS) (ak bK) (ak a8) au hb
  (try clear hb)
  (try clear ho0)
  obtain ⟨Tt,Nb,fp⟩:=Kd.dK fo.out
  (first|subst fp|(injection fp with dV gU dW;have gV:=dV.symm;have gW:=dW.symm;clear dV gU dW;subst gV;subst gW))
  refine hK.out _ _ ((aP a8.out 0).trans rfl) (fun hH=>?_)
  clear hK K
  refine eX (some 83) ?_
  refine fD (i:=2) (N:=none) Ag rfl rfl aB (by decide) (fun K hK=>?_)
  have aiz:dz.cell? ⟨bb,0,none⟩=some (.slice none 0 0):=(aP dS.out 0).trans rfl
  have afP:=bP dS.out 0
  obtain ⟨dM,ap,ai,bh,b5,bi,aq,aN⟩:=iH ax am ae b2 af bH an ag
  obtain ⟨bj,b6⟩:=gB b1 av
  refine iM (w1:=?_) (by rfl) rfl ?_ ?_
  rotate_left
  ·go_simp
   rfl
  refine hK.out _ _ ((aG af hH)) (fun hH=>?_)
  clear hK K
  refine fD (i:=3) (N:=none) Ah rfl rfl aB (by decide) (fun K hK=>?_)
  have aiA:dz.cell? ⟨ab,0,none⟩=some (ah 0):=(aP bK.out 0).trans rfl
  have afQ:=bP bK.out 0
  obtain ⟨bl,ar,aQ,b7,bm,aW,al,b8⟩:=iH az ac a9 a5 b0 ao aK aw
  have aiB:dz.cell? ⟨ab,1,none⟩=some (.string (⟨#[]⟩:ByteArray)):=(aP bK.out 1).trans rfl
  have afR:=bP bK.out 1
  have aiD:dz.cell? ⟨ab,2,none⟩=some (ah 0):=(aP bK.out 2).trans rfl
  have afT:=bP bK.out 2
  have axc:dz.cell? ⟨ab,3,none⟩=some (.bool false):=(aP bK.out 3).trans rfl
  have aqz:=bP bK.out 3
  have axe:dz.cell? ⟨ab,4,none⟩=some (.slice none 0 0):=(aP bK.out 4).trans rfl
  have aqB:=bP bK.out 4
  refine iM (w1:=?_) (by rfl) rfl ?_ ?_
  rotate_left
  ·go_simp
   rfl
  refine hK.out _ _ ((aG a5 (aG a5 (aG a5 (aG a5 (aG a5 hH)))))) (fun hH=>?_)
  clear hK K
  refine iP aB ?_
  try go_wp2
  refine bodyPost_ret (iR rfl _ _ bb ab 28 49 #[.slice cf cd.length cg] #[ah BD,.string D6,ah jn,.bool D7,.slice Tt jp.length Nb] (0,0) (0,0) _ _ rfl aT underlying28 rfl aB rfl aT underlying49 rfl aB) rfl ?_
  exact ⟨_,_,bM,zA,(by (with_reducible repeat (first|apply Kd.dB|apply Kd.dD|apply Kd.aZ));exact Kd.bn (aH (aH (aH (aH (aH (aH (Kd.bQ (Kd.bQ fo.out dS.out (by decide)) bK.out (by decide)) (fun _ hk=>hk.1.2))))))) (fun _ hk=>trivial)),au⟩
 have e7:=fP di
 have e8:=fQ di
 revert H;refine fH (fun dk H=>?_) fun dk H=>?_
 ·have ec:=fZ dk
  have ed:=f_ dk
  clear dk
  obtain ⟨⟨js,jt,ju,Nc,Nh,jx⟩,mv,H⟩:=bd_ H
  simp only [Option.some.injEq,Prod.mk.injEq] at H
  obtain ⟨rfl,rfl,rfl,rfl,rfl,rfl⟩:=H
  have aAZ:=dh a6.out
  have fq:=jK a7.out
  go_wp2_with (first|((with_reducible refine bT 78 ?_);refine bU (some 93) rfl rfl func78 aB rfl #[.agg #[.slice co cO.length cl],.agg #[ah ce,.string cc,.string cp,ah cq,ah cr,.string ct]] rfl aX ?_;(with_reducible refine (oJ.calls zl _ _ cO ce cc cp cq cr ct js jt ju Nc Nh jx _ pG iO.out mv.out).mono ?_);rintro e ot ⟨aAu,aAv,rfl,ho0,ho1,hb⟩;refine ⟨_,rfl,?_⟩;obtain ⟨iE,fs,ft,aa,a6,a7,dS,bK,a8,HB⟩:=p_ (Kd.jX (aJ iE) (Kd.jo ho0) hb) <| p_ (Kd.dI (Kd.jY ho0 (Kd.jJ (aJ iE))) (cZ au)) <| p_ (Kd.dI ho1 (cZ au)) <| pR (ak aa) (ak a6) (ak a7) (ak dS) (ak bK) (ak a8) au hb;(try clear hb);(try clear ho0);(try clear ho1);obtain ⟨JI,jz,l5⟩:=Kd.dK fs.out;subst l5;obtain ⟨bi,dM,bj,bh,b6,b5⟩:=kJ bH ax b1 b2 av af;have aA0:=dh dS.out;obtain ⟨bm,bl,b8,b7⟩:=g_ b0 az aw a5;have fu:=kK bK.out;obtain ⟨l6,JL,l8⟩:=Kd.dK ft.out;subst l8))
  refine bodyPost_ret (iR rfl _ _ bb ab 28 49 #[.slice JI js.length jz] #[ah jt,.string ju,ah Nc,.bool Nh,.slice l6 jx.length JL] (0,0) (0,0) _ _ rfl aT underlying28 rfl aB rfl aT underlying49 rfl aB) rfl ?_
  exact ⟨_,_,bM,(by (with_reducible repeat (first|apply Kd.dB|apply Kd.dD|apply Kd.aZ));exact Kd.bn (aH (aH (aH (aH (aH (aH (Kd.bQ (Kd.bQ fs.out dS.out (by decide)) bK.out (by decide)) (fun _ hk=>hk.1.2))))))) (fun _ hk=>trivial)),(by (with_reducible repeat (first|apply Kd.dB|apply Kd.dD|apply Kd.aZ));exact Kd.bn (aH (aH (aH (aH (aH (aH (Kd.bQ (Kd.bQ ft.out dS.out (by decide)) bK.out (by decide)) (fun _ hk=>hk.1.2))))))) (fun _ hk=>trivial)),au⟩
 have ec:=fP dk
 have ed:=fQ dk
 have ee:=m_ H
 clear H
 go_upto_if 96 with (fail)
 go_cut [96] (fun akX wc=>∃ (kq:Nat) (d6:Bool),akX=.bool d6∧aA (nK.j1 kq lF cx ce d6 d2 d3 d4 d5 cO ce cc cp cq cr ct cd=some (r1,r2,r3,r4,r5,r6))∧aA (kq≤zl)∧aA (Kd.R aU 43 wc w.heap.size (fun _=>True) (.slice cf cd.length cg) cd)∧aA (wc.heap[e6]?=some (.cells #[ah d2,ah d3,ah d4,ah d5] 25))∧aA (wc.heap[dg]?=some (.cells #[(.slice co cO.length cl)] 28))∧aA (wc.heap[cy]?=some (.cells #[ah ce,.string cc,.string cp,ah cq,ah cr,.string ct] 45))∧aA (wc.heap[bb]?=some (.cells #[(.slice none 0 0)] 28))∧aA (wc.heap[ab]?=some (.cells #[ah 0,.string (⟨#[]⟩:ByteArray),ah 0,.bool false,(.slice none 0 0)] 49))∧aA (wc.heap[cj]?=some (.cells #[(.slice cf cd.length cg)] 28))∧aA (Below w.heap.size w wc))
 case first =>
  obtain ⟨H⟩:=ee
  revert H;refine fH (fun dl H=>?_) fun dl H=>?_
  ·have d1:=fZ dl
   have ef:=f_ dl
   clear dl
   try simp only [aY,bf,d1]
   have H':=m_ H
   clear H
   go_wp2
   go_meet
   case rel=>exact ⟨_,((ce == 6)),bg,H',⟨(by have:=zB.out;first|omega|exact Nat.le_refl _)⟩,⟨(aJ iE)⟩,⟨(ak aa)⟩,⟨(ak a6)⟩,⟨(ak a7)⟩,⟨(ak dS)⟩,⟨(ak bK)⟩,⟨(ak a8)⟩,⟨au⟩⟩
  have d1:=fP dl
  have ef:=fQ dl
  try simp only [aY,bf,d1]
  revert H;refine fH (fun dm H=>?_) fun dm H=>?_
  rotate_left
  ·have eh:=fP dm
   have ei:=fQ dm
   have H':=m_ H
   clear H
   go_wp2
   go_meet
   case rel=>exact ⟨_,((ce == 8)),bg,H',⟨(by have:=zB.out;first|omega|exact Nat.le_refl _)⟩,⟨(aJ iE)⟩,⟨(ak aa)⟩,⟨(ak a6)⟩,⟨(ak a7)⟩,⟨(ak dS)⟩,⟨(ak bK)⟩,⟨(ak a8)⟩,⟨au⟩⟩
  have eh:=fZ dm
  have ei:=f_ dm
  clear dm
  have H':=m_ H
  clear H
  go_wp2
  go_meet
  case rel=>exact ⟨_,((ce == 7)),bg,H',⟨(by have:=zB.out;first|omega|exact Nat.le_refl _)⟩,⟨(aJ iE)⟩,⟨(ak aa)⟩,⟨(ak a6)⟩,⟨(ak a7)⟩,⟨(ak dS)⟩,⟨(ak bK)⟩,⟨(ak a8)⟩,⟨au⟩⟩
 case rest =>
 clear ee
 try clear di;try clear e7;try clear e8;try clear dk;try clear ec;try clear ed
 obtain ⟨kq,d6,rfl,HA,alz,iE,aa,a6,a7,dS,bK,a8,HB⟩:=hcut
 cases kq with
 | zero=>exact absurd HA.out (by simp [nK.j1])
 | succ Zf =>
 obtain ⟨H⟩:=HA
 simp only [nK.j1] at H
 by_cases en:d6=true
 ·subst en
  rw [if_pos rfl] at H
  by_cases eo:lF=true
  rotate_left
  ·replace eo:=Bool.eq_false_iff.mpr eo
   subst eo
   rw [if_neg iI] at H
   obtain ⟨⟨D8,la,lc,ld,lf,zn⟩,mw,H⟩:=bd_ H
   simp only [Option.some.injEq,Prod.mk.injEq] at H
   obtain ⟨rfl,rfl,rfl,rfl,rfl,rfl⟩:=H
   obtain ⟨bx,bw,fA,be,dM,bi,bl,bm⟩:=iH bz ca fB bo ax bH az b0
   obtain ⟨cw,cv⟩:=gB ci ck
   have nl:=yh aa.out
   obtain ⟨bc,bd,ap,aq,ar,aW,bu,bs⟩:=iH bp bq am an ac ao br bv
   have aA2:=dh a6.out
   obtain ⟨ai,aN,aQ,al,b4,b3⟩:=kJ ae ag a9 aK b9 ba
   have nm:=jK a7.out
   go_wp2_with (first|((with_reducible refine bT 79 ?_);refine bU (some 107) rfl rfl func79 aB rfl #[.agg #[ah d2,ah d3,ah d4,ah d5],.agg #[.slice co cO.length cl],ah cx,.agg #[ah ce,.string cc,.string cp,ah cq,ah cr,.string ct]] rfl aX ?_;(with_reducible refine (k_.calls Zf d2 d3 d4 d5 _ _ cO cx ce cc cp cq cr ct D8 la lc ld lf zn _ pG iO.out mw.out).mono ?_);rintro e qe ⟨aAx,aAy,rfl,ho0,ho1,hb⟩;refine ⟨_,rfl,?_⟩;obtain ⟨iE,fw,fx,aa,a6,a7,dS,bK,a8,HB⟩:=p_ (Kd.jX (aJ iE) (Kd.jo ho0) hb) <| p_ (Kd.dI (Kd.jY ho0 (Kd.jJ (aJ iE))) (cZ au)) <| p_ (Kd.dI ho1 (cZ au)) <| pR (ak aa) (ak a6) (ak a7) (ak dS) (ak bK) (ak a8) au hb;(try clear hb);(try clear ho0);(try clear ho1);obtain ⟨lh,li,lj⟩:=Kd.dK fw.out;subst lj;obtain ⟨bj,bh,b6,b5⟩:=g_ b1 b2 av af;have aA4:=dh dS.out;obtain ⟨b8,b7⟩:=gB aw a5;have nn:=kK bK.out;obtain ⟨lk,ll,lm⟩:=Kd.dK fx.out;subst lm))
   refine bodyPost_ret (iR rfl _ _ bb ab 28 49 #[.slice lh D8.length li] #[ah la,.string lc,ah ld,.bool lf,.slice lk zn.length ll] (0,0) (0,0) _ _ rfl aT underlying28 rfl aB rfl aT underlying49 rfl aB) rfl ?_
   exact ⟨_,_,bM,(by (with_reducible repeat (first|apply Kd.dB|apply Kd.dD|apply Kd.aZ));exact Kd.bn (aH (aH (aH (aH (aH (aH (Kd.bQ (Kd.bQ fw.out dS.out (by decide)) bK.out (by decide)) (fun _ hk=>hk.1.2))))))) (fun _ hk=>trivial)),(by (with_reducible repeat (first|apply Kd.dB|apply Kd.dD|apply Kd.aZ));exact Kd.bn (aH (aH (aH (aH (aH (aH (Kd.bQ (Kd.bQ fx.out dS.out (by decide)) bK.out (by decide)) (fun _ hk=>hk.1.2))))))) (fun _ hk=>trivial)),au⟩
  subst eo
  rw [if_pos rfl] at H
  obtain ⟨⟨ln,lo,lp,Hr,lr⟩,my,H⟩:=bd_ H
  simp only [Option.some.injEq,Prod.mk.injEq] at H
  obtain ⟨rfl,rfl,rfl,rfl,rfl,rfl⟩:=H
  try go_wp2
  obtain ⟨iE,aa,a6,a7,dS,bK,a8,HB⟩:=p_ (Kd.aZ iE.out) <| xF aa a6 a7 dS bK a8 HB
  refine iT (n:=4) (S:=fun w'=>w'.cell? ⟨cj,0,none⟩=some (.slice cf cd.length cg)) (ds:=[]) Ad aB rfl rfl ((aP a8.out 0).trans rfl) (fun hH=>?_)
  generalize wc.drew=qf at iE aa a6 a7 dS bK a8 HB hH ⊢
  refine lI (i:=0) (N:=some 101) (v:=?_) (a':=?_) Ae rfl rfl aB (fun _ _ _ h=>h) (Or.inl ⟨(by rfl),?_⟩) hH ?_ ?_
  rotate_left
  ·intro w' s0
   go_simp
   with_reducible rfl
  rotate_left
  ·simp only [Act.put,List.setIfInBounds_toArray,List.set_cons_zero,List.set_cons_succ,aY,bf]
   rfl
  refine fD (i:=1) (N:=some 102) Af rfl rfl aB (by decide) (fun K hK=>?_)
  refine i_ func75 aB rfl #[ah 5] (by rfl) rfl rfl aX ?_
  with_reducible refine (lX.calls 5 ln lo lp Hr lr _ my.out).mono ?_
  rintro e e0 ⟨aAw,rfl,ho0,hb⟩
  refine ⟨_,rfl,?_⟩
  obtain ⟨iE,fy,aa,a6,a7,dS,bK,a8,HB⟩:=p_ (Kd.dw (aJ iE) hb) <| p_ (Kd.dI ho0 (cZ au)) <| pR (ak aa) (ak a6) (ak a7) (ak dS) (ak bK) (ak a8) au hb
  (try clear hb)
  (try clear ho0)
  obtain ⟨ls,Ns,fz⟩:=Kd.dK fy.out
  (first|subst fz|(injection fz with dV gU dW;have gV:=dV.symm;have gW:=dW.symm;clear dV gU dW;subst gV;subst gW))
  refine hK.out _ _ ((aP a8.out 0).trans rfl) (fun hH=>?_)
  clear hK K
  refine eX (some 102) ?_
  refine fD (i:=2) (N:=none) Ag rfl rfl aB (by decide) (fun K hK=>?_)
  have axp:e0.cell? ⟨bb,0,none⟩=some (.slice none 0 0):=(aP dS.out 0).trans rfl
  have aqL:=bP dS.out 0
  obtain ⟨dM,ap,ai,bh,b5,bi,aq,aN⟩:=iH ax am ae b2 af bH an ag
  obtain ⟨bj,b6⟩:=gB b1 av
  refine iM (w1:=?_) (by rfl) rfl ?_ ?_
  rotate_left
  ·go_simp
   rfl
  refine hK.out _ _ ((aG af hH)) (fun hH=>?_)
  clear hK K
  refine fD (i:=3) (N:=none) Ah rfl rfl aB (by decide) (fun K hK=>?_)
  have axq:e0.cell? ⟨ab,0,none⟩=some (ah 0):=(aP bK.out 0).trans rfl
  have aqM:=bP bK.out 0
  obtain ⟨bl,ar,aQ,b7,bm,aW,al,b8⟩:=iH az ac a9 a5 b0 ao aK aw
  have axr:e0.cell? ⟨ab,1,none⟩=some (.string (⟨#[]⟩:ByteArray)):=(aP bK.out 1).trans rfl
  have aqN:=bP bK.out 1
  have axt:e0.cell? ⟨ab,2,none⟩=some (ah 0):=(aP bK.out 2).trans rfl
  have aqO:=bP bK.out 2
  have axu:e0.cell? ⟨ab,3,none⟩=some (.bool false):=(aP bK.out 3).trans rfl
  have aqP:=bP bK.out 3
  have axv:e0.cell? ⟨ab,4,none⟩=some (.slice none 0 0):=(aP bK.out 4).trans rfl
  have aqQ:=bP bK.out 4
  refine iM (w1:=?_) (by rfl) rfl ?_ ?_
  rotate_left
  ·go_simp
   rfl
  refine hK.out _ _ ((aG a5 (aG a5 (aG a5 (aG a5 (aG a5 hH)))))) (fun hH=>?_)
  clear hK K
  refine iP aB ?_
  try go_wp2
  refine bodyPost_ret (iR rfl _ _ bb ab 28 49 #[.slice cf cd.length cg] #[ah ln,.string lo,ah lp,.bool Hr,.slice ls lr.length Ns] (0,0) (0,0) _ _ rfl aT underlying28 rfl aB rfl aT underlying49 rfl aB) rfl ?_
  exact ⟨_,_,bM,zA,(by (with_reducible repeat (first|apply Kd.dB|apply Kd.dD|apply Kd.aZ));exact Kd.bn (aH (aH (aH (aH (aH (aH (Kd.bQ (Kd.bQ fy.out dS.out (by decide)) bK.out (by decide)) (fun _ hk=>hk.1.2))))))) (fun _ hk=>trivial)),au⟩
 replace en:=Bool.eq_false_iff.mpr en
 subst en
 rw [if_neg iI] at H
 revert H;refine fH (fun dr H=>?_) fun dr H=>?_
 rotate_left
 ·have gi:=fP dr
  have gj:=fQ dr
  revert H;refine fH (fun dt H=>?_) fun dt H=>?_
  rotate_left
  ·have gl:=fP dt
   have gm:=fQ dt
   simp only [Option.some.injEq,Prod.mk.injEq] at H
   obtain ⟨rfl,rfl,rfl,rfl,rfl,rfl⟩:=H
   obtain ⟨cv,cw,bs,bu,b3,b4,b5,b6⟩:=iH ck ci bv br ba b9 af av
   obtain ⟨b7,b8⟩:=gB a5 aw
   have aA9:=dh a8.out
   obtain ⟨bi,dM,aq,ap,aN,ai,bj,bh⟩:=iH bH ax an am ag ae b1 b2
   have aA_:=dh dS.out
   obtain ⟨bm,bl,aW,ar,al,aQ⟩:=kJ b0 az ao ac aK a9
   have no:=kK bK.out
   go_wp2
   refine bodyPost_ret (iR rfl _ _ bb ab 28 49 #[.slice cf cd.length cg] #[ah 0,.string (⟨#[]⟩:ByteArray),ah 0,.bool false,.slice none 0 0] (0,0) (0,0) _ _ rfl aT underlying28 rfl aB rfl aT underlying49 rfl aB) rfl ?_
   exact ⟨_,_,bM,zA,kD,au⟩
  have gl:=fZ dt
  have gm:=f_ dt
  clear dt
  by_cases ep:lF=true
  rotate_left
  ·replace ep:=Bool.eq_false_iff.mpr ep
   subst ep
   rw [if_neg iI] at H
   obtain ⟨⟨lv,lw,lx,ly,lz⟩,mz,H⟩:=bd_ H
   simp only [Option.some.injEq,Prod.mk.injEq] at H
   obtain ⟨rfl,rfl,rfl,rfl,rfl,rfl⟩:=H
   try go_wp2
   obtain ⟨iE,aa,a6,a7,dS,bK,a8,HB⟩:=p_ (Kd.aZ iE.out) <| xF aa a6 a7 dS bK a8 HB
   refine iT (n:=4) (S:=fun w'=>w'.cell? ⟨cj,0,none⟩=some (.slice cf cd.length cg)) (ds:=[]) Ad aB rfl rfl ((aP a8.out 0).trans rfl) (fun hH=>?_)
   generalize wc.drew=ayT at iE aa a6 a7 dS bK a8 HB hH ⊢
   refine lI (i:=0) (N:=some 128) (v:=?_) (a':=?_) Ae rfl rfl aB (fun _ _ _ h=>h) (Or.inl ⟨(by rfl),?_⟩) hH ?_ ?_
   rotate_left
   ·intro w' s0
    go_simp
    with_reducible rfl
   rotate_left
   ·simp only [Act.put,List.setIfInBounds_toArray,List.set_cons_zero,List.set_cons_succ,aY,bf]
    rfl
   refine fD (i:=1) (N:=some 129) Af rfl rfl aB (by decide) (fun K hK=>?_)
   refine i_ func75 aB rfl #[ah 4] (by rfl) rfl rfl aX ?_
   with_reducible refine (lX.calls 4 lv lw lx ly lz _ mz.out).mono ?_
   rintro e e3 ⟨aAA,rfl,ho0,hb⟩
   refine ⟨_,rfl,?_⟩
   obtain ⟨iE,g7,aa,a6,a7,dS,bK,a8,HB⟩:=p_ (Kd.dw (aJ iE) hb) <| p_ (Kd.dI ho0 (cZ au)) <| pR (ak aa) (ak a6) (ak a7) (ak dS) (ak bK) (ak a8) au hb
   (try clear hb)
   (try clear ho0)
   obtain ⟨m0,m2,g8⟩:=Kd.dK g7.out
   (first|subst g8|(injection g8 with dV gU dW;have gV:=dV.symm;have gW:=dW.symm;clear dV gU dW;subst gV;subst gW))
   refine hK.out _ _ ((aP a8.out 0).trans rfl) (fun hH=>?_)
   clear hK K
   refine eX (some 129) ?_
   refine fD (i:=2) (N:=none) Ag rfl rfl aB (by decide) (fun K hK=>?_)
   have axK:e3.cell? ⟨bb,0,none⟩=some (.slice none 0 0):=(aP dS.out 0).trans rfl
   have aq5:=bP dS.out 0
   obtain ⟨dM,ap,ai,bh,b5,bi,aq,aN⟩:=iH ax am ae b2 af bH an ag
   obtain ⟨bj,b6⟩:=gB b1 av
   refine iM (w1:=?_) (by rfl) rfl ?_ ?_
   rotate_left
   ·go_simp
    rfl
   refine hK.out _ _ ((aG af hH)) (fun hH=>?_)
   clear hK K
   refine fD (i:=3) (N:=none) Ah rfl rfl aB (by decide) (fun K hK=>?_)
   have axL:e3.cell? ⟨ab,0,none⟩=some (ah 0):=(aP bK.out 0).trans rfl
   have aq6:=bP bK.out 0
   obtain ⟨bl,ar,aQ,b7,bm,aW,al,b8⟩:=iH az ac a9 a5 b0 ao aK aw
   have axM:e3.cell? ⟨ab,1,none⟩=some (.string (⟨#[]⟩:ByteArray)):=(aP bK.out 1).trans rfl
   have aq7:=bP bK.out 1
   have axN:e3.cell? ⟨ab,2,none⟩=some (ah 0):=(aP bK.out 2).trans rfl
   have aq8:=bP bK.out 2
   have axO:e3.cell? ⟨ab,3,none⟩=some (.bool false):=(aP bK.out 3).trans rfl
   have aq9:=bP bK.out 3
   have axP:e3.cell? ⟨ab,4,none⟩=some (.slice none 0 0):=(aP bK.out 4).trans rfl
   have aq_:=bP bK.out 4
   refine iM (w1:=?_) (by rfl) rfl ?_ ?_
   rotate_left
   ·go_simp
    rfl
   refine hK.out _ _ ((aG a5 (aG a5 (aG a5 (aG a5 (aG a5 hH)))))) (fun hH=>?_)
   clear hK K
   refine iP aB ?_
   try go_wp2
   refine bodyPost_ret (iR rfl _ _ bb ab 28 49 #[.slice cf cd.length cg] #[ah lv,.string lw,ah lx,.bool ly,.slice m0 lz.length m2] (0,0) (0,0) _ _ rfl aT underlying28 rfl aB rfl aT underlying49 rfl aB) rfl ?_
   exact ⟨_,_,bM,zA,(by (with_reducible repeat (first|apply Kd.dB|apply Kd.dD|apply Kd.aZ));exact Kd.bn (aH (aH (aH (aH (aH (aH (Kd.bQ (Kd.bQ g7.out dS.out (by decide)) bK.out (by decide)) (fun _ hk=>hk.1.2))))))) (fun _ hk=>trivial)),au⟩
  subst ep
  rw [if_pos rfl] at H
  obtain ⟨m3,n0,H⟩:=bd_ H
  simp only [Option.some.injEq,Prod.mk.injEq] at H
  obtain ⟨rfl,rfl,rfl,rfl,rfl,rfl⟩:=H
  try go_wp2
  obtain ⟨iE,aa,a6,a7,dS,bK,a8,HB⟩:=p_ (Kd.aZ iE.out) <| xF aa a6 a7 dS bK a8 HB
  refine iT (n:=8) (S:=fun w'=>jQ w' cj (.slice cf cd.length cg) <| jQ w' dg (.slice co cO.length cl) <| zZ w' cy (ah ce) (.string cc) (.string cp) (ah cq) (ah cr) (.string ct)) (ds:=[]) #[F_,F_,F_,F_,F_,F_,F_,F_] aB rfl rfl ⟨(aP a8.out 0).trans rfl,(aP a6.out 0).trans rfl,qK a7.out⟩ (fun hH=>?_);refine kE (T:=nK.ab4) (B:=nK.aa7) aB aB (fun aO fJ=>?_)
  generalize wc.drew=ayU at iE aa a6 a7 dS bK a8 HB hH ⊢
  refine cu 2 132 #[F_,F_,aj,F_,F_,F_,F_,F_] aO ?_
  refine jZ 0 130 #[aj,F_,aj,F_,F_,F_,F_,F_] aO fJ hH ?_
  refine jZ 1 131 #[aj,aj,aj,F_,F_,F_,F_,F_] aO fJ hH ?_
  refine jZ 3 133 #[aj,aj,aj,aj,F_,F_,F_,F_] aO fJ hH ?_
  refine fD (i:=4) (N:=some 134) #[aj,aj,aj,aj,aj,F_,F_,F_] rfl rfl (jq aO.out aB) (by decide) (fun K hK=>?_)
  refine i_ func20 aB rfl #[.agg #[.slice co cO.length cl],.string cc] (by rfl) rfl rfl aX ?_
  with_reducible refine (sJ.calls Zf _ _ cO cc m3 _ pG iO.out n0.out).mono ?_
  rintro e e4 ⟨aAz,rfl,ho0,hb⟩
  refine ⟨_,rfl,?_⟩
  obtain ⟨iE,g9,aa,a6,a7,dS,bK,a8,HB⟩:=p_ (Kd.dw (aJ iE) hb) <| p_ (Kd.dI ho0 (cZ au)) <| pR (ak aa) (ak a6) (ak a7) (ak dS) (ak bK) (ak a8) au hb
  (try clear hb)
  (try clear ho0)
  obtain ⟨m4,m5,ga⟩:=Kd.dK g9.out
  (first|subst ga|(injection ga with dV gU dW;have gV:=dV.symm;have gW:=dW.symm;clear dV gU dW;subst gV;subst gW))
  refine hK.out _ _ ⟨(aP a8.out 0).trans rfl,(aP a6.out 0).trans rfl,qK a7.out⟩ (fun hH=>?_)
  clear hK K
  refine eX (some 134) ?_
  refine cu 5 135 #[aj,aj,aj,aj,aj,aj,F_,F_] aO ?_
  refine fD (i:=6) (N:=none) #[aj,aj,aj,aj,aj,aj,aj,F_] rfl rfl (jq aO.out aB) (by decide) (fun K hK=>?_)
  have axE:e4.cell? ⟨bb,0,none⟩=some (.slice none 0 0):=(aP dS.out 0).trans rfl
  have aqZ:=bP dS.out 0
  obtain ⟨dM,ap,ai,bh,b5,bi,aq,aN⟩:=iH ax am ae b2 af bH an ag
  obtain ⟨bj,b6⟩:=gB b1 av
  refine iM (w1:=?_) (by rfl) rfl ?_ ?_
  rotate_left
  ·go_simp
   rfl
  refine hK.out _ _ ⟨(aG af hH.1),(aG am hH.2.1),(aG ae hH.2.2.1),(aG ae hH.2.2.2.1),(aG ae hH.2.2.2.2.1),(aG ae hH.2.2.2.2.2.1),(aG ae hH.2.2.2.2.2.2.1),(aG ae hH.2.2.2.2.2.2.2)⟩ (fun hH=>?_)
  clear hK K
  refine fD (i:=7) (N:=none) #[aj,aj,aj,aj,aj,aj,aj,aj] rfl rfl (jq aO.out aB) (by decide) (fun K hK=>?_)
  have axF:e4.cell? ⟨ab,0,none⟩=some (ah 0):=(aP bK.out 0).trans rfl
  have aq0:=bP bK.out 0
  obtain ⟨bl,ar,aQ,b7,bm,aW,al,b8⟩:=iH az ac a9 a5 b0 ao aK aw
  have axG:e4.cell? ⟨ab,1,none⟩=some (.string (⟨#[]⟩:ByteArray)):=(aP bK.out 1).trans rfl
  have aq1:=bP bK.out 1
  have axH:e4.cell? ⟨ab,2,none⟩=some (ah 0):=(aP bK.out 2).trans rfl
  have aq2:=bP bK.out 2
  have axI:e4.cell? ⟨ab,3,none⟩=some (.bool false):=(aP bK.out 3).trans rfl
  have aq3:=bP bK.out 3
  have axJ:e4.cell? ⟨ab,4,none⟩=some (.slice none 0 0):=(aP bK.out 4).trans rfl
  have aq4:=bP bK.out 4
  refine iM (w1:=?_) (by rfl) rfl ?_ ?_
  rotate_left
  ·go_simp
   rfl
  refine hK.out _ _ ⟨(aG a5 (aG a5 (aG a5 (aG a5 (aG a5 hH.1))))),(aG ac (aG ac (aG ac (aG ac (aG ac hH.2.1))))),(aG a9 (aG a9 (aG a9 (aG a9 (aG a9 hH.2.2.1))))),(aG a9 (aG a9 (aG a9 (aG a9 (aG a9 hH.2.2.2.1))))),(aG a9 (aG a9 (aG a9 (aG a9 (aG a9 hH.2.2.2.2.1))))),(aG a9 (aG a9 (aG a9 (aG a9 (aG a9 hH.2.2.2.2.2.1))))),(aG a9 (aG a9 (aG a9 (aG a9 (aG a9 hH.2.2.2.2.2.2.1))))),(aG a9 (aG a9 (aG a9 (aG a9 (aG a9 hH.2.2.2.2.2.2.2)))))⟩ (fun hH=>?_)
  clear hK K
  refine iP (ku aO.out aB) ?_
  try go_wp2
  refine bodyPost_ret (iR rfl _ _ bb ab 28 49 #[.slice cf cd.length cg] #[ah 0,.string (⟨#[]⟩:ByteArray),ah 0,.bool false,.slice m4 m3.length m5] (0,0) (0,0) _ _ rfl aT underlying28 rfl aB rfl aT underlying49 rfl aB) rfl ?_
  exact ⟨_,_,bM,zA,(by (with_reducible repeat (first|apply Kd.dB|apply Kd.dD|apply Kd.aZ));exact Kd.bn (aH (aH (aH (aH (aH (aH (Kd.bQ (Kd.bQ g9.out dS.out (by decide)) bK.out (by decide)) (fun _ hk=>hk.1.2))))))) (fun _ hk=>trivial)),au⟩
 have gi:=fZ dr
 have gj:=f_ dr
 clear dr
 by_cases eq:lF=true
 ·subst eq
  rw [if_pos rfl] at H
  simp only [Option.some.injEq,Prod.mk.injEq] at H
  obtain ⟨rfl,rfl,rfl,rfl,rfl,rfl⟩:=H
  obtain ⟨cv,cw,bs,bu,b3,b4,b5,b6⟩:=iH ck ci bv br ba b9 af av
  obtain ⟨b7,b8⟩:=gB a5 aw
  have aA5:=dh a8.out
  obtain ⟨bi,dM,aq,ap,aN,ai,bj,bh⟩:=iH bH ax an am ag ae b1 b2
  have aA6:=dh dS.out
  obtain ⟨bm,bl,aW,ar,al,aQ⟩:=kJ b0 az ao ac aK a9
  have np:=kK bK.out
  go_wp2
  refine bodyPost_ret (iR rfl _ _ bb ab 28 49 #[.slice cf cd.length cg] #[ah 0,.string (⟨#[]⟩:ByteArray),ah 0,.bool true,.slice none 0 0] (0,0) (0,0) _ _ rfl aT underlying28 rfl aB rfl aT underlying49 rfl aB) rfl ?_
  exact ⟨_,_,bM,zA,kD,au⟩
 replace eq:=Bool.eq_false_iff.mpr eq
 subst eq
 rw [if_neg iI] at H
 obtain ⟨n1,H⟩:=gK H
 obtain ⟨n2,H⟩:=gK H
 simp only [Option.some.injEq,Prod.mk.injEq] at H
 obtain ⟨rfl,rfl,rfl,rfl,rfl,rfl⟩:=H
 try go_wp2
 obtain ⟨iE,aa,a6,a7,dS,bK,a8,HB⟩:=p_ (Kd.aZ iE.out) <| xF aa a6 a7 dS bK a8 HB
 have gn:0≤(cx:Int):=bF bG
 have go:cx < (cO.length:Int):=bF bG
 obtain ⟨dd,n3,d7,d8,d9⟩:=kY yP.out cx gn go
 have Tn:=d9
 have Tm:=d8
 have Tj:=d7
 cases n3
 replace d7:=iQ HB.out d7
 replace d8:=iQ HB.out d8
 replace d9:=iQ HB.out d9
 replace gn:=eq_true gn
 replace go:=eq_true go
 refine iT (n:=11) (S:=fun w'=>jQ w' cj (.slice cf cd.length cg) <| jQ w' dg (.slice (some dd) cO.length cl) <| xX w' (dd.add ((cx).toNat * 3)) (.string ((aC cO cx).f0)) (.bool ((aC cO cx).f1)) (.string ((aC cO cx).f2))) (ds:=[]) Bl aB rfl rfl ⟨(aP a8.out 0).trans rfl,(aP a6.out 0).trans rfl,((HB.out.cell (World.block_lt_of_cell? w _ Tj)).trans Tj),((HB.out.cell (World.block_lt_of_cell? w _ Tm)).trans Tm),((HB.out.cell (World.block_lt_of_cell? w _ Tn)).trans Tn)⟩ (fun hH=>?_);refine kE (T:=nK.O9) (B:=nK.Ou) aB aB (fun aO fJ=>?_)
 generalize wc.drew=e5 at iE aa a6 a7 dS bK a8 HB d7 d8 d9 hH ⊢
 refine cu 1 116 #[F_,aj,F_,F_,F_,F_,F_,F_,F_,F_,F_] aO ?_
 refine cu 3 118 #[F_,aj,F_,aj,F_,F_,F_,F_,F_,F_,F_] aO ?_
 refine jZ 0 115 #[aj,aj,F_,aj,F_,F_,F_,F_,F_,F_,F_] aO fJ hH ?_
 refine lg 2 hH ?_
 refine bV 4 ?_
 refine bV 5 ?_
 refine lg 6 hH ?_
 refine bV 7 ?_
 refine bV 8 ?_
 refine oZ 9 (fun K hK=>?_)
 have axy:e5.cell? ⟨bb,0,none⟩=some (.slice none 0 0):=(aP dS.out 0).trans rfl
 have aqT:=bP dS.out 0
 obtain ⟨dM,ap,ai,bh,b5,bi,aq,aN⟩:=iH ax am ae b2 af bH an ag
 obtain ⟨bj,b6⟩:=gB b1 av
 refine iM (w1:=?_) (by rfl) rfl ?_ ?_
 rotate_left
 ·go_simp
  rfl
 refine hK.out _ _ ⟨(aG af hH.1),(aG am hH.2.1),((cell_far (p:=⟨bb,_,none⟩) (by first|exact Nat.ne_of_lt (Nat.lt_of_lt_of_le BX cm.out)|(rw [add_block];exact Nat.ne_of_lt (Nat.lt_of_lt_of_le BX cm.out))|(show (Addr.add _ _).block≠_;rw [add_block];exact Nat.ne_of_lt (Nat.lt_of_lt_of_le BX cm.out))|(dsimp only;exact Nat.ne_of_lt (Nat.lt_of_lt_of_le BX cm.out))) _).trans (hH.2.2.1)),((cell_far (p:=⟨bb,_,none⟩) (by first|exact Nat.ne_of_lt (Nat.lt_of_lt_of_le BU cm.out)|(rw [add_block];exact Nat.ne_of_lt (Nat.lt_of_lt_of_le BU cm.out))|(show (Addr.add _ _).block≠_;rw [add_block];exact Nat.ne_of_lt (Nat.lt_of_lt_of_le BU cm.out))|(dsimp only;exact Nat.ne_of_lt (Nat.lt_of_lt_of_le BU cm.out))) _).trans (hH.2.2.2.1)),((cell_far (p:=⟨bb,_,none⟩) (by first|exact Nat.ne_of_lt (Nat.lt_of_lt_of_le BR cm.out)|(rw [add_block];exact Nat.ne_of_lt (Nat.lt_of_lt_of_le BR cm.out))|(show (Addr.add _ _).block≠_;rw [add_block];exact Nat.ne_of_lt (Nat.lt_of_lt_of_le BR cm.out))|(dsimp only;exact Nat.ne_of_lt (Nat.lt_of_lt_of_le BR cm.out))) _).trans (hH.2.2.2.2))⟩ (fun hH=>?_)
 clear hK K
 refine oZ 10 (fun K hK=>?_)
 have axz:e5.cell? ⟨ab,0,none⟩=some (ah 0):=(aP bK.out 0).trans rfl
 have aqU:=bP bK.out 0
 obtain ⟨bl,ar,aQ,b7,bm,aW,al,b8⟩:=iH az ac a9 a5 b0 ao aK aw
 have axA:e5.cell? ⟨ab,1,none⟩=some (.string (⟨#[]⟩:ByteArray)):=(aP bK.out 1).trans rfl
 have aqV:=bP bK.out 1
 have axB:e5.cell? ⟨ab,2,none⟩=some (ah 0):=(aP bK.out 2).trans rfl
 have aqW:=bP bK.out 2
 have axC:e5.cell? ⟨ab,3,none⟩=some (.bool false):=(aP bK.out 3).trans rfl
 have aqX:=bP bK.out 3
 have axD:e5.cell? ⟨ab,4,none⟩=some (.slice none 0 0):=(aP bK.out 4).trans rfl
 have aqY:=bP bK.out 4
 refine iM (w1:=?_) (by rfl) rfl ?_ ?_
 rotate_left
 ·go_simp
  rfl
 refine hK.out _ _ ⟨(aG a5 (aG a5 (aG a5 (aG a5 (aG a5 hH.1))))),(aG ac (aG ac (aG ac (aG ac (aG ac hH.2.1))))),((cell_far (p:=⟨ab,_,none⟩) Ko _).trans (((cell_far (p:=⟨ab,_,none⟩) Ko _).trans (((cell_far (p:=⟨ab,_,none⟩) Ko _).trans (((cell_far (p:=⟨ab,_,none⟩) Ko _).trans (((cell_far (p:=⟨ab,_,none⟩) Ko _).trans (hH.2.2.1)))))))))),((cell_far (p:=⟨ab,_,none⟩) J_ _).trans (((cell_far (p:=⟨ab,_,none⟩) J_ _).trans (((cell_far (p:=⟨ab,_,none⟩) J_ _).trans (((cell_far (p:=⟨ab,_,none⟩) J_ _).trans (((cell_far (p:=⟨ab,_,none⟩) J_ _).trans (hH.2.2.2.1)))))))))),((cell_far (p:=⟨ab,_,none⟩) J9 _).trans (((cell_far (p:=⟨ab,_,none⟩) J9 _).trans (((cell_far (p:=⟨ab,_,none⟩) J9 _).trans (((cell_far (p:=⟨ab,_,none⟩) J9 _).trans (((cell_far (p:=⟨ab,_,none⟩) J9 _).trans (hH.2.2.2.2))))))))))⟩ (fun hH=>?_)
 clear hK K
 refine iP (ku aO.out aB) ?_
 try go_wp2
 refine bodyPost_ret (iR rfl _ _ bb ab 28 49 #[.slice cf cd.length cg] #[ah 0,.string (⟨#[]⟩:ByteArray),ah (((aC cO cx).f2).size:Int),.bool false,.slice none 0 0] (0,0) (0,0) _ _ rfl aT underlying28 rfl aB rfl aT underlying49 rfl aB) rfl ?_
 exact ⟨_,_,bM,zA,kD,au⟩

end Go.Proofs.YthejdhjpbpamoaaGreatDoor.jD
