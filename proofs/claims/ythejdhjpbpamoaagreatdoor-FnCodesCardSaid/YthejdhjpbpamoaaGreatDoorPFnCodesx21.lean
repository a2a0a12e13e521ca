/- Contracts of Go functions: each call returns what the Lean function beside it computes. Conditions: as each theorem states them. -/
import Derived.Test.YthejdhjpbpamoaaGreatDoorPkFnCodes
import Derived.Test.YthejdhjpbpamoaaGreatDoorPFnCodesx1
import Derived.Test.YthejdhjpbpamoaaGreatDoorPFnCodesx2
import Derived.Test.YthejdhjpbpamoaaGreatDoorPFnCodesx17
import Derived.Test.YthejdhjpbpamoaaGreatDoorPFnCodesx19
import Derived.Test.YthejdhjpbpamoaaGreatDoorPFnCodesx20
namespace Go.Proofs.YthejdhjpbpamoaaGreatDoor.jD
open Go.RowKit Go.Proofs.YthejdhjpbpamoaaGreatDoorW.iw Go.Proofs.YthejdhjpbpamoaaGreatDoorW.lH Go.Proofs.YthejdhjpbpamoaaGreatDoorW.oO Go.Proofs.Tryz
attribute [local go_sem] qw qB qA qF qy qE qx qC   -- for this text's walks alone
set_option linter.unusedVariables false
set_option maxHeartbeats 8000000
set_option maxRecDepth 100000
set_option linter.unusedSimpArgs false

def oJ.j0:Nat→Int→Bool→List (aF)→Int→ByteArray→ByteArray→Int→Int→ByteArray→List (aF)→Option ((List (aF)) × Int × ByteArray × Int × Bool × List ByteArray)
 | 0,_,_,_,_,_,_,_,_,_,_=>none
 | k+1,x7,ag,a6,aa,a7,a8,ab,ac,ae,a9=>if ag=true then ((lX.f x7).bind fun a5=>(some (a9,a5.1,a5.2.1,a5.2.2.1,a5.2.2.2.1,a5.2.2.2.2))) else ((iZ.f k a6 a7 a8).bind fun af=>(some (af,0,(⟨#[]⟩:ByteArray),0,false,([]:List ByteArray))))
def oJ.f (k:Nat) (a9:List (aF)) (ac:Int) (a7:ByteArray) (a8:ByteArray) (ae:Int) (af:Int) (ag:ByteArray):Option ((List (aF)) × Int × ByteArray × Int × Bool × List ByteArray):=(qH.f a9).bind fun aa=>(if a7.toList=([47]:List UInt8) then ((lX.f 9).bind fun a5=>(some (aa,a5.1,a5.2.1,a5.2.2.1,a5.2.2.2.1,a5.2.2.2.2))) else ((pz.f k a8 a7).bind fun aK=>(if aK=true then ((lX.f 11).bind fun a6=>(some (aa,a6.1,a6.2.1,a6.2.2.1,a6.2.2.2.1,a6.2.2.2.2))) else ((yG.f k a9 a8).bind fun ab=>(if ab=0 then (oJ.j0 k ab false a9 ac a7 a8 ae af ag aa) else (if ab=7 then ((wI.f k a8).bind fun ai=>((wI.f k a7).bind fun aN=>(oJ.j0 k ab (ai.toList != aN.toList) a9 ac a7 a8 ae af ag aa))) else (oJ.j0 k ab true a9 ac a7 a8 ae af ag aa)))))))
def oJ.T7:Bool × List (List Nat × List Nat):=(true,[([],[]),([0],[0]),([1],[1]),([2],[2]),([3,2],[2,3]),([4,2,2],[2,4]),([5],[5]),([6,5],[5,6]),([7,5,5],[5,7]),([5],[5]),([9,5],[5,9]),([10,8,5],[5,10]),([8,11,5],[5,8,11]),([5,12,2],[2,5,12]),([2,13],[2,13])])
def oJ.B7:List Nat:=[0,1,3,7,15,31,63,127,255,63,575,2047,4095,8191,16383]
theorem oJ.Ub:kZ .any (opsOf Tryz.f78 7)=oJ.T7:=by kernel_rfl
theorem oJ.Po:uS oJ.T7.2 oJ.B7=true:=by kernel_rfl
theorem oJ.calls (k:Nat) (fB:Option Addr) (bo:Nat) (aI:List (aF)) (fG:Int) (fE:ByteArray) (fC:ByteArray) (bq:Int) (br:Int) (bs:ByteArray) (r1:List (aF)) (r2:Int) (r3:ByteArray) (r4:Int) (r5:Bool) (r6:List ByteArray) (w:World) (cc:Kd.C aU w fB aI.length aI) (cd:aI.length≤bo) (h:oJ.f k aI fG fE fC bq br bs=some (r1,r2,r3,r4,r5,r6)) :
  Calls Tryz.prog 78 #[.agg #[.slice fB aI.length bo],.agg #[ah fG,.string fE,.string fC,ah bq,ah br,.string bs]] w fun e w'=>∃ eP lY:Value,e=.returned (.tuple #[.agg #[eP],.agg #[ah r2,.string r3,ah r4,.bool r5,lY]])∧Kd.R aU 43 w' w.heap.size (fun _=>True) eP r1∧Kd.R Kd.string 9 w' w.heap.size (fun _=>True) lY r6∧Below w.heap.size w w':=by
 have mF:=underlying28
 have Bv:=underlying45
 have xM:=underlying49
 have lq:=m_ cc
 have bz:=m_ cd
 clear cc cd
 have HB:=m_ (Below.refl w.heap.size w)
 unfold oJ.f at h
 have H:=h
 clear h
 obtain ⟨af,A3,H⟩:=bd_ H
 have e3:=m_ H
 clear H
 go_enter func78,ntmps78
 go_upto_if 12 with (first|((with_reducible refine dJ 2 ?_);refine dO 2 (cs:=#[.slice fB aI.length bo]) 28 ?_;intro ca hg w5 hbox hb;obtain ⟨HB,a5,e4,e5⟩:=kL au hb hbox hg;clear hb hbox hg)|((with_reducible refine dJ 3 ?_);refine dO 3 (cs:=#[ah fG,.string fE,.string fC,ah bq,ah br,.string bs]) 45 ?_;intro b5 hg w6 hbox hb;obtain ⟨a5,HB,a6,e6,e7,be,fA⟩:=pq (ak a5) au hb hbox hg;clear hb hbox hg)|((with_reducible refine dJ 4 ?_);refine dO 4 (cs:=#[.slice none 0 0]) 28 ?_;intro b4 hg w7 hbox hb;obtain ⟨a5,a6,HB,jm,e8,e9,ax,bH,aK,ai⟩:=pU (ak a5) (ak a6) au hb hbox hg;clear hb hbox hg)|((with_reducible refine dJ 5 ?_);refine dO 5 (cs:=#[ah 0,.string (⟨#[]⟩:ByteArray),ah 0,.bool false,.slice none 0 0]) 49 ?_;intro aa hg w8 hbox hb;obtain ⟨a5,a6,jm,HB,gY,ea,eb,az,b0,aN,aQ,b1,b2⟩:=vI (ak a5) (ak a6) (ak jm) au hb hbox hg;clear hb hbox hg;obtain ⟨b6,b7,b8,b9,ba,bb⟩:=kJ be fA ax bH az b0;have zY:=dh a5.out)|((with_reducible refine bT 73 ?_);refine bU (some 9) rfl rfl func73 aB rfl #[.agg #[.slice fB aI.length bo]] rfl aX ?_;(with_reducible refine (qH.calls _ _ aI af _ pY bz.out A3.out).mono ?_);rintro e er ⟨az3,rfl,ho0,hb⟩;refine ⟨_,rfl,?_⟩;obtain ⟨lZ,a5,a6,jm,gY,HB⟩:=p_ (Kd.dI ho0 (cZ au)) <| I4 (ak a5) (ak a6) (ak jm) (ak gY) au hb;(try clear hb);(try clear ho0))|((with_reducible refine dJ 6 ?_);refine dO 6 (cs:=#[.slice none 0 0]) 28 ?_;intro ag hg ce hbox hb;obtain ⟨lZ,a5,a6,jm,gY,HB,a7,ec,ed,dM,bl,b3,bh,ac,ab,ae,a8⟩:=p_ (Kd.dw (aJ lZ) hb) <| EU (ak a5) (ak a6) (ak jm) (ak gY) au hb hbox hg;clear hb hbox hg;obtain ⟨ap,aq,lF⟩:=Kd.dK lZ.out;subst lF;obtain ⟨bu,bv,bc,bd,ar,aW,av,aw⟩:=iH bl dM bh b3 ab ac a8 ae;have Ip:=dh a7.out;obtain ⟨al,am,an,ao⟩:=g_ aK ai aN aQ;have iO:=jK a6.out))
 (try simp only [Act.put,List.setIfInBounds_toArray,List.set_cons_zero,List.set_cons_succ])
 (try clear b6 b8 ba bv b7 al an bd b9 am aW bb ao aw bu bc ar av)
 (try clear zY)
 (try clear Ip)
 (try clear iO)
 (try clear zY)
 (try clear Ip)
 obtain ⟨H⟩:=e3
 revert H;refine fH (fun co H=>?_) fun co H=>?_
 ·have bw:=fZ co
  have cv:=f_ co
  clear co
  try simp only [aY,bf,bw]
  obtain ⟨⟨cw,cx,cy,cz,d0⟩,ef,H⟩:=bd_ H
  simp only [Option.some.injEq,Prod.mk.injEq] at H
  obtain ⟨rfl,rfl,rfl,rfl,rfl,rfl⟩:=H
  try go_wp2
  have eF:aA (Kd.R aU 43 (ce.setCell ⟨ag,0,none⟩ (.slice ap af.length aq)) w.heap.size (fun _=>True) (.slice ap af.length aq) af):=⟨(by (with_reducible repeat (first|apply Kd.dB|apply Kd.dD|apply Kd.aZ));exact Kd.bn (aH (Kd.bQ lZ.out a7.out (by decide))) (fun _ hk=>trivial))⟩
  have jF:aA ((ce.setCell ⟨ag,0,none⟩ (.slice ap af.length aq)).heap[ca]?=some (.cells #[.slice fB aI.length bo] 28)):=⟨aT⟩
  have jG:aA ((ce.setCell ⟨ag,0,none⟩ (.slice ap af.length aq)).heap[b5]?=some (.cells #[ah fG,.string fE,.string fC,ah bq,ah br,.string bs] 45)):=⟨aT⟩
  have jH:aA ((ce.setCell ⟨ag,0,none⟩ (.slice ap af.length aq)).heap[b4]?=some (.cells #[.slice none 0 0] 28)):=⟨aT⟩
  have jI:aA ((ce.setCell ⟨ag,0,none⟩ (.slice ap af.length aq)).heap[aa]?=some (.cells #[ah 0,.string (⟨#[]⟩:ByteArray),ah 0,.bool false,.slice none 0 0] 49)):=⟨aT⟩
  have jL:aA ((ce.setCell ⟨ag,0,none⟩ (.slice ap af.length aq)).heap[ag]?=some (.cells #[.slice ap af.length aq] 28)):=⟨aT⟩
  have kW:aA (Below w.heap.size w (ce.setCell ⟨ag,0,none⟩ (.slice ap af.length aq))):=⟨au⟩
  (try clear lZ)
  (try clear a5)
  (try clear a6)
  (try clear jm)
  (try clear gY)
  (try clear a7)
  (try clear HB)
  generalize (ce.setCell ⟨ag,0,none⟩ (.slice ap af.length aq))=eh at eF jF jG jH jI jL kW ⊢
  have lZ:=eF
  have a5:=jF
  have a6:=jG
  have jm:=jH
  have gY:=jI
  have a7:=jL
  have HB:=kW
  clear eF jF jG jH jI jL kW
  obtain ⟨lZ,a5,a6,jm,gY,a7,HB⟩:=p_ (Kd.aZ lZ.out) <| yV a5 a6 jm gY a7 HB
  refine iT (n:=4) (S:=fun w'=>w'.cell? ⟨ag,0,none⟩=some (.slice ap af.length aq)) (ds:=[]) Ad aB rfl rfl ((aP a7.out 0).trans rfl) (fun hH=>?_)
  generalize eh.drew=es at lZ a5 a6 jm gY a7 HB hH ⊢
  refine lI (i:=0) (N:=some 13) (v:=?_) (a':=?_) Ae rfl rfl aB (fun _ _ _ h=>h) (Or.inl ⟨(by rfl),?_⟩) hH ?_ ?_
  rotate_left
  ·intro w' s0
   go_simp
   with_reducible rfl
  rotate_left
  ·simp only [Act.put,List.setIfInBounds_toArray,List.set_cons_zero,List.set_cons_succ,aY,bf]
   rfl
  refine fD (i:=1) (N:=some 14) Af rfl rfl aB (by decide) (fun K hK=>?_)
  refine i_ func75 aB rfl #[ah 9] (by rfl) rfl rfl aX ?_
  with_reducible refine (lX.calls 9 cw cx cy cz d0 _ ef.out).mono ?_
  rintro e cq ⟨az4,rfl,ho0,hb⟩
  refine ⟨_,rfl,?_⟩
  obtain ⟨lZ,cf,a5,a6,jm,gY,a7,HB⟩:=p_ (Kd.dw (aJ lZ) hb) <| p_ (Kd.dI ho0 (cZ au)) <| oD (ak a5) (ak a6) (ak jm) (ak gY) (ak a7) au hb
  (try clear hb)
  (try clear ho0)
  obtain ⟨dp,dq,d1⟩:=Kd.dK cf.out
  (first|subst d1|(injection d1 with dV gU dW;have gV:=dV.symm;have gW:=dW.symm;clear dV gU dW;subst gV;subst gW))
  refine hK.out _ _ ((aP a7.out 0).trans rfl) (fun hH=>?_)
  clear hK K
  refine eX (some 14) ?_
  refine fD (i:=2) (N:=none) Ag rfl rfl aB (by decide) (fun K hK=>?_)
  have axx:cq.cell? ⟨b4,0,none⟩=some (.slice none 0 0):=(aP jm.out 0).trans rfl
  have aqS:=bP jm.out 0
  obtain ⟨b8,al,bi,ar,b9,am,bj,aW⟩:=iH ax aK b2 ab bH ai b1 ac
  refine iM (w1:=?_) (by rfl) rfl ?_ ?_
  rotate_left
  ·go_simp
   rfl
  refine hK.out _ _ ((aG ab hH)) (fun hH=>?_)
  clear hK K
  refine fD (i:=3) (N:=none) Ah rfl rfl aB (by decide) (fun K hK=>?_)
  have aiE:cq.cell? ⟨aa,0,none⟩=some (ah 0):=(aP gY.out 0).trans rfl
  have afU:=bP gY.out 0
  obtain ⟨ba,an,av,bb,ao,aw⟩:=kJ az aN a8 b0 aQ ae
  have aiF:cq.cell? ⟨aa,1,none⟩=some (.string (⟨#[]⟩:ByteArray)):=(aP gY.out 1).trans rfl
  have afV:=bP gY.out 1
  have aiG:cq.cell? ⟨aa,2,none⟩=some (ah 0):=(aP gY.out 2).trans rfl
  have afW:=bP gY.out 2
  have aiH:cq.cell? ⟨aa,3,none⟩=some (.bool false):=(aP gY.out 3).trans rfl
  have afX:=bP gY.out 3
  have axX:cq.cell? ⟨aa,4,none⟩=some (.slice none 0 0):=(aP gY.out 4).trans rfl
  have arj:=bP gY.out 4
  refine iM (w1:=?_) (by rfl) rfl ?_ ?_
  rotate_left
  ·go_simp
   rfl
  refine hK.out _ _ ((aG a8 (aG a8 (aG a8 (aG a8 (aG a8 hH)))))) (fun hH=>?_)
  clear hK K
  refine iP aB ?_
  try go_wp2
  refine bodyPost_ret (iR rfl _ _ b4 aa 28 49 #[.slice ap af.length aq] #[ah cw,.string cx,ah cy,.bool cz,.slice dp d0.length dq] (0,0) (0,0) _ _ rfl aT underlying28 rfl aB rfl aT underlying49 rfl aB) rfl ?_
  exact ⟨_,_,bM,aak,(by (with_reducible repeat (first|apply Kd.dB|apply Kd.dD|apply Kd.aZ));exact Kd.bn (aH (aH (aH (aH (aH (aH (Kd.bQ (Kd.bQ cf.out jm.out (by decide)) gY.out (by decide)) (fun _ hk=>hk.1.2))))))) (fun _ hk=>trivial)),au⟩
 have bw:=fP co
 have cv:=fQ co
 try simp only [aY,bf,bw]
 obtain ⟨d2,ei,H⟩:=bd_ H
 have d3:=m_ H
 clear H
 obtain ⟨b7,b6,al,am,an,ao,bd,bc⟩:=iH fA be aK ai aN aQ b3 bh
 have dr:=jK a6.out
 go_upto_if 19 with (first|((with_reducible refine bT 15 ?_);refine bU (some 19) rfl rfl func15 aB rfl #[.string fC,.string fE] rfl aX ?_;(with_reducible refine (pz.calls k fC fE d2 _ ei.out).mono ?_);rintro e ej ⟨rfl,hb⟩;refine ⟨_,rfl,?_⟩;have gy:=p_ (Kd.dw (by (with_reducible repeat (first|apply Kd.dB|apply Kd.dD|apply Kd.aZ));exact (Kd.bn (aH (Kd.bQ lZ.out a7.out (by decide))) (fun _ dG=>dG.1))) hb) <| p_ (bZ (g:=ca) (o:=.cells #[.slice fB aI.length bo] 28) (nO a5.out dM.out) hb) <| p_ (bZ (g:=b5) (o:=.cells #[ah fG,.string fE,.string fC,ah bq,ah br,.string bs] 45) (nO a6.out b3.out) hb) <| p_ (bZ (g:=b4) (o:=.cells #[.slice none 0 0] 28) (nO jm.out ac.out) hb) <| p_ (bZ (g:=aa) (o:=.cells #[ah 0,.string (⟨#[]⟩:ByteArray),ah 0,.bool false,.slice none 0 0] 49) (nO gY.out ae.out) hb) <| p_ (bZ (g:=ag) (o:=.cells #[.slice ap af.length aq] 28) (yB a7.out) hb) <| a_ (dP au hb);clear lZ a5 a6 jm gY a7 HB;obtain ⟨lZ,a5,a6,jm,gY,a7,HB⟩:=gy;(try clear hb);(try clear hk)))
 (try simp only [Act.put,List.setIfInBounds_toArray,List.set_cons_zero,List.set_cons_succ])
 (try clear b6 b7 al an bd am ao bc)
 (try clear dr)
 obtain ⟨H⟩:=d3
 by_cases d4:d2=true
 ·subst d4
  rw [if_pos rfl] at H
  obtain ⟨⟨d5,d6,d7,d8,d9⟩,ek,H⟩:=bd_ H
  simp only [Option.some.injEq,Prod.mk.injEq] at H
  obtain ⟨rfl,rfl,rfl,rfl,rfl,rfl⟩:=H
  try go_wp2
  obtain ⟨lZ,a5,a6,jm,gY,a7,HB⟩:=p_ (Kd.aZ lZ.out) <| yV a5 a6 jm gY a7 HB
  refine iT (n:=4) (S:=fun w'=>w'.cell? ⟨ag,0,none⟩=some (.slice ap af.length aq)) (ds:=[]) Ad aB rfl rfl ((aP a7.out 0).trans rfl) (fun hH=>?_)
  generalize ej.drew=et at lZ a5 a6 jm gY a7 HB hH ⊢
  refine lI (i:=0) (N:=some 20) (v:=?_) (a':=?_) Ae rfl rfl aB (fun _ _ _ h=>h) (Or.inl ⟨(by rfl),?_⟩) hH ?_ ?_
  rotate_left
  ·intro w' s0
   go_simp
   with_reducible rfl
  rotate_left
  ·simp only [Act.put,List.setIfInBounds_toArray,List.set_cons_zero,List.set_cons_succ,aY,bf]
   rfl
  refine fD (i:=1) (N:=some 21) Af rfl rfl aB (by decide) (fun K hK=>?_)
  refine i_ func75 aB rfl #[ah 11] (by rfl) rfl rfl aX ?_
  with_reducible refine (lX.calls 11 d5 d6 d7 d8 d9 _ ek.out).mono ?_
  rintro e cr ⟨az5,rfl,ho0,hb⟩
  refine ⟨_,rfl,?_⟩
  obtain ⟨lZ,cg,a5,a6,jm,gY,a7,HB⟩:=p_ (Kd.dw (aJ lZ) hb) <| p_ (Kd.dI ho0 (cZ au)) <| oD (ak a5) (ak a6) (ak jm) (ak gY) (ak a7) au hb
  (try clear hb)
  (try clear ho0)
  obtain ⟨dt,du,da⟩:=Kd.dK cg.out
  (first|subst da|(injection da with dV gU dW;have gV:=dV.symm;have gW:=dW.symm;clear dV gU dW;subst gV;subst gW))
  refine hK.out _ _ ((aP a7.out 0).trans rfl) (fun hH=>?_)
  clear hK K
  refine eX (some 21) ?_
  refine fD (i:=2) (N:=none) Ag rfl rfl aB (by decide) (fun K hK=>?_)
  have aiJ:cr.cell? ⟨b4,0,none⟩=some (.slice none 0 0):=(aP jm.out 0).trans rfl
  have afZ:=bP jm.out 0
  obtain ⟨b8,al,bi,ar,b9,am,bj,aW⟩:=iH ax aK b2 ab bH ai b1 ac
  refine iM (w1:=?_) (by rfl) rfl ?_ ?_
  rotate_left
  ·go_simp
   rfl
  refine hK.out _ _ ((aG ab hH)) (fun hH=>?_)
  clear hK K
  refine fD (i:=3) (N:=none) Ah rfl rfl aB (by decide) (fun K hK=>?_)
  have aiK:cr.cell? ⟨aa,0,none⟩=some (ah 0):=(aP gY.out 0).trans rfl
  have af0:=bP gY.out 0
  obtain ⟨ba,an,av,bb,ao,aw⟩:=kJ az aN a8 b0 aQ ae
  have ax8:cr.cell? ⟨aa,1,none⟩=some (.string (⟨#[]⟩:ByteArray)):=(aP gY.out 1).trans rfl
  have arx:=bP gY.out 1
  have ax9:cr.cell? ⟨aa,2,none⟩=some (ah 0):=(aP gY.out 2).trans rfl
  have arz:=bP gY.out 2
  have ax_:cr.cell? ⟨aa,3,none⟩=some (.bool false):=(aP gY.out 3).trans rfl
  have arA:=bP gY.out 3
  have aiL:cr.cell? ⟨aa,4,none⟩=some (.slice none 0 0):=(aP gY.out 4).trans rfl
  have af2:=bP gY.out 4
  refine iM (w1:=?_) (by rfl) rfl ?_ ?_
  rotate_left
  ·go_simp
   rfl
  refine hK.out _ _ ((aG a8 (aG a8 (aG a8 (aG a8 (aG a8 hH)))))) (fun hH=>?_)
  clear hK K
  refine iP aB ?_
  try go_wp2
  refine bodyPost_ret (iR rfl _ _ b4 aa 28 49 #[.slice ap af.length aq] #[ah d5,.string d6,ah d7,.bool d8,.slice dt d9.length du] (0,0) (0,0) _ _ rfl aT underlying28 rfl aB rfl aT underlying49 rfl aB) rfl ?_
  exact ⟨_,_,bM,aak,(by (with_reducible repeat (first|apply Kd.dB|apply Kd.dD|apply Kd.aZ));exact Kd.bn (aH (aH (aH (aH (aH (aH (Kd.bQ (Kd.bQ cg.out jm.out (by decide)) gY.out (by decide)) (fun _ hk=>hk.1.2))))))) (fun _ hk=>trivial)),au⟩
 replace d4:=Bool.eq_false_iff.mpr d4
 subst d4
 rw [if_neg iI] at H
 obtain ⟨bx,el,H⟩:=bd_ H
 have cp:=m_ H
 clear H
 obtain ⟨b6,b7,b8,b9,ba,bb,bv,bu⟩:=iH be fA ax bH az b0 dM bl
 have UM:=dh a5.out
 have db:=jK a6.out
 go_upto_region 7 with (first|((with_reducible refine bT 14 ?_);refine bU (some 25) rfl rfl func14 aB rfl #[.agg #[.slice fB aI.length bo],.string fC] rfl aX ?_;(with_reducible refine (yG.calls k _ _ aI fC bx _ pY bz.out el.out).mono ?_);rintro e dv ⟨rfl,hb⟩;refine ⟨_,rfl,?_⟩;obtain ⟨lZ,a5,a6,jm,gY,a7,HB⟩:=p_ (Kd.dw (aJ lZ) hb) <| oD (ak a5) (ak a6) (ak jm) (ak gY) (ak a7) au hb;(try clear hb);(try clear hk)))
 (try simp only [Act.put,List.setIfInBounds_toArray,List.set_cons_zero,List.set_cons_succ])
 go_cut [40] (fun v40 wc=>∃ (kq:Nat) (bp:Bool),v40=.bool bp∧aA (oJ.j0 kq bx bp aI fG fE fC bq br bs af=some (r1,r2,r3,r4,r5,r6))∧aA (kq≤k)∧aA (Kd.R aU 43 wc w.heap.size (fun _=>True) (.slice ap af.length aq) af)∧aA (wc.heap[ca]?=some (.cells #[(.slice fB aI.length bo)] 28))∧aA (wc.heap[b5]?=some (.cells #[ah fG,.string fE,.string fC,ah bq,ah br,.string bs] 45))∧aA (wc.heap[b4]?=some (.cells #[(.slice none 0 0)] 28))∧aA (wc.heap[aa]?=some (.cells #[ah 0,.string (⟨#[]⟩:ByteArray),ah 0,.bool false,(.slice none 0 0)] 49))∧aA (wc.heap[ag]?=some (.cells #[(.slice ap af.length aq)] 28))∧aA (Below w.heap.size w wc))
 case first =>
  obtain ⟨H⟩:=cp
  revert H;refine fH (fun ch H=>?_) fun ch H=>?_
  ·have bm:=fZ ch
   have ci:=f_ ch
   clear ch
   try simp only [aY,bf,bm]
   have H':=m_ H
   clear H
   try go_wp2
   obtain ⟨lZ,a5,a6,jm,gY,a7,HB⟩:=p_ (Kd.aZ lZ.out) <| yV a5 a6 jm gY a7 HB
   refine iT (n:=15) (S:=fun w'=>True) (ds:=[]) Pz aB rfl rfl trivial (fun hH=>?_);refine kE oJ.Ub oJ.Po (fun aO fJ=>?_)
   generalize dv.drew=tY at lZ a5 a6 jm gY a7 HB hH ⊢
   refine bV 0 ?_
   refine bV 1 ?_
   refine bV 2 ?_
   refine jW 3 ?_
   refine jW 4 ?_
   refine jW 5 ?_
   refine jW 6 ?_
   refine jW 7 ?_
   refine jW 8 ?_
   refine jW 9 ?_
   refine jW 10 ?_
   refine jW 11 ?_
   refine jW 12 ?_
   refine jW 13 ?_
   refine bV 14 ?_
   refine iP (ku aO.out aB) ?_
   try go_wp2
   go_meet
   case rel=>exact ⟨_,(false),bg,H',⟨kC⟩,⟨(aJ lZ)⟩,⟨(ak a5)⟩,⟨(ak a6)⟩,⟨(ak jm)⟩,⟨(ak gY)⟩,⟨(ak a7)⟩,⟨au⟩⟩
  have bm:=fP ch
  have ci:=fQ ch
  try simp only [aY,bf,bm]
  revert H;refine fH (fun cj H=>?_) fun cj H=>?_
  rotate_left
  ·have ck:=fP cj
   have cl:=fQ cj
   have H':=m_ H
   clear H
   try go_wp2
   obtain ⟨lZ,a5,a6,jm,gY,a7,HB⟩:=p_ (Kd.aZ lZ.out) <| yV a5 a6 jm gY a7 HB
   refine iT (n:=15) (S:=fun w'=>True) (ds:=[]) Pz aB rfl rfl trivial (fun hH=>?_);refine kE oJ.Ub oJ.Po (fun aO fJ=>?_)
   generalize dv.drew=ev at lZ a5 a6 jm gY a7 HB hH ⊢
   refine bV 0 ?_
   refine bV 1 ?_
   refine bV 2 ?_
   refine bV 3 ?_
   refine bV 4 ?_
   refine bV 5 ?_
   refine jW 6 ?_
   refine jW 7 ?_
   refine jW 8 ?_
   refine jW 9 ?_
   refine jW 10 ?_
   refine jW 11 ?_
   refine jW 12 ?_
   refine bV 13 ?_
   refine bV 14 ?_
   refine iP (ku aO.out aB) ?_
   try go_wp2
   go_meet
   case rel=>exact ⟨_,(true),bg,H',⟨kC⟩,⟨(aJ lZ)⟩,⟨(ak a5)⟩,⟨(ak a6)⟩,⟨(ak jm)⟩,⟨(ak gY)⟩,⟨(ak a7)⟩,⟨au⟩⟩
  have ck:=fZ cj
  have cl:=f_ cj
  clear cj
  obtain ⟨dd,em,H⟩:=bd_ H
  obtain ⟨de,en,H⟩:=bd_ H
  have H':=m_ H
  clear H
  try go_wp2
  obtain ⟨lZ,a5,a6,jm,gY,a7,HB⟩:=p_ (Kd.aZ lZ.out) <| yV a5 a6 jm gY a7 HB
  refine iT (n:=15) (S:=fun w'=>zZ w' b5 (ah fG) (.string fE) (.string fC) (ah bq) (ah br) (.string bs)) (ds:=[]) Pz aB rfl rfl (qK a6.out) (fun hH=>?_);refine kE oJ.Ub oJ.Po (fun aO fJ=>?_)
  generalize dv.drew=ew at lZ a5 a6 jm gY a7 HB hH ⊢
  refine bV 0 ?_
  refine bV 1 ?_
  refine bV 2 ?_
  refine bV 3 ?_
  refine bV 4 ?_
  refine bV 5 ?_
  refine bV 6 ?_
  refine cu 9 35 #[aj,aj,aj,aj,aj,aj,aj,F_,F_,aj,F_,F_,F_,F_,F_] aO ?_
  refine jZ 7 33 #[aj,aj,aj,aj,aj,aj,aj,aj,F_,aj,F_,F_,F_,F_,F_] aO fJ hH ?_
  refine jZ 10 36 #[aj,aj,aj,aj,aj,aj,aj,aj,F_,aj,aj,F_,F_,F_,F_] aO fJ hH ?_
  refine oZ 8 (fun K hK=>?_)
  refine i_ func51 aB rfl #[.string fC] (by rfl) rfl rfl aX ?_
  with_reducible refine (wI.calls k fC dd _ em.out).mono ?_
  rintro e ex ⟨rfl,hb⟩
  refine ⟨_,rfl,?_⟩
  obtain ⟨lZ,a5,a6,jm,gY,a7,HB⟩:=p_ (Kd.dw (aJ lZ) hb) <| oD (ak a5) (ak a6) (ak jm) (ak gY) (ak a7) au hb
  (try clear hb)
  refine hK.out _ _ (qK a6.out) (fun hH=>?_)
  clear hK K
  refine eX (some 34) ?_
  refine oZ 11 (fun K hK=>?_)
  refine i_ func51 aB rfl #[.string fE] (by rfl) rfl rfl aX ?_
  with_reducible refine (wI.calls k fE de _ en.out).mono ?_
  rintro e ey ⟨rfl,hb⟩
  refine ⟨_,rfl,?_⟩
  obtain ⟨lZ,a5,a6,jm,gY,a7,HB⟩:=p_ (Kd.dw (aJ lZ) hb) <| oD (ak a5) (ak a6) (ak jm) (ak gY) (ak a7) au hb
  (try clear hb)
  refine hK.out _ _ (qK a6.out) (fun hH=>?_)
  clear hK K
  refine eX (some 37) ?_
  refine bV 12 ?_
  refine bV 13 ?_
  refine bV 14 ?_
  refine iP (ku aO.out aB) ?_
  try go_wp2
  go_meet
  case rel=>exact ⟨_,((dd.toList != de.toList)),bg,H',⟨kC⟩,⟨(aJ lZ)⟩,⟨(ak a5)⟩,⟨(ak a6)⟩,⟨(ak jm)⟩,⟨(ak gY)⟩,⟨(ak a7)⟩,⟨au⟩⟩
 case rest =>
 clear cp
 try clear d4;try clear UM;try clear db;try clear UM
 obtain ⟨kq,bp,rfl,HA,xZ,a9,a5,a6,jm,gY,a7,HB⟩:=hcut
 cases kq with
 | zero=>exact absurd HA.out (by simp [oJ.j0])
 | succ Nq =>
 obtain ⟨H⟩:=HA
 simp only [oJ.j0] at H
 by_cases dm:bp=true
 rotate_left
 ·replace dm:=Bool.eq_false_iff.mpr dm
  subst dm
  rw [if_neg iI] at H
  obtain ⟨df,eo,H⟩:=bd_ H
  simp only [Option.some.injEq,Prod.mk.injEq] at H
  obtain ⟨rfl,rfl,rfl,rfl,rfl,rfl⟩:=H
  have aBw:=dh a5.out
  have ep:=jK a6.out
  go_wp2_with (first|((with_reducible refine bT 11 ?_);refine bU (some 49) rfl rfl func11 aB rfl #[.agg #[.slice fB aI.length bo],.string fE,.string fC] rfl aX ?_;(with_reducible refine (iZ.calls Nq _ _ aI fE fC df _ pY bz.out eo.out).mono ?_);rintro e fg ⟨az7,rfl,ho0,hb⟩;refine ⟨_,rfl,?_⟩;obtain ⟨a9,cm,a5,a6,jm,gY,a7,HB⟩:=p_ (Kd.jX (aJ a9) (Kd.jo ho0) hb) <| p_ (Kd.dI (Kd.jY ho0 (Kd.jJ (aJ a9))) (cZ au)) <| oD (ak a5) (ak a6) (ak jm) (ak gY) (ak a7) au hb;(try clear hb);(try clear ho0);obtain ⟨jU,dx,dy⟩:=Kd.dK cm.out;subst dy;obtain ⟨bj,bi,aW,ar⟩:=g_ b1 b2 ac ab;have UE:=dh jm.out;obtain ⟨aw,av⟩:=gB ae a8;have ee:=kK gY.out))
  refine bodyPost_ret (iR rfl _ _ b4 aa 28 49 #[.slice jU df.length dx] #[ah 0,.string (⟨#[]⟩:ByteArray),ah 0,.bool false,.slice none 0 0] (0,0) (0,0) _ _ rfl aT underlying28 rfl aB rfl aT underlying49 rfl aB) rfl ?_
  exact ⟨_,_,bM,(by (with_reducible repeat (first|apply Kd.dB|apply Kd.dD|apply Kd.aZ));exact Kd.bn (aH (aH (aH (aH (aH (aH (Kd.bQ (Kd.bQ cm.out jm.out (by decide)) gY.out (by decide)) (fun _ hk=>hk.1.2))))))) (fun _ hk=>trivial)),kD,au⟩
 subst dm
 rw [if_pos rfl] at H
 obtain ⟨⟨dg,lN,di,dj,dk⟩,eq,H⟩:=bd_ H
 simp only [Option.some.injEq,Prod.mk.injEq] at H
 obtain ⟨rfl,rfl,rfl,rfl,rfl,rfl⟩:=H
 try go_wp2
 obtain ⟨a9,a5,a6,jm,gY,a7,HB⟩:=p_ (Kd.aZ a9.out) <| yV a5 a6 jm gY a7 HB
 refine iT (n:=5) (S:=fun w'=>w'.cell? ⟨ag,0,none⟩=some (.slice ap af.length aq)) (ds:=[]) Di aB rfl rfl ((aP a7.out 0).trans rfl) (fun hH=>?_)
 generalize wc.drew=fh at a9 a5 a6 jm gY a7 HB hH ⊢
 refine sN (i:=1) (N:=some 42) IX aB ?_
 refine lI (i:=0) (N:=some 41) (v:=?_) (a':=?_) IY rfl rfl aB (fun _ _ _ h=>h) (Or.inl ⟨(by rfl),?_⟩) hH ?_ ?_
 rotate_left
 ·intro w' s0
  go_simp
  with_reducible rfl
 rotate_left
 ·simp only [Act.put,List.setIfInBounds_toArray,List.set_cons_zero,List.set_cons_succ,aY,bf]
  rfl
 refine fD (i:=2) (N:=some 43) ER rfl rfl aB (by decide) (fun K hK=>?_)
 refine i_ func75 aB rfl #[ah bx] (by rfl) rfl rfl aX ?_
 with_reducible refine (lX.calls bx dg lN di dj dk _ eq.out).mono ?_
 rintro e ct ⟨az6,rfl,ho0,hb⟩
 refine ⟨_,rfl,?_⟩
 obtain ⟨a9,cn,a5,a6,jm,gY,a7,HB⟩:=p_ (Kd.dw (aJ a9) hb) <| p_ (Kd.dI ho0 (cZ au)) <| oD (ak a5) (ak a6) (ak jm) (ak gY) (ak a7) au hb
 (try clear hb)
 (try clear ho0)
 obtain ⟨dz,e0,dl⟩:=Kd.dK cn.out
 (first|subst dl|(injection dl with dV gU dW;have gV:=dV.symm;have gW:=dW.symm;clear dV gU dW;subst gV;subst gW))
 refine hK.out _ _ ((aP a7.out 0).trans rfl) (fun hH=>?_)
 clear hK K
 refine eX (some 43) ?_
 refine fD (i:=3) (N:=none) Dj rfl rfl aB (by decide) (fun K hK=>?_)
 have ayq:ct.cell? ⟨b4,0,none⟩=some (.slice none 0 0):=(aP jm.out 0).trans rfl
 have arS:=bP jm.out 0
 obtain ⟨bi,ar,bj,aW⟩:=g_ b2 ab b1 ac
 refine iM (w1:=?_) (by rfl) rfl ?_ ?_
 rotate_left
 ·go_simp
  rfl
 refine hK.out _ _ ((aG ab hH)) (fun hH=>?_)
 clear hK K
 refine fD (i:=4) (N:=none) Dk rfl rfl aB (by decide) (fun K hK=>?_)
 have ayr:ct.cell? ⟨aa,0,none⟩=some (ah 0):=(aP gY.out 0).trans rfl
 have arT:=bP gY.out 0
 obtain ⟨av,aw⟩:=gB a8 ae
 have ays:ct.cell? ⟨aa,1,none⟩=some (.string (⟨#[]⟩:ByteArray)):=(aP gY.out 1).trans rfl
 have arU:=bP gY.out 1
 have ayt:ct.cell? ⟨aa,2,none⟩=some (ah 0):=(aP gY.out 2).trans rfl
 have arV:=bP gY.out 2
 have ayu:ct.cell? ⟨aa,3,none⟩=some (.bool false):=(aP gY.out 3).trans rfl
 have arW:=bP gY.out 3
 have ayv:ct.cell? ⟨aa,4,none⟩=some (.slice none 0 0):=(aP gY.out 4).trans rfl
 have arX:=bP gY.out 4
 refine iM (w1:=?_) (by rfl) rfl ?_ ?_
 rotate_left
 ·go_simp
  rfl
 refine hK.out _ _ ((aG a8 (aG a8 (aG a8 (aG a8 (aG a8 hH)))))) (fun hH=>?_)
 clear hK K
 refine iP aB ?_
 try go_wp2
 refine bodyPost_ret (iR rfl _ _ b4 aa 28 49 #[.slice ap af.length aq] #[ah dg,.string lN,ah di,.bool dj,.slice dz dk.length e0] (0,0) (0,0) _ _ rfl aT underlying28 rfl aB rfl aT underlying49 rfl aB) rfl ?_
 exact ⟨_,_,bM,(by (with_reducible repeat (first|apply Kd.dB|apply Kd.dD|apply Kd.aZ));exact Kd.bn (aH (aH (aH (aH (aH (aH (Kd.bQ (Kd.bQ a9.out jm.out (by decide)) gY.out (by decide)) (fun _ hk=>hk.1.2))))))) (fun _ hk=>trivial)),(by (with_reducible repeat (first|apply Kd.dB|apply Kd.dD|apply Kd.aZ));exact Kd.bn (aH (aH (aH (aH (aH (aH (Kd.bQ (Kd.bQ cn.out jm.out (by decide)) gY.out (by decide)) (fun _ hk=>hk.1.2))))))) (fun _ hk=>trivial)),au⟩

end Go.Proofs.YthejdhjpbpamoaaGreatDoor.jD
