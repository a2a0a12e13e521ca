/- Contracts of Go functions: each call returns what the Lean function beside it computes. Conditions: as each theorem states them. -/
import Derived.Test.YthejdhjpbpamoaaGreatDoorPkFnMoves
import Derived.Test.YthejdhjpbpamoaaGreatDoorPFnMovesx1
import Derived.Test.YthejdhjpbpamoaaGreatDoorPFnMovesx2
import Derived.Test.YthejdhjpbpamoaaGreatDoorPFnMovesx14
namespace Go.Proofs.YthejdhjpbpamoaaGreatDoor.jM
open Go.RowKit Go.Proofs.YthejdhjpbpamoaaGreatDoorW.iK Go.Proofs.YthejdhjpbpamoaaGreatDoorW.lX Go.Proofs.YthejdhjpbpamoaaGreatDoorW.oV Go.Proofs.Tryz
attribute [local go_sem] qI qM qL qP qK qO qJ qN   -- for this text's walks alone
set_option linter.unusedVariables false
set_option maxHeartbeats 8000000
set_option maxRecDepth 100000
set_option linter.unusedSimpArgs false

def DX.f (k:Nat) (l0:List Int):Option (Int × Int × Int × Int × (List (aC))):=(tH.f k l0).bind fun a6=>((vO.f a6.1 a6.2.1 a6.2.2).bind fun a5=>((uN.f k a6.1 a5.2.2.2.2.1 a5.2.2.2.2.2 a5.1 a5.2.1 a5.2.2.1 a5.2.2.2.1).bind fun a7=>((wE.f a6.1 a7.2.1 a7.2.2 6).bind fun a9=>(if a9.1=true then ((DZ.f a6.1 a9.2.1 a9.2.2).bind fun a8=>(some (a8.1,a8.2.1,a8.2.2.1,a8.2.2.2.1,a7.1))) else (some (a5.1,a5.2.1,a5.2.2.1,a5.2.2.2.1,a7.1))))))
theorem DX.calls (k:Nat) (A0:Option Addr) (c0:Nat) (l0:List Int) (r1:Int) (r2:Int) (r3:Int) (r4:Int) (r5:List (aC)) (w:World) (hr0:Kd.C (Kd.int .u8) w A0 l0.length l0) (hc0:l0.length≤c0) (h:DX.f k l0=some (r1,r2,r3,r4,r5)) :
  Calls Tryz.prog 7 #[.slice A0 l0.length c0] w fun e w'=>∃ IU:Value,e=.returned (.tuple #[.agg #[ah r1,ah r2,ah r3,ah r4],.agg #[IU]])∧Kd.R bF 43 w' w.heap.size (fun _=>True) IU r5∧Below w.heap.size w w':=by
 have w_:=underlying25
 have oq:=underlying28
 have HR0:=m_ hr0
 have cq:=m_ hc0
 clear hr0 hc0
 have HB:=m_ (Below.refl w.heap.size w)
 unfold DX.f at h
 have H:=h
 clear h
 obtain ⟨⟨ao,bs,bu⟩,A2,H⟩:=bd_ H
 try dsimp -simprocs only at H
 obtain ⟨⟨b6,b7,b8,b9,fK,bo⟩,A3,H⟩:=bd_ H
 try dsimp -simprocs only at H
 obtain ⟨⟨b2,be,fF⟩,A4,H⟩:=bd_ H
 try dsimp -simprocs only at H
 obtain ⟨⟨bv,bq,br⟩,A5,H⟩:=bd_ H
 try dsimp -simprocs only at H
 have ch:=m_ H
 clear H
 go_enter func7,ntmps7
 go_upto_if 15 with (first|((with_reducible refine dG 2 ?_);refine dU 2 (cs:=#[ah 0,ah 0,ah 0,ah 0]) 25 ?_;intro ab hg w7 hbox hb;obtain ⟨HB,jO,ci,Lp⟩:=kE ay hb hbox hg;clear hb hbox hg)|((with_reducible refine dG 3 ?_);refine dU 3 (cs:=#[.slice none 0 0]) 28 ?_;intro al hg w8 hbox hb;obtain ⟨jO,HB,mM,cj,Lr,b3,b4⟩:=qj (aj jO) ay hb hbox hg;clear hb hbox hg)|((with_reducible refine bU 39 ?_);refine bV (some 8) rfl rfl func39 aB rfl #[.slice A0 l0.length c0] rfl aW ?_;(with_reducible refine (tH.calls k _ _ l0 ao bs bu w _ ?kG HR0.out cq.out A2.out).mono ?_);(case kG=>repeat (first|(with_reducible first|exact HB.out|apply ny|apply qm|apply k_|refine iL ?_ Lp.out|refine iL ?_ Lr.out)|exact HB.out));rintro e w9 ⟨sK,rfl,hi,hb,hb2⟩;refine ⟨_,rfl,?_⟩;obtain ⟨jO,mM,HB,qw,QH,af,QI,ag⟩:=p_ (bG (aj jO) hb2) <| p_ (bG (aj mM) hb2) <| p_ (hb) <| p_ (hi) <| p_ (aJ.Fe hi (bG (aj jO) hb2) (by decide)) <| p_ (Ne.symm (aJ.Fe hi (bG (aj jO) hb2) (by decide))) <| p_ (aJ.Fe hi (bG (aj mM) hb2) (by decide)) <| a_ (Ne.symm (aJ.Fe hi (bG (aj mM) hb2) (by decide)));(try clear hb);(try clear hb2);(try clear hi))|((with_reducible refine bU 40 ?_);refine bV (some 10) rfl rfl func40 aB rfl #[.pointer (some ⟨sK,0,none⟩)] rfl aW ?_;(with_reducible refine (vO.calls sK ao bs bu b6 b7 b8 b9 fK bo w _ ?kG ?pX A3.out).mono ?_);(case kG=>repeat (first|(with_reducible first|exact qw.out|apply aJ.alloc|apply aJ.drewN|apply aJ.drew|apply aJ.Iy|apply aJ.Iz|refine aJ.far ?_ QH.out _|refine aJ.far ?_ QI.out _)|exact qw.out));(case pX=>repeat (first|(with_reducible first|exact HB.out|apply ny|apply qm|apply k_|refine iL ?_ (aJ.ge qw.out)|refine iL ?_ Lp.out|refine iL ?_ Lr.out)|exact HB.out));rintro e cw ⟨rfl,hi,hb,hk⟩;refine ⟨_,rfl,?_⟩;obtain ⟨jO,mM,HB,qw⟩:=p_ (aQ.blk hk (g':=ab) (o:=.cells #[ah 0,ah 0,ah 0,ah 0] 25) (aj jO) af.out (by simp)) <| p_ (aQ.blk hk (g':=al) (o:=.cells #[.slice none 0 0] 28) (aj mM) ag.out (by simp)) <| p_ (hb) <| a_ (hi);(try clear hb);(try clear hb2);(try clear hk);(try clear hi))|((with_reducible refine dG 5 ?_);refine dU 5 (cs:=#[ah 0,ah 0,ah 0,ah 0]) 25 ?_;intro a6 hg cx hbox hb;have eP:=p_ (bG (aj jO) hb) <| p_ (bG (aj mM) hb) <| p_ (aJ.below aZ hb) <| p_ (dI dA hb) <| p_ (hbox) <| p_ (qW hg dA) <| p_ (qW hg dA) <| p_ (kW hg (fO (aj jO))) <| p_ (kU hg (fO (aj jO))) <| p_ (kW hg (fO (aj mM))) <| p_ (kU hg (fO (aj mM))) <| p_ ((by rw [hg];exact Nat.ne_of_lt (aJ.lt (show aJ w _ sK ao fK bo from aZ)):sK≠a6)) <| a_ ((by rw [hg];exact Nat.ne_of_gt (aJ.lt (show aJ w _ sK ao fK bo from aZ)):a6≠sK));clear jO mM qw HB;obtain ⟨jO,mM,qw,HB,a7,ck,XU,aP,a5,ai,a8,L_,ac⟩:=eP;clear hb hbox hg;obtain ⟨av,aw,cl,cm,cn,co⟩:=kL a5 aP a8 ai ac L_;have bw:=jQ a7.out)|((with_reducible refine bU 41 ?_);refine bV (some 13) rfl rfl func41 aB rfl #[.pointer (some ⟨sK,0,none⟩),.agg #[ah b6,ah b7,ah b8,ah b9]] rfl aW ?_;(with_reducible refine (uN.calls k sK ao fK bo b6 b7 b8 b9 b2 be fF w _ ?kG ?pX A4.out).mono ?_);(case kG=>repeat (first|(with_reducible first|exact qw.out|apply aJ.alloc|apply aJ.drewN|apply aJ.drew|apply aJ.Iy|apply aJ.Iz|refine aJ.far ?_ QH.out _|refine aJ.far ?_ QI.out _|refine aJ.far ?_ L_.out _)|exact qw.out));(case pX=>repeat (first|(with_reducible first|exact HB.out|apply ny|apply qm|apply k_|refine iL ?_ (aJ.ge qw.out)|refine iL ?_ Lp.out|refine iL ?_ Lr.out|refine iL ?_ XU.out)|exact HB.out));rintro e cy ⟨ajH,rfl,ho0,hi,hb,hk⟩;refine ⟨_,rfl,?_⟩;obtain ⟨jO,mM,a7,sG,HB,qw⟩:=p_ (aQ.blk hk (g':=ab) (o:=.cells #[ah 0,ah 0,ah 0,ah 0] 25) (lM jO.out aP.out) af.out (by simp)) <| p_ (aQ.blk hk (g':=al) (o:=.cells #[.slice none 0 0] 28) (lM mM.out ai.out) ag.out (by simp)) <| p_ (aQ.blk hk (g':=a6) (o:=.cells #[ah b6,ah b7,ah b8,ah b9] 25) (wB a7.out) ac.out (by simp)) <| p_ (Kd.dK ho0 (dO dA)) <| p_ (hb) <| a_ (hi);(try clear hb);(try clear hk);(try clear hi);(try clear ho0))|((with_reducible refine dG 6 ?_);refine dU 6 (cs:=#[.slice none 0 0]) 28 ?_;intro ax hg cz hbox hb;have eP:=p_ (Kd.bn (aG sG) hb) <| p_ (bG (aj jO) hb) <| p_ (bG (aj mM) hb) <| p_ (aJ.below aZ hb) <| p_ (bG (aj a7) hb) <| p_ (dI dA hb) <| p_ (hbox) <| p_ (qW hg dA) <| p_ (qW hg dA) <| p_ (kW hg (fO (aj jO))) <| p_ (kU hg (fO (aj jO))) <| p_ (kW hg (fO (aj mM))) <| p_ (kU hg (fO (aj mM))) <| p_ (kW hg (fO (aj a7))) <| p_ (kU hg (fO (aj a7))) <| p_ ((by rw [hg];exact Nat.ne_of_lt (aJ.lt (show aJ w _ sK ao be fF from aZ)):sK≠ax)) <| a_ ((by rw [hg];exact Nat.ne_of_gt (aJ.lt (show aJ w _ sK ao be fF from aZ)):ax≠sK));clear sG jO mM qw a7 HB;obtain ⟨sG,jO,mM,qw,a7,HB,aa,cp,adM,aN,a9,aT,ae,am,b5,Yc,an⟩:=eP;clear hb hbox hg;obtain ⟨ba,bb,cg⟩:=Kd.dJ sG.out;subst cg;obtain ⟨dw,az,b0,b1,bc,bd,dM,bh⟩:=i_ a9 aN ae aT b5 am an Yc;have K_:=cu aa.out)|((with_reducible refine bU 42 ?_);refine bV (some 15) rfl rfl func42 aB rfl #[.pointer (some ⟨sK,0,none⟩),ah 6] rfl aW ?_;(with_reducible refine (wE.calls sK ao be fF 6 bv bq br w _ aZ dA A5.out).mono ?_);rintro e cr ⟨rfl,hi,hb,hk⟩;refine ⟨_,rfl,?_⟩;have eP:=p_ (aQ.blk hk (g':=ab) (o:=.cells #[ah 0,ah 0,ah 0,ah 0] 25) (lM jO.out aN.out) af.out (by simp)) <| p_ (aQ.blk hk (g':=al) (o:=.cells #[.slice none 0 0] 28) (lM mM.out aT.out) ag.out (by simp)) <| p_ (aQ.blk hk (g':=a6) (o:=.cells #[ah b6,ah b7,ah b8,ah b9] 25) (lM a7.out am.out) ac.out (by simp)) <| p_ (Kd.bW (Kd.lY (aJ.apart (show aJ w _ sK ao be fF from aZ) (by (with_reducible repeat (first|apply Kd.dR|apply Kd.dS|apply Kd.bK));exact (Kd.bW (aU (Kd.dL sG.out aa.out (by decide))) (fun _ dV=>dV.1))) (by decide)) hk (fun _ h=>h.2)) (fun _ h=>h.1)) <| p_ (aQ.blk hk (g':=ax) (o:=.cells #[.slice ba b2.length bb] 28) (wB aa.out) an.out (by simp)) <| p_ (hb) <| a_ (hi);clear jO mM a7 sG aa HB qw;obtain ⟨jO,mM,a7,sG,aa,HB,qw⟩:=eP;(try clear hb);(try clear hk);(try clear hi)))
 (try simp only [Act.put,List.setIfInBounds_toArray,List.set_cons_zero,List.set_cons_succ])
 (try clear aw az b1 bh av bd dw b0 dM bc)
 (try clear bw)
 (try clear K_)
 obtain ⟨H⟩:=ch
 by_cases cf:bv=true
 rotate_left
 ·replace cf:=Bool.eq_false_iff.mpr cf
  subst cf
  rw [if_neg iO] at H
  simp only [Option.some.injEq,Prod.mk.injEq] at H
  obtain ⟨rfl,rfl,rfl,rfl,rfl⟩:=H
  try go_wp2
  obtain ⟨sG,jO,mM,a7,aa,qw,HB⟩:=p_ (Kd.bK sG.out) <| p_ (gW jO.out) <| p_ (gW mM.out) <| p_ (gW a7.out) <| p_ (gW aa.out) <| p_ (aJ.drew qw.out) <| a_ (k_ HB.out)
  refine iH (n:=4) (S:=fun w'=>xB w' a6 (ah b6) (ah b7) (ah b8) (ah b9) <| y7 w' ax (.slice ba b2.length bb)) (ds:=[]) yA aB rfl rfl (nK a7.out ((aO aa.out 0).trans rfl)) (fun hH=>?_)
  generalize cr.drew=bx at sG jO mM a7 aa qw HB hH ⊢
  refine ng (i:=0) (N:=some 18) (v:=?_) (a':=?_) yB rfl rfl aB (fun _ _ _ h=>h) (Or.inl ⟨(by rfl),?_⟩) hH ?_ ?_
  rotate_left
  ·rintro w' ⟨s0,s1,s2,s3,s4⟩
   go_simp
   with_reducible rfl
  rotate_left
  ·simp only [Act.put,List.setIfInBounds_toArray,List.set_cons_zero,List.set_cons_succ,bI,bY]
   rfl
  refine ng (i:=1) (N:=some 19) (v:=?_) (a':=?_) yC rfl rfl aB (fun _ _ _ h=>h) (Or.inl ⟨(by rfl),?_⟩) hH ?_ ?_
  rotate_left
  ·rintro w' ⟨s0,s1,s2,s3,s4⟩
   go_simp
   with_reducible rfl
  rotate_left
  ·simp only [Act.put,List.setIfInBounds_toArray,List.set_cons_zero,List.set_cons_succ,bI,bY]
   rfl
  refine gB (i:=2) (N:=none) yD rfl rfl aB (by decide) (fun K hK=>?_)
  have ahz:bx.cell? ⟨ab,0,none⟩=some (ah 0):=(aO jO.out 0).trans rfl
  have afA:=dF jO.out 0
  obtain ⟨bi,av,dw,bj,aw,az⟩:=kL b4 a5 a9 b3 aP aN
  have ahA:bx.cell? ⟨ab,1,none⟩=some (ah 0):=(aO jO.out 1).trans rfl
  have afB:=dF jO.out 1
  have ahB:bx.cell? ⟨ab,2,none⟩=some (ah 0):=(aO jO.out 2).trans rfl
  have afC:=dF jO.out 2
  have aaq:bx.cell? ⟨ab,3,none⟩=some (ah 0):=(aO jO.out 3).trans rfl
  have Z8:=dF jO.out 3
  refine jr (w1:=?_) (by rfl) rfl ?_ ?_
  rotate_left
  ·go_simp
   rfl
  refine hK.out _ _ ⟨(aY a5 (aY a5 (aY a5 (aY a5 hH.1)))),(aY a5 (aY a5 (aY a5 (aY a5 hH.2.1)))),(aY a5 (aY a5 (aY a5 (aY a5 hH.2.2.1)))),(aY a5 (aY a5 (aY a5 (aY a5 hH.2.2.2.1)))),(aY a9 (aY a9 (aY a9 (aY a9 hH.2.2.2.2))))⟩ (fun hH=>?_)
  clear hK K
  refine gB (i:=3) (N:=none) yE rfl rfl aB (by decide) (fun K hK=>?_)
  have ahC:bx.cell? ⟨al,0,none⟩=some (.slice none 0 0):=(aO mM.out 0).trans rfl
  have afD:=dF mM.out 0
  obtain ⟨bl,b0,bm,b1⟩:=jE a8 ae ai aT
  refine jr (w1:=?_) (by rfl) rfl ?_ ?_
  rotate_left
  ·go_simp
   rfl
  refine hK.out _ _ ⟨(aY a8 hH.1),(aY a8 hH.2.1),(aY a8 hH.2.2.1),(aY a8 hH.2.2.2.1),(aY ae hH.2.2.2.2)⟩ (fun hH=>?_)
  clear hK K
  refine iF aB ?_
  try go_wp2
  refine bodyPost_ret (nD rfl _ _ ab al 25 28 #[ah b6,ah b7,ah b8,ah b9] #[.slice ba b2.length bb] (0,0) (0,0) _ _ rfl bH underlying25 rfl aB rfl bH underlying28 rfl aB) rfl ?_
  exact ⟨_,b_,WR,dA⟩
 subst cf
 rw [if_pos rfl] at H
 obtain ⟨⟨ap,aq,ar,bP,bz,ca⟩,ct,H⟩:=bd_ H
 try dsimp -simprocs only at H
 simp only [Option.some.injEq,Prod.mk.injEq] at H
 obtain ⟨rfl,rfl,rfl,rfl,rfl⟩:=H
 try go_wp2_with (first|((with_reducible refine bU 43 ?_);refine bV (some 17) rfl rfl func43 aB rfl #[.pointer (some ⟨sK,0,none⟩)] rfl aW ?_;(with_reducible refine (DZ.calls sK ao bq br ap aq ar bP bz ca w _ aZ dA ct.out).mono ?_);rintro e bp ⟨rfl,hi,hb,hk⟩;refine ⟨_,rfl,?_⟩;obtain ⟨jO,mM,a7,sG,aa,HB,qw⟩:=p_ (aQ.blk hk (g':=ab) (o:=.cells #[ah 0,ah 0,ah 0,ah 0] 25) (aj jO) af.out (by simp)) <| p_ (aQ.blk hk (g':=al) (o:=.cells #[.slice none 0 0] 28) (aj mM) ag.out (by simp)) <| p_ (aQ.blk hk (g':=a6) (o:=.cells #[ah b6,ah b7,ah b8,ah b9] 25) (aj a7) ac.out (by simp)) <| p_ (Kd.bW (Kd.lY (aJ.apart (show aJ w _ sK ao bq br from aZ) (aG sG) (by decide)) hk (fun _ h=>h.2)) (fun _ h=>h.1)) <| p_ (aQ.blk hk (g':=ax) (o:=.cells #[.slice ba b2.length bb] 28) (aj aa) an.out (by simp)) <| p_ (hb) <| a_ (hi);(try clear hb);(try clear hk);(try clear hi);obtain ⟨av,aw,bl,bm,bd,bc,cc,cd⟩:=i_ a5 aP a8 ai am b5 ac L_;have jg:=jQ a7.out))
 have gX:aA (Kd.R bF 43 ((((bp.setCell ⟨a6,0,none⟩ (ah ap)).setCell ⟨a6,1,none⟩ (ah aq)).setCell ⟨a6,2,none⟩ (ah ar)).setCell ⟨a6,3,none⟩ (ah bP)) w.heap.size (fun _=>True) (.slice ba b2.length bb) b2):=⟨(by (with_reducible repeat (first|apply Kd.dR|apply Kd.dS|apply Kd.bK));exact Kd.bW (aU (aU (aU (aU (Kd.dL sG.out a7.out (by decide)))))) (fun _ hk=>trivial))⟩
 have lN:aA (((((bp.setCell ⟨a6,0,none⟩ (ah ap)).setCell ⟨a6,1,none⟩ (ah aq)).setCell ⟨a6,2,none⟩ (ah ar)).setCell ⟨a6,3,none⟩ (ah bP)).heap[ab]?=some (.cells #[ah 0,ah 0,ah 0,ah 0] 25)):=⟨bH⟩
 have lQ:aA (((((bp.setCell ⟨a6,0,none⟩ (ah ap)).setCell ⟨a6,1,none⟩ (ah aq)).setCell ⟨a6,2,none⟩ (ah ar)).setCell ⟨a6,3,none⟩ (ah bP)).heap[al]?=some (.cells #[.slice none 0 0] 28)):=⟨bH⟩
 have lS:aA (((((bp.setCell ⟨a6,0,none⟩ (ah ap)).setCell ⟨a6,1,none⟩ (ah aq)).setCell ⟨a6,2,none⟩ (ah ar)).setCell ⟨a6,3,none⟩ (ah bP)).heap[a6]?=some (.cells #[ah ap,ah aq,ah ar,ah bP] 25)):=⟨bH⟩
 have lT:aA (((((bp.setCell ⟨a6,0,none⟩ (ah ap)).setCell ⟨a6,1,none⟩ (ah aq)).setCell ⟨a6,2,none⟩ (ah ar)).setCell ⟨a6,3,none⟩ (ah bP)).heap[ax]?=some (.cells #[.slice ba b2.length bb] 28)):=⟨bH⟩
 have mV:aA (aJ w ((((bp.setCell ⟨a6,0,none⟩ (ah ap)).setCell ⟨a6,1,none⟩ (ah aq)).setCell ⟨a6,2,none⟩ (ah ar)).setCell ⟨a6,3,none⟩ (ah bP)) sK ao bz ca):=⟨aZ⟩
 have oP:aA (Below w.heap.size w ((((bp.setCell ⟨a6,0,none⟩ (ah ap)).setCell ⟨a6,1,none⟩ (ah aq)).setCell ⟨a6,2,none⟩ (ah ar)).setCell ⟨a6,3,none⟩ (ah bP))):=⟨dA⟩
 (try clear sG)
 (try clear jO)
 (try clear mM)
 (try clear a7)
 (try clear aa)
 (try clear qw)
 (try clear HB)
 generalize ((((bp.setCell ⟨a6,0,none⟩ (ah ap)).setCell ⟨a6,1,none⟩ (ah aq)).setCell ⟨a6,2,none⟩ (ah ar)).setCell ⟨a6,3,none⟩ (ah bP))=cv at gX lN lQ lS lT mV oP ⊢
 have sG:=gX
 have jO:=lN
 have mM:=lQ
 have a7:=lS
 have aa:=lT
 have qw:=mV
 have HB:=oP
 clear gX lN lQ lS lT mV oP
 obtain ⟨sG,jO,mM,a7,aa,qw,HB⟩:=p_ (Kd.bK sG.out) <| p_ (gW jO.out) <| p_ (gW mM.out) <| p_ (gW a7.out) <| p_ (gW aa.out) <| p_ (aJ.drew qw.out) <| a_ (k_ HB.out)
 refine iH (n:=4) (S:=fun w'=>xB w' a6 (ah ap) (ah aq) (ah ar) (ah bP) <| y7 w' ax (.slice ba b2.length bb)) (ds:=[]) yA aB rfl rfl (nK a7.out ((aO aa.out 0).trans rfl)) (fun hH=>?_)
 generalize cv.drew=ce at sG jO mM a7 aa qw HB hH ⊢
 refine ng (i:=0) (N:=some 18) (v:=?_) (a':=?_) yB rfl rfl aB (fun _ _ _ h=>h) (Or.inl ⟨(by rfl),?_⟩) hH ?_ ?_
 rotate_left
 ·rintro w' ⟨s0,s1,s2,s3,s4⟩
  go_simp
  with_reducible rfl
 rotate_left
 ·simp only [Act.put,List.setIfInBounds_toArray,List.set_cons_zero,List.set_cons_succ,bI,bY]
  rfl
 refine ng (i:=1) (N:=some 19) (v:=?_) (a':=?_) yC rfl rfl aB (fun _ _ _ h=>h) (Or.inl ⟨(by rfl),?_⟩) hH ?_ ?_
 rotate_left
 ·rintro w' ⟨s0,s1,s2,s3,s4⟩
  go_simp
  with_reducible rfl
 rotate_left
 ·simp only [Act.put,List.setIfInBounds_toArray,List.set_cons_zero,List.set_cons_succ,bI,bY]
  rfl
 refine gB (i:=2) (N:=none) yD rfl rfl aB (by decide) (fun K hK=>?_)
 have aap:ce.cell? ⟨ab,0,none⟩=some (ah 0):=(aO jO.out 0).trans rfl
 have Z7:=dF jO.out 0
 obtain ⟨bi,dw,bj,az⟩:=jE b4 a9 b3 aN
 have ahv:ce.cell? ⟨ab,1,none⟩=some (ah 0):=(aO jO.out 1).trans rfl
 have afw:=dF jO.out 1
 have ahw:ce.cell? ⟨ab,2,none⟩=some (ah 0):=(aO jO.out 2).trans rfl
 have afx:=dF jO.out 2
 have ahx:ce.cell? ⟨ab,3,none⟩=some (ah 0):=(aO jO.out 3).trans rfl
 have afy:=dF jO.out 3
 refine jr (w1:=?_) (by rfl) rfl ?_ ?_
 rotate_left
 ·go_simp
  rfl
 refine hK.out _ _ ⟨(aY a5 (aY a5 (aY a5 (aY a5 hH.1)))),(aY a5 (aY a5 (aY a5 (aY a5 hH.2.1)))),(aY a5 (aY a5 (aY a5 (aY a5 hH.2.2.1)))),(aY a5 (aY a5 (aY a5 (aY a5 hH.2.2.2.1)))),(aY a9 (aY a9 (aY a9 (aY a9 hH.2.2.2.2))))⟩ (fun hH=>?_)
 clear hK K
 refine gB (i:=3) (N:=none) yE rfl rfl aB (by decide) (fun K hK=>?_)
 have ahy:ce.cell? ⟨al,0,none⟩=some (.slice none 0 0):=(aO mM.out 0).trans rfl
 have afz:=dF mM.out 0
 obtain ⟨b0,b1⟩:=iJ ae aT
 refine jr (w1:=?_) (by rfl) rfl ?_ ?_
 rotate_left
 ·go_simp
  rfl
 refine hK.out _ _ ⟨(aY a8 hH.1),(aY a8 hH.2.1),(aY a8 hH.2.2.1),(aY a8 hH.2.2.2.1),(aY ae hH.2.2.2.2)⟩ (fun hH=>?_)
 clear hK K
 refine iF aB ?_
 try go_wp2
 refine bodyPost_ret (nD rfl _ _ ab al 25 28 #[ah ap,ah aq,ah ar,ah bP] #[.slice ba b2.length bb] (0,0) (0,0) _ _ rfl bH underlying25 rfl aB rfl bH underlying28 rfl aB) rfl ?_
 exact ⟨_,b_,WR,dA⟩

def yV.f (k:Nat) (l0:List Int):Option ((List (aC)) × ByteArray × ByteArray):=(tH.f k l0).bind fun a5=>((vO.f a5.1 a5.2.1 a5.2.2).bind fun a6=>((uN.f k a5.1 a6.2.2.2.2.1 a6.2.2.2.2.2 a6.1 a6.2.1 a6.2.2.1 a6.2.2.2.1).bind fun a7=>((rY.f a5.1 a7.2.1 a7.2.2).bind fun a8=>((rY.f a5.1 a8.2.1 a8.2.2).bind fun a9=>(some (a7.1,a8.1,a9.1))))))
def yV.T3:Bool × List (List Nat × List Nat):=(true,[([],[]),([],[]),([1],[1]),([],[]),([3,2],[3]),([0,4,0],[0]),([2,5,0,1,2,5],[2]),([4,6,0,1,2,3,4,5,6],[4])])
def yV.B3:List Nat:=[0,0,2,0,14,31,63,127]
theorem yV.calls (k:Nat) (A0:Option Addr) (c0:Nat) (l0:List Int) (r1:List (aC)) (r2:ByteArray) (r3:ByteArray) (w:World) (hr0:Kd.C (Kd.int .u8) w A0 l0.length l0) (hc0:l0.length≤c0) (h:yV.f k l0=some (r1,r2,r3)) :
  Calls Tryz.prog 8 #[.slice A0 l0.length c0] w fun e w'=>∃ gQ:Value,e=.returned (.tuple #[.agg #[gQ],.string r2,.string r3])∧Kd.R bF 43 w' w.heap.size (fun _=>True) gQ r1∧Below w.heap.size w w':=by
 have oq:=underlying28
 have HR0:=m_ hr0
 have bb:=m_ hc0
 clear hr0 hc0
 have HB:=m_ (Below.refl w.heap.size w)
 unfold yV.f at h
 have H:=h
 clear h
 obtain ⟨⟨aP,bP,av⟩,A2,H⟩:=bd_ H
 try dsimp -simprocs only at H
 obtain ⟨⟨al,am,an,ao,aw,ax⟩,A3,H⟩:=bd_ H
 try dsimp -simprocs only at H
 obtain ⟨⟨aa,aN,aT⟩,A4,H⟩:=bd_ H
 try dsimp -simprocs only at H
 obtain ⟨⟨b0,ap,aq⟩,A5,H⟩:=bd_ H
 try dsimp -simprocs only at H
 obtain ⟨⟨b1,b2,b3⟩,A6,H⟩:=bd_ H
 try dsimp -simprocs only at H
 simp only [Option.some.injEq,Prod.mk.injEq] at H
 obtain ⟨rfl,rfl,rfl⟩:=H
 go_enter func8,ntmps8
 try go_wp2_with (first|((with_reducible refine dG 2 ?_);refine dU 2 (cs:=#[.slice none 0 0]) 28 ?_;intro ag hg w7 hbox hb;obtain ⟨HB,a5,b5,XV⟩:=kE ay hb hbox hg;clear hb hbox hg)|((with_reducible refine bU 39 ?_);refine bV (some 8) rfl rfl func39 aB rfl #[.slice A0 l0.length c0] rfl aW ?_;(with_reducible refine (tH.calls k _ _ l0 aP bP av w _ ?kG HR0.out bb.out A2.out).mono ?_);(case kG=>repeat (first|(with_reducible first|exact HB.out|apply ny|apply qm|apply k_|refine iL ?_ XV.out)|exact HB.out));rintro e w8 ⟨vI,rfl,hi,hb,hb2⟩;refine ⟨_,rfl,?_⟩;obtain ⟨a5,HB,yh,ad4,a9⟩:=p_ (bG (aj a5) hb2) <| p_ (hb) <| p_ (hi) <| p_ (aJ.Fe hi (bG (aj a5) hb2) (by decide)) <| a_ (Ne.symm (aJ.Fe hi (bG (aj a5) hb2) (by decide)));(try clear hb);(try clear hb2);(try clear hi))|((with_reducible refine bU 40 ?_);refine bV (some 11) rfl rfl func40 aB rfl #[.pointer (some ⟨vI,0,none⟩)] rfl aW ?_;(with_reducible refine (vO.calls vI aP bP av al am an ao aw ax w _ aZ dA A3.out).mono ?_);rintro e w9 ⟨rfl,hi,hb,hk⟩;refine ⟨_,rfl,?_⟩;obtain ⟨a5,HB,yh⟩:=p_ (aQ.blk hk (g':=ag) (o:=.cells #[.slice none 0 0] 28) (aj a5) a9.out (by simp)) <| p_ (hb) <| a_ (hi);(try clear hb);(try clear hb2);(try clear hk);(try clear hi))|((with_reducible refine bU 41 ?_);refine bV (some 12) rfl rfl func41 aB rfl #[.pointer (some ⟨vI,0,none⟩),.agg #[ah al,ah am,ah an,ah ao]] rfl aW ?_;(with_reducible refine (uN.calls k vI aP aw ax al am an ao aa aN aT w _ aZ dA A4.out).mono ?_);rintro e be ⟨ajI,rfl,ho0,hi,hb,hk⟩;refine ⟨_,rfl,?_⟩;obtain ⟨a5,a6,HB,yh⟩:=p_ (aQ.blk hk (g':=ag) (o:=.cells #[.slice none 0 0] 28) (aj a5) a9.out (by simp)) <| p_ (Kd.dK ho0 (dO dA)) <| p_ (hb) <| a_ (hi);(try clear hb);(try clear hb2);(try clear hk);(try clear hi);(try clear ho0))|((with_reducible refine dG 6 ?_);refine dU 6 (cs:=#[.slice none 0 0]) 28 ?_;intro a8 hg ar hbox hb;have eP:=p_ (Kd.bn (aG a6) hb) <| p_ (bG (aj a5) hb) <| p_ (aJ.below aZ hb) <| p_ (dI dA hb) <| p_ (hbox) <| p_ (qW hg dA) <| p_ (qW hg dA) <| p_ (kW hg (fO (aj a5))) <| p_ (kU hg (fO (aj a5))) <| p_ ((by rw [hg];exact Nat.ne_of_lt (aJ.lt (show aJ w _ vI aP aN aT from aZ)):vI≠a8)) <| a_ ((by rw [hg];exact Nat.ne_of_gt (aJ.lt (show aJ w _ vI aP aN aT from aZ)):a8≠vI));clear a6 a5 yh HB;obtain ⟨a6,a5,yh,HB,a7,b6,adN,ai,ab,Yd,ac⟩:=eP;clear hb hbox hg;obtain ⟨ae,af,b4⟩:=Kd.dJ a6.out;subst b4;obtain ⟨b7,b8,b9,ba⟩:=jE ab ai ac Yd;have BR:=cu a7.out))
 have gX:aA (Kd.R bF 43 (ar.setCell ⟨a8,0,none⟩ (.slice ae aa.length af)) w.heap.size (fun _=>True) (.slice ae aa.length af) aa):=⟨(by (with_reducible repeat (first|apply Kd.dR|apply Kd.dS|apply Kd.bK));exact Kd.bW (aU (Kd.dL a6.out a7.out (by decide))) (fun _ hk=>trivial))⟩
 have lN:aA ((ar.setCell ⟨a8,0,none⟩ (.slice ae aa.length af)).heap[ag]?=some (.cells #[.slice none 0 0] 28)):=⟨bH⟩
 have lQ:aA ((ar.setCell ⟨a8,0,none⟩ (.slice ae aa.length af)).heap[a8]?=some (.cells #[.slice ae aa.length af] 28)):=⟨bH⟩
 have lS:aA (aJ w (ar.setCell ⟨a8,0,none⟩ (.slice ae aa.length af)) vI aP aN aT):=⟨aZ⟩
 have lT:aA (Below w.heap.size w (ar.setCell ⟨a8,0,none⟩ (.slice ae aa.length af))):=⟨dA⟩
 (try clear a6)
 (try clear a5)
 (try clear a7)
 (try clear yh)
 (try clear HB)
 generalize (ar.setCell ⟨a8,0,none⟩ (.slice ae aa.length af))=bc at gX lN lQ lS lT ⊢
 have a6:=gX
 have a5:=lN
 have a7:=lQ
 have yh:=lS
 have HB:=lT
 clear gX lN lQ lS lT
 obtain ⟨a6,a5,a7,yh,HB⟩:=p_ (Kd.bK a6.out) <| p_ (gW a5.out) <| p_ (gW a7.out) <| p_ (aJ.drew yh.out) <| a_ (k_ HB.out)
 refine iH (n:=8) (S:=fun w'=>w'.cell? ⟨a8,0,none⟩=some (.slice ae aa.length af)) (ds:=[]) SC aB rfl rfl ((aO a7.out 0).trans rfl) (fun hH=>?_);refine jC (T:=yV.T3) (B:=yV.B3) aB aB (fun aS gJ=>?_)
 generalize bc.drew=fF at a6 a5 a7 yh HB hH ⊢
 refine eY 1 14 #[F_,ak,F_,F_,F_,F_,F_,F_] aS ?_
 refine eY 3 16 #[F_,ak,F_,ak,F_,F_,F_,F_] aS ?_
 refine ng (i:=0) (N:=some 13) (v:=?_) (a':=?_) #[ak,ak,F_,ak,F_,F_,F_,F_] rfl rfl (AA aS.out gJ.out aB) (fun _ _ _ h=>h) (Or.inl ⟨(by rfl),?_⟩) hH ?_ ?_
 rotate_left
 ·intro w' s0
  go_simp
  with_reducible rfl
 rotate_left
 ·simp only [Act.put,List.setIfInBounds_toArray,List.set_cons_zero,List.set_cons_succ,bI,bY]
  rfl
 refine kY 2 (fun K hK=>?_)
 refine iR func44 aB rfl #[.pointer (some ⟨vI,0,none⟩)] (by rfl) rfl rfl aW ?_
 with_reducible refine (rY.calls vI aP aN aT b0 ap aq w _ aZ dA A5.out).mono ?_
 rintro e dM ⟨rfl,hi,hb,hk⟩
 refine ⟨_,rfl,?_⟩
 obtain ⟨a5,a6,a7,HB,yh⟩:=p_ (aQ.blk hk (g':=ag) (o:=.cells #[.slice none 0 0] 28) (aj a5) a9.out (by simp)) <| p_ (Kd.bW (Kd.lY (aJ.apart (show aJ w _ vI aP aN aT from aZ) (aG a6) (by decide)) hk (fun _ h=>h.2)) (fun _ h=>h.1)) <| p_ (aQ.blk hk (g':=a8) (o:=.cells #[.slice ae aa.length af] 28) (aj a7) ac.out (by simp)) <| p_ (hb) <| a_ (hi)
 (try clear hb)
 (try clear hk)
 (try clear hi)
 refine hK.out _ _ ((aO a7.out 0).trans rfl) (fun hH=>?_)
 clear hK K
 refine fD (some 15) ?_
 refine gB (i:=4) (N:=some 17) #[ak,ak,ak,ak,ak,F_,F_,F_] rfl rfl (jW aS.out aB) (by decide) (fun K hK=>?_)
 refine iR func44 aB rfl #[.pointer (some ⟨vI,0,none⟩)] (by rfl) rfl rfl aW ?_
 with_reducible refine (rY.calls vI aP ap aq b1 b2 b3 w _ aZ dA A6.out).mono ?_
 rintro e bd ⟨rfl,hi,hb,hk⟩
 refine ⟨_,rfl,?_⟩
 obtain ⟨a5,a6,a7,HB,yh⟩:=p_ (aQ.blk hk (g':=ag) (o:=.cells #[.slice none 0 0] 28) (aj a5) a9.out (by simp)) <| p_ (Kd.bW (Kd.lY (aJ.apart (show aJ w _ vI aP ap aq from aZ) (aG a6) (by decide)) hk (fun _ h=>h.2)) (fun _ h=>h.1)) <| p_ (aQ.blk hk (g':=a8) (o:=.cells #[.slice ae aa.length af] 28) (aj a7) ac.out (by simp)) <| p_ (hb) <| a_ (hi)
 (try clear hb)
 (try clear hk)
 (try clear hi)
 refine hK.out _ _ ((aO a7.out 0).trans rfl) (fun hH=>?_)
 clear hK K
 refine fD (some 17) ?_
 refine gB (i:=5) (N:=none) #[ak,ak,ak,ak,ak,ak,F_,F_] rfl rfl (jW aS.out aB) (by decide) (fun K hK=>?_)
 have aao:bd.cell? ⟨ag,0,none⟩=some (.slice none 0 0):=(aO a5.out 0).trans rfl
 have Z5:=dF a5.out 0
 obtain ⟨dw,az⟩:=iJ ab ai
 refine jr (w1:=?_) (by rfl) rfl ?_ ?_
 rotate_left
 ·go_simp
  rfl
 refine hK.out _ _ ((aY ab hH)) (fun hH=>?_)
 clear hK K
 refine eY 6 3 #[ak,ak,ak,ak,ak,ak,ak,F_] aS ?_
 refine eY 7 4 #[ak,ak,ak,ak,ak,ak,ak,ak] aS ?_
 refine iF (jB aS.out aB) ?_
 try go_wp2
 refine bodyPost_ret (aci rfl _ _ ag 28 #[.slice ae aa.length af] (0,0) _ rfl bH underlying28 rfl aB) rfl ?_
 exact ⟨_,b_,(by (with_reducible repeat (first|apply Kd.dR|apply Kd.dS|apply Kd.bK));exact Kd.bW (aU (Kd.dL a6.out a5.out (by decide))) (fun _ hk=>trivial)),dA⟩

def Ap.f (l0:List (aC)):Option (List (aC)):=if l0.length < 3518437208883 then some l0 else none
theorem Ap.calls (A0:Option Addr) (c0:Nat) (l0:List (aC)) (r:List (aC)) (w:World) (hr0:Kd.C bF w A0 l0.length l0) (hc0:l0.length≤c0) (h:Ap.f l0=some r) :
  Calls Tryz.prog 94 #[.slice A0 l0.length c0] w fun e w'=>∃ gQ:Value,e=.returned (gQ)∧Kd.R bF 43 w' w.heap.size (fun _=>True) gQ r∧Below w.heap.size w w':=by
 have hl:l0.length < 3518437208883∧l0=r:=by
  unfold Ap.f at h
  split at h
  ·exact ⟨(by assumption),cZ h⟩
  ·cases h
 obtain ⟨hl,rfl⟩:=hl
 clear h
 have HR0:=m_ hr0
 clear hr0 hc0
 have fM:∀ (w:World) (a:Option Addr) (n c n' c':Nat),(binOp .eql 26 (.slice a n c) (.slice none n' c')).run Tryz.prog w=.ok (.bool a.isNone) w:=fun w a n c n' c'=>Lib.run_eql_slice_nil w _ _ a n c n' c' underlying26
 rcases A0 with _|ad
 ·have hn:l0=[]:=by
   rcases Nat.eq_zero_or_pos l0.length with h0|h0
   ·exact List.eq_nil_of_length_eq_zero h0
   ·obtain ⟨ad,h,_⟩:=HR0.out.2.2 h0
    cases h
  subst hn
  clear HR0
  go_enter func94,ntmps94
  go_wp2
  go_ret
  exact ⟨_,rfl,Kd.Gg _ _ _ _ _,Below.refl _ _⟩
 ·have HL:=m_ hl
  clear hl
  go_enter func94,ntmps94
  go_wp2_with ((with_reducible refine wW (b:=.append) (xs:=#[.tmp 5,.tmp 6]) rfl ?_);at_builtin;refine Kd.Eu bF (w0:=w) w.heap.size rfl (.tmp 5) (.tmp 6) 26 43 (.agg #[(.string ⟨#[]⟩),(.bool false),(.string ⟨#[]⟩)]) 40 rfl underlying26 o8 rfl (by decide) (by omega) _ [] l0 _ _ _ (fun _=>True) (fun _=>False) rfl rfl ?ku ?aR (fun _ _ h=>h) (fun _ h=>h.elim) (fun _ _=>trivial) ?lu ?kC ?aL ?_;(case ku=>exact ⟨fun _ _=>trivial,[],World.ownsRow_made w #[] 0 (Nat.le_refl _) (Nat.zero_le _) (by simp),bM.none _ _⟩);(case aR=>exact Kd.jJ HR0.out _);(case lu=>exact (Below.refl _ _).alloc (Nat.le_refl _) _);(case kC=>simp);(case aL=>have:=HL.out;simp only [List.length_nil];omega);intro v1 w1 hR hB hg hat)
  go_ret
  exact ⟨_,rfl,(by simpa using hR),hB⟩

def E5.f (a5:List (aC)):Option ((List (aC))):=(Ap.f a5).bind fun a6=>(some a6)
theorem E5.calls (a9:Option Addr) (aa:Nat) (aH:List (aC)) (r:List (aC)) (w:World) (ab:Kd.C bF w a9 aH.length aH) (ac:aH.length≤aa) (h:E5.f aH=some r) :
  Calls Tryz.prog 45 #[.agg #[.slice a9 aH.length aa]] w fun e w'=>∃ gQ:Value,e=.returned (.agg #[gQ])∧Kd.R bF 43 w' w.heap.size (fun _=>True) gQ r∧Below w.heap.size w w':=by
 have oq:=underlying28
 have lF:=m_ ab
 have af:=m_ ac
 clear ab ac
 have HB:=m_ (Below.refl w.heap.size w)
 unfold E5.f at h
 have H:=h
 clear h
 obtain ⟨ag,A2,H⟩:=bd_ H
 obtain rfl:=cZ H
 go_enter func45,ntmps45
 go_wp2_with (first|((with_reducible refine dG 1 ?_);refine dU 1 (cs:=#[.slice a9 aH.length aa]) 28 ?_;intro aT hg w3 hbox hb;obtain ⟨HB,a5,al,am⟩:=kE ay hb hbox hg;clear hb hbox hg)|((with_reducible refine dG 2 ?_);refine dU 2 (cs:=#[.slice none 0 0]) 28 ?_;intro aP hg w4 hbox hb;obtain ⟨a5,HB,a6,an,ao,a7,a8⟩:=qj (aj a5) ay hb hbox hg;clear hb hbox hg;obtain ⟨ai,aN⟩:=iJ a7 a8;have adv:=cu a5.out)|((with_reducible refine bU 94 ?_);refine bV (some 5) rfl rfl func94 aB rfl #[.slice a9 aH.length aa] rfl aW ?_;(with_reducible refine (Ap.calls _ _ aH ag _ sD af.out A2.out).mono ?_);rintro e w7 ⟨ajJ,rfl,ho0,hb⟩;refine ⟨_,rfl,?_⟩;obtain ⟨ae,a5,a6,HB⟩:=p_ (Kd.dK ho0 (dO ay)) <| uF (aj a5) (aj a6) ay hb;(try clear hb);(try clear ho0);obtain ⟨ap,aq,ar⟩:=Kd.dJ ae.out;subst ar;have Ee:=cu a6.out))
 refine bodyPost_ret (results_cell_row rfl _ _ aP 28 #[.slice ap ag.length aq] (0,0) _ rfl bH underlying28 rfl aB) rfl ?_
 exact ⟨_,b_,(by (with_reducible repeat (first|apply Kd.dR|apply Kd.dS|apply Kd.bK));exact Kd.bW (aU (Kd.dL ae.out a6.out (by decide))) (fun _ hk=>trivial)),ay⟩

def strings_HasPrefix.f (a0:ByteArray) (a1:ByteArray):Option (Bool):=some (Lib.hasPrefix a0.data.toList a1.data.toList)
theorem strings_HasPrefix.calls (a0:ByteArray) (a1:ByteArray) (r:Bool) (w:World) (h:strings_HasPrefix.f a0 a1=some r) :
  Calls Tryz.prog 102 #[.string a0,.string a1] w fun e w'=>e=.returned (.bool r)∧Below w.heap.size w w':=by
 unfold strings_HasPrefix.f at h
 obtain rfl:=cZ h
 refine (Tryz.strings_HasPrefix a0 a1 w).mono ?_
 rintro e w' ⟨rfl,rfl⟩
 exact ⟨rfl,Below.refl _ _⟩

def strings_HasSuffix.f (a0:ByteArray) (a1:ByteArray):Option (Bool):=if a0.size≤9223372036854775807 then some (Lib.hasSuffix a0.data.toList a1.data.toList) else none
theorem strings_HasSuffix.calls (a0:ByteArray) (a1:ByteArray) (r:Bool) (w:World) (h:strings_HasSuffix.f a0 a1=some r) :
  Calls Tryz.prog 103 #[.string a0,.string a1] w fun e w'=>e=.returned (.bool r)∧Below w.heap.size w w':=by
 unfold strings_HasSuffix.f at h
 split at h
 case isFalse=>cases h
 case isTrue hc =>
 obtain rfl:=cZ h
 refine (Tryz.strings_HasSuffix a0 a1 w hc).mono ?_
 rintro e w' ⟨rfl,rfl⟩
 exact ⟨rfl,Below.refl _ _⟩

def strings_Contains.f (a0:ByteArray) (a1:ByteArray):Option (Bool):=if a0.size < 4294967281 then some (Lib.contains a0.data.toList a1.data.toList) else none
theorem strings_Contains.calls (a0:ByteArray) (a1:ByteArray) (r:Bool) (w:World) (oO:jH w) (h:strings_Contains.f a0 a1=some r) :
  Calls Tryz.prog 104 #[.string a0,.string a1] w fun e w'=>e=.returned (.bool r)∧Below w.heap.size w w':=by
 unfold strings_Contains.f at h
 split at h
 case isFalse=>cases h
 case isTrue hc =>
 obtain rfl:=cZ h
 obtain ⟨m,hm⟩:=oO
 refine (Tryz.strings_Contains a0 a1 m w hc hm).mono ?_
 rintro e w' ⟨rfl,rfl⟩
 exact ⟨rfl,Below.refl _ _⟩

def Du.f (a0:Int):Option (Bool):=if a0 ≥ 97 then (if a0≤122 then (some true) else (if a0 ≥ 48 then (if a0≤57 then (some true) else (some (a0 == 47))) else (some (a0 == 47)))) else (if a0 ≥ 48 then (if a0≤57 then (some true) else (some (a0 == 47))) else (some (a0 == 47)))
theorem Du.calls (a0:Int) (r:Bool) (w:World) (h:Du.f a0=some r) :
  Calls Tryz.prog 107 #[.int .i32 a0] w fun e w'=>e=.returned (.bool r)∧nH w w':=by
 unfold Du.f at h
 have H:=h
 clear h
 revert H;refine gI (fun a5 H=>?_) fun a5 H=>?_
 rotate_left
 ·revert H;refine gI (fun a6 H=>?_) fun a6 H=>?_
  rotate_left
  ·obtain rfl:=cZ H
   go_enter func107,ntmps107
   go_wp2
   go_ret
   exact ⟨bg,jS⟩
  revert H;refine gI (fun a7 H=>?_) fun a7 H=>?_
  ·obtain rfl:=cZ H
   go_enter func107,ntmps107
   go_wp2
   go_ret
   exact ⟨bg,jS⟩
  obtain rfl:=cZ H
  go_enter func107,ntmps107
  go_wp2
  go_ret
  exact ⟨bg,jS⟩
 revert H;refine gI (fun a8 H=>?_) fun a8 H=>?_
 ·obtain rfl:=cZ H
  go_enter func107,ntmps107
  go_wp2
  go_ret
  exact ⟨bg,jS⟩
 revert H;refine gI (fun a9 H=>?_) fun a9 H=>?_
 rotate_left
 ·obtain rfl:=cZ H
  go_enter func107,ntmps107
  go_wp2
  go_ret
  exact ⟨bg,jS⟩
 revert H;refine gI (fun aa H=>?_) fun aa H=>?_
 ·obtain rfl:=cZ H
  go_enter func107,ntmps107
  go_wp2
  go_ret
  exact ⟨bg,jS⟩
 obtain rfl:=cZ H
 go_enter func107,ntmps107
 go_wp2
 go_ret
 exact ⟨bg,jS⟩

def yR.f (a0:Int):Option (Bool):=(Du.f a0).bind fun a5=>(some (!a5))
theorem yR.calls (a0:Int) (r:Bool) (w:World) (h:yR.f a0=some r) :
  Calls Tryz.prog 106 #[.int .i32 a0] w fun e w'=>e=.returned (.bool r)∧nH w w':=by
 unfold yR.f at h
 have H:=h
 clear h
 obtain ⟨a5,A2,H⟩:=bd_ H
 obtain rfl:=cZ H
 go_enter func106,ntmps106
 go_wp2_with (first|((with_reducible refine bU 107 ?_);refine bV (some 4) rfl rfl func107 aB rfl #[.int .i32 a0] rfl aW ?_;(with_reducible refine (Du.calls a0 a5 _ A2.out).mono ?_);rintro e w' ⟨rfl,⟨nd,rfl⟩⟩;refine ⟨_,rfl,?_⟩))
 go_ret
 exact ⟨bg,jS⟩

theorem strings_ContainsFunc.tot (r:Int):yR.f r=some ((yR.f r).getD false):=by
 unfold yR.f Du.f
 repeat' (first|rfl|(dsimp only [Option.bind_some];done)|split)
def strings_ContainsFunc.f (a0:ByteArray) (a1:Unit):Option (Bool):=some (decide (0≤Lib.idxFunc (fun r=>(yR.f (r:Int)).getD false) true a0))
theorem strings_ContainsFunc.calls (a0:ByteArray) (a1:Unit) (r:Bool) (w:World) (h:strings_ContainsFunc.f a0 a1=some r) :
  Calls Tryz.prog 105 #[.string a0,.func (.func 106) #[] #[]] w fun e w'=>e=.returned (.bool r)∧Below w.heap.size w w':=by
 obtain rfl:=cZ h
 exact Tryz.strings_ContainsFunc 106 #[] (enters_of func106 aB rfl) (fun r=>(yR.f (r:Int)).getD false) a0 w (fun W r _=>by
  unfold FnGives
  refine (yR.calls (r:Int) _ W (strings_ContainsFunc.tot _)).mono ?_
  rintro e w' ⟨rfl,⟨q,rfl⟩⟩
  exact ⟨rfl,q,rfl⟩)

def strings_Split.f (a0:ByteArray) (a1:ByteArray):Option (List ByteArray):=if a0.size < 4294967281∧1≤a1.size then some (Lib.splitB a1 0 (Lib.countB a0 a1) a0) else none
theorem strings_Split.calls (a0:ByteArray) (a1:ByteArray) (r:List ByteArray) (w:World) (oO:jH w) (h:strings_Split.f a0 a1=some r) :
  Calls Tryz.prog 108 #[.string a0,.string a1] w fun e w'=>∃ gQ:Value,e=.returned (gQ)∧Kd.R Kd.string 9 w' w.heap.size (fun _=>True) gQ r∧Below w.heap.size w w':=by
 unfold strings_Split.f at h
 split at h
 case isFalse=>cases h
 case isTrue hc =>
 obtain ⟨hc,h1⟩:=hc
 obtain rfl:=cZ h
 obtain ⟨m,hm⟩:=oO
 have hl:=Lib.splitB_all a1 h1 0 _ a0 rfl
 have hle:=Lib.countB_le a1 h1 a0.size a0 (Nat.le_refl _)
 refine (Tryz.strings_Split a0 a1 m w hc hm h1).mono ?_
 rintro e w' ⟨rfl,rfl⟩
 refine ⟨_,rfl,?_,(Below.refl _ _).alloc (Nat.le_refl _) _⟩
 rw [← hl]
 exact XP.Yp w 9 _ (by omega)

def H7.f (a0:ByteArray):Option (Bool):=some (decide ((a0.size:Int) > 7))
theorem H7.calls (a0:ByteArray) (r:Bool) (w:World) (h:H7.f a0=some r) :
  Calls Tryz.prog 110 #[.string a0] w fun e w'=>e=.returned (.bool r)∧nH w w':=by
 unfold H7.f at h
 have H:=h
 clear h
 obtain rfl:=cZ H
 go_enter func110,ntmps110
 go_wp2
 go_ret
 exact ⟨bg,jS⟩

def uY.l0:Nat→List ByteArray→Int→Int→Option (Int)
 | 0,_,_,_=>none
 | k+1,x0,x7,h_=>if h_ < x7 then (if 0≤h_ then (if h_ < (x0.length:Int) then ((H7.f (pW ByteArray.empty x0 h_)).bind fun a5=>(if a5=true then (some h_) else (uY.l0 k x0 x7 (wrap64 (h_+1))))) else (none)) else (none)) else (some (-1))
def uY.f (k:Nat) (l0:List ByteArray) (a1:Unit):Option (Int):=uY.l0 k l0 (l0.length:Int) 0
theorem uY.calls (k:Nat) (A0:Option Addr) (c0:Nat) (l0:List ByteArray) (a1:Unit) (r:Int) (w:World) (hr0:Kd.C Kd.string w A0 l0.length l0) (hc0:l0.length≤c0) (h:uY.f k l0 a1=some r) :
  Calls Tryz.prog 139 #[.slice A0 l0.length c0,.func (.func 110) #[] #[]] w fun e w'=>e=.returned (ah r)∧nH w w':=by
 have HR0:=m_ hr0
 have ag:=m_ hc0
 clear hr0 hc0
 unfold uY.f at h
 have H:=h
 clear h
 have H':=m_ H
 clear H
 go_enter func139,ntmps139
 go_wp2
 go_loopg [8] k (fun kq v8 w'=>∃ (dD:Int),v8=ah dD∧aA (uY.l0 kq l0 (l0.length:Int) dD=some r)∧aA (kq≤k)∧nH w w')
 case atStart=>exact ⟨(0),bg,H',⟨Nat.le_refl _⟩,jS⟩
 case round =>
 clear H'
 obtain ⟨dD,rfl,HA,iq,⟨m1,rfl⟩⟩:=hrel
 cases gk with
 | zero=>exact absurd HA.out (by simp [uY.l0])
 | succ k1 =>
 obtain ⟨H⟩:=HA
 simp only [uY.l0] at H
 revert H;refine gI (fun a9 H=>?_) fun a9 H=>?_
 rotate_left
 ·obtain rfl:=cZ H
  go_wp2
  go_ret
  exact ⟨bg,jS⟩
 obtain ⟨ae,H⟩:=fU H
 obtain ⟨af,H⟩:=fU H
 obtain ⟨a8,A6,H⟩:=bd_ H
 have ab:=m_ H
 clear H
 have a6:0≤(dD:Int):=bC bD
 have a7:dD < (l0.length:Int):=bC bD
 obtain ⟨ac,aa,a5⟩:=Kd.yw HR0.out dD a6 a7
 cases aa
 replace a6:=eq_true a6
 replace a7:=eq_true a7
 go_upto_if 16 with (first|(go_at_call 110;(with_reducible refine (H7.calls (pW ByteArray.empty l0 dD) a8 _ A6.out).mono ?_);rintro e w' ⟨rfl,⟨nd,rfl⟩⟩))
 (try simp only [Act.put,List.setIfInBounds_toArray,List.set_cons_zero,List.set_cons_succ])
 (try clear a5)
 obtain ⟨H⟩:=ab
 by_cases c8:a8=true
 ·subst c8
  rw [if_pos rfl] at H
  obtain rfl:=cZ H
  go_wp2
  go_ret
  exact ⟨bg,jS⟩
 replace c8:=Bool.eq_false_iff.mpr c8
 subst c8
 rw [if_neg iO] at H
 have H':=m_ H
 clear H
 go_wp2
 go_roundg k1
 case measure=>have:=iq.out;omega
 case rel=>exact ⟨(wrap64 (dD+1)),bg,H',⟨nT⟩,jS⟩

def DU.f (k:Nat) (l0:List ByteArray) (a1:Unit):Option (Bool):=(uY.f k l0 a1).bind fun a5=>(some (decide (a5 ≥ 0)))
theorem DU.calls (k:Nat) (A0:Option Addr) (c0:Nat) (l0:List ByteArray) (a1:Unit) (r:Bool) (w:World) (hr0:Kd.C Kd.string w A0 l0.length l0) (hc0:l0.length≤c0) (h:DU.f k l0 a1=some r) :
  Calls Tryz.prog 109 #[.slice A0 l0.length c0,.func (.func 110) #[] #[]] w fun e w'=>e=.returned (.bool r)∧nH w w':=by
 have HR0:=m_ hr0
 have a6:=m_ hc0
 clear hr0 hc0
 unfold DU.f at h
 have H:=h
 clear h
 obtain ⟨a5,A3,H⟩:=bd_ H
 obtain rfl:=cZ H
 go_enter func109,ntmps109
 go_wp2_with (first|((with_reducible refine bU 139 ?_);refine bV (some 7) rfl rfl func139 aB rfl #[.slice A0 l0.length c0,.func (.func 110) #[] #[]] rfl aW ?_;(with_reducible refine (uY.calls k _ _ l0 a1 a5 _ PU a6.out A3.out).mono ?_);rintro e w' ⟨rfl,⟨nd,rfl⟩⟩;refine ⟨_,rfl,?_⟩))
 go_ret
 exact ⟨bg,jS⟩

end Go.Proofs.YthejdhjpbpamoaaGreatDoor.jM
