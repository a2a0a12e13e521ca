/- Contracts of Go functions: each call returns what the Lean function beside it computes. Conditions: as each theorem states them. -/
import Derived.Test.YthejdhjpbpamoaaGreatDoorPkFnCodes
import Derived.Test.YthejdhjpbpamoaaGreatDoorPFnCodesx1
import Derived.Test.YthejdhjpbpamoaaGreatDoorPFnCodesx3
import Derived.Test.YthejdhjpbpamoaaGreatDoorPFnCodesx15
namespace Go.Proofs.YthejdhjpbpamoaaGreatDoor.jD
open Go.RowKit Go.Proofs.YthejdhjpbpamoaaGreatDoorW.iw Go.Proofs.YthejdhjpbpamoaaGreatDoorW.lH Go.Proofs.YthejdhjpbpamoaaGreatDoorW.oO Go.Proofs.Tryz
attribute [local go_sem] qw qB qA qF qy qE qx qC   -- for this text's walks alone
set_option linter.unusedVariables false
set_option maxHeartbeats 8000000
set_option maxRecDepth 100000
set_option linter.unusedSimpArgs false

def Ar.f (k:Nat) (ae:Int) (af:Int) (ag:Int) (aK:Int) (a6:List (aF)) (a7:Int) (a8:ByteArray) (a9:ByteArray) (aa:Int) (ab:Int) (ac:ByteArray):Option ((List (aF)) × Int × ByteArray × Int × Bool × List ByteArray):=(JA.f a7 a8 a9 aa ab ac).bind fun ai=>(if ai=true then ((lT.f k ae af ag aK a6 a7 a8 a9 aa ab ac (⟨#[]⟩:ByteArray) false (⟨#[]⟩:ByteArray)).bind fun a5=>(if a5.2.1=0 then ((xP.f a5.1).bind fun aN=>(some (aN,a5.2.1,a5.2.2.1,a5.2.2.2.1,a5.2.2.2.2.1,a5.2.2.2.2.2))) else ((xP.f a6).bind fun aQ=>(some (aQ,a5.2.1,(⟨#[]⟩:ByteArray),0,false,([]:List ByteArray)))))) else ((xP.f a6).bind fun al=>(some (al,16,(⟨#[]⟩:ByteArray),0,false,([]:List ByteArray)))))
theorem Ar.calls (k:Nat) (cl:Int) (cm:Int) (cn:Int) (co:Int) (bv:Option Addr) (bw:Nat) (cO:List (aF)) (bx:Int) (bz:ByteArray) (ca:ByteArray) (cc:Int) (cd:Int) (ce:ByteArray) (r1:List (aF)) (r2:Int) (r3:ByteArray) (r4:Int) (r5:Bool) (r6:List ByteArray) (w:World) (jV:iK w) (dq:Kd.C aU w bv cO.length cO) (dr:cO.length≤bw) (h:Ar.f k cl cm cn co cO bx bz ca cc cd ce=some (r1,r2,r3,r4,r5,r6)) :
  Calls Tryz.prog 22 #[.agg #[ah cl,ah cm,ah cn,ah co],.agg #[.slice bv cO.length bw],.agg #[ah bx,.string bz,.string ca,ah cc,ah cd,.string ce]] w fun e w'=>∃ eP lY:Value,e=.returned (.tuple #[.agg #[eP],.agg #[ah r2,.string r3,ah r4,.bool r5,lY]])∧Kd.R aU 43 w' w.heap.size (fun _=>True) eP r1∧Kd.R Kd.string 9 w' w.heap.size (fun _=>True) lY r6∧Below w.heap.size w w':=by
 have Bq:=underlying25
 have mF:=underlying28
 have Bv:=underlying45
 have xM:=underlying49
 have DT:=underlying90
 have yP:=m_ dq
 have d9:=m_ dr
 clear dq dr
 have HD:=m_ jV
 clear jV
 have HB:=m_ (Below.refl w.heap.size w)
 unfold Ar.f at h
 have H:=h
 clear h
 obtain ⟨dz,A4,H⟩:=bd_ H
 have et:=m_ H
 clear H
 go_enter func22,ntmps22
 go_upto_if 12 with (first|((with_reducible refine dJ 3 ?_);refine dO 3 (cs:=#[ah cl,ah cm,ah cn,ah co]) 25 ?_;intro cf hg w6 hbox hb;obtain ⟨HB,a8,e0,tY⟩:=kL au hb hbox hg;clear hb hbox hg)|((with_reducible refine dJ 4 ?_);refine dO 4 (cs:=#[.slice bv cO.length bw]) 28 ?_;intro bh hg w7 hbox hb;obtain ⟨a8,HB,a7,e3,ev,cg,ch⟩:=pq (ak a8) au hb hbox hg;clear hb hbox hg)|((with_reducible refine dJ 5 ?_);refine dO 5 (cs:=#[ah bx,.string bz,.string ca,ah cc,ah cd,.string ce]) 45 ?_;intro ci hg w8 hbox hb;obtain ⟨a8,a7,HB,aa,e4,ew,cj,ck,b9,ba⟩:=pU (ak a8) (ak a7) au hb hbox hg;clear hb hbox hg)|((with_reducible refine dJ 6 ?_);refine dO 6 (cs:=#[.slice none 0 0]) 28 ?_;intro ap hg w9 hbox hb;obtain ⟨a8,a7,aa,HB,a9,e5,ex,aq,ar,ag,aW,aK,ai⟩:=vI (ak a8) (ak a7) (ak aa) au hb hbox hg;clear hb hbox hg)|((with_reducible refine dJ 7 ?_);refine dO 7 (cs:=#[ah 0,.string (⟨#[]⟩:ByteArray),ah 0,.bool false,.slice none 0 0]) 49 ?_;intro af hg fi hbox hb;obtain ⟨a8,a7,aa,a9,HB,a6,e6,ey,av,aw,ac,ax,aN,aQ,bb,bc⟩:=EU (ak a8) (ak a7) (ak aa) (ak a9) au hb hbox hg;clear hb hbox hg;obtain ⟨bi,bj,az,b0,al,am,an,ao⟩:=iH ck cj ba b9 aK ai aN aQ;have ej:=jK aa.out)|((with_reducible refine bT 67 ?_);refine bU (some 11) rfl rfl func67 aB rfl #[.agg #[ah bx,.string bz,.string ca,ah cc,ah cd,.string ce]] rfl aX ?_;(with_reducible refine (JA.calls bx bz ca cc cd ce dz _ A4.out).mono ?_);rintro e fj ⟨rfl,hb⟩;refine ⟨_,rfl,?_⟩;obtain ⟨a8,a7,aa,a9,a6,HB⟩:=oD (ak a8) (ak a7) (ak aa) (ak a9) (ak a6) au hb;(try clear hb)))
 (try simp only [Act.put,List.setIfInBounds_toArray,List.set_cons_zero,List.set_cons_succ])
 (try clear bj b0 bi az al an am ao)
 (try clear ej)
 obtain ⟨H⟩:=et
 by_cases ei:dz=true
 rotate_left
 ·replace ei:=Bool.eq_false_iff.mpr ei
  subst ei
  rw [if_neg iI] at H
  obtain ⟨e7,fb,H⟩:=bd_ H
  simp only [Option.some.injEq,Prod.mk.injEq] at H
  obtain ⟨rfl,rfl,rfl,rfl,rfl,rfl⟩:=H
  obtain ⟨cp,cq,b0,az,b1,b2,b3,b4⟩:=iH ch cg b9 ba ag aW ac ax
  have aaY:=dh a7.out
  go_wp2_with (first|((with_reducible refine bT 45 ?_);refine bU (some 14) rfl rfl func45 aB rfl #[.agg #[.slice bv cO.length bw]] rfl aX ?_;(with_reducible refine (xP.calls _ _ cO e7 _ pG d9.out fb.out).mono ?_);rintro e fk ⟨azN,rfl,ho0,hb⟩;refine ⟨_,rfl,?_⟩;obtain ⟨dt,a8,a7,aa,a9,a6,HB⟩:=p_ (Kd.dI ho0 (cZ au)) <| oD (ak a8) (ak a7) (ak aa) (ak a9) (ak a6) au hb;(try clear hb);(try clear hk);(try clear ho0);obtain ⟨ek,el,em⟩:=Kd.dK dt.out;subst em;obtain ⟨b5,b6,am,al,cr,ct⟩:=kJ ar aq ai aK bb bc;have aBu:=dh a9.out;obtain ⟨b7,b8,ao,an⟩:=g_ aw av aQ aN;have fc:=kK a6.out))
  refine bodyPost_ret (iR rfl _ _ ap af 28 49 #[.slice ek e7.length el] #[ah 16,.string (⟨#[]⟩:ByteArray),ah 0,.bool false,.slice none 0 0] (0,0) (0,0) _ _ rfl aT underlying28 rfl aB rfl aT underlying49 rfl aB) rfl ?_
  exact ⟨_,_,bM,(by (with_reducible repeat (first|apply Kd.dB|apply Kd.dD|apply Kd.aZ));exact Kd.bn (aH (aH (aH (aH (aH (aH (Kd.bQ (Kd.bQ dt.out a9.out (by decide)) a6.out (by decide)) (fun _ hk=>hk.1.2))))))) (fun _ hk=>trivial)),kD,au⟩
 subst ei
 rw [if_pos rfl] at H
 obtain ⟨⟨ny,oh,oK,oL,oM,mO⟩,fd,H⟩:=bd_ H
 dsimp only at H
 have e8:=m_ H
 clear H
 obtain ⟨cq,cp,bj,bi,b6,b5,b8,b7⟩:=iH cg ch cj ck aq ar av aw
 have e9:=yh a8.out
 obtain ⟨b0,az,b1,b2,b3,b4⟩:=kJ b9 ba ag aW ac ax
 have Kt:=dh a7.out
 obtain ⟨al,am,an,ao⟩:=g_ aK ai aN aQ
 have ea:=jK aa.out
 go_upto_if 26 with (first|((with_reducible refine bT 68 ?_);refine bU (some 21) rfl rfl func68 aB rfl #[.agg #[ah cl,ah cm,ah cn,ah co,.slice bv cO.length bw,ah bx,.string bz,.string ca,ah cc,ah cd,.string ce,.string (⟨#[]⟩:ByteArray),.bool false,.string (⟨#[]⟩:ByteArray)]] rfl aX ?_;(with_reducible refine (lT.calls k cl cm cn co (fun ay=>ay < w.heap.size) _ _ cO bx bz ca cc cd ce (⟨#[]⟩:ByteArray) false (⟨#[]⟩:ByteArray) ny oh oK oL oM mO _ (iK.below HD.out au) (Kd.ab5 d9.out (Kd.Iq (Kd.aa_ ajc yP.out) au)) fd.out).mono ?_);rintro e fl ⟨azO,akS,rfl,ho0,ho1,hb⟩;refine ⟨_,rfl,?_⟩;have gy:=p_ (Kd.KU (Kd.iL (ok':=fun ay=>some ay≠(akS:Value).ownBlock∧ay≠cf∧ay≠bh∧ay≠ci∧ay≠ap∧ay≠af) ho0 (fun ay mZ=>⟨mZ.2,Or.elim mZ.1 (fun hs_=>fun e_=>Nat.not_le.2 hs_ (by rw [e_];exact e0.out)) (fun mD=>(Kd.tZ (g:=cf) (o:=.cells #[ah cl,ah cm,ah cn,ah co] 25) (ak a8) ay mD)),Or.elim mZ.1 (fun hs_=>fun e_=>Nat.not_le.2 hs_ (by rw [e_];exact e3.out)) (fun mD=>(Kd.tZ (g:=bh) (o:=.cells #[.slice bv cO.length bw] 28) (ak a7) ay mD)),Or.elim mZ.1 (fun hs_=>fun e_=>Nat.not_le.2 hs_ (by rw [e_];exact e4.out)) (fun mD=>(Kd.tZ (g:=ci) (o:=.cells #[ah bx,.string bz,.string ca,ah cc,ah cd,.string ce] 45) (ak aa) ay mD)),Or.elim mZ.1 (fun hs_=>fun e_=>Nat.not_le.2 hs_ (by rw [e_];exact e5.out)) (fun mD=>(Kd.tZ (g:=ap) (o:=.cells #[.slice none 0 0] 28) (ak a9) ay mD)),Or.elim mZ.1 (fun hs_=>fun e_=>Nat.not_le.2 hs_ (by rw [e_];exact e6.out)) (fun mD=>(Kd.tZ (g:=af) (o:=.cells #[ah 0,.string (⟨#[]⟩:ByteArray),ah 0,.bool false,.slice none 0 0] 49) (ak a6) ay mD))⟩)) (cZ au)) <| p_ (Kd.dI (Kd.bn (ok':=fun ay=>True) ho1 (fun _ mZ=>trivial)) (cZ au)) <| oD (ak a8) (ak a7) (ak aa) (ak a9) (ak a6) au hb;clear a8 a7 aa a9 a6 HB;obtain ⟨uo,sS,a8,a7,aa,a9,a6,HB⟩:=gy;(try clear hb);(try clear ho1))|((with_reducible refine dJ 8 ?_);refine dO 8 (cs:=#[.slice none 0 0]) 28 ?_;intro og hg fm hbox hb;obtain ⟨uo,sS,a8,a7,aa,a9,a6,HB,tC,ez,f7,cv,cw,cx,cy,cz,d0,bd,bH,be,ae⟩:=p_ (Kd.sV (Kd.vT Og og (Nat.le_of_eq hg.symm)) hb) <| p_ (Kd.dw (aJ sS) hb) <| Bo (ak a8) (ak a7) (ak aa) (ak a9) (ak a6) au hb hbox hg;clear hb hbox hg)|((with_reducible refine dJ 9 ?_);refine dO 9 (cs:=#[ah 0,.string (⟨#[]⟩:ByteArray),ah 0,.bool false,.slice none 0 0]) 49 ?_;intro dX hg bu hbox hb;obtain ⟨uo,sS,a8,a7,aa,a9,a6,tC,HB,tH,f8,fa,d1,d2,d3,d4,d5,d6,fA,ab,dM,a5,d7,d8⟩:=p_ (Kd.sV (Kd.vT Og dX (Nat.le_of_eq hg.symm)) hb) <| p_ (Kd.dw (aJ sS) hb) <| acJ (ak a8) (ak a7) (ak aa) (ak a9) (ak a6) (ak tC) au hb hbox hg;clear hb hbox hg;obtain ⟨jf,jg,en⟩:=Kd.KW uo.out;subst en;obtain ⟨da,db,dd,de,df,dg,bl,bm⟩:=iH cw cv cy cx d0 cz bH bd;obtain ⟨fB,bo,lN,di⟩:=g_ ae be d7 d8;have UL:=dh tC.out;obtain ⟨dj,dk,dl,dm,lF,dp,bp,bq⟩:=iH d2 d1 d4 d3 d6 d5 ab fA;obtain ⟨br,bs⟩:=gB a5 dM;have eb:=kK tH.out;obtain ⟨jC,gG,eo⟩:=Kd.dK sS.out;subst eo))
 (try simp only [Act.put,List.setIfInBounds_toArray,List.set_cons_zero,List.set_cons_succ])
 (try clear cq bj b6 b8 db dk cp b0 b1 b3 de dm bi az al an dg dp b5 b2 am bm bq b7 b4 ao bo bs da dd df bl fB lN dj dl lF bp br di)
 (try clear e9)
 (try clear ea)
 (try clear UL)
 (try clear eb)
 (try clear UL)
 obtain ⟨H⟩:=e8
 revert H;refine fH (fun jU H=>?_) fun jU H=>?_
 ·have iO:=fZ jU
  have ec:=f_ jU
  clear jU
  try simp only [aY,bf,iO]
  obtain ⟨ed,fe,H⟩:=bd_ H
  simp only [Option.some.injEq,Prod.mk.injEq] at H
  obtain ⟨rfl,rfl,rfl,rfl,rfl,rfl⟩:=H
  try go_wp2
  have eF:aA (Kd.V aU 43 ((((((bu.setCell ⟨og,0,none⟩ (.slice jf ny.length jg)).setCell ⟨dX,0,none⟩ (ah oh)).setCell ⟨dX,1,none⟩ (.string oK)).setCell ⟨dX,2,none⟩ (ah oL)).setCell ⟨dX,3,none⟩ (.bool oM)).setCell ⟨dX,4,none⟩ (.slice jC mO.length gG)) w.heap.size (fun ay=>some ay≠(.slice jC mO.length gG:Value).ownBlock∧ay≠cf∧ay≠bh∧ay≠ci∧ay≠ap∧ay≠af∧ay≠og∧ay≠dX) (.slice jf ny.length jg) ny):=⟨aaH⟩
  have jF:aA (Kd.R Kd.string 9 ((((((bu.setCell ⟨og,0,none⟩ (.slice jf ny.length jg)).setCell ⟨dX,0,none⟩ (ah oh)).setCell ⟨dX,1,none⟩ (.string oK)).setCell ⟨dX,2,none⟩ (ah oL)).setCell ⟨dX,3,none⟩ (.bool oM)).setCell ⟨dX,4,none⟩ (.slice jC mO.length gG)) w.heap.size (fun _=>True) (.slice jC mO.length gG) mO):=⟨aal⟩
  have jG:aA (((((((bu.setCell ⟨og,0,none⟩ (.slice jf ny.length jg)).setCell ⟨dX,0,none⟩ (ah oh)).setCell ⟨dX,1,none⟩ (.string oK)).setCell ⟨dX,2,none⟩ (ah oL)).setCell ⟨dX,3,none⟩ (.bool oM)).setCell ⟨dX,4,none⟩ (.slice jC mO.length gG)).heap[cf]?=some (.cells #[ah cl,ah cm,ah cn,ah co] 25)):=⟨aT⟩
  have jH:aA (((((((bu.setCell ⟨og,0,none⟩ (.slice jf ny.length jg)).setCell ⟨dX,0,none⟩ (ah oh)).setCell ⟨dX,1,none⟩ (.string oK)).setCell ⟨dX,2,none⟩ (ah oL)).setCell ⟨dX,3,none⟩ (.bool oM)).setCell ⟨dX,4,none⟩ (.slice jC mO.length gG)).heap[bh]?=some (.cells #[.slice bv cO.length bw] 28)):=⟨aT⟩
  have jI:aA (((((((bu.setCell ⟨og,0,none⟩ (.slice jf ny.length jg)).setCell ⟨dX,0,none⟩ (ah oh)).setCell ⟨dX,1,none⟩ (.string oK)).setCell ⟨dX,2,none⟩ (ah oL)).setCell ⟨dX,3,none⟩ (.bool oM)).setCell ⟨dX,4,none⟩ (.slice jC mO.length gG)).heap[ci]?=some (.cells #[ah bx,.string bz,.string ca,ah cc,ah cd,.string ce] 45)):=⟨aT⟩
  have jL:aA (((((((bu.setCell ⟨og,0,none⟩ (.slice jf ny.length jg)).setCell ⟨dX,0,none⟩ (ah oh)).setCell ⟨dX,1,none⟩ (.string oK)).setCell ⟨dX,2,none⟩ (ah oL)).setCell ⟨dX,3,none⟩ (.bool oM)).setCell ⟨dX,4,none⟩ (.slice jC mO.length gG)).heap[ap]?=some (.cells #[.slice none 0 0] 28)):=⟨aT⟩
  have kW:aA (((((((bu.setCell ⟨og,0,none⟩ (.slice jf ny.length jg)).setCell ⟨dX,0,none⟩ (ah oh)).setCell ⟨dX,1,none⟩ (.string oK)).setCell ⟨dX,2,none⟩ (ah oL)).setCell ⟨dX,3,none⟩ (.bool oM)).setCell ⟨dX,4,none⟩ (.slice jC mO.length gG)).heap[af]?=some (.cells #[ah 0,.string (⟨#[]⟩:ByteArray),ah 0,.bool false,.slice none 0 0] 49)):=⟨aT⟩
  have nR:aA (((((((bu.setCell ⟨og,0,none⟩ (.slice jf ny.length jg)).setCell ⟨dX,0,none⟩ (ah oh)).setCell ⟨dX,1,none⟩ (.string oK)).setCell ⟨dX,2,none⟩ (ah oL)).setCell ⟨dX,3,none⟩ (.bool oM)).setCell ⟨dX,4,none⟩ (.slice jC mO.length gG)).heap[og]?=some (.cells #[.slice jf ny.length jg] 28)):=⟨aT⟩
  have zq:aA (((((((bu.setCell ⟨og,0,none⟩ (.slice jf ny.length jg)).setCell ⟨dX,0,none⟩ (ah oh)).setCell ⟨dX,1,none⟩ (.string oK)).setCell ⟨dX,2,none⟩ (ah oL)).setCell ⟨dX,3,none⟩ (.bool oM)).setCell ⟨dX,4,none⟩ (.slice jC mO.length gG)).heap[dX]?=some (.cells #[ah oh,.string oK,ah oL,.bool oM,.slice jC mO.length gG] 49)):=⟨aT⟩
  have zu:aA (Below w.heap.size w ((((((bu.setCell ⟨og,0,none⟩ (.slice jf ny.length jg)).setCell ⟨dX,0,none⟩ (ah oh)).setCell ⟨dX,1,none⟩ (.string oK)).setCell ⟨dX,2,none⟩ (ah oL)).setCell ⟨dX,3,none⟩ (.bool oM)).setCell ⟨dX,4,none⟩ (.slice jC mO.length gG))):=⟨au⟩
  (try clear uo)
  (try clear sS)
  (try clear a8)
  (try clear a7)
  (try clear aa)
  (try clear a9)
  (try clear a6)
  (try clear tC)
  (try clear tH)
  (try clear HB)
  generalize ((((((bu.setCell ⟨og,0,none⟩ (.slice jf ny.length jg)).setCell ⟨dX,0,none⟩ (ah oh)).setCell ⟨dX,1,none⟩ (.string oK)).setCell ⟨dX,2,none⟩ (ah oL)).setCell ⟨dX,3,none⟩ (.bool oM)).setCell ⟨dX,4,none⟩ (.slice jC mO.length gG))=ff at eF jF jG jH jI jL kW nR zq zu ⊢
  have uo:=eF
  have sS:=jF
  have a8:=jG
  have a7:=jH
  have aa:=jI
  have a9:=jL
  have a6:=kW
  have tC:=nR
  have tH:=zq
  have HB:=zu
  clear eF jF jG jH jI jL kW nR zq zu
  obtain ⟨uo,sS,a8,a7,aa,a9,a6,tC,tH,HB⟩:=p_ (Kd.mQ uo.out) <| p_ (Kd.aZ sS.out) <| Xj a8 a7 aa a9 a6 tC tH HB
  refine iT (n:=5) (S:=fun w'=>jQ w' og (.slice jf ny.length jg) <| UO w' dX (ah oh) (.string oK) (ah oL) (.bool oM) (.slice jC mO.length gG)) (ds:=[]) Di aB rfl rfl ⟨(aP tC.out 0).trans rfl,Lh tH.out⟩ (fun hH=>?_)
  generalize ff.drew=fo at uo sS a8 a7 aa a9 a6 tC tH HB hH ⊢
  refine lI (i:=0) (N:=some 32) (v:=?_) (a':=?_) #[aj,F_,F_,F_,F_] rfl rfl aB (fun _ _ _ h=>h) (Or.inl ⟨(by rfl),?_⟩) hH ?_ ?_
  rotate_left
  ·rintro w' ⟨s0,s1,s2,s3,s4,s5⟩
   go_simp
   with_reducible rfl
  rotate_left
  ·simp only [Act.put,List.setIfInBounds_toArray,List.set_cons_zero,List.set_cons_succ,aY,bf]
   rfl
  refine lI (i:=2) (N:=some 34) (v:=?_) (a':=?_) #[aj,F_,aj,F_,F_] rfl rfl aB (fun _ _ _ h=>h) (Or.inl ⟨(by rfl),?_⟩) hH ?_ ?_
  rotate_left
  ·rintro w' ⟨s0,s1,s2,s3,s4,s5⟩
   go_simp
   with_reducible rfl
  rotate_left
  ·simp only [Act.put,List.setIfInBounds_toArray,List.set_cons_zero,List.set_cons_succ,aY,bf]
   rfl
  refine fD (i:=1) (N:=some 33) ER rfl rfl aB (by decide) (fun K hK=>?_)
  refine i_ func45 aB rfl #[.agg #[.slice jf ny.length jg]] (by rfl) rfl rfl aX ?_
  with_reducible refine (xP.calls _ _ ny ed _ ?kX ((Kd.vU uo.out).2.1) fe.out).mono ?_
  (case kX=>repeat (first|exact (Kd.vU uo.out).2.2|(with_reducible refine Kd.jO ?_ _)|(with_reducible refine Kd.jT ?_ _)|(with_reducible refine Kd.jS ?_)))
  rintro e dx ⟨azP,rfl,ho0,hb⟩
  refine ⟨_,rfl,?_⟩
  obtain ⟨uo,sS,du,a8,a7,aa,a9,a6,tC,tH,HB⟩:=p_ (Kd.CY Og (Kd.jo ho0) hb) <| p_ (Kd.dw (aJ sS) hb) <| p_ (Kd.dI ho0 (cZ au)) <| WZ (ak a8) (ak a7) (ak aa) (ak a9) (ak a6) (ak tC) (ak tH) au hb
  (try clear hb)
  (try clear ho0)
  obtain ⟨ep,eq,ee⟩:=Kd.dK du.out
  (first|subst ee|(injection ee with dV gU dW;have gV:=dV.symm;have gW:=dW.symm;clear dV gU dW;subst gV;subst gW))
  refine hK.out _ _ ⟨(aP tC.out 0).trans rfl,Lh tH.out⟩ (fun hH=>?_)
  clear hK K
  refine eX (some 33) ?_
  refine fD (i:=3) (N:=none) Dj rfl rfl aB (by decide) (fun K hK=>?_)
  have ax':dx.cell? ⟨ap,0,none⟩=some (.slice none 0 0):=(aP a9.out 0).trans rfl
  have arB:=bP a9.out 0
  obtain ⟨b6,b1,al,ct,bl,bp,b5,b2⟩:=iH aq ag aK bc bH ab ar aW
  obtain ⟨am,cr,bm,bq⟩:=g_ ai bb bd fA
  refine iM (w1:=?_) (by rfl) rfl ?_ ?_
  rotate_left
  ·go_simp
   rfl
  refine hK.out _ _ ⟨(aG bH hH.1),(aG ab hH.2.1),(aG ab hH.2.2.1),(aG ab hH.2.2.2.1),(aG ab hH.2.2.2.2.1),(aG ab hH.2.2.2.2.2)⟩ (fun hH=>?_)
  clear hK K
  refine fD (i:=4) (N:=none) Dk rfl rfl aB (by decide) (fun K hK=>?_)
  have aya:dx.cell? ⟨af,0,none⟩=some (ah 0):=(aP a6.out 0).trans rfl
  have arC:=bP a6.out 0
  obtain ⟨b8,b3,an,fB,br,b7,b4,ao⟩:=iH av ac aN ae a5 aw ax aQ
  obtain ⟨bo,bs⟩:=gB be dM
  have ayb:dx.cell? ⟨af,1,none⟩=some (.string (⟨#[]⟩:ByteArray)):=(aP a6.out 1).trans rfl
  have arD:=bP a6.out 1
  have aiM:dx.cell? ⟨af,2,none⟩=some (ah 0):=(aP a6.out 2).trans rfl
  have af4:=bP a6.out 2
  have ayc:dx.cell? ⟨af,3,none⟩=some (.bool false):=(aP a6.out 3).trans rfl
  have arE:=bP a6.out 3
  have ayd:dx.cell? ⟨af,4,none⟩=some (.slice none 0 0):=(aP a6.out 4).trans rfl
  have arF:=bP a6.out 4
  refine iM (w1:=?_) (by rfl) rfl ?_ ?_
  rotate_left
  ·go_simp
   rfl
  refine hK.out _ _ ⟨(aG ae (aG ae (aG ae (aG ae (aG ae hH.1))))),(aG a5 (aG a5 (aG a5 (aG a5 (aG a5 hH.2.1))))),(aG a5 (aG a5 (aG a5 (aG a5 (aG a5 hH.2.2.1))))),(aG a5 (aG a5 (aG a5 (aG a5 (aG a5 hH.2.2.2.1))))),(aG a5 (aG a5 (aG a5 (aG a5 (aG a5 hH.2.2.2.2.1))))),(aG a5 (aG a5 (aG a5 (aG a5 (aG a5 hH.2.2.2.2.2)))))⟩ (fun hH=>?_)
  clear hK K
  refine iP aB ?_
  try go_wp2
  refine bodyPost_ret (iR rfl _ _ ap af 28 49 #[.slice ep ed.length eq] #[ah oh,.string oK,ah oL,.bool oM,.slice jC mO.length gG] (0,0) (0,0) _ _ rfl aT underlying28 rfl aB rfl aT underlying49 rfl aB) rfl ?_
  exact ⟨_,_,bM,(by (with_reducible repeat (first|apply Kd.dB|apply Kd.dD|apply Kd.aZ));exact Kd.bn (aH (aH (aH (aH (aH (aH (Kd.bQ (Kd.bQ du.out a9.out (by decide)) a6.out (by decide)) (fun _ hk=>hk.1.2))))))) (fun _ hk=>trivial)),(by (with_reducible repeat (first|apply Kd.dB|apply Kd.dD|apply Kd.aZ));exact Kd.bn (aH (aH (aH (aH (aH (aH (Kd.bQ (Kd.bQ sS.out a9.out (by decide)) a6.out (by decide)) (fun _ hk=>hk.1.2))))))) (fun _ hk=>trivial)),au⟩
 have iO:=fP jU
 have ec:=fQ jU
 try simp only [aY,bf,iO]
 obtain ⟨ef,fg,H⟩:=bd_ H
 simp only [Option.some.injEq,Prod.mk.injEq] at H
 obtain ⟨rfl,rfl,rfl,rfl,rfl,rfl⟩:=H
 try go_wp2
 have eF:aA (Kd.V aU 43 ((((((bu.setCell ⟨og,0,none⟩ (.slice jf ny.length jg)).setCell ⟨dX,0,none⟩ (ah oh)).setCell ⟨dX,1,none⟩ (.string oK)).setCell ⟨dX,2,none⟩ (ah oL)).setCell ⟨dX,3,none⟩ (.bool oM)).setCell ⟨dX,4,none⟩ (.slice jC mO.length gG)) w.heap.size (fun ay=>some ay≠(.slice jC mO.length gG:Value).ownBlock∧ay≠cf∧ay≠bh∧ay≠ci∧ay≠ap∧ay≠af∧ay≠og∧ay≠dX) (.slice jf ny.length jg) ny):=⟨aaH⟩
 have jF:aA (Kd.R Kd.string 9 ((((((bu.setCell ⟨og,0,none⟩ (.slice jf ny.length jg)).setCell ⟨dX,0,none⟩ (ah oh)).setCell ⟨dX,1,none⟩ (.string oK)).setCell ⟨dX,2,none⟩ (ah oL)).setCell ⟨dX,3,none⟩ (.bool oM)).setCell ⟨dX,4,none⟩ (.slice jC mO.length gG)) w.heap.size (fun _=>True) (.slice jC mO.length gG) mO):=⟨aal⟩
 have jG:aA (((((((bu.setCell ⟨og,0,none⟩ (.slice jf ny.length jg)).setCell ⟨dX,0,none⟩ (ah oh)).setCell ⟨dX,1,none⟩ (.string oK)).setCell ⟨dX,2,none⟩ (ah oL)).setCell ⟨dX,3,none⟩ (.bool oM)).setCell ⟨dX,4,none⟩ (.slice jC mO.length gG)).heap[cf]?=some (.cells #[ah cl,ah cm,ah cn,ah co] 25)):=⟨aT⟩
 have jH:aA (((((((bu.setCell ⟨og,0,none⟩ (.slice jf ny.length jg)).setCell ⟨dX,0,none⟩ (ah oh)).setCell ⟨dX,1,none⟩ (.string oK)).setCell ⟨dX,2,none⟩ (ah oL)).setCell ⟨dX,3,none⟩ (.bool oM)).setCell ⟨dX,4,none⟩ (.slice jC mO.length gG)).heap[bh]?=some (.cells #[.slice bv cO.length bw] 28)):=⟨aT⟩
 have jI:aA (((((((bu.setCell ⟨og,0,none⟩ (.slice jf ny.length jg)).setCell ⟨dX,0,none⟩ (ah oh)).setCell ⟨dX,1,none⟩ (.string oK)).setCell ⟨dX,2,none⟩ (ah oL)).setCell ⟨dX,3,none⟩ (.bool oM)).setCell ⟨dX,4,none⟩ (.slice jC mO.length gG)).heap[ci]?=some (.cells #[ah bx,.string bz,.string ca,ah cc,ah cd,.string ce] 45)):=⟨aT⟩
 have jL:aA (((((((bu.setCell ⟨og,0,none⟩ (.slice jf ny.length jg)).setCell ⟨dX,0,none⟩ (ah oh)).setCell ⟨dX,1,none⟩ (.string oK)).setCell ⟨dX,2,none⟩ (ah oL)).setCell ⟨dX,3,none⟩ (.bool oM)).setCell ⟨dX,4,none⟩ (.slice jC mO.length gG)).heap[ap]?=some (.cells #[.slice none 0 0] 28)):=⟨aT⟩
 have kW:aA (((((((bu.setCell ⟨og,0,none⟩ (.slice jf ny.length jg)).setCell ⟨dX,0,none⟩ (ah oh)).setCell ⟨dX,1,none⟩ (.string oK)).setCell ⟨dX,2,none⟩ (ah oL)).setCell ⟨dX,3,none⟩ (.bool oM)).setCell ⟨dX,4,none⟩ (.slice jC mO.length gG)).heap[af]?=some (.cells #[ah 0,.string (⟨#[]⟩:ByteArray),ah 0,.bool false,.slice none 0 0] 49)):=⟨aT⟩
 have nR:aA (((((((bu.setCell ⟨og,0,none⟩ (.slice jf ny.length jg)).setCell ⟨dX,0,none⟩ (ah oh)).setCell ⟨dX,1,none⟩ (.string oK)).setCell ⟨dX,2,none⟩ (ah oL)).setCell ⟨dX,3,none⟩ (.bool oM)).setCell ⟨dX,4,none⟩ (.slice jC mO.length gG)).heap[og]?=some (.cells #[.slice jf ny.length jg] 28)):=⟨aT⟩
 have zq:aA (((((((bu.setCell ⟨og,0,none⟩ (.slice jf ny.length jg)).setCell ⟨dX,0,none⟩ (ah oh)).setCell ⟨dX,1,none⟩ (.string oK)).setCell ⟨dX,2,none⟩ (ah oL)).setCell ⟨dX,3,none⟩ (.bool oM)).setCell ⟨dX,4,none⟩ (.slice jC mO.length gG)).heap[dX]?=some (.cells #[ah oh,.string oK,ah oL,.bool oM,.slice jC mO.length gG] 49)):=⟨aT⟩
 have zu:aA (Below w.heap.size w ((((((bu.setCell ⟨og,0,none⟩ (.slice jf ny.length jg)).setCell ⟨dX,0,none⟩ (ah oh)).setCell ⟨dX,1,none⟩ (.string oK)).setCell ⟨dX,2,none⟩ (ah oL)).setCell ⟨dX,3,none⟩ (.bool oM)).setCell ⟨dX,4,none⟩ (.slice jC mO.length gG))):=⟨au⟩
 (try clear uo)
 (try clear sS)
 (try clear a8)
 (try clear a7)
 (try clear aa)
 (try clear a9)
 (try clear a6)
 (try clear tC)
 (try clear tH)
 (try clear HB)
 generalize ((((((bu.setCell ⟨og,0,none⟩ (.slice jf ny.length jg)).setCell ⟨dX,0,none⟩ (ah oh)).setCell ⟨dX,1,none⟩ (.string oK)).setCell ⟨dX,2,none⟩ (ah oL)).setCell ⟨dX,3,none⟩ (.bool oM)).setCell ⟨dX,4,none⟩ (.slice jC mO.length gG))=fh at eF jF jG jH jI jL kW nR zq zu ⊢
 have uo:=eF
 have sS:=jF
 have a8:=jG
 have a7:=jH
 have aa:=jI
 have a9:=jL
 have a6:=kW
 have tC:=nR
 have tH:=zq
 have HB:=zu
 clear eF jF jG jH jI jL kW nR zq zu
 obtain ⟨uo,sS,a8,a7,aa,a9,a6,tC,tH,HB⟩:=p_ (Kd.mQ uo.out) <| p_ (Kd.aZ sS.out) <| Xj a8 a7 aa a9 a6 tC tH HB
 refine iT (n:=7) (S:=fun w'=>jQ w' bh (.slice bv cO.length bw) <| UO w' dX (ah oh) (.string oK) (ah oL) (.bool oM) (.slice jC mO.length gG)) (ds:=[]) Ll aB rfl rfl ⟨(aP a7.out 0).trans rfl,Lh tH.out⟩ (fun hH=>?_)
 generalize fh.drew=fp at uo sS a8 a7 aa a9 a6 tC tH HB hH ⊢
 refine sN (i:=2) (N:=some 29) #[F_,F_,aj,F_,F_,F_,F_] aB ?_
 refine lI (i:=0) (N:=some 27) (v:=?_) (a':=?_) #[aj,F_,aj,F_,F_,F_,F_] rfl rfl aB (fun _ _ _ h=>h) (Or.inl ⟨(by rfl),?_⟩) hH ?_ ?_
 rotate_left
 ·rintro w' ⟨s0,s1,s2,s3,s4,s5⟩
  go_simp
  with_reducible rfl
 rotate_left
 ·simp only [Act.put,List.setIfInBounds_toArray,List.set_cons_zero,List.set_cons_succ,aY,bf]
  rfl
 refine lI (i:=3) (N:=some 30) (v:=?_) (a':=?_) #[aj,F_,aj,aj,F_,F_,F_] rfl rfl aB (fun _ _ _ h=>h) (Or.inl ⟨(by rfl),?_⟩) hH ?_ ?_
 rotate_left
 ·rintro w' ⟨s0,s1,s2,s3,s4,s5⟩
  go_simp
  with_reducible rfl
 rotate_left
 ·simp only [Act.put,List.setIfInBounds_toArray,List.set_cons_zero,List.set_cons_succ,aY,bf]
  rfl
 refine sN (i:=4) (N:=some 31) #[aj,F_,aj,aj,aj,F_,F_] aB ?_
 refine fD (i:=1) (N:=some 28) Lm rfl rfl aB (by decide) (fun K hK=>?_)
 refine i_ func45 aB rfl #[.agg #[.slice bv cO.length bw]] (by rfl) rfl rfl aX ?_
 with_reducible refine (xP.calls _ _ cO ef _ pG d9.out fg.out).mono ?_
 rintro e dy ⟨azQ,rfl,ho0,hb⟩
 refine ⟨_,rfl,?_⟩
 obtain ⟨uo,sS,dv,a8,a7,aa,a9,a6,tC,tH,HB⟩:=p_ (Kd.CY Og (Kd.jo ho0) hb) <| p_ (Kd.dw (aJ sS) hb) <| p_ (Kd.dI ho0 (cZ au)) <| WZ (ak a8) (ak a7) (ak aa) (ak a9) (ak a6) (ak tC) (ak tH) au hb
 (try clear hb)
 (try clear ho0)
 obtain ⟨er,es,eh⟩:=Kd.dK dv.out
 (first|subst eh|(injection eh with dV gU dW;have gV:=dV.symm;have gW:=dW.symm;clear dV gU dW;subst gV;subst gW))
 refine hK.out _ _ ⟨(aP a7.out 0).trans rfl,Lh tH.out⟩ (fun hH=>?_)
 clear hK K
 refine eX (some 28) ?_
 refine fD (i:=5) (N:=none) Lp rfl rfl aB (by decide) (fun K hK=>?_)
 have aye:dy.cell? ⟨ap,0,none⟩=some (.slice none 0 0):=(aP a9.out 0).trans rfl
 have arG:=bP a9.out 0
 obtain ⟨b6,b1,al,ct,bl,bp,b5,b2⟩:=iH aq ag aK bc bH ab ar aW
 obtain ⟨am,cr,bm,bq⟩:=g_ ai bb bd fA
 refine iM (w1:=?_) (by rfl) rfl ?_ ?_
 rotate_left
 ·go_simp
  rfl
 refine hK.out _ _ ⟨(aG ag hH.1),(aG ab hH.2.1),(aG ab hH.2.2.1),(aG ab hH.2.2.2.1),(aG ab hH.2.2.2.2.1),(aG ab hH.2.2.2.2.2)⟩ (fun hH=>?_)
 clear hK K
 refine fD (i:=6) (N:=none) Lr rfl rfl aB (by decide) (fun K hK=>?_)
 have ayf:dy.cell? ⟨af,0,none⟩=some (ah 0):=(aP a6.out 0).trans rfl
 have arH:=bP a6.out 0
 obtain ⟨b8,b3,an,fB,br,b7,b4,ao⟩:=iH av ac aN ae a5 aw ax aQ
 obtain ⟨bo,bs⟩:=gB be dM
 have ayg:dy.cell? ⟨af,1,none⟩=some (.string (⟨#[]⟩:ByteArray)):=(aP a6.out 1).trans rfl
 have arI:=bP a6.out 1
 have ayh:dy.cell? ⟨af,2,none⟩=some (ah 0):=(aP a6.out 2).trans rfl
 have arJ:=bP a6.out 2
 have ayi:dy.cell? ⟨af,3,none⟩=some (.bool false):=(aP a6.out 3).trans rfl
 have arK:=bP a6.out 3
 have ayj:dy.cell? ⟨af,4,none⟩=some (.slice none 0 0):=(aP a6.out 4).trans rfl
 have arL:=bP a6.out 4
 refine iM (w1:=?_) (by rfl) rfl ?_ ?_
 rotate_left
 ·go_simp
  rfl
 refine hK.out _ _ ⟨(aG ac (aG ac (aG ac (aG ac (aG ac hH.1))))),(aG a5 (aG a5 (aG a5 (aG a5 (aG a5 hH.2.1))))),(aG a5 (aG a5 (aG a5 (aG a5 (aG a5 hH.2.2.1))))),(aG a5 (aG a5 (aG a5 (aG a5 (aG a5 hH.2.2.2.1))))),(aG a5 (aG a5 (aG a5 (aG a5 (aG a5 hH.2.2.2.2.1))))),(aG a5 (aG a5 (aG a5 (aG a5 (aG a5 hH.2.2.2.2.2)))))⟩ (fun hH=>?_)
 clear hK K
 refine iP aB ?_
 try go_wp2
 refine bodyPost_ret (iR rfl _ _ ap af 28 49 #[.slice er ef.length es] #[ah oh,.string (⟨#[]⟩:ByteArray),ah 0,.bool false,.slice none 0 0] (0,0) (0,0) _ _ rfl aT underlying28 rfl aB rfl aT underlying49 rfl aB) rfl ?_
 exact ⟨_,_,bM,(by (with_reducible repeat (first|apply Kd.dB|apply Kd.dD|apply Kd.aZ));exact Kd.bn (aH (aH (aH (aH (aH (aH (Kd.bQ (Kd.bQ dv.out a9.out (by decide)) a6.out (by decide)) (fun _ hk=>hk.1.2))))))) (fun _ hk=>trivial)),kD,au⟩

def aS (w0 W:World) (g:Nat) (f0:List Int) (f1:Int) (f2:Int):Prop:=∃ A0 c0,W.heap[g]?=some (.cells #[.slice A0 f0.length c0,ah f1,ah f2] 102)∧w0.heap.size≤g∧Kd.C (Kd.int .u8) w0 A0 f0.length f0
theorem aS.grown {w0 W:World} {g:Nat} {f0:List Int} {f1:Int} {f2:Int} {W1:World} {row:Option Nat} (h:aS w0 W g f0 f1 f2) (hw:W.grownBy W1 row) (hne:some g≠row):aS w0 W1 g f0 f1 f2:=by
 obtain ⟨A0,c0,hb,hg,hr0⟩:=h
 exact ⟨A0,c0,iy hb hw hne,hg,hr0⟩
theorem aS.kept {w0 W:World} {g:Nat} {f0:List Int} {f1:Int} {f2:Int} {W1:World} {S:Nat→Prop} (h:aS w0 W g f0 f1 f2) (hk:Kept W W1 S) (hne:¬ S g):aS w0 W1 g f0 f1 f2:=by
 obtain ⟨A0,c0,hb,hg,hr0⟩:=h
 exact ⟨A0,c0,vW hb hk hne,hg,hr0⟩
theorem aS.below {w0 W:World} {g:Nat} {f0:List Int} {f1:Int} {f2:Int} {W1:World} (h:aS w0 W g f0 f1 f2) (hw:Below W.heap.size W W1):aS w0 W1 g f0 f1 f2:=h.grown (Xu hw none) (by simp)
theorem aS.alloc {w0 W:World} {g:Nat} {f0:List Int} {f1:Int} {f2:Int} (h:aS w0 W g f0 f1 f2) (o:Obj):aS w0 (W.alloc o) g f0 f1 f2:=h.below (mY (Below.refl _ _) o)
theorem aS.drewN {w0 W:World} {g:Nat} {f0:List Int} {f1:Int} {f2:Int} (h:aS w0 W g f0 f1 f2) (m:Nat):aS w0 (W.drewN m) g f0 f1 f2:=h
theorem aS.drew {w0 W:World} {g:Nat} {f0:List Int} {f1:Int} {f2:Int} (h:aS w0 W g f0 f1 f2):aS w0 W.drew g f0 f1 f2:=h
theorem aS.at_ {w0 W:World} {g:Nat} {f0:List Int} {f1:Int} {f2:Int} {w':World} {m:Nat} (hq:W.drewN m=w') (h:aS w0 W g f0 f1 f2):aS w0 w' g f0 f1 f2:=by subst hq;exact aS.drewN h m
theorem aS.apart {w0 W:World} {g:Nat} {f0:List Int} {f1:Int} {f2:Int} {α:Type} {d:Kd α} {e:Nat} {base:Nat} {ok:Nat→Prop} {v:Value} {xs:List α} (h:aS w0 W g f0 f1 f2) (ho:d.R e W base ok v xs) (ht:∀ q,q ∈ e :: d.E→q≠102):d.R e W base (fun k=>ok k∧k≠g) v xs:=by
 obtain ⟨A0,c0,hb,hg,hr0⟩:=h
 exact Kd.bQ ho hb ht
theorem aS.own_ne {w0 W:World} {g:Nat} {f0:List Int} {f1:Int} {f2:Int} {α:Type} {d:Kd α} {e:Nat} {base:Nat} {ok:Nat→Prop} {v:Value} {xs:List α} (h:aS w0 W g f0 f1 f2) (ho:d.R e W base ok v xs) (ht:e≠102):some g≠v.ownBlock:=by
 obtain ⟨A0,c0,hb,hg,hr0⟩:=h
 exact Kd.fV ho hb ht
theorem aS.lt {w0 W:World} {g:Nat} {f0:List Int} {f1:Int} {f2:Int} (h:aS w0 W g f0 f1 f2):g < W.heap.size:=by
 obtain ⟨A0,c0,hb,hg,hr0⟩:=h
 exact gu hb
theorem aS.ge {w0 W:World} {g:Nat} {f0:List Int} {f1:Int} {f2:Int} (h:aS w0 W g f0 f1 f2):w0.heap.size≤g:=by
 obtain ⟨A0,c0,hb,hg,hr0⟩:=h
 exact hg
theorem aS.Zq {w0 W:World} {g:Nat} {f0:List Int} {f1:Int} {f2:Int} {a:Nat} {cs:Array Value} {t:TypeId} {fr:Nat × Nat} (h:aS w0 W g f0 f1 f2) (hb2:W.heap[a]?=some (.cells cs t fr)) (ht:t≠102):g≠a:=by
 obtain ⟨A0,c0,hb,hg,hr0⟩:=h
 rintro rfl
 rw [hb] at hb2
 injection hb2 with hb2
 injection hb2 with _ ht2
 exact ht ht2.symm
theorem aS.far {w0 W:World} {g:Nat} {f0:List Int} {f1:Int} {f2:Int} {p:Addr} (h:aS w0 W g f0 f1 f2) (hne:g≠p.block) (u:Value):aS w0 (W.setCell p u) g f0 f1 f2:=by
 obtain ⟨A0,c0,hb,hg,hr0⟩:=h
 exact ⟨A0,c0,yT hb hne u,hg,hr0⟩
theorem Xa {W:World} {g:Nat} {A0:Option Addr} {c0:Nat} {f0:List Int} {f1:Int} {f2:Int} (h:W.heap[g]?=some (.cells #[.slice A0 f0.length c0,ah f1,ah f2] 102)):W.cell? ⟨g,0,none⟩=some (.slice A0 f0.length c0):=(aP h 0).trans rfl
theorem Xb {W:World} {g:Nat} {A0:Option Addr} {c0:Nat} {f0:List Int} {f1:Int} {f2:Int} (h:W.heap[g]?=some (.cells #[.slice A0 f0.length c0,ah f1,ah f2] 102)):W.cell? ⟨g,1,none⟩=some (ah f1):=(aP h 1).trans rfl
theorem aS.NJ {w0 W:World} {g:Nat} {f0:List Int} {f1:Int} {f2:Int} (h:aS w0 W g f0 f1 f2) (x:Int):aS w0 (W.setCell ⟨g,1,none⟩ (ah x)) g f0 x f2:=by
 obtain ⟨A0,c0,hb,hg,hr0⟩:=h
 exact ⟨A0,c0,(by simpa using IV hb 1 (ah x)),hg,hr0⟩
theorem Xc {W:World} {g:Nat} {A0:Option Addr} {c0:Nat} {f0:List Int} {f1:Int} {f2:Int} (h:W.heap[g]?=some (.cells #[.slice A0 f0.length c0,ah f1,ah f2] 102)):W.cell? ⟨g,2,none⟩=some (ah f2):=(aP h 2).trans rfl
theorem aS.NK {w0 W:World} {g:Nat} {f0:List Int} {f1:Int} {f2:Int} (h:aS w0 W g f0 f1 f2) (x:Int):aS w0 (W.setCell ⟨g,2,none⟩ (ah x)) g f0 f1 x:=by
 obtain ⟨A0,c0,hb,hg,hr0⟩:=h
 exact ⟨A0,c0,(by simpa using IV hb 2 (ah x)),hg,hr0⟩
theorem aS.new (w0 W:World) (A0:Option Addr) (c0:Nat) (f0:List Int) (f1:Int) (f2:Int) (hB:Below w0.heap.size w0 W) (hr0:Kd.C (Kd.int .u8) w0 A0 f0.length f0):aS w0 (W.alloc (.cells #[.slice A0 f0.length c0,ah f1,ah f2] 102)) W.heap.size f0 f1 f2:=⟨A0,c0,(by simpa using heap_alloc_new W _),hB.size,hr0⟩

def vw.l0:Nat→List Int→Int→Int→Option (List Int × Int × Int)
 | 0,_,_,_=>none
 | k+1,x0,x3,x4=>if x4 < (x0.length:Int) then (if x4 < 4000 then (if 0≤x4 then (vw.l0 k x0 (Go.bits .and .i64 (wrap64 ((wrap64 ((wrap64 (x3 * 131))+(wrap64 (rd x0 x4))))+7)) 1073741823) (wrap64 (x4+1))) else (none)) else (some (x0,0,x3))) else (some (x0,0,x3))
def vw.f (k:Nat) (l0:List Int):Option (List Int × Int × Int):=vw.l0 k l0 (wrap64 (94701+(l0.length:Int))) 0
theorem vw.calls (k:Nat) (A0:Option Addr) (c0:Nat) (l0:List Int) (r1:List Int) (r2:Int) (r3:Int) (w0 w:World) (hB:Below w0.heap.size w0 w) (hr0:Kd.C (Kd.int .u8) w0 A0 l0.length l0) (hc0:l0.length≤c0) (h:vw.f k l0=some (r1,r2,r3)) :
  Calls Tryz.prog 39 #[.slice A0 l0.length c0] w fun e w'=>∃ Xt:Nat,e=.returned (.pointer (some ⟨Xt,0,none⟩))∧aS w0 w' Xt r1 r2 r3∧Below w0.heap.size w0 w'∧Below w.heap.size w w':=by
 have ayC:=underlying102
 have HR0:=m_ hr0
 have ao:=m_ hc0
 clear hr0 hc0
 have yO:=m_ (Below.refl w.heap.size w)
 have HW0:=m_ hB.size
 have HB:=m_ hB
 clear hB
 unfold vw.f at h
 have H:=h
 clear h
 have H':=m_ H
 clear H
 go_enter func39,ntmps39
 go_wp2
 go_loopg [3,4] k (fun kq v3 v4 w'=>∃ (a6:Int) (a5:Int),v3=ah a6∧v4=ah a5∧aA (vw.l0 kq l0 a6 a5=some (r1,r2,r3))∧aA (kq≤k)∧aA (Below w0.heap.size w0 w')∧aA (Below w.heap.size w w'))
 case atStart=>exact ⟨(wrap64 (94701+(l0.length:Int))),(0),bg,bg,H',⟨Nat.le_refl _⟩,⟨au⟩,⟨Ij⟩⟩
 case round =>
 clear H'
 obtain ⟨a6,a5,rfl,rfl,HA,gZ,HB,yO⟩:=hrel
 cases gk with
 | zero=>exact absurd HA.out (by simp [vw.l0])
 | succ k1 =>
 obtain ⟨H⟩:=HA
 simp only [vw.l0] at H
 revert H;refine gJ (fun aN H=>?_) fun aN H=>?_
 rotate_left
 ·simp only [Option.some.injEq,Prod.mk.injEq] at H
  obtain ⟨rfl,rfl,rfl⟩:=H
  go_wp2_with (first|((with_reducible refine dJ 31 ?_);refine dO 31 (cs:=#[.slice A0 l0.length c0,ah 0,ah a6]) 102 ?_;intro a8 hg w6 hbox hb;obtain ⟨yO,HB,ac,ae,af⟩:=p_ (dP yO.out hb) <| p_ (dP au hb) <| p_ (hbox) <| p_ (t_ hg Ij) <| a_ ((Nat.le_trans HW0.out (t_ hg Ij):w0.heap.size≤a8));clear hb hbox hg))
  go_ret
  exact ⟨_,rfl,(show aS w0 _ a8 l0 0 a6 from ⟨_,_,(ak ac),af.out,HR0.out⟩),au,(by repeat (first|(with_reducible first|exact yO.out|apply mY|apply qN|apply lC|refine iF ?_ ae.out)|exact yO.out))⟩
 revert H;refine gJ (fun aQ H=>?_) fun aQ H=>?_
 ·obtain ⟨an,H⟩:=gK H
  have H':=m_ H
  clear H
  have aa:0≤(a5:Int):=bF bG
  have ab:a5 < (l0.length:Int):=bF bG
  obtain ⟨am,al,a7⟩:=Kd.Lc HR0.out a5 aa ab
  cases al
  replace a7:=JV HB.out a7
  replace aa:=eq_true aa
  replace ab:=eq_true ab
  go_wp2
  go_roundg k1
  case measure=>have:=gZ.out;omega
  case rel=>exact ⟨(Go.bits .and .i64 (wrap64 ((wrap64 ((wrap64 (a6 * 131))+(wrap64 (rd l0 a5))))+7)) 1073741823),(wrap64 (a5+1)),bg,bg,H',⟨ou⟩,⟨au⟩,⟨Ij⟩⟩
 simp only [Option.some.injEq,Prod.mk.injEq] at H
 obtain ⟨rfl,rfl,rfl⟩:=H
 go_wp2_with (first|((with_reducible refine dJ 31 ?_);refine dO 31 (cs:=#[.slice A0 l0.length c0,ah 0,ah a6]) 102 ?_;intro a9 hg w5 hbox hb;obtain ⟨yO,HB,ag,aK,ai⟩:=p_ (dP yO.out hb) <| p_ (dP au hb) <| p_ (hbox) <| p_ (t_ hg Ij) <| a_ ((Nat.le_trans HW0.out (t_ hg Ij):w0.heap.size≤a9));clear hb hbox hg))
 go_ret
 exact ⟨_,rfl,(show aS w0 _ a9 l0 0 a6 from ⟨_,_,(ak ag),ai.out,HR0.out⟩),au,(by repeat (first|(with_reducible first|exact yO.out|apply mY|apply qN|apply lC|refine iF ?_ aK.out)|exact yO.out))⟩

def vk.f (bI:List Int) (eG:Int) (eH:Int):Option (Int × Int × Int):=if eG < (bI.length:Int) then (if 0≤eG then (some (Go.bits .and .i64 (wrap64 ((Go.bits .and .i64 (Go.bits .xor .i64 ((wrap64 ((wrap64 (eH * 6364136223846793005))+1442695040888963407)) / 8589934592) ((wrap64 ((wrap64 (eH * 6364136223846793005))+1442695040888963407)) / 35184372088832)) 255)+(wrap64 (rd bI eG)))) 255,wrap64 (eG+1),wrap64 ((wrap64 (eH * 6364136223846793005))+1442695040888963407))) else (none)) else (some (Go.bits .and .i64 (Go.bits .xor .i64 ((wrap64 ((wrap64 (eH * 6364136223846793005))+1442695040888963407)) / 8589934592) ((wrap64 ((wrap64 (eH * 6364136223846793005))+1442695040888963407)) / 35184372088832)) 255,eG,wrap64 ((wrap64 (eH * 6364136223846793005))+1442695040888963407)))
theorem vk.calls (g:Nat) (bI:List Int) (eG:Int) (eH:Int) (r1:Int) (r2:Int) (r3:Int) (w0 w:World) (hI:aS w0 w g bI eG eH) (hB:Below w0.heap.size w0 w) (h:vk.f bI eG eH=some (r1,r2,r3)) :
  Calls Tryz.prog 130 #[.pointer (some ⟨g,0,none⟩)] w fun e w'=>e=.returned (ah r1)∧aS w0 w' g bI r2 r3∧Below w0.heap.size w0 w'∧aV w w' g none:=by
 have HI0:=m_ hI
 have HK:=m_ (aV.refl w g none)
 have HL:=m_ hB.size
 clear hI
 have HW0:=m_ hB.size
 have HB:=m_ hB
 clear hB
 unfold vk.f at h
 have H:=h
 clear h
 revert H;refine gJ (fun ab H=>?_) fun ab H=>?_
 rotate_left
 ·simp only [Option.some.injEq,Prod.mk.injEq] at H
  obtain ⟨rfl,rfl,rfl⟩:=H
  obtain ⟨aln,alV,ED,aio,alD⟩:=HI0.out
  have aoB:=Xa ED
  have aoC:=Xb ED
  have aoD:=Xc ED
  have auS:=bP ED 1
  have auT:=bP ED 2
  clear ED aio
  go_enter func130,ntmps130
  go_wp2
  repeat (go_quiet (fail);try go_wp2)
  go_ret
  exact ⟨bM,b_,dZ,jv⟩
 obtain ⟨ae,H⟩:=gK H
 simp only [Option.some.injEq,Prod.mk.injEq] at H
 obtain ⟨rfl,rfl,rfl⟩:=H
 obtain ⟨alm,alU,EC,ain,aby⟩:=HI0.out
 have aok:=Xa EC
 have aol:=Xb EC
 have aom:=Xc EC
 have auC:=bP EC 1
 have auD:=bP EC 2
 clear EC ain
 have a7:0≤(eG:Int):=bF bG
 have a8:eG < (bI.length:Int):=bF bG
 obtain ⟨a9,ac,a5⟩:=Kd.Lc aby eG a7 a8
 cases ac
 have a6:a9.block≠g:=Nat.ne_of_lt (Nat.lt_of_lt_of_le (by have:=World.block_lt_of_cell? _ _ a5;first|rwa [add_block] at this|exact this) (aS.ge HI0.out))
 replace a5:=JV HB.out a5
 replace a5:=(cell_far (p:=⟨g,2,none⟩) (ab7 a6) (ah (wrap64 ((wrap64 (eH * 6364136223846793005))+1442695040888963407)))).trans a5
 (try have aa:=fun (TB:Nat)=>(show (((w.drewN TB).setCell ⟨g,2,none⟩ (ah (wrap64 ((wrap64 (eH * 6364136223846793005))+1442695040888963407))))).cell? _=some _ from a5))
 clear a6
 replace a7:=eq_true a7
 replace a8:=eq_true a8
 go_enter func130,ntmps130
 go_wp2
 repeat (go_quiet (fail);try go_wp2)
 go_ret
 exact ⟨bM,b_,dZ,jv⟩

end Go.Proofs.YthejdhjpbpamoaaGreatDoor.jD
