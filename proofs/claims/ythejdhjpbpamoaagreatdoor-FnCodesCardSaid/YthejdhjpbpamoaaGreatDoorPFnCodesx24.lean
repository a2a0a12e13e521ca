/- Contracts of Go functions: each call returns what the Lean function beside it computes. Conditions: as each theorem states them. -/
import Derived.Test.YthejdhjpbpamoaaGreatDoorPkFnCodes
import Derived.Test.YthejdhjpbpamoaaGreatDoorPFnCodesx1
import Derived.Test.YthejdhjpbpamoaaGreatDoorPFnCodesx17
import Derived.Test.YthejdhjpbpamoaaGreatDoorPFnCodesx23
namespace Go.Proofs.YthejdhjpbpamoaaGreatDoor.jD
open Go.RowKit Go.Proofs.YthejdhjpbpamoaaGreatDoorW.iw Go.Proofs.YthejdhjpbpamoaaGreatDoorW.lH Go.Proofs.YthejdhjpbpamoaaGreatDoorW.oO Go.Proofs.Tryz
attribute [local go_sem] qw qB qA qF qy qE qx qC   -- for this text's walks alone
set_option linter.unusedVariables false
set_option maxHeartbeats 8000000
set_option maxRecDepth 100000
set_option linter.unusedSimpArgs false

mutual
def k_.j0:Nat→ByteArray→Bool→List (aF)→Int→ByteArray→ByteArray→Int→Int→ByteArray→Option ((List (aF)) × Int × ByteArray × Int × Bool × List ByteArray)
 | 0,_,_,_,_,_,_,_,_,_=>none
 | k+1,a9,aN,a7,ab,ac,ae,aa,a5,af=>if aN=true then ((qH.f a7).bind fun ag=>((lX.f 12).bind fun a8=>(some (ag,a8.1,a8.2.1,a8.2.2.1,a8.2.2.2.1,a8.2.2.2.2)))) else ((vM.f k aa 0 (a9.size:Int)).bind fun a6=>(if a5 < (wrap64 ((a9.size:Int) - a6)) then ((qH.f a7).bind fun aK=>(if 0≤a6 then (if a6≤(wrap64 (a6+a5)) then (if (wrap64 (a6+a5))≤(a9.size:Int) then (some (aK,0,a9.extract (a6:Int).toNat ((wrap64 (a6+a5)):Int).toNat,0,false,([]:List ByteArray))) else (none)) else (none)) else (none))) else ((qH.f a7).bind fun ai=>(if 0≤a6 then (if a6≤(a9.size:Int) then (if (a9.size:Int)≤(a9.size:Int) then (some (ai,0,a9.extract (a6:Int).toNat ((a9.size:Int):Int).toNat,0,false,([]:List ByteArray))) else (none)) else (none)) else (none)))))
def k_.j1:Nat→Int→ByteArray→Bool→Int→Int→Int→Int→List (aF)→Int→ByteArray→ByteArray→Int→Int→ByteArray→Option ((List (aF)) × Int × ByteArray × Int × Bool × List ByteArray)
 | 0,_,_,_,_,_,_,_,_,_,_,_,_,_,_=>none
 | k+1,x2,am,an,aa,ab,ac,ae,a7,ag,aK,ai,af,aN,a8=>if an=true then ((qH.f a7).bind fun aQ=>((lX.f 12).bind fun a5=>(some (aQ,a5.1,a5.2.1,a5.2.2.1,a5.2.2.2.1,a5.2.2.2.2)))) else ((uF.f k am af a8).bind fun al=>((xR.f k aa ab ac ae a7 x2 al).bind fun a9=>(if a9.2=0 then (some (a9.1,0,(⟨#[]⟩:ByteArray),(a8.size:Int),false,([]:List ByteArray))) else ((lX.f a9.2).bind fun a6=>(some (a9.1,a6.1,a6.2.1,a6.2.2.1,a6.2.2.2.1,a6.2.2.2.2))))))
end
def k_.f (k:Nat) (ag:Int) (aK:Int) (ai:Int) (aN:Int) (a5:List (aF)) (a2:Int) (aa:Int) (ac:ByteArray) (ae:ByteArray) (a8:Int) (a9:Int) (ab:ByteArray):Option ((List (aF)) × Int × ByteArray × Int × Bool × List ByteArray):=if 0≤a2 then (if a2 < (a5.length:Int) then (if aa=6 then (if a8 < 0 then (k_.j0 k ((aC a5 a2).f2) true a5 aa ac ae a8 a9 ab) else (k_.j0 k ((aC a5 a2).f2) (decide (a9 < 0)) a5 aa ac ae a8 a9 ab)) else (if aa=7 then (if a8 < 0 then (k_.j1 k a2 ((aC a5 a2).f2) true ag aK ai aN a5 aa ac ae a8 a9 ab) else (k_.j1 k a2 ((aC a5 a2).f2) (decide (a8 > (wrap64 (128 - (ab.size:Int))))) ag aK ai aN a5 aa ac ae a8 a9 ab)) else ((uh.f a9 0 128).bind fun aQ=>(if aQ=true then ((BP.f k ((aC a5 a2).f2) a9).bind fun al=>((xR.f k ag aK ai aN a5 a2 al).bind fun af=>((lX.f af.2).bind fun a6=>(some (af.1,a6.1,a6.2.1,a6.2.2.1,a6.2.2.2.1,a6.2.2.2.2))))) else ((qH.f a5).bind fun am=>((lX.f 12).bind fun a7=>(some (am,a7.1,a7.2.1,a7.2.2.1,a7.2.2.2.1,a7.2.2.2.2)))))))) else (none)) else (none)
def k_.T10:Bool × List (List Nat × List Nat):=(true,[([],[]),([0],[0]),([],[]),([],[]),([],[]),([2,3,4],[2,3,4]),([5],[5]),([1,1,0,1],[1]),([6,7,0,1,2,3,4,5,6,7],[6])])
def k_.B10:List Nat:=[0,1,0,0,0,28,60,3,255]
theorem k_.J6:kZ .any (opsOf Tryz.f79 10)=k_.T10:=by kernel_rfl
theorem k_.IL:uS k_.T10.2 k_.B10=true:=by kernel_rfl
def k_.KT:Bool × List (List Nat × List Nat):=(true,[([],[]),([],[]),([],[]),([],[]),([],[]),([4],[4]),([],[]),([6],[6]),([3,5,7],[3,5,7]),([0,1,2,8,8],[0,1,2,8]),([9],[9]),([10],[10]),([10],[10]),([],[]),([13,11,9,0,1,2,3,4,5,6,7,8,9,10,11,13],[11,13]),([12,14,0,1,2,3,4,5,6,7,8,9,10,11,12,13,14],[12])])
def k_.Ot:List Nat:=[0,0,0,0,0,16,0,64,248,511,1023,2047,2047,0,12287,32767]
def k_.ab1:Bool × List (List Nat × List Nat):=(true,[([],[]),([],[]),([],[]),([],[]),([],[]),([4],[4]),([3,5],[3,5]),([0,1,2,6,6],[0,1,2,6]),([7],[7]),([8],[8]),([8],[8]),([],[]),([11,9,7,0,1,2,3,4,5,6,7,8,9,11],[9,11]),([10,12,0,1,2,3,4,5,6,7,8,9,10,11,12],[10])])
def k_.aa4:List Nat:=[0,0,0,0,0,16,56,127,255,511,511,0,3071,8191]
theorem k_.calls (k:Nat) (b8:Int) (b9:Int) (ba:Int) (bb:Int) (ff:Option Addr) (bc:Nat) (cO:List (aF)) (a2:Int) (cq:Int) (cr:ByteArray) (ct:ByteArray) (bh:Int) (bi:Int) (cc:ByteArray) (r1:List (aF)) (r2:Int) (r3:ByteArray) (r4:Int) (r5:Bool) (r6:List ByteArray) (w:World) (en:Kd.C aU w ff cO.length cO) (eo:cO.length≤bc) (h:k_.f k b8 b9 ba bb cO a2 cq cr ct bh bi cc=some (r1,r2,r3,r4,r5,r6)) :
  Calls Tryz.prog 79 #[.agg #[ah b8,ah b9,ah ba,ah bb],.agg #[.slice ff cO.length bc],ah a2,.agg #[ah cq,.string cr,.string ct,ah bh,ah bi,.string cc]] w fun e w'=>∃ eP lY:Value,e=.returned (.tuple #[.agg #[eP],.agg #[ah r2,.string r3,ah r4,.bool r5,lY]])∧Kd.R aU 43 w' w.heap.size (fun _=>True) eP r1∧Kd.R Kd.string 9 w' w.heap.size (fun _=>True) lY r6∧Below w.heap.size w w':=by
 have Bq:=underlying25
 have mF:=underlying28
 have Bv:=underlying45
 have xM:=underlying49
 have yP:=m_ en
 have d3:=m_ eo
 clear en eo
 have HB:=m_ (Below.refl w.heap.size w)
 unfold k_.f at h
 have H:=h
 clear h
 obtain ⟨jt,H⟩:=gK H
 obtain ⟨ju,H⟩:=gK H
 have lr:=m_ H
 clear H
 go_enter func79,ntmps79
 go_upto_if 25 with (first|((with_reducible refine dJ 4 ?_);(try (refine qL (by rfl) ?_;dsimp only));refine dO 4 (cs:=#[ah b8,ah b9,ah ba,ah bb]) 25 ?_;intro af hg w8 hbox hb;obtain ⟨HB,a7,ls,Ns⟩:=kL au hb hbox hg;clear hb hbox hg)|((with_reducible refine dJ 5 ?_);(try (refine qL (by rfl) ?_;dsimp only));refine dO 5 (cs:=#[.slice ff cO.length bc]) 28 ?_;intro aw hg w9 hbox hb;obtain ⟨a7,HB,a5,lv,lw,d4,d5⟩:=pq (ak a7) au hb hbox hg;clear hb hbox hg)|((with_reducible refine dJ 7 ?_);(try (refine qL (by rfl) ?_;dsimp only));refine dO 7 (cs:=#[ah cq,.string cr,.string ct,ah bh,ah bi,.string cc]) 45 ?_;intro a9 hg mr hbox hb;obtain ⟨a7,a5,HB,a6,lx,ly,bo,bp,ax,bH⟩:=pU (ak a7) (ak a5) au hb hbox hg;clear hb hbox hg)|((with_reducible refine dJ 8 ?_);(try (refine qL (by rfl) ?_;dsimp only));refine dO 8 (cs:=#[.slice none 0 0]) 28 ?_;intro an hg ms hbox hb;obtain ⟨a7,a5,a6,HB,dR,lz,m0,bq,br,az,bd,ab,aK⟩:=vI (ak a7) (ak a5) (ak a6) au hb hbox hg;clear hb hbox hg)|((with_reducible refine dJ 9 ?_);(try (refine qL (by rfl) ?_;dsimp only));refine dO 9 (cs:=#[ah 0,.string (⟨#[]⟩:ByteArray),ah 0,.bool false,.slice none 0 0]) 49 ?_;intro aa hg ei hbox hb;obtain ⟨a7,a5,a6,dR,HB,dA,m2,m3,bs,bu,ac,be,a8,ai,bv,bw⟩:=EU (ak a7) (ak a5) (ak a6) (ak dR) au hb hbox hg;clear hb hbox hg;obtain ⟨d6,d7,b0,b1,cd,ce,cf,cg⟩:=iH d5 d4 ax bH az bd ac be;have UH:=dh a5.out;have e6:0≤(a2:Int):=bF bG;have e7:a2 < (cO.length:Int):=bF bG;obtain ⟨aq,Nc,d8,d9,da⟩:=kY yP.out a2 e6 e7;cases Nc;replace d8:=iQ HB.out d8;replace d9:=iQ HB.out d9;replace da:=iQ HB.out da;replace e6:=eq_true e6;replace e7:=eq_true e7;obtain ⟨bl,bm,aN,aQ,al,am⟩:=kJ bp bo ab aK a8 ai;have e8:=jK a6.out))
 (try simp only [Act.put,List.setIfInBounds_toArray,List.set_cons_zero,List.set_cons_succ])
 (try clear d7 bm d6 b0 cd cf bl b1 aN al ce aQ cg am)
 (try clear UH)
 (try clear e8)
 (try clear UH)
 (try clear d8 d9 da)
 obtain ⟨H⟩:=lr
 revert H;refine fH (fun ej H=>?_) fun ej H=>?_
 ·have db:=fZ ej
  have e9:=f_ ej
  clear ej
  try simp only [aY,bf,db]
  have fg:=m_ H
  clear H
  go_upto_region 4 with (fail)
  go_cut [34] (fun v34 wc=>∃ (kq:Nat) (dq:Bool),v34=.bool dq∧aA (k_.j0 kq ((aC cO a2).f2) dq cO cq cr ct bh bi cc=some (r1,r2,r3,r4,r5,r6))∧aA (kq≤k)∧aA (wc.heap[af]?=some (.cells #[ah b8,ah b9,ah ba,ah bb] 25))∧aA (wc.heap[aw]?=some (.cells #[(.slice (some aq) cO.length bc)] 28))∧aA (wc.heap[a9]?=some (.cells #[ah cq,.string cr,.string ct,ah bh,ah bi,.string cc] 45))∧aA (wc.heap[an]?=some (.cells #[(.slice none 0 0)] 28))∧aA (wc.heap[aa]?=some (.cells #[ah 0,.string (⟨#[]⟩:ByteArray),ah 0,.bool false,(.slice none 0 0)] 49))∧aA (Below w.heap.size w wc))
  case first =>
   obtain ⟨H⟩:=fg
   revert H;refine gJ (fun di H=>?_) fun di H=>?_
   ·try simp only [aY,bf,di]
    have H':=m_ H
    clear H
    obtain ⟨bl,bm,b1,b0,aN,aQ,al,am⟩:=iH bp bo bH ax ab aK a8 ai
    have fi:=jK a6.out
    go_wp2
    go_meet
    case rel=>exact ⟨_,(true),bg,H',⟨kC⟩,⟨(ak a7)⟩,⟨(ak a5)⟩,⟨(ak a6)⟩,⟨(ak dR)⟩,⟨(ak dA)⟩,⟨au⟩⟩
   try simp only [aY,bf,di]
   have H':=m_ H
   clear H
   obtain ⟨bl,bm,b1,b0,aN,aQ,al,am⟩:=iH bp bo bH ax ab aK a8 ai
   have ek:=jK a6.out
   go_wp2
   go_meet
   case rel=>exact ⟨_,(decide (bi < 0)),bg,H',⟨kC⟩,⟨(ak a7)⟩,⟨(ak a5)⟩,⟨(ak a6)⟩,⟨(ak dR)⟩,⟨(ak dA)⟩,⟨au⟩⟩
  case rest =>
  clear fg
  try clear c5;try clear jt;try clear c6;try clear ju;try clear ej;try clear db;try clear e9;try clear e6;try clear e7
  obtain ⟨kq,dq,rfl,HA,aly,a7,a5,a6,dR,dA,HB⟩:=hcut
  cases kq with
  | zero=>exact absurd HA.out (by simp [k_.j0])
  | succ ajf =>
  obtain ⟨H⟩:=HA
  simp only [k_.j0] at H
  by_cases fu:dq=true
  ·subst fu
   rw [if_pos rfl] at H
   obtain ⟨fw,m6,H⟩:=bd_ H
   obtain ⟨⟨fx,fy,fz,g7,g8⟩,m7,H⟩:=bd_ H
   simp only [Option.some.injEq,Prod.mk.injEq] at H
   obtain ⟨rfl,rfl,rfl,rfl,rfl,rfl⟩:=H
   obtain ⟨d6,d7,b0,b1,cd,ce,cf,cg⟩:=iH d5 d4 ax bH az bd ac be
   have UL:=dh a5.out
   go_wp2_with (first|((with_reducible refine bT 73 ?_);refine bU (some 36) rfl rfl func73 aB rfl #[.agg #[.slice (some aq) cO.length bc]] rfl aX ?_;(with_reducible refine (qH.calls _ _ cO fw _ pG d3.out m6.out).mono ?_);rintro e na ⟨az_,rfl,ho0,hb⟩;refine ⟨_,rfl,?_⟩;obtain ⟨jU,a7,a5,a6,dR,dA,HB⟩:=p_ (Kd.dI ho0 (cZ au)) <| oD (ak a7) (ak a5) (ak a6) (ak dR) (ak dA) au hb;(try clear hb);(try clear ho0))|((with_reducible refine bT 75 ?_);refine bU (some 37) rfl rfl func75 aB rfl #[ah 12] rfl aX ?_;(with_reducible refine (lX.calls 12 fx fy fz g7 g8 _ m7.out).mono ?_);rintro e nb ⟨az',rfl,ho0,hb⟩;refine ⟨_,rfl,?_⟩;obtain ⟨jU,ep,a7,a5,a6,dR,dA,HB⟩:=p_ (Kd.dw (aJ jU) hb) <| p_ (Kd.dI ho0 (cZ au)) <| oD (ak a7) (ak a5) (ak a6) (ak dR) (ak dA) au hb;(try clear hb);(try clear ho0);obtain ⟨Nh,jx,JI⟩:=Kd.dK jU.out;subst JI;obtain ⟨iO,cv,aQ,aN,cw,cx⟩:=kJ br bq aK ab bv bw;have aaV:=dh dR.out;obtain ⟨cy,cz,am,al⟩:=g_ bu bs ai a8;have g9:=kK dA.out;obtain ⟨jz,l5,l6⟩:=Kd.dK ep.out;subst l6))
   refine bodyPost_ret (iR rfl _ _ an aa 28 49 #[.slice Nh fw.length jx] #[ah fx,.string fy,ah fz,.bool g7,.slice jz g8.length l5] (0,0) (0,0) _ _ rfl aT underlying28 rfl aB rfl aT underlying49 rfl aB) rfl ?_
   exact ⟨_,_,bM,(by (with_reducible repeat (first|apply Kd.dB|apply Kd.dD|apply Kd.aZ));exact Kd.bn (aH (aH (aH (aH (aH (aH (Kd.bQ (Kd.bQ jU.out dR.out (by decide)) dA.out (by decide)) (fun _ hk=>hk.1.2))))))) (fun _ hk=>trivial)),(by (with_reducible repeat (first|apply Kd.dB|apply Kd.dD|apply Kd.aZ));exact Kd.bn (aH (aH (aH (aH (aH (aH (Kd.bQ (Kd.bQ ep.out dR.out (by decide)) dA.out (by decide)) (fun _ hk=>hk.1.2))))))) (fun _ hk=>trivial)),au⟩
  replace fu:=Bool.eq_false_iff.mpr fu
  subst fu
  rw [if_neg iI] at H
  obtain ⟨ea,m8,H⟩:=bd_ H
  have ga:=m_ H
  clear H
  obtain ⟨bl,bm,b1,b0,aN,aQ,al,am⟩:=iH bp bo bH ax ab aK a8 ai
  have fj:=jK a6.out
  go_upto_if 50 with (first|((with_reducible refine bT 123 ?_);refine bU (some 42) rfl rfl func123 aB rfl #[ah bh,ah 0,ah (((aC cO a2).f2).size:Int)] rfl aX ?_;(with_reducible refine (vM.calls ajf bh 0 (((aC cO a2).f2).size:Int) ea _ m8.out).mono ?_);rintro e w' ⟨rfl,⟨nd,rfl⟩⟩;refine ⟨_,rfl,?_⟩))
  (try simp only [Act.put,List.setIfInBounds_toArray,List.set_cons_zero,List.set_cons_succ])
  (try clear bm b0 bl b1 aN al aQ am)
  (try clear fj)
  obtain ⟨H⟩:=ga
  revert H;refine gJ (fun dj H=>?_) fun dj H=>?_
  rotate_left
  ·try simp only [aY,bf,dj]
   obtain ⟨gc,m9,H⟩:=bd_ H
   obtain ⟨gd,gf,H⟩:=jE H
   obtain ⟨gh,gi,H⟩:=jE H
   obtain ⟨gj,gl,H⟩:=jE H
   simp only [Option.some.injEq,Prod.mk.injEq] at H
   obtain ⟨rfl,rfl,rfl,rfl,rfl,rfl⟩:=H
   try go_wp2
   (try (rw [P7 wc];generalize rW:World.drewN wc _=wc;have gy:=bY (⟨(by rw [← rW];exact (ak a7))⟩:aA (wc.heap[af]?=some (.cells #[ah b8,ah b9,ah ba,ah bb] 25))) <| bY (⟨(by rw [← rW];exact (ak a5))⟩:aA (wc.heap[aw]?=some (.cells #[.slice (some aq) cO.length bc] 28))) <| bY (⟨(by rw [← rW];exact (ak a6))⟩:aA (wc.heap[a9]?=some (.cells #[ah cq,.string cr,.string ct,ah bh,ah bi,.string cc] 45))) <| bY (⟨(by rw [← rW];exact (ak dR))⟩:aA (wc.heap[an]?=some (.cells #[.slice none 0 0] 28))) <| bY (⟨(by rw [← rW];exact (ak dA))⟩:aA (wc.heap[aa]?=some (.cells #[ah 0,.string (⟨#[]⟩:ByteArray),ah 0,.bool false,.slice none 0 0] 49))) <| (⟨(by rw [← rW];exact au)⟩:aA (Below w.heap.size w wc));clear a7 a5 a6 dR dA HB rW;obtain ⟨a7,a5,a6,dR,dA,HB⟩:=gy))
   obtain ⟨a7,a5,a6,dR,dA,HB⟩:=yV a7 a5 a6 dR dA HB
   refine iT (n:=9) (S:=fun w'=>w'.cell? ⟨aw,0,none⟩=some (.slice (some aq) cO.length bc)) (ds:=[]) EP aB rfl rfl ((aP a5.out 0).trans rfl) (fun hH=>?_);refine kE k_.J6 k_.IL (fun aO fJ=>?_)
   generalize wc.drew=nc at a7 a5 a6 dR dA HB hH ⊢
   refine cu 2 57 VH aO ?_
   refine cu 3 58 V4 aO ?_
   refine cu 4 59 V5 aO ?_
   refine cu 5 60 V6 aO ?_
   refine cu 6 61 V7 aO ?_
   refine lI (i:=0) (N:=some 55) (v:=?_) (a':=?_) V8 rfl rfl (xU aO.out fJ.out aB) (fun _ _ _ h=>h) (Or.inl ⟨(by rfl),?_⟩) hH ?_ ?_
   rotate_left
   ·intro w' s0
    go_simp
    with_reducible rfl
   rotate_left
   ·simp only [Act.put,List.setIfInBounds_toArray,List.set_cons_zero,List.set_cons_succ,aY,bf]
    rfl
   refine fD (i:=1) (N:=some 56) WE rfl rfl (jq aO.out aB) (by decide) (fun K hK=>?_)
   refine i_ func73 aB rfl #[.agg #[.slice (some aq) cO.length bc]] (by rfl) rfl rfl aX ?_
   with_reducible refine (qH.calls _ _ cO gc _ pG d3.out m9.out).mono ?_
   rintro e fs ⟨aAb,rfl,ho0,hb⟩
   refine ⟨_,rfl,?_⟩
   obtain ⟨eq,a7,a5,a6,dR,dA,HB⟩:=p_ (Kd.dI ho0 (cZ au)) <| oD (ak a7) (ak a5) (ak a6) (ak dR) (ak dA) au hb
   (try clear hb)
   (try clear ho0)
   obtain ⟨JL,l8,gm⟩:=Kd.dK eq.out
   (first|subst gm|(injection gm with dV gU dW;have gV:=dV.symm;have gW:=dW.symm;clear dV gU dW;subst gV;subst gW))
   refine hK.out _ _ ((aP a5.out 0).trans rfl) (fun hH=>?_)
   clear hK K
   refine eX (some 56) ?_
   refine fD (i:=7) (N:=none) WG rfl rfl (jq aO.out aB) (by decide) (fun K hK=>?_)
   have ayw:fs.cell? ⟨an,0,none⟩=some (.slice none 0 0):=(aP dR.out 0).trans rfl
   have arY:=bP dR.out 0
   obtain ⟨cv,cd,aN,cx,iO,ce,aQ,cw⟩:=iH bq az ab bw br bd aK bv
   refine iM (w1:=?_) (by rfl) rfl ?_ ?_
   rotate_left
   ·go_simp
    rfl
   refine hK.out _ _ ((aG az hH)) (fun hH=>?_)
   clear hK K
   refine fD (i:=8) (N:=none) WH rfl rfl (jq aO.out aB) (by decide) (fun K hK=>?_)
   have ayx:fs.cell? ⟨aa,0,none⟩=some (ah 0):=(aP dA.out 0).trans rfl
   have arZ:=bP dA.out 0
   obtain ⟨cz,cf,al,cy,cg,am⟩:=kJ bs ac a8 bu be ai
   have ayy:fs.cell? ⟨aa,1,none⟩=some (.string (⟨#[]⟩:ByteArray)):=(aP dA.out 1).trans rfl
   have ar0:=bP dA.out 1
   have ayz:fs.cell? ⟨aa,2,none⟩=some (ah 0):=(aP dA.out 2).trans rfl
   have ar1:=bP dA.out 2
   have ayA:fs.cell? ⟨aa,3,none⟩=some (.bool false):=(aP dA.out 3).trans rfl
   have ar2:=bP dA.out 3
   have ayB:fs.cell? ⟨aa,4,none⟩=some (.slice none 0 0):=(aP dA.out 4).trans rfl
   have ar4:=bP dA.out 4
   refine iM (w1:=?_) (by rfl) rfl ?_ ?_
   rotate_left
   ·go_simp
    rfl
   refine hK.out _ _ ((aG ac (aG ac (aG ac (aG ac (aG ac hH)))))) (fun hH=>?_)
   clear hK K
   refine iP (ku aO.out aB) ?_
   try go_wp2
   refine bodyPost_ret (iR rfl _ _ an aa 28 49 #[.slice JL gc.length l8] #[ah 0,.string (((aC cO a2).f2).extract (ea:Int).toNat ((((aC cO a2).f2).size:Int):Int).toNat),ah 0,.bool false,.slice none 0 0] (0,0) (0,0) _ _ rfl aT underlying28 rfl aB rfl aT underlying49 rfl aB) rfl ?_
   exact ⟨_,_,bM,(by (with_reducible repeat (first|apply Kd.dB|apply Kd.dD|apply Kd.aZ));exact Kd.bn (aH (aH (aH (aH (aH (aH (Kd.bQ (Kd.bQ eq.out dR.out (by decide)) dA.out (by decide)) (fun _ hk=>hk.1.2))))))) (fun _ hk=>trivial)),kD,au⟩
  try simp only [aY,bf,dj]
  obtain ⟨gn,ma,H⟩:=bd_ H
  obtain ⟨go,gp,H⟩:=jE H
  obtain ⟨D8,H⟩:=kV H
  have yu:=eq_true D8
  have gr:=mM D8
  obtain ⟨la,H⟩:=kV H
  have gs:=eq_true la
  have gt:=mM la
  simp only [Option.some.injEq,Prod.mk.injEq] at H
  obtain ⟨rfl,rfl,rfl,rfl,rfl,rfl⟩:=H
  have Am:=jK a6.out
  try go_wp2
  (try (rw [P7 wc];generalize rW:World.drewN wc _=wc;have gy:=bY (⟨(by rw [← rW];exact (ak a7))⟩:aA (wc.heap[af]?=some (.cells #[ah b8,ah b9,ah ba,ah bb] 25))) <| bY (⟨(by rw [← rW];exact (ak a5))⟩:aA (wc.heap[aw]?=some (.cells #[.slice (some aq) cO.length bc] 28))) <| bY (⟨(by rw [← rW];exact (ak a6))⟩:aA (wc.heap[a9]?=some (.cells #[ah cq,.string cr,.string ct,ah bh,ah bi,.string cc] 45))) <| bY (⟨(by rw [← rW];exact (ak dR))⟩:aA (wc.heap[an]?=some (.cells #[.slice none 0 0] 28))) <| bY (⟨(by rw [← rW];exact (ak dA))⟩:aA (wc.heap[aa]?=some (.cells #[ah 0,.string (⟨#[]⟩:ByteArray),ah 0,.bool false,.slice none 0 0] 49))) <| (⟨(by rw [← rW];exact au)⟩:aA (Below w.heap.size w wc));clear a7 a5 a6 dR dA HB rW;obtain ⟨a7,a5,a6,dR,dA,HB⟩:=gy))
  obtain ⟨a7,a5,a6,dR,dA,HB⟩:=yV a7 a5 a6 dR dA HB
  refine iT (n:=9) (S:=fun w'=>w'.cell? ⟨aw,0,none⟩=some (.slice (some aq) cO.length bc)) (ds:=[]) EP aB rfl rfl ((aP a5.out 0).trans rfl) (fun hH=>?_);refine kE k_.J6 k_.IL (fun aO fJ=>?_)
  generalize wc.drew=ne at a7 a5 a6 dR dA HB hH ⊢
  refine cu 2 57 VH aO ?_
  refine cu 3 58 V4 aO ?_
  refine cu 4 59 V5 aO ?_
  refine cu 5 60 V6 aO ?_
  refine cu 6 61 V7 aO ?_
  refine lI (i:=0) (N:=some 55) (v:=?_) (a':=?_) V8 rfl rfl (xU aO.out fJ.out aB) (fun _ _ _ h=>h) (Or.inl ⟨(by rfl),?_⟩) hH ?_ ?_
  rotate_left
  ·intro w' s0
   go_simp
   with_reducible rfl
  rotate_left
  ·simp only [Act.put,List.setIfInBounds_toArray,List.set_cons_zero,List.set_cons_succ,aY,bf]
   rfl
  refine fD (i:=1) (N:=some 56) WE rfl rfl (jq aO.out aB) (by decide) (fun K hK=>?_)
  refine i_ func73 aB rfl #[.agg #[.slice (some aq) cO.length bc]] (by rfl) rfl rfl aX ?_
  with_reducible refine (qH.calls _ _ cO gn _ pG d3.out ma.out).mono ?_
  rintro e ft ⟨aAa,rfl,ho0,hb⟩
  refine ⟨_,rfl,?_⟩
  obtain ⟨er,a7,a5,a6,dR,dA,HB⟩:=p_ (Kd.dI ho0 (cZ au)) <| oD (ak a7) (ak a5) (ak a6) (ak dR) (ak dA) au hb
  (try clear hb)
  (try clear ho0)
  obtain ⟨lc,ld,gv⟩:=Kd.dK er.out
  (first|subst gv|(injection gv with dV gU dW;have gV:=dV.symm;have gW:=dW.symm;clear dV gU dW;subst gV;subst gW))
  refine hK.out _ _ ((aP a5.out 0).trans rfl) (fun hH=>?_)
  clear hK K
  refine eX (some 56) ?_
  refine fD (i:=7) (N:=none) WG rfl rfl (jq aO.out aB) (by decide) (fun K hK=>?_)
  have ayk:ft.cell? ⟨an,0,none⟩=some (.slice none 0 0):=(aP dR.out 0).trans rfl
  have arM:=bP dR.out 0
  obtain ⟨cv,cd,cx,iO,ce,cw⟩:=kJ bq az bw br bd bv
  refine iM (w1:=?_) (by rfl) rfl ?_ ?_
  rotate_left
  ·go_simp
   rfl
  refine hK.out _ _ ((aG az hH)) (fun hH=>?_)
  clear hK K
  refine fD (i:=8) (N:=none) WH rfl rfl (jq aO.out aB) (by decide) (fun K hK=>?_)
  have ayl:ft.cell? ⟨aa,0,none⟩=some (ah 0):=(aP dA.out 0).trans rfl
  have arN:=bP dA.out 0
  obtain ⟨cz,cf,cy,cg⟩:=g_ bs ac bu be
  have aym:ft.cell? ⟨aa,1,none⟩=some (.string (⟨#[]⟩:ByteArray)):=(aP dA.out 1).trans rfl
  have arO:=bP dA.out 1
  have ayn:ft.cell? ⟨aa,2,none⟩=some (ah 0):=(aP dA.out 2).trans rfl
  have arP:=bP dA.out 2
  have ayo:ft.cell? ⟨aa,3,none⟩=some (.bool false):=(aP dA.out 3).trans rfl
  have arQ:=bP dA.out 3
  have ayp:ft.cell? ⟨aa,4,none⟩=some (.slice none 0 0):=(aP dA.out 4).trans rfl
  have arR:=bP dA.out 4
  refine iM (w1:=?_) (by rfl) rfl ?_ ?_
  rotate_left
  ·go_simp
   rfl
  refine hK.out _ _ ((aG ac (aG ac (aG ac (aG ac (aG ac hH)))))) (fun hH=>?_)
  clear hK K
  refine iP (ku aO.out aB) ?_
  try go_wp2
  refine bodyPost_ret (iR rfl _ _ an aa 28 49 #[.slice lc gn.length ld] #[ah 0,.string (((aC cO a2).f2).extract (ea:Int).toNat ((wrap64 (ea+bi)):Int).toNat),ah 0,.bool false,.slice none 0 0] (0,0) (0,0) _ _ rfl aT underlying28 rfl aB rfl aT underlying49 rfl aB) rfl ?_
  exact ⟨_,_,bM,(by (with_reducible repeat (first|apply Kd.dB|apply Kd.dD|apply Kd.aZ));exact Kd.bn (aH (aH (aH (aH (aH (aH (Kd.bQ (Kd.bQ er.out dR.out (by decide)) dA.out (by decide)) (fun _ hk=>hk.1.2))))))) (fun _ hk=>trivial)),kD,au⟩
 have db:=fP ej
 have e9:=fQ ej
 try simp only [aY,bf,db]
 revert H;refine fH (fun es H=>?_) fun es H=>?_
 rotate_left
 ·have et:=fP es
  have tY:=fQ es
  obtain ⟨gw,lf,H⟩:=bd_ H
  have ev:=m_ H
  clear H
  obtain ⟨bl,bm,b1,b0,aN,aQ,al,am⟩:=iH bp bo bH ax ab aK a8 ai
  have gx:=jK a6.out
  go_upto_if 105 with (first|((with_reducible refine bT 98 ?_);refine bU (some 104) rfl rfl func98 aB rfl #[ah bi,ah 0,ah 128] rfl aX ?_;(with_reducible refine (uh.calls bi 0 128 gw _ lf.out).mono ?_);rintro e w' ⟨rfl,⟨nd,rfl⟩⟩;refine ⟨_,rfl,?_⟩))
  (try simp only [Act.put,List.setIfInBounds_toArray,List.set_cons_zero,List.set_cons_succ])
  (try clear bm b0 bl b1 aN al aQ am)
  (try clear gx)
  obtain ⟨H⟩:=ev
  by_cases el:gw=true
  rotate_left
  ·replace el:=Bool.eq_false_iff.mpr el
   subst el
   rw [if_neg iI] at H
   obtain ⟨Ap,zn,H⟩:=bd_ H
   obtain ⟨⟨gz,h8,h9,hs,hu⟩,lh,H⟩:=bd_ H
   simp only [Option.some.injEq,Prod.mk.injEq] at H
   obtain ⟨rfl,rfl,rfl,rfl,rfl,rfl⟩:=H
   obtain ⟨d6,d7,b0,b1,cd,ce,cf,cg⟩:=iH d5 d4 ax bH az bd ac be
   have aAV:=dh a5.out
   go_wp2_with (first|((with_reducible refine bT 73 ?_);refine bU (some 107) rfl rfl func73 aB rfl #[.agg #[.slice (some aq) cO.length bc]] rfl aX ?_;(with_reducible refine (qH.calls _ _ cO Ap _ ?kX d3.out zn.out).mono ?_);(case kX=>repeat (first|exact (Kd.pJ yP.out au)|(with_reducible refine Kd.jO ?_ _)|(with_reducible refine Kd.jT ?_ _)|(with_reducible refine Kd.jS ?_)));rintro e mb ⟨aAg,rfl,ho0,hb⟩;refine ⟨_,rfl,?_⟩;obtain ⟨dx,a7,a5,a6,dR,dA,HB⟩:=p_ (Kd.dI ho0 (cZ au)) <| oD (ak a7) (ak a5) (ak a6) (ak dR) (ak dA) au hb;(try clear hb);(try clear hk);(try clear ho0))|((with_reducible refine bT 75 ?_);refine bU (some 108) rfl rfl func75 aB rfl #[ah 12] rfl aX ?_;(with_reducible refine (lX.calls 12 gz h8 h9 hs hu _ lh.out).mono ?_);rintro e mc ⟨aAh,rfl,ho0,hb⟩;refine ⟨_,rfl,?_⟩;obtain ⟨dx,ew,a7,a5,a6,dR,dA,HB⟩:=p_ (Kd.dw (aJ dx) hb) <| p_ (Kd.dI ho0 (cZ au)) <| oD (ak a7) (ak a5) (ak a6) (ak dR) (ak dA) au hb;(try clear hb);(try clear ho0);obtain ⟨hy,i1,i2⟩:=Kd.dK dx.out;subst i2;obtain ⟨iO,cv,aQ,aN,cw,cx⟩:=kJ br bq aK ab bv bw;have aAX:=dh dR.out;obtain ⟨cy,cz,am,al⟩:=g_ bu bs ai a8;have m4:=kK dA.out;obtain ⟨i3,i4,i5⟩:=Kd.dK ew.out;subst i5))
   refine bodyPost_ret (iR rfl _ _ an aa 28 49 #[.slice hy Ap.length i1] #[ah gz,.string h8,ah h9,.bool hs,.slice i3 hu.length i4] (0,0) (0,0) _ _ rfl aT underlying28 rfl aB rfl aT underlying49 rfl aB) rfl ?_
   exact ⟨_,_,bM,(by (with_reducible repeat (first|apply Kd.dB|apply Kd.dD|apply Kd.aZ));exact Kd.bn (aH (aH (aH (aH (aH (aH (Kd.bQ (Kd.bQ dx.out dR.out (by decide)) dA.out (by decide)) (fun _ hk=>hk.1.2))))))) (fun _ hk=>trivial)),(by (with_reducible repeat (first|apply Kd.dB|apply Kd.dD|apply Kd.aZ));exact Kd.bn (aH (aH (aH (aH (aH (aH (Kd.bQ (Kd.bQ ew.out dR.out (by decide)) dA.out (by decide)) (fun _ hk=>hk.1.2))))))) (fun _ hk=>trivial)),au⟩
  subst el
  rw [if_pos rfl] at H
  obtain ⟨dr,i6,H⟩:=bd_ H
  obtain ⟨⟨d2,dy⟩,fl,H⟩:=bd_ H
  obtain ⟨⟨i7,i8,i9,ia,ib⟩,li,H⟩:=bd_ H
  simp only [Option.some.injEq,Prod.mk.injEq] at H
  obtain ⟨rfl,rfl,rfl,rfl,rfl,rfl⟩:=H
  try go_wp2
  (try (rw [P7 ei];generalize rW:World.drewN ei _=ei;have gy:=bY (⟨(by rw [← rW];exact (ak a7))⟩:aA (ei.heap[af]?=some (.cells #[ah b8,ah b9,ah ba,ah bb] 25))) <| bY (⟨(by rw [← rW];exact (ak a5))⟩:aA (ei.heap[aw]?=some (.cells #[.slice (some aq) cO.length bc] 28))) <| bY (⟨(by rw [← rW];exact (ak a6))⟩:aA (ei.heap[a9]?=some (.cells #[ah cq,.string cr,.string ct,ah bh,ah bi,.string cc] 45))) <| bY (⟨(by rw [← rW];exact (ak dR))⟩:aA (ei.heap[an]?=some (.cells #[.slice none 0 0] 28))) <| bY (⟨(by rw [← rW];exact (ak dA))⟩:aA (ei.heap[aa]?=some (.cells #[ah 0,.string (⟨#[]⟩:ByteArray),ah 0,.bool false,.slice none 0 0] 49))) <| (⟨(by rw [← rW];exact au)⟩:aA (Below w.heap.size w ei));clear a7 a5 a6 dR dA HB rW;obtain ⟨a7,a5,a6,dR,dA,HB⟩:=gy))
  obtain ⟨a7,a5,a6,dR,dA,HB⟩:=yV a7 a5 a6 dR dA HB
  refine iT (n:=14) (S:=fun w'=>sF w' af (ah b8) (ah b9) (ah ba) (ah bb) <| jQ w' aw (.slice (some aq) cO.length bc) <| zZ w' a9 (ah cq) (.string cr) (.string ct) (ah bh) (ah bi) (.string cc)) (ds:=[]) IW aB rfl rfl (mV a7.out ⟨(aP a5.out 0).trans rfl,qK a6.out⟩) (fun hH=>?_);refine kE (T:=k_.ab1) (B:=k_.aa4) aB aB (fun aO fJ=>?_)
  generalize ei.drew=me at a7 a5 a6 dR dA HB hH ⊢
  refine cu 2 112 V9 aO ?_
  refine cu 3 113 V_ aO ?_
  refine cu 4 114 Wh aO ?_
  refine jZ 0 110 Wi aO fJ hH ?_
  refine jZ 1 111 WW aO fJ hH ?_
  refine jZ 5 115 WX aO fJ hH ?_
  refine yx (σ:=Value × Nat) 2 Bj (fun s_=>[(116,.string dr),(117,.tuple #[.agg #[s_.1],ah dy]),(15,.pointer (some ⟨s_.2,0,none⟩)),(109,.tuple #[.agg #[s_.1],ah dy]),(118,.agg #[s_.1]),(119,ah dy)]) (fun s_ w'=>(sF w' af (ah b8) (ah b9) (ah ba) (ah bb) <| jQ w' aw (.slice (some aq) cO.length bc) <| zZ w' a9 (ah cq) (.string cr) (.string ct) (ah bh) (ah bi) (.string cc))∧(Kd.R aU 43 w' w.heap.size (fun _=>True) s_.1 d2)∧(w'.heap[af]?=some (.cells #[ah b8,ah b9,ah ba,ah bb] 25))∧(w'.heap[aw]?=some (.cells #[.slice (some aq) cO.length bc] 28))∧(w'.heap[a9]?=some (.cells #[ah cq,.string cr,.string ct,ah bh,ah bi,.string cc] 45))∧(w'.heap[an]?=some (.cells #[.slice none 0 0] 28))∧(w'.heap[aa]?=some (.cells #[ah 0,.string (⟨#[]⟩:ByteArray),ah 0,.bool false,.slice none 0 0] 49))∧(w'.heap[s_.2]?=some (.cells #[.slice none 0 0] 28))∧(w.heap.size≤s_.2)∧(w.heap.size≤s_.2)∧(af≠s_.2)∧(s_.2≠af)∧(aw≠s_.2)∧(s_.2≠aw)∧(a9≠s_.2)∧(s_.2≠a9)∧(an≠s_.2)∧(s_.2≠an)∧(aa≠s_.2)∧(s_.2≠aa)∧(Below w.heap.size w w')) ?_ ?_
  rotate_left
  ·intro uM
   refine yM (i:=6) (j:=11) (Ni:=some 116) (uJ:=some 15) Wj PD rfl rfl rfl rfl (yN aO.out aB) (by decide) (by decide) (fun K hK=>?_) (fun K hK=>?_)
   ·skip
    refine i_ func126 aB rfl #[.string ((aC cO a2).f2),ah bi] (by rfl) rfl rfl aX ?_
    with_reducible refine (BP.calls k ((aC cO a2).f2) bi dr _ i6.out).mono ?_
    rintro e lj ⟨rfl,hb⟩
    refine ⟨_,rfl,?_⟩
    obtain ⟨a7,a5,a6,dR,dA,HB⟩:=oD (ak a7) (ak a5) (ak a6) (ak dR) (ak dA) au hb
    (try clear hb)
    refine hK.out _ _ (mV a7.out ⟨(aP a5.out 0).trans rfl,qK a6.out⟩) (fun hH=>?_)
    clear hK K
    refine eX (some 116) ?_
    refine yM (i:=7) (j:=11) (Ni:=some 117) (uJ:=some 15) Wn PE rfl rfl rfl rfl (yN aO.out aB) (by decide) (by decide) (fun K hK=>?_) (fun K hK=>?_)
    ·skip
     refine i_ func124 aB rfl #[.agg #[ah b8,ah b9,ah ba,ah bb],.agg #[.slice (some aq) cO.length bc],ah a2,.string dr] (by rfl) rfl rfl aX ?_
     with_reducible refine (xR.calls k b8 b9 ba bb _ _ cO a2 dr d2 dy _ pG d3.out fl.out).mono ?_
     rintro e ic ⟨Ew,rfl,ho0,hb⟩
     refine ⟨_,rfl,?_⟩
     obtain ⟨fB,a7,a5,a6,dR,dA,HB⟩:=p_ (Kd.dI ho0 (cZ au)) <| oD (ak a7) (ak a5) (ak a6) (ak dR) (ak dA) au hb
     (try clear hb)
     (try clear ho0)
     refine hK.out _ _ (mV a7.out ⟨(aP a5.out 0).trans rfl,qK a6.out⟩) (fun hH=>?_)
     clear hK K
     refine eX (some 117) ?_
     refine cu 8 109 Wp aO ?_
     refine cu 9 118 PN aO ?_
     refine cu 10 119 Lj aO ?_
     refine fD (i:=11) (N:=some 15) Bj rfl rfl (jq aO.out aB) (by decide) (fun K hK=>?_)
     refine wU ?hg (N:=15) ?hd (cs:=#[.slice none 0 0]) (t:=28) ?hr ?_;(case hd=>rfl);(case hg=>rfl);(case hr=>first|(go_simp;done)|(go_simp;rfl))
     intro ar hg id hbox hb
     obtain ⟨fB,a7,a5,a6,dR,dA,HB,av,dk,dl,b2,ci,bx,cj,ao,ck,cl,bz,cm,aW⟩:=p_ (Kd.dw (aJ fB) hb) <| Bo (ak a7) (ak a5) (ak a6) (ak dR) (ak dA) au hb hbox hg
     clear hb hbox hg
     refine hK.out _ _ (mV a7.out ⟨(aP a5.out 0).trans rfl,qK a6.out⟩) (fun hH=>?_)
     clear hK K
     refine eX (some 15) ?_
     exact lW xk (uM (Ew,ar) _ ⟨hH,(aJ fB),(ak a7),(ak a5),(ak a6),(ak dR),(ak dA),(ak av),dk.out,dl.out,b2.out,ci.out,bx.out,cj.out,ao.out,ck.out,cl.out,bz.out,cm.out,aW.out,au⟩)
    ·skip
     refine wU ?hg (N:=15) ?hd (cs:=#[.slice none 0 0]) (t:=28) ?hr ?_;(case hd=>rfl);(case hg=>rfl);(case hr=>first|(go_simp;done)|(go_simp;rfl))
     intro ar hg ic hbox hb
     obtain ⟨a7,a5,a6,dR,dA,HB,av,dk,dl,b2,ci,bx,cj,ao,ck,cl,bz,cm,aW⟩:=Bo (ak a7) (ak a5) (ak a6) (ak dR) (ak dA) au hb hbox hg
     clear hb hbox hg
     refine hK.out _ _ (mV a7.out ⟨(aP a5.out 0).trans rfl,qK a6.out⟩) (fun hH=>?_)
     clear hK K
     refine eX (some 15) ?_
     refine fD (i:=7) (N:=some 117) PG rfl rfl (jq aO.out aB) (by decide) (fun K hK=>?_)
     refine i_ func124 aB rfl #[.agg #[ah b8,ah b9,ah ba,ah bb],.agg #[.slice (some aq) cO.length bc],ah a2,.string dr] (by rfl) rfl rfl aX ?_
     with_reducible refine (xR.calls k b8 b9 ba bb _ _ cO a2 dr d2 dy _ pG d3.out fl.out).mono ?_
     rintro e id ⟨Ew,rfl,ho0,hb⟩
     refine ⟨_,rfl,?_⟩
     obtain ⟨fB,a7,a5,a6,dR,dA,av,HB⟩:=p_ (Kd.dI ho0 (cZ au)) <| pR (ak a7) (ak a5) (ak a6) (ak dR) (ak dA) (ak av) au hb
     (try clear hb)
     (try clear ho0)
     refine hK.out _ _ (mV a7.out ⟨(aP a5.out 0).trans rfl,qK a6.out⟩) (fun hH=>?_)
     clear hK K
     refine eX (some 117) ?_
     refine cu 8 109 PI aO ?_
     refine cu 9 118 IZ aO ?_
     refine cu 10 119 Bj aO ?_
     exact lW xk (uM (Ew,ar) _ ⟨hH,(aJ fB),(ak a7),(ak a5),(ak a6),(ak dR),(ak dA),(ak av),dk.out,dl.out,b2.out,ci.out,bx.out,cj.out,ao.out,ck.out,cl.out,bz.out,cm.out,aW.out,au⟩)
   ·skip
    refine wU ?hg (N:=15) ?hd (cs:=#[.slice none 0 0]) (t:=28) ?hr ?_;(case hd=>rfl);(case hg=>rfl);(case hr=>first|(go_simp;done)|(go_simp;rfl))
    intro ar hg lj hbox hb
    obtain ⟨a7,a5,a6,dR,dA,HB,av,dk,dl,b2,ci,bx,cj,ao,ck,cl,bz,cm,aW⟩:=Bo (ak a7) (ak a5) (ak a6) (ak dR) (ak dA) au hb hbox hg
    clear hb hbox hg
    refine hK.out _ _ (mV a7.out ⟨(aP a5.out 0).trans rfl,qK a6.out⟩) (fun hH=>?_)
    clear hK K
    refine eX (some 15) ?_
    refine fD (i:=6) (N:=some 116) PE rfl rfl (jq aO.out aB) (by decide) (fun K hK=>?_)
    refine i_ func126 aB rfl #[.string ((aC cO a2).f2),ah bi] (by rfl) rfl rfl aX ?_
    with_reducible refine (BP.calls k ((aC cO a2).f2) bi dr _ i6.out).mono ?_
    rintro e ic ⟨rfl,hb⟩
    refine ⟨_,rfl,?_⟩
    obtain ⟨a7,a5,a6,dR,dA,av,HB⟩:=pR (ak a7) (ak a5) (ak a6) (ak dR) (ak dA) (ak av) au hb
    (try clear hb)
    refine hK.out _ _ (mV a7.out ⟨(aP a5.out 0).trans rfl,qK a6.out⟩) (fun hH=>?_)
    clear hK K
    refine eX (some 116) ?_
    refine fD (i:=7) (N:=some 117) PG rfl rfl (jq aO.out aB) (by decide) (fun K hK=>?_)
    refine i_ func124 aB rfl #[.agg #[ah b8,ah b9,ah ba,ah bb],.agg #[.slice (some aq) cO.length bc],ah a2,.string dr] (by rfl) rfl rfl aX ?_
    with_reducible refine (xR.calls k b8 b9 ba bb _ _ cO a2 dr d2 dy _ pG d3.out fl.out).mono ?_
    rintro e id ⟨Ew,rfl,ho0,hb⟩
    refine ⟨_,rfl,?_⟩
    obtain ⟨fB,a7,a5,a6,dR,dA,av,HB⟩:=p_ (Kd.dI ho0 (cZ au)) <| pR (ak a7) (ak a5) (ak a6) (ak dR) (ak dA) (ak av) au hb
    (try clear hb)
    (try clear ho0)
    refine hK.out _ _ (mV a7.out ⟨(aP a5.out 0).trans rfl,qK a6.out⟩) (fun hH=>?_)
    clear hK K
    refine eX (some 117) ?_
    refine cu 8 109 PI aO ?_
    refine cu 9 118 IZ aO ?_
    refine cu 10 119 Bj aO ?_
    exact lW xk (uM (Ew,ar) _ ⟨hH,(aJ fB),(ak a7),(ak a5),(ak a6),(ak dR),(ak dA),(ak av),dk.out,dl.out,b2.out,ci.out,bx.out,cj.out,ao.out,ck.out,cl.out,bz.out,cm.out,aW.out,au⟩)
  rintro ⟨Ew,ar⟩ ch ⟨oG,rG,rH,rJ,rM,rO,rP,rQ,rU,wu,wz,vY,vZ,wo,yY,yZ,Dv,Dw,Dx,Dy,Dz⟩
  obtain ⟨fB,a7,a5,a6,dR,dA,av,dk,dl,b2,ci,bx,cj,ao,ck,cl,bz,cm,aW,HB⟩:=bY (⟨rG⟩:aA (Kd.R aU 43 ch w.heap.size (fun _=>True) Ew d2)) <| bY (⟨rH⟩:aA (ch.heap[af]?=some (.cells #[ah b8,ah b9,ah ba,ah bb] 25))) <| bY (⟨rJ⟩:aA (ch.heap[aw]?=some (.cells #[.slice (some aq) cO.length bc] 28))) <| bY (⟨rM⟩:aA (ch.heap[a9]?=some (.cells #[ah cq,.string cr,.string ct,ah bh,ah bi,.string cc] 45))) <| bY (⟨rO⟩:aA (ch.heap[an]?=some (.cells #[.slice none 0 0] 28))) <| bY (⟨rP⟩:aA (ch.heap[aa]?=some (.cells #[ah 0,.string (⟨#[]⟩:ByteArray),ah 0,.bool false,.slice none 0 0] 49))) <| bY (⟨rQ⟩:aA (ch.heap[ar]?=some (.cells #[.slice none 0 0] 28))) <| bY (⟨rU⟩:aA (w.heap.size≤ar)) <| bY (⟨wu⟩:aA (w.heap.size≤ar)) <| bY (⟨wz⟩:aA (af≠ar)) <| bY (⟨vY⟩:aA (ar≠af)) <| bY (⟨vZ⟩:aA (aw≠ar)) <| bY (⟨wo⟩:aA (ar≠aw)) <| bY (⟨yY⟩:aA (a9≠ar)) <| bY (⟨yZ⟩:aA (ar≠a9)) <| bY (⟨Dv⟩:aA (an≠ar)) <| bY (⟨Dw⟩:aA (ar≠an)) <| bY (⟨Dx⟩:aA (aa≠ar)) <| bY (⟨Dy⟩:aA (ar≠aa)) <| (⟨Dz⟩:aA (Below w.heap.size w ch))
  have hH:sF ch af (ah b8) (ah b9) (ah ba) (ah bb) <| jQ ch aw (.slice (some aq) cO.length bc) <| zZ ch a9 (ah cq) (.string cr) (.string ct) (ah bh) (ah bi) (.string cc):=oG
  obtain ⟨d0,d1,ex⟩:=Kd.dK fB.out
  (first|subst ex|(injection ex with dV gU dW;have gV:=dV.symm;have gW:=dW.symm;clear dV gU dW;subst gV;subst gW))
  refine lW (a':=?_) ?_ ?_
  rotate_left
  ·simp only [uO,Act.put,List.setIfInBounds_toArray,List.set_cons_zero,List.set_cons_succ]
   rfl
  refine fD (i:=12) (N:=none) WI rfl rfl (jq aO.out aB) (by decide) (fun K hK=>?_)
  have axa:ch.cell? ⟨ar,0,none⟩=some (.slice none 0 0):=(aP av.out 0).trans rfl
  have aqx:=bP av.out 0
  obtain ⟨ie,DU,ii,ij,ik,il,im,io⟩:=iH b2 bx ao cl cm ci cj ck
  obtain ⟨ip,G6⟩:=gB bz aW
  refine iM (w1:=?_) (by rfl) rfl ?_ ?_
  rotate_left
  ·go_simp
   rfl
  refine hK.out _ _ ⟨(aG b2 hH.1),(aG b2 hH.2.1),(aG b2 hH.2.2.1),(aG b2 hH.2.2.2.1),(aG bx hH.2.2.2.2.1),(aG ao hH.2.2.2.2.2.1),(aG ao hH.2.2.2.2.2.2.1),(aG ao hH.2.2.2.2.2.2.2.1),(aG ao hH.2.2.2.2.2.2.2.2.1),(aG ao hH.2.2.2.2.2.2.2.2.2.1),(aG ao hH.2.2.2.2.2.2.2.2.2.2)⟩ (fun hH=>?_)
  clear hK K
  refine cu 13 16 WJ aO ?_
  refine iP (ku aO.out aB) ?_
  try go_wp2
  have eF:aA (Kd.R aU 43 (ch.setCell ⟨ar,0,none⟩ (.slice d0 d2.length d1)) w.heap.size (fun _=>True) (.slice d0 d2.length d1) d2):=⟨(by (with_reducible repeat (first|apply Kd.dB|apply Kd.dD|apply Kd.aZ));exact Kd.bn (aH (Kd.bQ fB.out av.out (by decide))) (fun _ hk=>trivial))⟩
  have jF:aA ((ch.setCell ⟨ar,0,none⟩ (.slice d0 d2.length d1)).heap[af]?=some (.cells #[ah b8,ah b9,ah ba,ah bb] 25)):=⟨aT⟩
  have jG:aA ((ch.setCell ⟨ar,0,none⟩ (.slice d0 d2.length d1)).heap[aw]?=some (.cells #[.slice (some aq) cO.length bc] 28)):=⟨aT⟩
  have jH:aA ((ch.setCell ⟨ar,0,none⟩ (.slice d0 d2.length d1)).heap[a9]?=some (.cells #[ah cq,.string cr,.string ct,ah bh,ah bi,.string cc] 45)):=⟨aT⟩
  have jI:aA ((ch.setCell ⟨ar,0,none⟩ (.slice d0 d2.length d1)).heap[an]?=some (.cells #[.slice none 0 0] 28)):=⟨aT⟩
  have jL:aA ((ch.setCell ⟨ar,0,none⟩ (.slice d0 d2.length d1)).heap[aa]?=some (.cells #[ah 0,.string (⟨#[]⟩:ByteArray),ah 0,.bool false,.slice none 0 0] 49)):=⟨aT⟩
  have kW:aA ((ch.setCell ⟨ar,0,none⟩ (.slice d0 d2.length d1)).heap[ar]?=some (.cells #[.slice d0 d2.length d1] 28)):=⟨aT⟩
  have nR:aA (Below w.heap.size w (ch.setCell ⟨ar,0,none⟩ (.slice d0 d2.length d1))):=⟨au⟩
  (try clear fB)
  (try clear a7)
  (try clear a5)
  (try clear a6)
  (try clear dR)
  (try clear dA)
  (try clear av)
  (try clear HB)
  generalize (ch.setCell ⟨ar,0,none⟩ (.slice d0 d2.length d1))=lk at eF jF jG jH jI jL kW nR ⊢
  have fB:=eF
  have a7:=jF
  have a5:=jG
  have a6:=jH
  have dR:=jI
  have dA:=jL
  have av:=kW
  have HB:=nR
  clear eF jF jG jH jI jL kW nR
  obtain ⟨fB,a7,a5,a6,dR,dA,av,HB⟩:=p_ (Kd.aZ fB.out) <| xF a7 a5 a6 dR dA av HB
  refine iT (n:=5) (S:=fun w'=>w'.cell? ⟨ar,0,none⟩=some (.slice d0 d2.length d1)) (ds:=[]) Di aB rfl rfl ((aP av.out 0).trans rfl) (fun hH=>?_)
  generalize lk.drew=mf at fB a7 a5 a6 dR dA av HB hH ⊢
  refine sN (i:=1) (N:=some 121) IX aB ?_
  refine lI (i:=0) (N:=some 120) (v:=?_) (a':=?_) IY rfl rfl aB (fun _ _ _ h=>h) (Or.inl ⟨(by rfl),?_⟩) hH ?_ ?_
  rotate_left
  ·intro w' s0
   go_simp
   with_reducible rfl
  rotate_left
  ·simp only [Act.put,List.setIfInBounds_toArray,List.set_cons_zero,List.set_cons_succ,aY,bf]
   rfl
  refine fD (i:=2) (N:=some 122) ER rfl rfl aB (by decide) (fun K hK=>?_)
  refine i_ func75 aB rfl #[ah dy] (by rfl) rfl rfl aX ?_
  with_reducible refine (lX.calls dy i7 i8 i9 ia ib _ li.out).mono ?_
  rintro e e3 ⟨aAf,rfl,ho0,hb⟩
  refine ⟨_,rfl,?_⟩
  obtain ⟨fB,ey,a7,a5,a6,dR,dA,av,HB⟩:=p_ (Kd.dw (aJ fB) hb) <| p_ (Kd.dI ho0 (cZ au)) <| pR (ak a7) (ak a5) (ak a6) (ak dR) (ak dA) (ak av) au hb
  (try clear hb)
  (try clear ho0)
  obtain ⟨ir,iu,ez⟩:=Kd.dK ey.out
  (first|subst ez|(injection ez with dV gU dW;have gV:=dV.symm;have gW:=dW.symm;clear dV gU dW;subst gV;subst gW))
  refine hK.out _ _ ((aP av.out 0).trans rfl) (fun hH=>?_)
  clear hK K
  refine eX (some 122) ?_
  refine fD (i:=3) (N:=none) Dj rfl rfl aB (by decide) (fun K hK=>?_)
  have axb:e3.cell? ⟨an,0,none⟩=some (.slice none 0 0):=(aP dR.out 0).trans rfl
  have aqy:=bP dR.out 0
  obtain ⟨cv,cd,aN,cx,iO,ce,aQ,cw⟩:=iH bq az ab bw br bd aK bv
  refine iM (w1:=?_) (by rfl) rfl ?_ ?_
  rotate_left
  ·go_simp
   rfl
  refine hK.out _ _ ((aG bz hH)) (fun hH=>?_)
  clear hK K
  refine fD (i:=4) (N:=none) Dk rfl rfl aB (by decide) (fun K hK=>?_)
  have aiz:e3.cell? ⟨aa,0,none⟩=some (ah 0):=(aP dA.out 0).trans rfl
  have afP:=bP dA.out 0
  obtain ⟨cz,cf,al,cy,cg,am⟩:=kJ bs ac a8 bu be ai
  have aiA:e3.cell? ⟨aa,1,none⟩=some (.string (⟨#[]⟩:ByteArray)):=(aP dA.out 1).trans rfl
  have afQ:=bP dA.out 1
  have aiB:e3.cell? ⟨aa,2,none⟩=some (ah 0):=(aP dA.out 2).trans rfl
  have afR:=bP dA.out 2
  have aiD:e3.cell? ⟨aa,3,none⟩=some (.bool false):=(aP dA.out 3).trans rfl
  have afT:=bP dA.out 3
  have axd:e3.cell? ⟨aa,4,none⟩=some (.slice none 0 0):=(aP dA.out 4).trans rfl
  have aqA:=bP dA.out 4
  refine iM (w1:=?_) (by rfl) rfl ?_ ?_
  rotate_left
  ·go_simp
   rfl
  refine hK.out _ _ ((aG aW (aG aW (aG aW (aG aW (aG aW hH)))))) (fun hH=>?_)
  clear hK K
  refine iP aB ?_
  try go_wp2
  refine bodyPost_ret (iR rfl _ _ an aa 28 49 #[.slice d0 d2.length d1] #[ah i7,.string i8,ah i9,.bool ia,.slice ir ib.length iu] (0,0) (0,0) _ _ rfl aT underlying28 rfl aB rfl aT underlying49 rfl aB) rfl ?_
  exact ⟨_,_,bM,(by (with_reducible repeat (first|apply Kd.dB|apply Kd.dD|apply Kd.aZ));exact Kd.bn (aH (aH (aH (aH (aH (aH (Kd.bQ (Kd.bQ fB.out dR.out (by decide)) dA.out (by decide)) (fun _ hk=>hk.1.2))))))) (fun _ hk=>trivial)),(by (with_reducible repeat (first|apply Kd.dB|apply Kd.dD|apply Kd.aZ));exact Kd.bn (aH (aH (aH (aH (aH (aH (Kd.bQ (Kd.bQ ey.out dR.out (by decide)) dA.out (by decide)) (fun _ hk=>hk.1.2))))))) (fun _ hk=>trivial)),au⟩
 have et:=fZ es
 have tY:=f_ es
 clear es
 have fm:=m_ H
 clear H
 go_upto_region 12 with (fail)
 go_cut [75] (fun v75 wc=>∃ (kq:Nat) (dt:Bool),v75=.bool dt∧aA (k_.j1 kq a2 ((aC cO a2).f2) dt b8 b9 ba bb cO cq cr ct bh bi cc=some (r1,r2,r3,r4,r5,r6))∧aA (kq≤k)∧aA (wc.heap[af]?=some (.cells #[ah b8,ah b9,ah ba,ah bb] 25))∧aA (wc.heap[aw]?=some (.cells #[(.slice (some aq) cO.length bc)] 28))∧aA (wc.heap[a9]?=some (.cells #[ah cq,.string cr,.string ct,ah bh,ah bi,.string cc] 45))∧aA (wc.heap[an]?=some (.cells #[(.slice none 0 0)] 28))∧aA (wc.heap[aa]?=some (.cells #[ah 0,.string (⟨#[]⟩:ByteArray),ah 0,.bool false,(.slice none 0 0)] 49))∧aA (Below w.heap.size w wc))
 case first =>
  obtain ⟨H⟩:=fm
  revert H;refine gJ (fun dm H=>?_) fun dm H=>?_
  ·try simp only [aY,bf,dm]
   have H':=m_ H
   clear H
   obtain ⟨bl,bm,b1,b0,aN,aQ,al,am⟩:=iH bp bo bH ax ab aK a8 ai
   have f7:=jK a6.out
   go_wp2
   go_meet
   case rel=>exact ⟨_,(true),bg,H',⟨kC⟩,⟨(ak a7)⟩,⟨(ak a5)⟩,⟨(ak a6)⟩,⟨(ak dR)⟩,⟨(ak dA)⟩,⟨au⟩⟩
  try simp only [aY,bf,dm]
  have H':=m_ H
  clear H
  obtain ⟨bl,bm,b1,b0,aN,aQ,al,am⟩:=iH bp bo bH ax ab aK a8 ai
  have f8:=jK a6.out
  go_wp2
  go_meet
  case rel=>exact ⟨_,(decide (bh > (wrap64 (128 - (cc.size:Int))))),bg,H',⟨kC⟩,⟨(ak a7)⟩,⟨(ak a5)⟩,⟨(ak a6)⟩,⟨(ak dR)⟩,⟨(ak dA)⟩,⟨au⟩⟩
 case rest =>
 clear fm
 try clear c5;try clear c6;try clear ej;try clear db;try clear e9;try clear es;try clear et;try clear tY;try clear e6;try clear e7
 obtain ⟨kq,dt,rfl,HA,alC,a7,a5,a6,dR,dA,HB⟩:=hcut
 cases kq with
 | zero=>exact absurd HA.out (by simp [k_.j1])
 | succ JK =>
 obtain ⟨H⟩:=HA
 simp only [k_.j1] at H
 by_cases em:dt=true
 ·subst em
  rw [if_pos rfl] at H
  obtain ⟨iv,ll,H⟩:=bd_ H
  obtain ⟨⟨AA,ix,BA,iz,j5⟩,lm,H⟩:=bd_ H
  simp only [Option.some.injEq,Prod.mk.injEq] at H
  obtain ⟨rfl,rfl,rfl,rfl,rfl,rfl⟩:=H
  obtain ⟨d6,d7,b0,b1,cd,ce,cf,cg⟩:=iH d5 d4 ax bH az bd ac be
  have aAN:=dh a5.out
  go_wp2_with (first|((with_reducible refine bT 73 ?_);refine bU (some 77) rfl rfl func73 aB rfl #[.agg #[.slice (some aq) cO.length bc]] rfl aX ?_;(with_reducible refine (qH.calls _ _ cO iv _ pG d3.out ll.out).mono ?_);rintro e ml ⟨aAc,rfl,ho0,hb⟩;refine ⟨_,rfl,?_⟩;obtain ⟨dz,a7,a5,a6,dR,dA,HB⟩:=p_ (Kd.dI ho0 (cZ au)) <| oD (ak a7) (ak a5) (ak a6) (ak dR) (ak dA) au hb;(try clear hb);(try clear ho0))|((with_reducible refine bT 75 ?_);refine bU (some 78) rfl rfl func75 aB rfl #[ah 12] rfl aX ?_;(with_reducible refine (lX.calls 12 AA ix BA iz j5 _ lm.out).mono ?_);rintro e mm ⟨aAd,rfl,ho0,hb⟩;refine ⟨_,rfl,?_⟩;obtain ⟨dz,fa,a7,a5,a6,dR,dA,HB⟩:=p_ (Kd.dw (aJ dz) hb) <| p_ (Kd.dI ho0 (cZ au)) <| oD (ak a7) (ak a5) (ak a6) (ak dR) (ak dA) au hb;(try clear hb);(try clear ho0);obtain ⟨j9,ja,jb⟩:=Kd.dK dz.out;subst jb;obtain ⟨iO,cv,aQ,aN,cw,cx⟩:=kJ br bq aK ab bv bw;have aAO:=dh dR.out;obtain ⟨cy,cz,am,al⟩:=g_ bu bs ai a8;have m5:=kK dA.out;obtain ⟨G7,G8,JF⟩:=Kd.dK fa.out;subst JF))
  refine bodyPost_ret (iR rfl _ _ an aa 28 49 #[.slice j9 iv.length ja] #[ah AA,.string ix,ah BA,.bool iz,.slice G7 j5.length G8] (0,0) (0,0) _ _ rfl aT underlying28 rfl aB rfl aT underlying49 rfl aB) rfl ?_
  exact ⟨_,_,bM,(by (with_reducible repeat (first|apply Kd.dB|apply Kd.dD|apply Kd.aZ));exact Kd.bn (aH (aH (aH (aH (aH (aH (Kd.bQ (Kd.bQ dz.out dR.out (by decide)) dA.out (by decide)) (fun _ hk=>hk.1.2))))))) (fun _ hk=>trivial)),(by (with_reducible repeat (first|apply Kd.dB|apply Kd.dD|apply Kd.aZ));exact Kd.bn (aH (aH (aH (aH (aH (aH (Kd.bQ (Kd.bQ fa.out dR.out (by decide)) dA.out (by decide)) (fun _ hk=>hk.1.2))))))) (fun _ hk=>trivial)),au⟩
 replace em:=Bool.eq_false_iff.mpr em
 subst em
 rw [if_neg iI] at H
 obtain ⟨du,G9,H⟩:=bd_ H
 obtain ⟨⟨bj,dv⟩,fp,H⟩:=bd_ H
 have fb:=m_ H
 clear H
 try go_wp2
 obtain ⟨a7,a5,a6,dR,dA,HB⟩:=yV a7 a5 a6 dR dA HB
 refine iT (n:=16) (S:=fun w'=>sF w' af (ah b8) (ah b9) (ah ba) (ah bb) <| jQ w' aw (.slice (some aq) cO.length bc) <| zZ w' a9 (ah cq) (.string cr) (.string ct) (ah bh) (ah bi) (.string cc)) (ds:=[]) PS aB rfl rfl (mV a7.out ⟨(aP a5.out 0).trans rfl,qK a6.out⟩) (fun hH=>?_);refine kE (T:=k_.KT) (B:=k_.Ot) aB aB (fun aO fJ=>?_)
 generalize wc.drew=mo at a7 a5 a6 dR dA HB hH ⊢
 refine cu 2 82 #[F_,F_,aj,F_,F_,F_,F_,F_,F_,F_,F_,F_,F_,F_,F_,F_] aO ?_
 refine cu 3 83 #[F_,F_,aj,aj,F_,F_,F_,F_,F_,F_,F_,F_,F_,F_,F_,F_] aO ?_
 refine cu 4 84 #[F_,F_,aj,aj,aj,F_,F_,F_,F_,F_,F_,F_,F_,F_,F_,F_] aO ?_
 refine cu 6 86 #[F_,F_,aj,aj,aj,F_,aj,F_,F_,F_,F_,F_,F_,F_,F_,F_] aO ?_
 refine jZ 0 80 #[aj,F_,aj,aj,aj,F_,aj,F_,F_,F_,F_,F_,F_,F_,F_,F_] aO fJ hH ?_
 refine jZ 1 81 #[aj,aj,aj,aj,aj,F_,aj,F_,F_,F_,F_,F_,F_,F_,F_,F_] aO fJ hH ?_
 refine jZ 5 85 PU aO fJ hH ?_
 refine jZ 7 87 VP aO fJ hH ?_
 refine yx (σ:=Value × Nat) 2 ES (fun s_=>[(88,.string du),(89,.tuple #[.agg #[s_.1],ah dv]),(13,.pointer (some ⟨s_.2,0,none⟩)),(79,.tuple #[.agg #[s_.1],ah dv]),(90,.agg #[s_.1]),(91,ah dv)]) (fun s_ w'=>(sF w' af (ah b8) (ah b9) (ah ba) (ah bb) <| jQ w' aw (.slice (some aq) cO.length bc) <| zZ w' a9 (ah cq) (.string cr) (.string ct) (ah bh) (ah bi) (.string cc))∧(Kd.R aU 43 w' w.heap.size (fun _=>True) s_.1 bj)∧(w'.heap[af]?=some (.cells #[ah b8,ah b9,ah ba,ah bb] 25))∧(w'.heap[aw]?=some (.cells #[.slice (some aq) cO.length bc] 28))∧(w'.heap[a9]?=some (.cells #[ah cq,.string cr,.string ct,ah bh,ah bi,.string cc] 45))∧(w'.heap[an]?=some (.cells #[.slice none 0 0] 28))∧(w'.heap[aa]?=some (.cells #[ah 0,.string (⟨#[]⟩:ByteArray),ah 0,.bool false,.slice none 0 0] 49))∧(w'.heap[s_.2]?=some (.cells #[.slice none 0 0] 28))∧(w.heap.size≤s_.2)∧(w.heap.size≤s_.2)∧(af≠s_.2)∧(s_.2≠af)∧(aw≠s_.2)∧(s_.2≠aw)∧(a9≠s_.2)∧(s_.2≠a9)∧(an≠s_.2)∧(s_.2≠an)∧(aa≠s_.2)∧(s_.2≠aa)∧(Below w.heap.size w w')) ?_ ?_
 rotate_left
 ·intro uM
  refine yM (i:=8) (j:=13) (Ni:=some 88) (uJ:=some 13) VQ #[aj,aj,aj,aj,aj,aj,aj,aj,F_,F_,F_,F_,F_,aj,F_,F_] rfl rfl rfl rfl (yN aO.out aB) (by decide) (by decide) (fun K hK=>?_) (fun K hK=>?_)
  ·skip
   refine i_ func125 aB rfl #[.string ((aC cO a2).f2),ah bh,.string cc] (by rfl) rfl rfl aX ?_
   with_reducible refine (uF.calls JK ((aC cO a2).f2) bh cc du _ G9.out).mono ?_
   rintro e ln ⟨rfl,hb⟩
   refine ⟨_,rfl,?_⟩
   obtain ⟨a7,a5,a6,dR,dA,HB⟩:=oD (ak a7) (ak a5) (ak a6) (ak dR) (ak dA) au hb
   (try clear hb)
   refine hK.out _ _ (mV a7.out ⟨(aP a5.out 0).trans rfl,qK a6.out⟩) (fun hH=>?_)
   clear hK K
   refine eX (some 88) ?_
   refine yM (i:=9) (j:=13) (Ni:=some 89) (uJ:=some 13) VR Wq rfl rfl rfl rfl (yN aO.out aB) (by decide) (by decide) (fun K hK=>?_) (fun K hK=>?_)
   ·skip
    refine i_ func124 aB rfl #[.agg #[ah b8,ah b9,ah ba,ah bb],.agg #[.slice (some aq) cO.length bc],ah a2,.string du] (by rfl) rfl rfl aX ?_
    with_reducible refine (xR.calls JK b8 b9 ba bb _ _ cO a2 du bj dv _ pG d3.out fp.out).mono ?_
    rintro e DY ⟨Eu,rfl,ho0,hb⟩
    refine ⟨_,rfl,?_⟩
    obtain ⟨qV,a7,a5,a6,dR,dA,HB⟩:=p_ (Kd.dI ho0 (cZ au)) <| oD (ak a7) (ak a5) (ak a6) (ak dR) (ak dA) au hb
    (try clear hb)
    (try clear ho0)
    refine hK.out _ _ (mV a7.out ⟨(aP a5.out 0).trans rfl,qK a6.out⟩) (fun hH=>?_)
    clear hK K
    refine eX (some 89) ?_
    refine cu 10 79 VT aO ?_
    refine cu 11 90 VU aO ?_
    refine cu 12 91 PV aO ?_
    refine fD (i:=13) (N:=some 13) ES rfl rfl (jq aO.out aB) (by decide) (fun K hK=>?_)
    refine wU ?hg (N:=13) ?hd (cs:=#[.slice none 0 0]) (t:=28) ?hr ?_;(case hd=>rfl);(case hg=>rfl);(case hr=>first|(go_simp;done)|(go_simp;rfl))
    intro ag hg DZ hbox hb
    obtain ⟨qV,a7,a5,a6,dR,dA,HB,nT,lF,dp,b3,cn,ca,co,ap,cp,fA,b4,dM,ae⟩:=p_ (Kd.dw (aJ qV) hb) <| Bo (ak a7) (ak a5) (ak a6) (ak dR) (ak dA) au hb hbox hg
    clear hb hbox hg
    refine hK.out _ _ (mV a7.out ⟨(aP a5.out 0).trans rfl,qK a6.out⟩) (fun hH=>?_)
    clear hK K
    refine eX (some 13) ?_
    exact lW xk (uM (Eu,ag) _ ⟨hH,(aJ qV),(ak a7),(ak a5),(ak a6),(ak dR),(ak dA),(ak nT),lF.out,dp.out,b3.out,cn.out,ca.out,co.out,ap.out,cp.out,fA.out,b4.out,dM.out,ae.out,au⟩)
   ·skip
    refine wU ?hg (N:=13) ?hd (cs:=#[.slice none 0 0]) (t:=28) ?hr ?_;(case hd=>rfl);(case hg=>rfl);(case hr=>first|(go_simp;done)|(go_simp;rfl))
    intro ag hg DY hbox hb
    obtain ⟨a7,a5,a6,dR,dA,HB,nT,lF,dp,b3,cn,ca,co,ap,cp,fA,b4,dM,ae⟩:=Bo (ak a7) (ak a5) (ak a6) (ak dR) (ak dA) au hb hbox hg
    clear hb hbox hg
    refine hK.out _ _ (mV a7.out ⟨(aP a5.out 0).trans rfl,qK a6.out⟩) (fun hH=>?_)
    clear hK K
    refine eX (some 13) ?_
    refine fD (i:=9) (N:=some 89) Ws rfl rfl (jq aO.out aB) (by decide) (fun K hK=>?_)
    refine i_ func124 aB rfl #[.agg #[ah b8,ah b9,ah ba,ah bb],.agg #[.slice (some aq) cO.length bc],ah a2,.string du] (by rfl) rfl rfl aX ?_
    with_reducible refine (xR.calls JK b8 b9 ba bb _ _ cO a2 du bj dv _ pG d3.out fp.out).mono ?_
    rintro e DZ ⟨Eu,rfl,ho0,hb⟩
    refine ⟨_,rfl,?_⟩
    obtain ⟨qV,a7,a5,a6,dR,dA,nT,HB⟩:=p_ (Kd.dI ho0 (cZ au)) <| pR (ak a7) (ak a5) (ak a6) (ak dR) (ak dA) (ak nT) au hb
    (try clear hb)
    (try clear ho0)
    refine hK.out _ _ (mV a7.out ⟨(aP a5.out 0).trans rfl,qK a6.out⟩) (fun hH=>?_)
    clear hK K
    refine eX (some 89) ?_
    refine cu 10 79 Wu aO ?_
    refine cu 11 90 Wv aO ?_
    refine cu 12 91 ES aO ?_
    exact lW xk (uM (Eu,ag) _ ⟨hH,(aJ qV),(ak a7),(ak a5),(ak a6),(ak dR),(ak dA),(ak nT),lF.out,dp.out,b3.out,cn.out,ca.out,co.out,ap.out,cp.out,fA.out,b4.out,dM.out,ae.out,au⟩)
  ·skip
   refine wU ?hg (N:=13) ?hd (cs:=#[.slice none 0 0]) (t:=28) ?hr ?_;(case hd=>rfl);(case hg=>rfl);(case hr=>first|(go_simp;done)|(go_simp;rfl))
   intro ag hg ln hbox hb
   obtain ⟨a7,a5,a6,dR,dA,HB,nT,lF,dp,b3,cn,ca,co,ap,cp,fA,b4,dM,ae⟩:=Bo (ak a7) (ak a5) (ak a6) (ak dR) (ak dA) au hb hbox hg
   clear hb hbox hg
   refine hK.out _ _ (mV a7.out ⟨(aP a5.out 0).trans rfl,qK a6.out⟩) (fun hH=>?_)
   clear hK K
   refine eX (some 13) ?_
   refine fD (i:=8) (N:=some 88) Wq rfl rfl (jq aO.out aB) (by decide) (fun K hK=>?_)
   refine i_ func125 aB rfl #[.string ((aC cO a2).f2),ah bh,.string cc] (by rfl) rfl rfl aX ?_
   with_reducible refine (uF.calls JK ((aC cO a2).f2) bh cc du _ G9.out).mono ?_
   rintro e DY ⟨rfl,hb⟩
   refine ⟨_,rfl,?_⟩
   obtain ⟨a7,a5,a6,dR,dA,nT,HB⟩:=pR (ak a7) (ak a5) (ak a6) (ak dR) (ak dA) (ak nT) au hb
   (try clear hb)
   refine hK.out _ _ (mV a7.out ⟨(aP a5.out 0).trans rfl,qK a6.out⟩) (fun hH=>?_)
   clear hK K
   refine eX (some 88) ?_
   refine fD (i:=9) (N:=some 89) Ws rfl rfl (jq aO.out aB) (by decide) (fun K hK=>?_)
   refine i_ func124 aB rfl #[.agg #[ah b8,ah b9,ah ba,ah bb],.agg #[.slice (some aq) cO.length bc],ah a2,.string du] (by rfl) rfl rfl aX ?_
   with_reducible refine (xR.calls JK b8 b9 ba bb _ _ cO a2 du bj dv _ pG d3.out fp.out).mono ?_
   rintro e DZ ⟨Eu,rfl,ho0,hb⟩
   refine ⟨_,rfl,?_⟩
   obtain ⟨qV,a7,a5,a6,dR,dA,nT,HB⟩:=p_ (Kd.dI ho0 (cZ au)) <| pR (ak a7) (ak a5) (ak a6) (ak dR) (ak dA) (ak nT) au hb
   (try clear hb)
   (try clear ho0)
   refine hK.out _ _ (mV a7.out ⟨(aP a5.out 0).trans rfl,qK a6.out⟩) (fun hH=>?_)
   clear hK K
   refine eX (some 89) ?_
   refine cu 10 79 Wu aO ?_
   refine cu 11 90 Wv aO ?_
   refine cu 12 91 ES aO ?_
   exact lW xk (uM (Eu,ag) _ ⟨hH,(aJ qV),(ak a7),(ak a5),(ak a6),(ak dR),(ak dA),(ak nT),lF.out,dp.out,b3.out,cn.out,ca.out,co.out,ap.out,cp.out,fA.out,b4.out,dM.out,ae.out,au⟩)
 rintro ⟨Eu,ag⟩ b7 ⟨oG,rG,rH,rJ,rM,rO,rP,rQ,rU,wu,wz,vY,vZ,wo,yY,yZ,Dv,Dw,Dx,Dy,Dz⟩
 obtain ⟨qV,a7,a5,a6,dR,dA,nT,lF,dp,b3,cn,ca,co,ap,cp,fA,b4,dM,ae,HB⟩:=bY (⟨rG⟩:aA (Kd.R aU 43 b7 w.heap.size (fun _=>True) Eu bj)) <| bY (⟨rH⟩:aA (b7.heap[af]?=some (.cells #[ah b8,ah b9,ah ba,ah bb] 25))) <| bY (⟨rJ⟩:aA (b7.heap[aw]?=some (.cells #[.slice (some aq) cO.length bc] 28))) <| bY (⟨rM⟩:aA (b7.heap[a9]?=some (.cells #[ah cq,.string cr,.string ct,ah bh,ah bi,.string cc] 45))) <| bY (⟨rO⟩:aA (b7.heap[an]?=some (.cells #[.slice none 0 0] 28))) <| bY (⟨rP⟩:aA (b7.heap[aa]?=some (.cells #[ah 0,.string (⟨#[]⟩:ByteArray),ah 0,.bool false,.slice none 0 0] 49))) <| bY (⟨rQ⟩:aA (b7.heap[ag]?=some (.cells #[.slice none 0 0] 28))) <| bY (⟨rU⟩:aA (w.heap.size≤ag)) <| bY (⟨wu⟩:aA (w.heap.size≤ag)) <| bY (⟨wz⟩:aA (af≠ag)) <| bY (⟨vY⟩:aA (ag≠af)) <| bY (⟨vZ⟩:aA (aw≠ag)) <| bY (⟨wo⟩:aA (ag≠aw)) <| bY (⟨yY⟩:aA (a9≠ag)) <| bY (⟨yZ⟩:aA (ag≠a9)) <| bY (⟨Dv⟩:aA (an≠ag)) <| bY (⟨Dw⟩:aA (ag≠an)) <| bY (⟨Dx⟩:aA (aa≠ag)) <| bY (⟨Dy⟩:aA (ag≠aa)) <| (⟨Dz⟩:aA (Below w.heap.size w b7))
 have hH:sF b7 af (ah b8) (ah b9) (ah ba) (ah bb) <| jQ b7 aw (.slice (some aq) cO.length bc) <| zZ b7 a9 (ah cq) (.string cr) (.string ct) (ah bh) (ah bi) (.string cc):=oG
 obtain ⟨b5,b6,fc⟩:=Kd.dK qV.out
 (first|subst fc|(injection fc with dV gU dW;have gV:=dV.symm;have gW:=dW.symm;clear dV gU dW;subst gV;subst gW))
 refine lW (a':=?_) ?_ ?_
 rotate_left
 ·simp only [uO,Act.put,List.setIfInBounds_toArray,List.set_cons_zero,List.set_cons_succ]
  rfl
 refine fD (i:=14) (N:=none) PW rfl rfl (jq aO.out aB) (by decide) (fun K hK=>?_)
 have awX:b7.cell? ⟨ag,0,none⟩=some (.slice none 0 0):=(aP nT.out 0).trans rfl
 have aqh:=bP nT.out 0
 obtain ⟨eb,ec,ed,dd,de,ee,ef,eh⟩:=iH b3 ca ap fA dM cn co cp
 obtain ⟨df,dg⟩:=gB b4 ae
 refine iM (w1:=?_) (by rfl) rfl ?_ ?_
 rotate_left
 ·go_simp
  rfl
 refine hK.out _ _ ⟨(aG b3 hH.1),(aG b3 hH.2.1),(aG b3 hH.2.2.1),(aG b3 hH.2.2.2.1),(aG ca hH.2.2.2.2.1),(aG ap hH.2.2.2.2.2.1),(aG ap hH.2.2.2.2.2.2.1),(aG ap hH.2.2.2.2.2.2.2.1),(aG ap hH.2.2.2.2.2.2.2.2.1),(aG ap hH.2.2.2.2.2.2.2.2.2.1),(aG ap hH.2.2.2.2.2.2.2.2.2.2)⟩ (fun hH=>?_)
 clear hK K
 refine cu 15 14 PX aO ?_
 refine iP (ku aO.out aB) ?_
 go_upto_if 93 with (fail)
 (try clear eb ec ed dd de ee ef eh df dg)
 obtain ⟨H⟩:=fb
 revert H;refine fH (fun e0 H=>?_) fun e0 H=>?_
 rotate_left
 ·have lN:=fP e0
  have fq:=fQ e0
  try simp only [aY,bf,lN]
  obtain ⟨⟨G_,jj,D5,BD,D6⟩,lo,H⟩:=bd_ H
  simp only [Option.some.injEq,Prod.mk.injEq] at H
  obtain ⟨rfl,rfl,rfl,rfl,rfl,rfl⟩:=H
  try go_wp2
  have eF:aA (Kd.R aU 43 (b7.setCell ⟨ag,0,none⟩ (.slice b5 bj.length b6)) w.heap.size (fun _=>True) (.slice b5 bj.length b6) bj):=⟨aau⟩
  have jF:aA ((b7.setCell ⟨ag,0,none⟩ (.slice b5 bj.length b6)).heap[af]?=some (.cells #[ah b8,ah b9,ah ba,ah bb] 25)):=⟨aT⟩
  have jG:aA ((b7.setCell ⟨ag,0,none⟩ (.slice b5 bj.length b6)).heap[aw]?=some (.cells #[.slice (some aq) cO.length bc] 28)):=⟨aT⟩
  have jH:aA ((b7.setCell ⟨ag,0,none⟩ (.slice b5 bj.length b6)).heap[a9]?=some (.cells #[ah cq,.string cr,.string ct,ah bh,ah bi,.string cc] 45)):=⟨aT⟩
  have jI:aA ((b7.setCell ⟨ag,0,none⟩ (.slice b5 bj.length b6)).heap[an]?=some (.cells #[.slice none 0 0] 28)):=⟨aT⟩
  have jL:aA ((b7.setCell ⟨ag,0,none⟩ (.slice b5 bj.length b6)).heap[aa]?=some (.cells #[ah 0,.string (⟨#[]⟩:ByteArray),ah 0,.bool false,.slice none 0 0] 49)):=⟨aT⟩
  have kW:aA ((b7.setCell ⟨ag,0,none⟩ (.slice b5 bj.length b6)).heap[ag]?=some (.cells #[.slice b5 bj.length b6] 28)):=⟨aT⟩
  have nR:aA (Below w.heap.size w (b7.setCell ⟨ag,0,none⟩ (.slice b5 bj.length b6))):=⟨au⟩
  (try clear qV)
  (try clear a7)
  (try clear a5)
  (try clear a6)
  (try clear dR)
  (try clear dA)
  (try clear nT)
  (try clear HB)
  generalize (b7.setCell ⟨ag,0,none⟩ (.slice b5 bj.length b6))=lp at eF jF jG jH jI jL kW nR ⊢
  have qV:=eF
  have a7:=jF
  have a5:=jG
  have a6:=jH
  have dR:=jI
  have dA:=jL
  have nT:=kW
  have HB:=nR
  clear eF jF jG jH jI jL kW nR
  obtain ⟨qV,a7,a5,a6,dR,dA,nT,HB⟩:=p_ (Kd.aZ qV.out) <| xF a7 a5 a6 dR dA nT HB
  refine iT (n:=5) (S:=fun w'=>w'.cell? ⟨ag,0,none⟩=some (.slice b5 bj.length b6)) (ds:=[]) Di aB rfl rfl ((aP nT.out 0).trans rfl) (fun hH=>?_)
  generalize lp.drew=mq at qV a7 a5 a6 dR dA nT HB hH ⊢
  refine sN (i:=1) (N:=some 95) IX aB ?_
  refine lI (i:=0) (N:=some 94) (v:=?_) (a':=?_) IY rfl rfl aB (fun _ _ _ h=>h) (Or.inl ⟨(by rfl),?_⟩) hH ?_ ?_
  rotate_left
  ·intro w' s0
   go_simp
   with_reducible rfl
  rotate_left
  ·simp only [Act.put,List.setIfInBounds_toArray,List.set_cons_zero,List.set_cons_succ,aY,bf]
   rfl
  refine fD (i:=2) (N:=some 96) ER rfl rfl aB (by decide) (fun K hK=>?_)
  refine i_ func75 aB rfl #[ah dv] (by rfl) rfl rfl aX ?_
  with_reducible refine (lX.calls dv G_ jj D5 BD D6 _ lo.out).mono ?_
  rintro e e4 ⟨aAe,rfl,ho0,hb⟩
  refine ⟨_,rfl,?_⟩
  obtain ⟨qV,fd,a7,a5,a6,dR,dA,nT,HB⟩:=p_ (Kd.dw (aJ qV) hb) <| p_ (Kd.dI ho0 (cZ au)) <| pR (ak a7) (ak a5) (ak a6) (ak dR) (ak dA) (ak nT) au hb
  (try clear hb)
  (try clear ho0)
  obtain ⟨jn,D7,fe⟩:=Kd.dK fd.out
  (first|subst fe|(injection fe with dV gU dW;have gV:=dV.symm;have gW:=dW.symm;clear dV gU dW;subst gV;subst gW))
  refine hK.out _ _ ((aP nT.out 0).trans rfl) (fun hH=>?_)
  clear hK K
  refine eX (some 96) ?_
  refine fD (i:=3) (N:=none) Dj rfl rfl aB (by decide) (fun K hK=>?_)
  have aw5:e4.cell? ⟨an,0,none⟩=some (.slice none 0 0):=(aP dR.out 0).trans rfl
  have aqp:=bP dR.out 0
  obtain ⟨cv,cd,aN,cx,df,iO,ce,aQ⟩:=iH bq az ab bw b4 br bd aK
  obtain ⟨cw,dd⟩:=gB bv fA
  refine iM (w1:=?_) (by rfl) rfl ?_ ?_
  rotate_left
  ·go_simp
   rfl
  refine hK.out _ _ ((aG b4 hH)) (fun hH=>?_)
  clear hK K
  refine fD (i:=4) (N:=none) Dk rfl rfl aB (by decide) (fun K hK=>?_)
  have aw6:e4.cell? ⟨aa,0,none⟩=some (ah 0):=(aP dA.out 0).trans rfl
  have aqr:=bP dA.out 0
  obtain ⟨cz,cf,al,dg,cy,cg,am,de⟩:=iH bs ac a8 ae bu be ai dM
  have aiv:e4.cell? ⟨aa,1,none⟩=some (.string (⟨#[]⟩:ByteArray)):=(aP dA.out 1).trans rfl
  have afL:=bP dA.out 1
  have aiw:e4.cell? ⟨aa,2,none⟩=some (ah 0):=(aP dA.out 2).trans rfl
  have afM:=bP dA.out 2
  have aix:e4.cell? ⟨aa,3,none⟩=some (.bool false):=(aP dA.out 3).trans rfl
  have afN:=bP dA.out 3
  have aiy:e4.cell? ⟨aa,4,none⟩=some (.slice none 0 0):=(aP dA.out 4).trans rfl
  have afO:=bP dA.out 4
  refine iM (w1:=?_) (by rfl) rfl ?_ ?_
  rotate_left
  ·go_simp
   rfl
  refine hK.out _ _ ((aG ae (aG ae (aG ae (aG ae (aG ae hH)))))) (fun hH=>?_)
  clear hK K
  refine iP aB ?_
  try go_wp2
  refine bodyPost_ret (iR rfl _ _ an aa 28 49 #[.slice b5 bj.length b6] #[ah G_,.string jj,ah D5,.bool BD,.slice jn D6.length D7] (0,0) (0,0) _ _ rfl aT underlying28 rfl aB rfl aT underlying49 rfl aB) rfl ?_
  exact ⟨_,_,bM,aaj,(by (with_reducible repeat (first|apply Kd.dB|apply Kd.dD|apply Kd.aZ));exact Kd.bn (aH (aH (aH (aH (aH (aH (Kd.bQ (Kd.bQ fd.out dR.out (by decide)) dA.out (by decide)) (fun _ hk=>hk.1.2))))))) (fun _ hk=>trivial)),au⟩
 have lN:=fZ e0
 have fq:=f_ e0
 clear e0
 try simp only [aY,bf,lN]
 simp only [Option.some.injEq,Prod.mk.injEq] at H
 obtain ⟨rfl,rfl,rfl,rfl,rfl,rfl⟩:=H
 try go_wp2
 have eF:aA (Kd.R aU 43 (b7.setCell ⟨ag,0,none⟩ (.slice b5 bj.length b6)) w.heap.size (fun _=>True) (.slice b5 bj.length b6) bj):=⟨aau⟩
 have jF:aA ((b7.setCell ⟨ag,0,none⟩ (.slice b5 bj.length b6)).heap[af]?=some (.cells #[ah b8,ah b9,ah ba,ah bb] 25)):=⟨aT⟩
 have jG:aA ((b7.setCell ⟨ag,0,none⟩ (.slice b5 bj.length b6)).heap[aw]?=some (.cells #[.slice (some aq) cO.length bc] 28)):=⟨aT⟩
 have jH:aA ((b7.setCell ⟨ag,0,none⟩ (.slice b5 bj.length b6)).heap[a9]?=some (.cells #[ah cq,.string cr,.string ct,ah bh,ah bi,.string cc] 45)):=⟨aT⟩
 have jI:aA ((b7.setCell ⟨ag,0,none⟩ (.slice b5 bj.length b6)).heap[an]?=some (.cells #[.slice none 0 0] 28)):=⟨aT⟩
 have jL:aA ((b7.setCell ⟨ag,0,none⟩ (.slice b5 bj.length b6)).heap[aa]?=some (.cells #[ah 0,.string (⟨#[]⟩:ByteArray),ah 0,.bool false,.slice none 0 0] 49)):=⟨aT⟩
 have kW:aA ((b7.setCell ⟨ag,0,none⟩ (.slice b5 bj.length b6)).heap[ag]?=some (.cells #[.slice b5 bj.length b6] 28)):=⟨aT⟩
 have nR:aA (Below w.heap.size w (b7.setCell ⟨ag,0,none⟩ (.slice b5 bj.length b6))):=⟨au⟩
 (try clear qV)
 (try clear a7)
 (try clear a5)
 (try clear a6)
 (try clear dR)
 (try clear dA)
 (try clear nT)
 (try clear HB)
 generalize (b7.setCell ⟨ag,0,none⟩ (.slice b5 bj.length b6))=Hr at eF jF jG jH jI jL kW nR ⊢
 have qV:=eF
 have a7:=jF
 have a5:=jG
 have a6:=jH
 have dR:=jI
 have dA:=jL
 have nT:=kW
 have HB:=nR
 clear eF jF jG jH jI jL kW nR
 obtain ⟨qV,a7,a5,a6,dR,dA,nT,HB⟩:=p_ (Kd.aZ qV.out) <| xF a7 a5 a6 dR dA nT HB
 refine iT (n:=7) (S:=fun w'=>jQ w' ag (.slice b5 bj.length b6) <| zZ w' a9 (ah cq) (.string cr) (.string ct) (ah bh) (ah bi) (.string cc)) (ds:=[]) Ll aB rfl rfl ⟨(aP nT.out 0).trans rfl,qK a6.out⟩ (fun hH=>?_)
 generalize Hr.drew=e5 at qV a7 a5 a6 dR dA nT HB hH ⊢
 refine sN (i:=1) (N:=some 98) #[F_,aj,F_,F_,F_,F_,F_] aB ?_
 refine lI (i:=0) (N:=some 97) (v:=?_) (a':=?_) #[aj,aj,F_,F_,F_,F_,F_] rfl rfl aB (fun _ _ _ h=>h) (Or.inl ⟨(by rfl),?_⟩) hH ?_ ?_
 rotate_left
 ·rintro w' ⟨s0,s1,s2,s3,s4,s5,s6⟩
  go_simp
  with_reducible rfl
 rotate_left
 ·simp only [Act.put,List.setIfInBounds_toArray,List.set_cons_zero,List.set_cons_succ,aY,bf]
  rfl
 refine lI (i:=2) (N:=some 99) (v:=?_) (a':=?_) #[aj,aj,aj,F_,F_,F_,F_] rfl rfl aB (fun _ _ _ h=>h) (Or.inl ⟨(by rfl),?_⟩) hH ?_ ?_
 rotate_left
 ·rintro w' ⟨s0,s1,s2,s3,s4,s5,s6⟩
  go_simp
  with_reducible rfl
 rotate_left
 ·simp only [Act.put,List.setIfInBounds_toArray,List.set_cons_zero,List.set_cons_succ,aY,bf]
  rfl
 refine sN (i:=3) (N:=some 100) #[aj,aj,aj,aj,F_,F_,F_] aB ?_
 refine sN (i:=4) (N:=some 101) Lm aB ?_
 refine fD (i:=5) (N:=none) Lp rfl rfl aB (by decide) (fun K hK=>?_)
 have awY:e5.cell? ⟨an,0,none⟩=some (.slice none 0 0):=(aP dR.out 0).trans rfl
 have aqi:=bP dR.out 0
 obtain ⟨cv,cd,aN,cx,df,iO,ce,aQ⟩:=iH bq az ab bw b4 br bd aK
 obtain ⟨cw,dd⟩:=gB bv fA
 refine iM (w1:=?_) (by rfl) rfl ?_ ?_
 rotate_left
 ·go_simp
  rfl
 refine hK.out _ _ ⟨(aG b4 hH.1),(aG ab hH.2.1),(aG ab hH.2.2.1),(aG ab hH.2.2.2.1),(aG ab hH.2.2.2.2.1),(aG ab hH.2.2.2.2.2.1),(aG ab hH.2.2.2.2.2.2)⟩ (fun hH=>?_)
 clear hK K
 refine fD (i:=6) (N:=none) Lr rfl rfl aB (by decide) (fun K hK=>?_)
 have awZ:e5.cell? ⟨aa,0,none⟩=some (ah 0):=(aP dA.out 0).trans rfl
 have aqj:=bP dA.out 0
 obtain ⟨cz,cf,al,dg,cy,cg,am,de⟩:=iH bs ac a8 ae bu be ai dM
 have aw1:e5.cell? ⟨aa,1,none⟩=some (.string (⟨#[]⟩:ByteArray)):=(aP dA.out 1).trans rfl
 have aql:=bP dA.out 1
 have aw2:e5.cell? ⟨aa,2,none⟩=some (ah 0):=(aP dA.out 2).trans rfl
 have aqm:=bP dA.out 2
 have aw3:e5.cell? ⟨aa,3,none⟩=some (.bool false):=(aP dA.out 3).trans rfl
 have aqn:=bP dA.out 3
 have aw4:e5.cell? ⟨aa,4,none⟩=some (.slice none 0 0):=(aP dA.out 4).trans rfl
 have aqo:=bP dA.out 4
 refine iM (w1:=?_) (by rfl) rfl ?_ ?_
 rotate_left
 ·go_simp
  rfl
 refine hK.out _ _ ⟨(aG ae (aG ae (aG ae (aG ae (aG ae hH.1))))),(aG a8 (aG a8 (aG a8 (aG a8 (aG a8 hH.2.1))))),(aG a8 (aG a8 (aG a8 (aG a8 (aG a8 hH.2.2.1))))),(aG a8 (aG a8 (aG a8 (aG a8 (aG a8 hH.2.2.2.1))))),(aG a8 (aG a8 (aG a8 (aG a8 (aG a8 hH.2.2.2.2.1))))),(aG a8 (aG a8 (aG a8 (aG a8 (aG a8 hH.2.2.2.2.2.1))))),(aG a8 (aG a8 (aG a8 (aG a8 (aG a8 hH.2.2.2.2.2.2)))))⟩ (fun hH=>?_)
 clear hK K
 refine iP aB ?_
 try go_wp2
 refine bodyPost_ret (iR rfl _ _ an aa 28 49 #[.slice b5 bj.length b6] #[ah 0,.string (⟨#[]⟩:ByteArray),ah (cc.size:Int),.bool false,.slice none 0 0] (0,0) (0,0) _ _ rfl aT underlying28 rfl aB rfl aT underlying49 rfl aB) rfl ?_
 exact ⟨_,_,bM,aaj,kD,au⟩

end Go.Proofs.YthejdhjpbpamoaaGreatDoor.jD
